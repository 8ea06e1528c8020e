/- A machine on abstract values, its soundness, ways, plain laws. -/
import Derived.Test.YtnljmgihoioocaaGreatHB
import Derived.Defers
import Derived.Orders
set_option linter.defProp false
set_option linter.unusedVariables false
set_option linter.unusedSimpArgs false
set_option linter.unusedSectionVars false
set_option maxRecDepth 100000
namespace Go.Hb
open AV (keyless same sameL)
open Bool (and_eq_true not_eq_true' or_eq_true)
open List (drop_drop getD_eq_getElem?_getD getElem?_append_left getElem?_drop getElem?_take getElem?_take_of_lt getElem?_toArray length_append length_cons length_drop length_nil length_take mem_cons mem_cons_of_mem mem_cons_self mem_of_getElem? mem_of_mem_drop mem_of_mem_take take)
open Nat (add_mul add_zero beq ble eq_of_beq_eq_true le_refl mod_lt mul_le_mul_right succ_mul testBit zero_add)
open Option (bind_some elim getD_none getD_some map_some)
noncomputable section
section
variable {P :Program} {E:Emb} {h h':Hp} {w w':World}
theorem lR (v:Value)(vs:List Value) :flat (v::vs) =v.cells.toList++flat vs:=rfl
theorem vA (us vs:List Value) :flat (us++vs) =flat us++flat vs:=by simp [flat]
theorem flat_length {e:Nat}:∀ {vs:List Value},(∀u∈vs,yO e u) → (flat vs).length=vs.length*e
 | [],_=>by simp [flat]
 | v::vs,hk=>by
  rw [lR,length_append,flat_length (fun u hu=>hk u (mem_cons_of_mem _ hu)),Array.length_toList,(hk v (mem_cons_self ..)).1,length_cons,add_mul];omega
theorem nT {e:Nat}:∀ {vs:List Value} (k:Nat),(∀u∈vs,yO e u) →flat (vs.drop k) = (flat vs).drop (k*e)
 | [],k,_=>by simp [flat]
 |v::vs,0,_=>by simp
 | v::vs,k+1,hk=>by
  have h1:v.cells.toList.length=e:=by rw [Array.length_toList];exact(hk v (mem_cons_self ..)).1
  have h2: (k+1) *e=e+k*e:=by rw [add_mul];omega
  have h3: (v.cells.toList++flat vs).drop e=flat vs:=by rw [List.drop_append_of_le_length (Nat.le_of_eq h1.symm),List.drop_of_length_le (Nat.le_of_eq h1),List.nil_append]
  rw [List.drop_succ_cons,nT k (fun u hu=>hk u (mem_cons_of_mem _ hu)),lR,h2,←drop_drop,h3]
theorem rC {e:Nat}:∀ {vs:List Value} (k:Nat),(∀u∈vs,yO e u) →flat (vs.take k) = (flat vs).take (k*e)
 | [],k,_=>by simp [flat]
 |v::vs,0,_=>by simp [flat]
 | v::vs,k+1,hk=>by
  have h1:v.cells.toList.length=e:=by rw [Array.length_toList];exact(hk v (mem_cons_self ..)).1
  have h2: (k+1) *e=e+k*e:=by rw [add_mul];omega
  rw [List.take_succ_cons,lR,rC k (fun u hu=>hk u (mem_cons_of_mem _ hu)),lR,h2,List.take_append,List.take_of_length_le (l:=v.cells.toList) (by omega),h1,Nat.add_sub_cancel_left]
theorem flat_get {e:Nat}{vs:List Value}(hk:∀u∈vs,yO e u){i j:Nat}{v:Value}(hi:vs[i]?=some v)(hj:j<e) : (flat vs)[i*e+j]?=v.cells[j]?:=by
 have h1:flat (vs.drop i) = (flat vs).drop (i*e) :=nT i hk;have h2:vs.drop i=v::vs.drop (i+1) :=by
  have:= (List.getElem?_eq_some_iff.1 hi);obtain⟨a,b⟩ :=this;rw [List.drop_eq_getElem_cons a,b]
 have h3: (flat vs)[i*e+j]?= (flat (vs.drop i))[j]?:=by rw [h1,getElem?_drop]
 rw [h3,h2,lR,getElem?_append_left (by rw [Array.length_toList,(hk v (mem_of_getElem? hi)).1];exact hj),Array.getElem?_toList]
theorem aTo {e:Nat}{vs:List Value}(hk:∀u∈vs,yO e u) :∀c∈flat vs,c.oneCell'=true:=fun c hc=>by
 obtain⟨u,hu,hcu⟩ :=List.mem_flatMap.1 hc;exact(hk u hu).2 c hcu
mutual
theorem dW :∀ {E:Emb} {a:AV} {v:Value},keyless a=true→VR E a v→VR E.p a v
 |_,.bool _,_,_,r=>by simpa [VR]using r
 |_,.int _ _,_,_,r=>by simpa [VR]using r
 |_,.str _ _,_,_,r=>by simpa [VR]using r
 |_,.ptr _ _,_,k,_=>by simp [keyless]at k
 |_,.nilp,_,_,r=>by simpa [VR]using r
 |_,.slice _ _ _ _ _ _,_,k,_=>by simp [keyless]at k
 |_,.nils,_,_,r=>by simpa [VR]using r
 |_,.map _,_,k,_=>by simp [keyless]at k
 |_,.nilm,_,_,r=>by simpa [VR]using r
 | _,.func _ fs cs,_,k,r=>by
  simp only [keyless,and_eq_true]at k;simp only [VR]at r ⊢;obtain⟨a,b,h1,h2,h3⟩ :=r;exact⟨a,b,h1,eW k.1 h2,eW k.2 h3⟩
 |_,.yield _,_,k,_=>by simp [keyless]at k
 | _,.meth _ a,_,k,r=>by
  simp only [keyless]at k;simp only [VR]at r ⊢;obtain⟨u,h1,h2⟩ :=r;exact⟨u,h1,dW k h2⟩
 | _,.via _ _ _ a,_,k,r=>by
  simp only [keyless]at k;simp only [VR]at r ⊢;obtain⟨u,h1,h2⟩ :=r;exact⟨u,h1,dW k h2⟩
 |_,.nilf,_,_,r=>by simpa [VR]using r
 | _,.iface _ a,_,k,r=>by
  simp only [keyless]at k;simp only [VR]at r ⊢;obtain⟨u,h1,h2⟩ :=r;exact⟨u,h1,dW k h2⟩
 |_,.nili,_,_,r=>by simpa [VR]using r
 | _,.agg vs,_,k,r=>by
  simp only [keyless]at k;simp only [VR]at r ⊢;obtain⟨u,h1,h2⟩ :=r;exact⟨u,h1,eW k h2⟩
 | _,.tup vs,_,k,r=>by
  simp only [keyless]at k;simp only [VR]at r ⊢;obtain⟨u,h1,h2⟩ :=r;exact⟨u,h1,eW k h2⟩
 |_,.ilst _ xs _,_,_,r=>by simp only [VR]at r ⊢;exact r
 |_,.iptr cs,_,_,r=>by simp only [VR]at r ⊢;exact r
 |_,.gl _ _ _ _ _,_,k,_=>by simp [keyless]at k
 |_,.ep _ _ _ _,_,k,_=>by simp [keyless]at k
 |_,.val _,_,_,r=>by simpa [VR]using r
theorem eW :∀ {E:Emb} {aS:List AV} {vs:List Value},AV.keylessL aS=true→VRs E aS vs→VRs E.p aS vs
 |_,[],_,_,r=>by simpa [VRs]using r
 | _,a::aS,_,k,r=>by
  simp only [AV.keylessL,and_eq_true]at k;simp only [VRs]at r ⊢;obtain⟨u,us,h1,h2,h3⟩ :=r;exact⟨u,us,h1,dW k.1 h2,eW k.2 h3⟩
end
theorem VR.of_p {a:AV}{v:Value}(r:VR E.p a v) :VR E a v:=r.mono E.p_le
theorem VRs.of_p {aS:List AV}{vs:List Value}(r:VRs E.p aS vs) :VRs E aS vs:=r.mono E.p_le
theorem aCx {t:TypeId}{cs:List AV}{us:List Value}{a:AV}(h0:aJM P t cs=some a)(hv:VRs E cs us){k o:Nat}{C:Array Value}{e:TypeId}{f:Nat×Nat}(hk:w.heap[k]?=some (.cells C e f))
  (hj:∀j,j<us.length→C[o+j]?=us[j]?) :∃cv,(loadVar t ⟨k,o,none⟩).run P w= .ok cv w∧VR E a cv:=by
 unfold aJM at h0;split at h0
 ·cases h0
 · rename_i d hd;cases hg:isAggD d with
   | true=>
    rw [hg]at h0;simp only [cond]at h0;split at h0
    ·cases h0
    · rename_i n hn;cases hc:ble n cs.length with
      |false=>rw [hc]at h0;cases h0
      | true=>
       rw [hc]at h0;simp only at h0;cases h0;have hle:=Nat.le_of_ble_eq_true hc;have hl:=hv.length;have h1: (loadCells ⟨k,o,none⟩ n).run P w= .ok ⟨us.take n⟩ w:=run_loadCells (us.take n) hk (by simp;omega) (fun j hjn=>by rw [hj j (by omega),getElem?_take_of_lt hjn]);exact⟨.agg ⟨us.take n⟩,by simp [loadVar,pQ hd,hg,bS hn,h1],by simp only [VR];exact⟨_,rfl,hv.take n⟩⟩
   | false=>
    rw [hg]at h0;simp only [cond]at h0;obtain⟨v,h1,h2⟩ :=hv.get _ _ h0;have hlt:= (List.getElem?_eq_some_iff.1 h1).1;have h3:=hj 0 hlt;rw [h1,add_zero]at h3;exact⟨v,by simp [loadVar,pQ hd,hg,cell_of hk,h3],h2⟩
theorem aD3 {L:Loc}{e:Nat}{xs:List AV}{C:Array Value}{vs:List Value}(hv:VRs E xs vs)(hk:∀u∈vs,yO e u)(hC:∀j,j<vs.length*e→C[L.sh+j]?= (flat vs)[j]?)
  {i:Nat} {x:AV} (hx:xs[i]?=some x) :∃v,vs[i]?=some v∧VR E x v∧yO e v∧∀j,j<e→C[L.sh+ (i*e+j)]?=v.cells[j]?:=by
 obtain⟨v,h1,h2⟩ :=hv.get _ _ hx;have hlt:= (List.getElem?_eq_some_iff.1 h1).1;refine⟨v,h1,h2,hk v (mem_of_getElem? h1),fun j hj=>?_⟩
 rw [hC _ (by have:i*e+e≤vs.length*e:=by rw [←succ_mul];exact mul_le_mul_right _ hlt
              omega),flat_get hk h1 hj]
theorem aAG (g:Bool)(e:Nat) :∀ (n:Nat) (cs:List AV),(uJ g e n cs).length=n
 |0,_=>rfl
 |n+1,cs=>by simp [uJ,aAG g e n]
theorem vB (g:Bool){e:Nat}(he:g=false→e=1) :∀ (n:Nat) {cs:List AV} {us:List Value},VRs E cs us→us.length=n*e→ (∀u∈us,u.oneCell'=true) →
  ∃vs,VRs E (uJ g e n cs) vs∧flat vs=us∧vs.length=n∧∀u∈vs,yO e u
 | 0,cs,us,hv,hl,_=>by
  have:us= [] :=List.length_eq_zero_iff.1 (by omega);subst this;exact⟨[],VRs.nil E,rfl,rfl,fun u hu=>by cases hu⟩
 | n + 1,cs,us,hv,hl,h1=>by
  have hle:e≤us.length:=by rw [hl,add_mul];omega
  obtain⟨vs,k1,k2,k3,k4⟩ :=vB g he n (hv.drop e) (by rw [length_drop,hl,add_mul];omega) (fun u hu=>h1 u (mem_of_mem_drop hu));cases g with
  | true=>
   refine⟨.agg ⟨us.take e⟩ ::vs,VRs.cons (by simp only [cond,VR];exact⟨_,rfl,hv.take e⟩) k1,?_,by simp [k3],?_⟩
   ·rw [lR,k2];simp [Value.cells]
   · intro u hu;rcases List.mem_cons.1 hu with rfl|hu
     · refine⟨by simp [Value.cells];omega,fun c hc=>?_⟩;simp only [Value.cells]at hc;exact h1 c (mem_of_mem_take hc)
     ·exact k4 u hu
  | false=>
   have e1:=he rfl;subst e1;cases us with
   |nil=>simp at hle
   | cons u us=>
    cases cs with
    |nil=>obtain h0:=hv.length;simp at h0
    | cons a aS=>
     obtain⟨u',us',q1,q2,q3⟩ :=hv.cons_inv;cases q1;have ho:=h1 u (mem_cons_self ..);have hc:u.cells.toList= [u] :=by cases u<;>first|rfl| (simp [Value.oneCell']at ho)
     refine⟨u::vs,VRs.cons (by simpa using q2) k1,by rw [lR,k2,hc];simp,by simp [k3],?_⟩;intro x hx;rcases List.mem_cons.1 hx with rfl|hx
     ·refine⟨by rw [←Array.length_toList,hc];rfl,fun c hcc=>by rw [hc]at hcc;simp at hcc;subst hcc;exact ho⟩
     ·exact k4 x hx
theorem sE (r:Rel E h w.heap){e:Nat}{ex:Bool}{cx:Value}{vs:List Value}(hi:ImmS E.imm e ex cx vs) :
  ∃a cap,cx= .slice a vs.length cap∧ (a=none→cap=0∧vs= []) ∧ (ex=true→cap=vs.length) ∧vs.length≤cap∧∀ad,a=some ad→∀w1:World,w1.heap=w.heap→ (loadCells ad (vs.length*e)).run P w1= .ok ⟨flat vs⟩ w1:=by
 obtain⟨hk,g| ⟨k,a,cap,C,rfl,h2,h3,h4,h5⟩⟩ :=hi
 · obtain⟨rfl,a,cap,rfl,h1,h2⟩ :=g;refine⟨a,cap,rfl,fun e=> ⟨h1 e,rfl⟩,h2,Nat.zero_le _,fun ad _ w1 _=>by simp [loadCells,loadCellsFrom,flat]⟩
 · refine⟨_,cap,rfl,(fun e=>by cases e),h4,h3,fun ad e w1 hw=>?_⟩;cases e;obtain⟨el,f,g⟩ :=r.imm k C h2;exact run_loadCells (flat vs) (by rw [hw];exact g) (flat_length hk) h5
theorem aHv (r : Rel E h w.heap) {el xt el' : TypeId}{e:Nat}{x:AV}{cx:Value}{ys:List AV}(h0:kP P h el e x=some ys)(hu:P.underlying xt=some (.slice el'))(hx:VR E x cx) :
  ∃ws,Adds P w xt el e cx (flat ws) ys.length∧VRs E ys ws∧∀u∈ws,yO e u:=by
 have hni:∀k,(TypeDesc.slice el') ≠ .int k:=fun k e=>by cases e
 unfold kP at h0;split at h0
 · cases h0;simp only [VR]at hx;subst hx;exact⟨[],.nil _ hu hni,VRs.nil E,fun u hu=>by cases hu⟩
 · rename_i d b off len cap esz ex hd;cases hc:beq esz e with
   |false=>rw [hc]at h0;cases h0
   | true=>
    rw [hc]at h0;simp only [cond]at h0;have:=eq_of_beq_eq_true hc;subst this;split at h0
    · rename_i vs hvs;cases hc2: (cJ vs&& (isAggD d||beq esz 1))with
      |false=>rw [hc2]at h0;cases h0
      | true=>
       rw [hc2]at h0;simp only at h0;cases h0;simp only [and_eq_true,or_eq_true]at hc2;simp only [VR]at hx;obtain⟨L,off',cap',hE,rfl,g1,g2,g3,g4,g5⟩ :=hx
       have he : isAggD d = false → esz = 1 := fun e => by rcases hc2.2 with g|g; · rw [e]at g;cases g
                                                           ·exact eq_of_beq_eq_true g
       have key:∃us,(∀w1:World,w1.heap=w.heap→ (loadCells ⟨L.blk,off',none⟩ (len*esz)).run P w1= .ok ⟨us⟩ w1) ∧VRs E vs us∧us.length=len*esz:=old_cells r hvs hE g4 (fun e0=>by rw [show len=0 by omega,Nat.zero_mul]);obtain⟨us,k1,k2,k3⟩ :=key;obtain⟨ws,q1,q2,q3,q4⟩ :=vB (isAggD d) he len k2 k3 (k2.ones hc2.1);refine⟨ws,?_,q1,q4⟩;rw [aAG,q2];exact .slice _ _ _ _ _ hu hni k1
    ·cases h0
 · rename_i e' ys' ex hd;cases hc:beq e' e with
   |false=>rw [hc]at h0;cases h0
   | true=>
    rw [hc]at h0;simp only [cond]at h0;cases h0;have:=eq_of_beq_eq_true hc;subst this;simp only [VR]at hx;obtain⟨vs,h1,h2⟩ :=hx;obtain⟨a,cap,rfl,g1,g2,g3,g4⟩ :=sE (P:=P) r h2;refine⟨vs,?_,h1.of_p,h2.1⟩;rw [←h1.length];cases a with
    |none=>obtain⟨rfl,rfl⟩ :=g1 rfl;exact .nil _ hu hni
    |some ad=>exact .slice _ _ _ _ _ hu hni (g4 ad rfl)
 · rename_i b e' off len ex hd;cases hc:beq e' e with
   |false=>rw [hc]at h0;cases h0
   | true =>
    rw [hc]at h0;simp only [cond]at h0;have:=eq_of_beq_eq_true hc;subst this;split at h0
    · rename_i e2 zs hb;split at h0
      · rename_i hcond;cases h0;obtain⟨rfl,hlen⟩ :=hcond;simp only [VR]at hx;rcases hx with⟨rfl,a,rfl⟩ | ⟨L,a,cap,hE,rfl,k1,k2,k3⟩
        · refine⟨[],?_,by simp;exact VRs.nil E,fun u hu=>by cases hu⟩;cases a with
          |none=>simp;exact .nil _ hu hni
          |some ad=>simp;exact .slice _ _ _ _ _ hu hni (fun w1 _=>by simp [loadCells,loadCellsFrom,flat])
        · have ho:=r.objL hb hE;obtain⟨C,el2,vs,o1,o2,o3,o4,o5⟩ :=ho;have hvl:=o3.length;refine⟨(vs.drop off).take len,?_,(o3.drop off).take len,fun u hu=>o4 u (mem_of_mem_drop (mem_of_mem_take hu))⟩;have hl: ((zs.drop off).take len).length=len:=by rw [length_take,length_drop];omega
          rw [hl];refine .slice _ _ _ _ _ hu hni (fun w1 hw=>?_);have okd:∀u∈vs.drop off,yO e2 u:=fun u hu=>o4 u (mem_of_mem_drop hu);by_cases h00:cap=0
          · have:len=0:=by omega
            subst this;simp [loadCells,loadCellsFrom,flat]
          · obtain⟨rfl,k4⟩ :=k3 h00;refine run_loadCells _ (by rw [hw];exact o1) ?_ (fun j hj=>?_)
            · rw [flat_length (fun u hu=>okd u (mem_of_mem_take hu)),length_take,length_drop];rw [show min len (vs.length-off) =len by omega]
            · have h6:off*e2+len*e2≤vs.length*e2:=by rw [←add_mul];exact mul_le_mul_right _ (by omega)
              rw [rC _ okd,nT _ o4,getElem?_take_of_lt hj,getElem?_drop,←o5 _ (by omega)];congr 1;omega
      ·cases h0
    ·cases h0
 ·cases h0
theorem yX {h1:Hp}(r:Rel E h w.heap)(r1:Rel E h1 w.heap)(x1:Ext E h w E h1 w)(hnb:h1.nb=h.nb){e:Nat}{xs:List AV}{vs:List Value}(hv:VRs E xs vs)(hk:∀u∈vs,yO e u)(el:TypeId)(rest:List Value)(d:Nat) :
  Rel (E.put h.nb ⟨w.heap.size,0,(flat vs++rest).length⟩) (h1.new (.lst e xs)) (w.heap.push (.cells ⟨flat vs++rest⟩ el)) ∧
   Ext E h w (E.put h.nb ⟨w.heap.size,0,(flat vs++rest).length⟩) (h1.new (.lst e xs)) {w with drawn:=d,heap:=w.heap.push (.cells ⟨flat vs++rest⟩ el)}:=by
 obtain⟨q1,q2⟩ :=r1.new (.lst e xs) (.cells ⟨flat vs++rest⟩ el) (flat vs++rest).length (fun E' H' hle _ hH=> ⟨⟨flat vs++rest⟩,el,vs,hH,rfl,hv.mono hle,hk,fun j hj=>by
  simp only [zero_add];rw [show(⟨flat vs++rest⟩ :Array Value) = (flat vs++rest).toArray from rfl,getElem?_toArray,getElem?_append_left (by rw [flat_length hk];exact hj)]⟩)
 rw [hnb]at q1 q2;exact⟨q1,x1.trans (q2.drawn d)⟩
theorem aGi (r1:Rel E h w.heap)(e:Nat) :Rel E (h.new (.lst e [])) w.heap∧Ext E h w E (h.new (.lst e [])) w:=by
 have hf:E h.nb=none:=r1.fresh _ (le_refl _)
 refine⟨⟨?_,?_,fun b hb=>r1.fresh b (by rw [nC]at hb;omega),r1.imm,?_,fun b o hb=>by
  rw [cC]at hb;rw [nC];split at hb
  ·omega
  ·have:=r1.keys b o hb;omega⟩,⟨Emb.le.refl E,le_refl _,fun _ _ _=>rfl,?_,by simp [nC],rfl,rfl,rfl,fun _ _=>rfl,fun _ _=>rfl,fun _ _ e _=>.inl e,fun b o hb hlt=>by
  rw [cC,if_neg (by omega)]at hb;exact⟨o,hb⟩⟩⟩
 · intro b o hb;rw [cC]at hb;split at hb
   ·rename_i hb';cases hb;subst hb';exact .inl ⟨rfl,hf⟩
   ·exact r1.obj0 b o hb
 · intro b b' o o' L L' hb hb' hE hE';rw [cC]at hb hb';rw [if_neg (fun e=>by subst e;rw [hf]at hE;cases hE)]at hb;rw [if_neg (fun e=>by subst e;rw [hf]at hE';cases hE')]at hb';exact r1.kin b b' o o' L L' hb hb' hE hE'
 · intro b o L hb hE;rw [cC,if_neg (fun e=>by subst e;rw [hf]at hE;cases hE)]at hb;exact r1.apart b o L hb hE
 · intro b o L hb hE i hi _;rw [cC,if_neg (fun e=>by subst e;rw [hf]at hE;cases hE)]at hb;exact⟨b,o,L,hb,hE,hi⟩
theorem Rel.drop (r:Rel E h w.heap)(b:Nat) :Rel E (h.del b) w.heap∧Ext E h w E (h.del b) w:=by
 have hs:∀x o,(h.del b).look x=some o→h.look x=some o:=fun x o e=>by
  rw [kV]at e;split at e
  ·cases e
  ·exact e
 exact⟨r.sub hs (le_refl _),⟨Emb.le.refl E,le_refl _,fun _ _ _=>rfl,fun b o L h1 h2 i hi _=> ⟨b,o,L,hs b o h1,h2,hi⟩,le_refl _,rfl,rfl,rfl,fun _ _=>rfl,fun _ _=>rfl,fun _ _ e _=>.inl e,fun x o e _=> ⟨o,hs x o e⟩⟩⟩
theorem vC {argTypes:Array TypeId}{ty st xt el:TypeId}{e:Nat}{inf:TypeInfo}{z:AV}(hst:argTypes[0]?=some st)(hxt:argTypes[1]?=some xt)(hu:P.underlying st=some (.slice el))(hsz:aW P el=some e)(hinf:P.info? el=some inf)(hz:zeroOf P el=some z)
  (hzl:z.cells.length=e) (hb1:1≤inf.bytes) (hb2:inf.bytes≤1000)
  {h1:Hp} (r:Rel E h w.heap) (r1:Rel E h1 w.heap) (x1:Ext E h w E h1 w) (hnb:h1.nb=h.nb) {ys:List AV} {ws:List Value} {cx:Value} (hA:Adds P w xt el e cx (flat ws) ys.length) (hys:VRs E ys ws) (hk:∀u∈ws,yO e u) (hn:ys.length≤1000000) (a:Option Addr) :
  ∃cv w' E',(Builtin.append_ argTypes ty #[.slice a 0 0,cx]).run P w= .ok cv w'∧VR E' (.gl h.nb e 0 ys.length false) cv∧Rel E' (h1.new (.lst e ys)) w'.heap∧Ext E h w E' (h1.new (.lst e ys)) w':=by
 have hl:=hys.length;by_cases h0:ys= []
 · subst h0;have:ws= [] :=List.length_eq_zero_iff.1 hl;subst this;obtain⟨q1,q2⟩ :=aGi r1 e;refine⟨.slice a 0 0,w,E,?_,by simp only [VR];exact .inl ⟨rfl,a,rfl⟩,q1,x1.trans q2⟩;exact run_append_room (base:=a) (len:=0) (cap:=0) (w':=w) hA hst hxt hu hsz (by simp) (by cases a<;>simp [flat,storeCells])
 · have hpos:0<ys.length:=List.length_pos_iff.2 h0;obtain⟨nc,rest,d,k1,k2,k3⟩ :=run_append_grow (ty:=ty) (base:=a) (len:=0) (cap:=0) (os:=[]) hA hz hinf hb1 hb2 hst hxt hu hsz (by omega) (by omega) (fun w1 _=>by cases a<;>simp [Builtin.firstCells,loadCells,loadCellsFrom]);simp only [zero_add,List.nil_append]at k1 k2 k3;obtain⟨q1,q2⟩ :=yX r r1 x1 hnb hys hk el rest d;refine⟨_,_,_,k3,?_,q1,q2⟩;simp only [VR];refine .inr ⟨_,0,nc,Emb.put_same _ _ _,rfl,k1,(fun e=>by cases e),fun _=> ⟨by simp,?_⟩⟩;rw [length_append,flat_length hk,k2,hzl,hl,zero_add,←add_mul];exact mul_le_mul_right _ (by omega)
theorem wU (r:Rel E h w.heap){b e:Nat}{xs:List AV}(hb:h.look b=some (.lst e xs)){L:Loc}(hE:E b=some L){x:Nat}{o:AObj}{Lx:Loc}(hx:h.look x=some o)(hEx:E x=some Lx)(hne:x≠b) :¬Own o Lx L.blk:=fun hbl=>by
 rcases r.kin _ _ _ _ _ _ hx hb hEx hE ⟨_,hbl,rfl⟩ hne with⟨_,h2,_⟩ | ⟨h1,_⟩
 ·cases h2
 ·cases h1
theorem moved (r:Rel E h w.heap){b e:Nat}{xs:List AV}(hb:h.look b=some (.lst e xs)){L:Loc}(hE:E b=some L){C C2:Array Value}{el:TypeId}(o1:w.heap[L.blk]?=some (.cells C el (0,0)))(hsz:C2.size=L.sz)(sh:Nat)
  {xs2:List AV} {vs2:List Value} (hv:VRs E xs2 vs2) (hk:∀u∈vs2,yO e u) (hC:∀j,j<vs2.length*e→C2[sh+j]?= (flat vs2)[j]?) :
  Rel (E.put h.nb ⟨L.blk,sh,L.sz⟩) ((h.del b).new (.lst e xs2)) (bZ w L.blk (.cells C2 el (0,0))).heap ∧
   Ext E h w (E.put h.nb ⟨L.blk,sh,L.sz⟩) ((h.del b).new (.lst e xs2)) (bZ w L.blk (.cells C2 el (0,0))) :=by
 have hf:E h.nb=none:=r.fresh _ (le_refl _);have hle:E.le (E.put h.nb ⟨L.blk,sh,L.sz⟩) :=Emb.le_put hf;have hlook:∀ {x o},((h.del b).new (.lst e xs2)).look x=some o→ (x=h.nb∧o= .lst e xs2) ∨ (x≠h.nb∧x≠b∧h.look x=some o) :=by
  intro x o hx;rw [cC,aHj]at hx;split at hx
  ·rename_i hh;cases hx;exact .inl ⟨hh,rfl⟩
  · rename_i hh;rw [kV]at hx;split at hx
    ·cases hx
    ·rename_i hb';exact .inr ⟨hh,hb',hx⟩
 refine⟨⟨?_,?_,?_,r.imm_put hb hE _,?_,fun x o hx=>by
  rw [nC,aHj];rcases hlook hx with⟨rfl,_⟩ | ⟨_,_,h3⟩
  ·omega
  ·have:=r.keys x o h3;omega⟩,⟨hle,by simp [bZ],?_,?_,by simp [nC,aHj],rfl,rfl,rfl,fun x hx=>Emb.put_ne _ _ (by omega),(fun a _=>rZ o1 rfl rfl a),fun _ _ e _=>.inl e,fun x o hx hlt=>by
  rcases hlook hx with⟨rfl,_⟩ | ⟨_,_,h3⟩
  ·omega
  ·exact⟨o,h3⟩⟩⟩
 · intro x o hx;rcases hlook hx with⟨rfl,rfl⟩ | ⟨h1,h2,h3⟩
   ·exact .inr ⟨_,Emb.put_same _ _ _,C2,el,vs2,oN o1,hsz,hv.mono hle,hk,hC⟩
   · rcases r.obj0 x o h3 with⟨u1,u2⟩ | ⟨Lx,k1,k2⟩
     ·exact .inl ⟨u1,by rw [Emb.put_ne _ _ h1];exact u2⟩
     ·exact .inr ⟨Lx,by rw [Emb.put_ne _ _ h1];exact k1,(k2.mono hle).heap fun i hi=>by simp only [bZ];rw [Array.getElem?_setIfInBounds_ne (fun hh:L.blk=i=>wU r hb hE h3 k1 h2 (by rw [hh];exact hi))]⟩
 · intro x y ox oy Lx Ly hx hy kx ky hbl hne;rcases hlook hx with⟨rfl,rfl⟩ | ⟨h1,h2,h3⟩
   · rcases hlook hy with⟨rfl,rfl⟩ | ⟨g1,g2,g3⟩
     ·exact absurd rfl hne
     · rw [Emb.put_same]at kx;cases kx;rw [Emb.put_ne _ _ g1]at ky;obtain⟨i,i1,i2⟩ :=hbl;obtain rfl:L.blk=i:=i1;exact absurd i2 (wU r hb hE g3 ky g2)
   · rw [Emb.put_ne _ _ h1]at kx;rcases hlook hy with⟨rfl,rfl⟩ | ⟨g1,g2,g3⟩
     · rw [Emb.put_same]at ky;cases ky;obtain⟨i,i1,i2⟩ :=hbl;obtain rfl:L.blk=i:=i2;exact absurd i1 (wU r hb hE h3 kx h2)
     · rw [Emb.put_ne _ _ g1]at ky;exact r.kin x y ox oy Lx Ly h3 g3 kx ky hbl hne
 · intro x hx;rw [nC,aHj]at hx;rw [Emb.put_ne _ _ (by omega)];exact r.fresh x (by omega)
 · intro x o Lx hx kx i hi;show E.imm i=none;rcases hlook hx with⟨rfl,rfl⟩ | ⟨h1,h2,h3⟩
   ·rw [Emb.put_same]at kx;cases kx;exact r.apart b _ L hb hE i hi
   ·rw [Emb.put_ne _ _ h1]at kx;exact r.apart x o Lx h3 kx i hi
 · intro i hi hno;simp only [bZ];rw [Array.getElem?_setIfInBounds_ne (hno b _ L hb hE)]
 · intro x o Lx hx kx i hi _;rcases hlook hx with⟨rfl,rfl⟩ | ⟨h1,h2,h3⟩
   ·rw [Emb.put_same]at kx;cases kx;exact⟨b,_,L,hb,hE,hi⟩
   ·rw [Emb.put_ne _ _ h1]at kx;exact⟨x,o,Lx,h3,kx,hi⟩
def Emb.immPut (E:Emb)(k:Nat)(C:Array Value) :Emb:= ⟨E.loc,fun x=>if x=k then some C else E.imm x⟩
theorem bC0 (r:Rel E h w.heap)(C:Array Value)(el:TypeId)(d:Nat) :
  E.le (E.immPut w.heap.size C) ∧Rel (E.immPut w.heap.size C) h (w.heap.push (.cells C el)) ∧Ext E h w (E.immPut w.heap.size C) h {w with drawn:=d,heap:=w.heap.push (.cells C el)}:=by
 have hold:∀ {i},i<w.heap.size→ (w.heap.push (.cells C el))[i]?=w.heap[i]?:=fun hi=>by rw [Array.getElem?_push,if_neg (by omega)]
 have hle:E.le (E.immPut w.heap.size C) := ⟨fun _ _ e=>e,fun k D e=>by
  have:=r.immLt e;show(if k=w.heap.size then some C else E.imm k) =some D;rw [if_neg (by omega)];exact e⟩
 refine⟨hle,⟨?_,r.kin,r.fresh,?_,?_,r.keys⟩,(⟨hle,by simp,fun i hi _=>hold hi,fun b o L h1 h2 i hi _=> ⟨b,o,L,h1,h2,hi⟩,le_refl _,rfl,rfl,rfl,fun _ _=>rfl,(fun a _=>uS w rfl a),?_,fun _ o e _=> ⟨o,e⟩⟩ :Ext E h w (E.immPut w.heap.size C) h {w with heap:=w.heap.push (.cells C el)}).drawn d⟩
 · intro b o hb;rcases r.obj0 b o hb with u| ⟨L,g1,g2⟩
   ·exact .inl u
   ·exact .inr ⟨L,g1,(g2.mono hle).heap fun i hi=>hold (g2.lt i hi)⟩
 · intro k D e;simp only [Emb.immPut]at e;split at e
   ·rename_i hk;cases e;subst hk;exact⟨el,(0,0),by simp⟩
   · obtain⟨e1,f1,g⟩ :=r.imm k D e;exact⟨e1,f1,by rw [hold (Array.getElem?_eq_some_iff.1 g).1];exact g⟩
 · intro b o L hb hE i hi;simp only [Emb.immPut];rw [if_neg (by have:=r.lt hb hE i hi;omega)];exact r.apart b o L hb hE i hi
 · intro k D e hk;simp only [Emb.immPut]at e;rw [if_neg (by omega)]at e;exact .inl e
set_option maxHeartbeats 1000000 in
theorem vappend_sound (r :Rel E h w.heap){argTypes:Array TypeId}{ty:TypeId}{s x v:AV}{cs cx:Value}(ha:jO P h argTypes s x=some (v,h'))(hs:VR E s cs)(hx:VR E x cx) :
  ∃cv w' E',(Builtin.append_ argTypes ty #[cs,cx]).run P w= .ok cv w'∧VR E' v cv∧Rel E' h' w'.heap∧Ext E h w E' h' w':=by
 unfold jO at ha;split at ha
 · rename_i st xt hst hxt;split at ha
   · rename_i el el' hu hu';split at ha
     · rename_i e inf z hsz hinf hz;split at ha
       ·cases ha
       · rename_i ys hadd;cases hc: (beq z.cells.length e&&ble e 40&&ble inf.bytes 1000&&ble 1 inf.bytes&&ble 1 e)with
         |false=>rw [hc]at ha;cases ha
         | true =>
          rw [hc]at ha;simp only [cond]at ha;simp only [iO,bH,and_eq_true,decide_eq_true_eq]at hc;obtain⟨⟨⟨⟨hzl,_⟩,hb2⟩,hb1⟩,he1⟩ :=hc;obtain⟨ws,hA,hys,hk⟩ :=aHv (P:=P) (w:=w) r hadd hu' hx;have hyl:=hys.length;have hfl:=flat_length hk;split at ha
          · -- the nil slice
            split at ha
            · rename_i hn;cases ha;simp only [VR]at hs;subst hs;exact vC hst hxt hu hsz hinf hz hzl hb1 hb2 r r (Ext.refl _ _ _) rfl hA hys hk hn none
            ·cases ha
          · rename_i b e' off len ex;split at ha
            · rename_i e2 xs hb;split at ha
              · rename_i hcond;cases ha;obtain⟨rfl,rfl,hlen,hn⟩ :=hcond;simp only [VR]at hs;obtain⟨rd,xd⟩ :=r.drop b;rcases hs with⟨rfl,a,rfl⟩ | ⟨L,a,cap,hE,rfl,k1,k2,k3⟩
                · have:=vC (ty:=ty) hst hxt hu hsz hinf hz hzl hb1 hb2 r rd xd rfl hA hys hk (by omega) a;simpa using this
                · obtain ⟨C,el2,vs,o1,o2,o3,o4,o5⟩ :=r.objL hb hE;have hvl:=o3.length;have okd:∀u∈vs.drop off,yO e2 u:=fun u hu=>o4 u (mem_of_mem_drop hu);have hvs:= (o3.drop off).take len;have okt:∀u∈ (vs.drop off).take len,yO e2 u:=fun u hu=>okd u (mem_of_mem_take hu);have hvll: ((vs.drop off).take len).length=len:=by rw [length_take,length_drop];omega
                  have hall:=hvs.append hys
                  have okall:∀u∈ (vs.drop off).take len++ws,yO e2 u:=fun u hu=>by
                   rcases List.mem_append.1 hu with g|g
                   ·exact okt u g
                   ·exact hk u g
                  have hle6:off*e2+len*e2≤vs.length*e2:=by rw [←add_mul];exact mul_le_mul_right _ (by omega)
                  have hold:∀j,j<len*e2→C[L.sh+off*e2+j]?= (flat ((vs.drop off).take len))[j]?:=fun j hj=>by
                   rw [rC _ okd,nT _ o4,getElem?_take_of_lt hj,getElem?_drop,←o5 _ (by omega)];congr 1;omega
                  by_cases hroom:len+ys.length≤cap
                  · by_cases hn0:ys= []
                    · subst hn0;have hw0:ws= [] :=List.length_eq_zero_iff.1 hyl;subst hw0;obtain⟨q1,q2⟩ :=moved (C2:=C) r hb hE o1 o2 (L.sh+off*e2) hall okall (fun j hj=>by rw [List.append_nil]at hj ⊢;exact hold j (by rw [hvll]at hj;exact hj));rw [pP o1]at q1 q2;refine⟨.slice (some ⟨L.blk,a,none⟩) (len+0) cap,w,_,?_,?_,q1,q2⟩
                      ·exact run_append_room (base:=some ⟨L.blk,a,none⟩) (len:=len) (cap:=cap) (w':=w) hA hst hxt hu hsz (by simpa using hroom) (by simp [flat,storeCells])
                      · simp only [VR];refine .inr ⟨_,a,cap,Emb.put_same _ _ _,by simp,by simpa using hroom,(fun e=>by cases e),fun hc0=>?_⟩;obtain⟨g1,g2⟩ :=k3 hc0;exact⟨by simp [g1],g2⟩
                    · have hpos:0<ys.length:=List.length_pos_iff.2 hn0;obtain⟨g1,g2⟩ :=k3 (by omega);subst g1;have hm: (len+ys.length) *e2≤cap*e2:=mul_le_mul_right _ hroom;rw [add_mul]at hm;have hfit:L.sh+off*e2+len*e2+ (flat ws).length≤C.size:=by rw [hfl,hyl,o2];omega
                      obtain⟨q1,q2⟩ :=moved (C2:=over C (L.sh+off*e2+len*e2) (flat ws)) r hb hE o1 (by rw [lQ];exact o2) (L.sh+off*e2) hall okall (fun j hj=>by
                       rw [length_append,hvll,add_mul]at hj;rw [kW _ _ _ _ hfit,vA];have hfo: (flat ((vs.drop off).take len)).length=len*e2:=by rw [flat_length okt,hvll]
                       by_cases hj2:j<len*e2
                       ·rw [if_neg (by omega),getElem?_append_left (by omega)];exact hold j hj2
                       · rw [if_pos (by rw [hfl];omega),List.getElem?_append_right (by omega),hfo];congr 1;omega)
                      refine⟨.slice (some ⟨L.blk,L.sh+off*e2,none⟩) (len+ys.length) cap,_,_,?_,?_,q1,q2⟩
                      · refine run_append_room (base:=some ⟨L.blk,L.sh+off*e2,none⟩) (len:=len) (cap:=cap) hA hst hxt hu hsz hroom ?_;simp only [eV];have:=kX (P:=P) (flat ws) (w:=w) (b:=L.blk) (k:=L.sh+off*e2+len*e2) (i:=0) o1 (by simpa using hfit) (aTo hk);simpa using this
                      · simp only [VR];exact .inr ⟨_,_,cap,Emb.put_same _ _ _,rfl,hroom,(fun e=>by cases e),fun _=> ⟨by simp,g2⟩⟩
                  · have hpos:0<ys.length:=by omega
                    obtain⟨nc,rest,d,m1,m2,m3⟩ :=run_append_grow (ty:=ty) (base:=some ⟨L.blk,a,none⟩) (len:=len) (cap:=cap) (os:=flat ((vs.drop off).take len)) hA hz hinf hb1 hb2 hst hxt hu hsz hroom (by omega) (fun w1 hw=>by
                     simp only [Builtin.firstCells];by_cases hc0:cap=0
                     · have:len=0:=by omega
                       subst this;simp [loadCells,loadCellsFrom,flat]
                     · obtain⟨g1,g2⟩ :=k3 hc0;subst g1;exact run_loadCells _ (by rw [hw];exact o1) (by rw [flat_length okt,hvll]) hold)
                    obtain⟨q1,q2⟩ :=yX r rd xd rfl hall okall el rest d;rw [vA]at q1 q2;refine⟨_,_,_,m3,?_,q1,q2⟩;simp only [VR];refine .inr ⟨_,0,nc,Emb.put_same _ _ _,rfl,m1,(fun e=>by cases e),fun _=> ⟨by simp,?_⟩⟩;rw [length_append,length_append,flat_length okt,hvll,hfl,m2,hzl,hyl,zero_add,←add_mul,←add_mul];exact mul_le_mul_right _ (by omega)
              ·cases ha
            ·cases ha
          · -- a slice without room,and without elements
            split at ha
            · rename_i hcond;cases ha;obtain⟨rfl,hn⟩ :=hcond;simp only [VR]at hs;obtain⟨vs,h1,h2⟩ :=hs;rw [h1.nil_inv]at h2;obtain⟨a,cap,rfl,_,g2,_⟩ :=sE (P:=P) r h2;rw [g2 rfl];exact vC hst hxt hu hsz hinf hz hzl hb1 hb2 r r (Ext.refl _ _ _) rfl hA hys hk hn a
            ·cases ha
          · rename_i e' y xs;split at ha
            · rename_i hcond;cases ha;obtain⟨rfl,hkl,hn⟩ :=hcond;simp only [VR]at hs;obtain⟨vs,h1,h2⟩ :=hs;have hvl:=h1.length;obtain⟨a,cap,rfl,g1,g2,g3,g4⟩ :=sE (P:=P) r h2;have hce:=g2 rfl;subst hce;have hysp:=eW hkl hys
              have okall:∀u∈vs++ws,yO e' u:=fun u hu=>by
               rcases List.mem_append.1 hu with g|g
               ·exact h2.1 u g
               ·exact hk u g
              by_cases hn0:ys= []
              · subst hn0;have hw0:ws= [] :=List.length_eq_zero_iff.1 hyl;subst hw0;refine⟨.slice a vs.length vs.length,w,E,?_,?_,r,Ext.refl _ _ _⟩
                ·exact run_append_room (base:=a) (len:=vs.length) (cap:=vs.length) (w':=w) hA hst hxt hu hsz (by simp) (by cases a<;>simp [flat,storeCells])
                · simp only [VR,List.append_nil];refine⟨vs,h1,h2.1,?_⟩;rcases h2.2 with⟨p1,p2,p3,p4,p5,p6⟩ | ⟨k,b,c,D,p1,p2,p3,p4,p5⟩
                  ·exact .inl ⟨p1,p2,p3,p4,p5,(fun e=>by cases e)⟩
                  ·exact .inr ⟨k,b,c,D,p1,p2,p3,(fun e=>by cases e),p5⟩
              · have hpos:0<ys.length:=List.length_pos_iff.2 hn0;simp only [length_cons]at hn hvl
                obtain⟨nc,rest,d,m1,m2,m3⟩ :=run_append_grow (ty:=ty) (base:=a) (len:=vs.length) (cap:=vs.length) (os:=flat vs) hA hz hinf hb1 hb2 hst hxt hu hsz (by omega) (by omega) (fun w1 hw=>by
                 cases a with
                 |none=>obtain⟨_,h0⟩ :=g1 rfl;subst h0;simp at hvl
                 |some ad=>simp only [Builtin.firstCells];exact g4 ad rfl w1 hw)
                obtain⟨hle,q1,q2⟩ :=bC0 r ⟨flat vs++flat ws++rest⟩ el d;refine⟨_,_,_,m3,?_,q1,q2⟩;simp only [VR];refine⟨vs++ws,(h1.append hysp).mono hle.pp,okall,.inr ⟨w.heap.size,0,nc,⟨flat vs++flat ws++rest⟩,by rw [length_append,hyl],by simp [Emb.immPut],by rw [length_append,hyl];exact m1,(fun e=>by cases e),fun j hj=>?_⟩⟩;rw [show(⟨flat vs++flat ws++rest⟩ :Array Value) = (flat vs++flat ws++rest).toArray from rfl,getElem?_toArray,zero_add,←vA,getElem?_append_left (by rw [flat_length okall];exact hj)]
            ·cases ha
          ·cases ha
     ·cases ha
   ·cases ha
 ·cases ha
end
section
variable {P :Program} {E:Emb} {h h':Hp} {w w':World} {tm:T AV} {ρ:Operand→Value}
theorem wV {t:TypeId}{e:Nat}(h0:yL P t e=true) :∃el,P.underlying t=some (.slice el) ∧aW P el=some e:=by
 unfold yL at h0;split at h0
 · rename_i el hu;split at h0
   ·rename_i s hs;have:=eq_of_beq_eq_true h0;subst this;exact⟨el,hu,hs⟩
   ·cases h0
 ·cases h0
theorem aHw {t:TypeId}{x v:AV}{cx:Value}{lo hi mx:Option Nat}{clo chi cmx:Option Value}(hv:aBG P t x lo hi mx=some v)(hx:VR E x cx)
  (h1:NVR lo clo) (h2:NVR hi chi) (h3:NVR mx cmx) :∃cv,(Instr.sliceAt t cx clo chi cmx).run P w= .ok cv w∧VR E v cv:=by
 unfold aBG at hv;split at hv
 · rename_i e xs ex;cases hc:yL P t e with
   |false=>rw [hc]at hv;cases hv
   | true =>
    rw [hc]at hv;simp only [cond]at hv;obtain⟨el,hu,hsz⟩ :=wV hc;simp only [VR]at hx;obtain⟨vs,k1,k2⟩ :=hx;have hvl:=k1.length
    have key :∀ (l u m:Nat) (ex':Bool) (a:Option Addr) (cap:Nat),cx= .slice a vs.length cap→l≤u→u≤vs.length→u≤m→m≤cap→ (ex'=true→m=u) →
      (Instr.sliceBounds true vs.length cap clo chi cmx).run P w= .ok (l,u,m) w →
      ∃cv,(Instr.sliceAt t cx clo chi cmx).run P w= .ok cv w∧VR E (.ilst e ((xs.drop l).take (u-l)) ex') cv:=by
     intro l u m ex' a cap hcx hlu hul hum hmc hex hb;refine⟨.slice (if m=l then a else a.map (·.add (l*e))) (u-l) (m-l),?_,?_⟩
     · subst hcx;simp [Instr.sliceAt,Instr.slice,aB hu,hb,bS hsz]
     · simp only [VR];have okv:∀x∈ (vs.drop l).take (u-l),yO e x:=fun x hx=>k2.1 x (mem_of_mem_drop (mem_of_mem_take hx));have hlen: ((vs.drop l).take (u-l)).length=u-l:=by rw [length_take,length_drop];omega
       refine⟨(vs.drop l).take (u-l),(k1.drop l).take (u-l),okv,?_⟩;rcases k2.2 with⟨p1,b,c,p2,p3,p4⟩ | ⟨k,b,c,C,p2,p3,p4,p5,p6⟩
       · subst p1;rw [hcx]at p2;cases p2;simp only [length_nil]at hul;have hu0:u=0:=by omega
         have hl0:l=0:=by omega
         subst hu0;subst hl0;refine .inl ⟨by simp,_,m,rfl,fun hn=>?_,fun he=>by have:=hex he;omega⟩;have:a=none:=by
          split at hn
          ·exact hn
          ·cases a<;>simp at hn ⊢
         have:=p3 this;omega
       · rw [hcx]at p2;cases p2;by_cases hul0:u-l=0
         · refine .inl ⟨List.length_eq_zero_iff.1 (by omega),_,m-l,by rw [hul0],fun hn=>?_,fun he=>by have:=hex he;omega⟩;split at hn<;>simp at hn
         · have hml:m≠l:=by omega
           refine .inr ⟨k,b+l*e,m-l,C,?_,p3,by omega,fun he=>by rw [hlen];have:=hex he;omega,fun j hj=>?_⟩
           ·rw [if_neg hml,hlen];simp [eV]
           · rw [hlen]at hj;have h6:l*e+ (u-l) *e≤vs.length*e:=by rw [←add_mul];exact mul_le_mul_right _ (by omega)
             rw [rC _ (fun x hx=>k2.1 x (mem_of_mem_drop hx)),nT _ k2.1,getElem?_take_of_lt hj,getElem?_drop,←p6 _ (by omega)];congr 1;omega
    obtain⟨a,cap,hcx,hcap,hexact⟩ :∃a cap,cx= .slice a vs.length cap∧vs.length≤cap∧ (ex=true→cap=vs.length) :=by
     rcases k2.2 with⟨p1,b,c,p2,p3,p4⟩ | ⟨k,b,c,C,p2,p3,p4,p5,p6⟩
     ·subst p1;exact⟨b,c,p2,Nat.zero_le _,fun e=>p4 e⟩
     ·exact⟨_,c,p2,p4,p5⟩
    split at hv
    · rename_i hmx;split at hv
      · rename_i hb;cases hv;rw [←hvl]at hb ⊢;cases cmx with
        |some c=>exact h3.elim
        | none=>
         have:=hY (P:=P) (w:=w) (isS:=true) (len:=vs.length) (cap:=cap) h1 h2 (show NVR none none from trivial) (by simp) hb.1 (by simp only [getD_none];omega) (le_refl _)
         exact key _ _ cap _ a cap hcx hb.1 hb.2 (by omega) (le_refl _) (fun he=>by
          simp only [and_eq_true]at he;have h5:=eq_of_beq_eq_true he.2;have:=hexact he.1;omega) this
      ·cases hv
    · rename_i m u;split at hv
      · rename_i hb;cases hv;simp only [getD_some]at hb ⊢;rw [←hvl]at hb;have:=hY (P:=P) (w:=w) (isS:=true) (len:=vs.length) (cap:=cap) h1 h2 h3 (by simp) (by simpa using hb.1) (by simp only [getD_some];omega) (by simp only [getD_some];omega);exact key _ _ m _ a cap hcx hb.1 (by omega) hb.2.1 (by omega) (fun he=> (eq_of_beq_eq_true he).symm) (by simpa using this)
      ·cases hv
    ·cases hv
 · rename_i b e off len ex;cases hc:yL P t e with
   |false=>rw [hc]at hv;cases hv
   | true =>
    rw [hc]at hv;simp only [cond]at hv;obtain⟨el,hu,hsz⟩ :=wV hc;have hx0:=hx;simp only [VR]at hx
    have key:∀ (l u m:Nat) (ex':Bool) (a:Option Addr) (cap:Nat),cx= .slice a len cap→l≤u→u≤len→u≤m→m≤cap→ (ex'=true→m=u) →
      (Instr.sliceBounds true len cap clo chi cmx).run P w= .ok (l,u,m) w →
      ∃cv,(Instr.sliceAt t cx clo chi cmx).run P w= .ok cv w∧VR E (.gl b e (off+l) (u-l) ex') cv:=by
     intro l u m ex' a cap hcx hlu hul hum hmc hex hb;refine⟨.slice (if m=l then a else a.map (·.add (l*e))) (u-l) (m-l),?_,?_⟩
     · subst hcx;simp [Instr.sliceAt,Instr.slice,aB hu,hb,bS hsz]
     · simp only [VR];rcases hx with⟨p1,b',p2⟩ | ⟨L,b',c,p1,p2,p3,p4,p5⟩
       · rw [hcx]at p2;cases p2;have:u=0:=by omega
         subst this;have:l=0:=by omega
         subst this;have:m=0:=by omega
         subst this;exact .inl ⟨rfl,_,rfl⟩
       · rw [hcx]at p2;cases p2;refine .inr ⟨L,if m=l then b' else b'+l*e,m-l,p1,?_,by omega,fun he=>by have:=hex he;omega,fun hc0=>?_⟩
         ·split<;>simp [eV]
         · have hml:m≠l:=by omega
           rw [if_neg hml];obtain⟨g1,g2⟩ :=p5 (by omega);have h6:l*e+ (m-l) *e≤cap*e:=by rw [←add_mul];exact mul_le_mul_right _ (by omega)
           exact⟨by rw [g1,add_mul];omega,by omega⟩
    obtain⟨a,cap,hcx,hcap,hexact⟩ :∃a cap,cx= .slice a len cap∧len≤cap∧ (ex=true→cap=len) :=by
     rcases hx with⟨p1,b',p2⟩ | ⟨L,b',c,p1,p2,p3,p4,p5⟩
     ·subst p1;exact⟨b',0,p2,le_refl _,fun _=>rfl⟩
     ·exact⟨_,c,p2,p3,p4⟩
    split at hv
    · rename_i hmx;split at hv
      · rename_i hb;cases hv;cases cmx with
        |some c=>exact h3.elim
        | none=>
         have:=hY (P:=P) (w:=w) (isS:=true) (len:=len) (cap:=cap) h1 h2 (show NVR none none from trivial) (by simp) hb.1 (by simp only [getD_none];omega) (le_refl _)
         exact key _ _ cap _ a cap hcx hb.1 hb.2 (by omega) (le_refl _) (fun he=>by
          simp only [and_eq_true]at he;have h5:=eq_of_beq_eq_true he.2;have:=hexact he.1;omega) this
      ·cases hv
    · rename_i m u;split at hv
      · rename_i hb;cases hv;simp only [getD_some]at hb ⊢;have:=hY (P:=P) (w:=w) (isS:=true) (len:=len) (cap:=cap) h1 h2 h3 (by simp) (by simpa using hb.1) (by simp only [getD_some];omega) (by simp only [getD_some];omega);exact key _ _ m _ a cap hcx hb.1 (by omega) hb.2.1 (by omega) (fun he=> (eq_of_beq_eq_true he).symm) (by simpa using this)
      ·cases hv
    ·cases hv
 ·cases hv
theorem aGj {v:Value}(h:v.oneCell'=true) :v.cells.toList= [v] :=by cases v<;>first|rfl| (simp [Value.oneCell']at h)
theorem aAH {x v1:AV}{e:Nat}{us:List Value}{v:Value}(ho:x.one=true)(hx:VR E x v)(hk:yO e v)(hv:VRs E [v1] us)(h1:∀u∈us,u.oneCell'=true) :
  ∃v',VR E v1 v'∧yO e v'∧0+us.length≤e∧∀j,j<e→v'.cells[j]?=if 0≤j∧j<0+us.length then us[j-0]? else v.cells[j]?:=by
 obtain⟨u1,us',rfl,q1,q2⟩ :=hv.cons_inv;rw [q2.nil_inv]at h1 ⊢;have hvo:=aGj (hx.one ho);have he:e=1:=by have:=hk.1;rw [←Array.length_toList,hvo]at this;exact this.symm
 have h11:=aGj (h1 u1 (mem_cons_self ..));refine⟨u1,q1,⟨by rw [←Array.length_toList,h11,he];rfl,fun c hc=>by rw [h11]at hc;simp at hc;subst hc;exact h1 _ (mem_cons_self ..)⟩,by simp [he],fun j hj=>?_⟩;have hj0:j=0:=by omega
 subst hj0;rw [if_pos (by simp),←Array.getElem?_toList,h11]
theorem aFR {x x':AV}{o e:Nat}{vs:List AV}{us:List Value}{v:Value}(h0:jM x o vs=some x')(hx:VR E x v)(hk:yO e v)(hv:VRs E vs us)(h1:∀u∈us,u.oneCell'=true) :
  ∃v',VR E x' v'∧yO e v'∧o+us.length≤e∧∀j,j<e→v'.cells[j]?=if o≤j∧j<o+us.length then us[j-o]? else v.cells[j]?:=by
 have hl:=hv.length;unfold jM at h0;split at h0
 · rename_i cs;cases hc:ble (o+vs.length) cs.length with
   |false=>rw [hc]at h0;cases h0
   | true =>
    rw [hc]at h0;simp only [cond]at h0;cases h0;have hle:=Nat.le_of_ble_eq_true hc;simp only [VR]at hx;obtain⟨ws,rfl,hws⟩ :=hx;have hwl:=hws.length;have he:ws.length=e:=by have:=hk.1;simpa [Value.cells]using this
    refine⟨.agg ⟨ws.take o++us++ws.drop (o+us.length)⟩,?_,⟨?_,?_⟩,by omega,fun j hj=>?_⟩
    · simp only [VR];refine⟨_,rfl,?_⟩;unfold setAt;rw [←hl];exact((hws.take o).append hv).append (hws.drop _)
    ·simp [Value.cells];omega
    · intro c hcm;simp only [Value.cells]at hcm;rcases List.mem_append.1 hcm with g|g
      · rcases List.mem_append.1 g with g|g
        ·exact hk.2 c (by simp only [Value.cells];exact mem_of_mem_take g)
        ·exact h1 c g
      ·exact hk.2 c (by simp only [Value.cells];exact mem_of_mem_drop g)
    · simp only [Value.cells];rw [show(⟨ws.take o++us++ws.drop (o+us.length)⟩ :Array Value) = (ws.take o++us++ws.drop (o+us.length)).toArray from rfl,getElem?_toArray,show(⟨ws⟩ :Array Value) =ws.toArray from rfl,getElem?_toArray];by_cases h2:o≤j∧j<o+us.length
      · rw [if_pos h2,getElem?_append_left (by simp;omega),List.getElem?_append_right (by simp;omega)];congr 1;simp;omega
      · rw [if_neg h2];by_cases h3:j<o
        ·rw [getElem?_append_left (by simp;omega),getElem?_append_left (by simp;omega),getElem?_take_of_lt h3]
        · rw [List.getElem?_append_right (by simp;omega),getElem?_drop];congr 1;simp;omega
 ·cases h0
 · split at h0
   · split at h0
     ·cases h0;exact aAH (x:=.val (.pointer _)) rfl hx hk hv h1
     ·cases h0
   ·cases h0
 · rename_i hn1 hn2 hn3;split at h0
   · rename_i v1;cases h0;have ho:x.one=true:=by cases x<;>first|rfl|exact absurd rfl (hn1 _) |exact absurd rfl (hn2 _) |exact absurd rfl (hn3 _)
     exact aAH ho hx hk hv h1
   ·cases h0
theorem aTp {e : Nat}{vs:List Value}(hk:∀u∈vs,yO e u){i:Nat}(hi:i<vs.length){v':Value}(hk':yO e v') :
  (∀u∈vs.set i v',yO e u) ∧∀j,j<vs.length*e→ (flat (vs.set i v'))[j]?=if i*e≤j∧j<i*e+e then v'.cells[j-i*e]? else(flat vs)[j]?:=by
 have ok2:∀u∈vs.set i v',yO e u:=fun u hu=>by
  rcases List.mem_or_eq_of_mem_set hu with g|g
  ·exact hk u g
  ·rw [g];exact hk'
 refine⟨ok2,fun j hj=>?_⟩
 have he : 0 < e := by rcases Nat.eq_zero_or_pos e with g|g; · subst g;simp at hj
                       ·exact g
 have hq:j / e<vs.length:=Nat.div_lt_of_lt_mul (by rw [Nat.mul_comm];exact hj);have hr:j % e<e:=mod_lt _ he;have hj':j=j / e*e+j % e:=by have:=Nat.div_add_mod j e;rw [Nat.mul_comm]at this;exact this.symm
 have h1:=flat_get (v:= (vs.set i v')[j / e]'(by simpa using hq)) ok2 (List.getElem?_eq_getElem _) hr;have h2:=flat_get (v:=vs[j / e]) hk (List.getElem?_eq_getElem hq) hr;rw [←hj']at h1 h2;rw [h1,h2,List.getElem_set];by_cases hi2:i=j / e
 · rw [if_pos hi2,if_pos (by rw [hi2];omega)];congr 1;rw [hi2];omega
 · rw [if_neg hi2,if_neg (fun hh=>hi2 ?_)];have:=Nat.div_eq_of_lt_le (m:=j) (n:=e) (k:=i) (by omega) (by rw [succ_mul];omega);omega
theorem aHx (r:Rel E h w.heap){b e i o:Nat}{xs:List AV}{x x':AV}{vs:List AV}{us:List Value}(hb:h.look b=some (.lst e xs)){L:Loc}(hE:E b=some L)(hx:xs[i]?=some x)(h0:jM x o vs=some x')(hv:VRs E vs us)(h1:∀u∈us,u.oneCell'=true) :
  ∃w',(storeCells ⟨L.blk,L.sh+ (i*e+o),none⟩ us).run P w= .ok () w'∧Rel E (h.set b (.lst e (xs.set i x'))) w'.heap∧Ext E h w E (h.set b (.lst e (xs.set i x'))) w':=by
 obtain⟨C,el,ws,o1,o2,o3,o4,o5⟩ :=r.objL hb hE;obtain⟨v,k1,k2,k3,k4⟩ :=aD3 o3 o4 o5 hx;obtain⟨v',m1,m2,m3,m4⟩ :=aFR h0 k2 k3 hv h1;have hi:= (List.getElem?_eq_some_iff.1 k1).1;obtain⟨f1,f2⟩ :=aTp o4 hi m2;have hie:i*e+e≤ws.length*e:=by rw [←succ_mul];exact mul_le_mul_right _ hi
 have hsz:us= [] ∨L.sh+ (i*e+o) +us.length≤C.size:=by
  by_cases hu:us= []
  ·exact .inl hu
  · have hpos:0<us.length:=List.length_pos_iff.2 hu;have h7:=k4 (o+us.length-1) (by omega);have h8:v.cells[o+us.length-1]?≠none:=by rw [Array.getElem?_eq_getElem (by rw [k3.1];omega)];simp
    rw [←h7]at h8;have h9:L.sh+ (i*e+ (o+us.length-1)) <C.size:=by
     rcases Nat.lt_or_ge (L.sh+ (i*e+ (o+us.length-1))) C.size with g|g
     ·exact g
     ·exact absurd (Array.getElem?_eq_none g) h8
    exact .inr (by omega)
 have run: (storeCells ⟨L.blk,L.sh+ (i*e+o),none⟩ us).run P w= .ok () (bZ w L.blk (.cells (over C (L.sh+ (i*e+o)) us) el (0,0))) :=by
  rcases hsz with rfl|hsz
  ·simp [storeCells,over,pP o1]
  · have:=kX (P:=P) us (w:=w) (b:=L.blk) (k:=L.sh+ (i*e+o)) (i:=0) o1 (by simpa using hsz) h1;simpa using this
 obtain ⟨q1,q2⟩ :=r.setObj (o':=.lst e (xs.set i x')) (.cells (over C (L.sh+ (i*e+o)) us) el (0,0)) hb hE rfl rfl (fun H' hH=> ⟨over C (L.sh+ (i*e+o)) us,el,ws.set i v',hH,by rw [lQ];exact o2,by
  refine VRs.of_get (by simp [o3.length]) (fun k a ha=>?_);rw [List.getElem?_set]at ha ⊢;by_cases hki:i=k
  · rw [if_pos hki]at ha ⊢;have hxl:= (List.getElem?_eq_some_iff.1 hx).1;rw [if_pos (by omega)]at ha;rw [if_pos (by omega)];cases ha;exact⟨v',rfl,m1⟩
  · rw [if_neg hki]at ha ⊢;exact o3.get k a ha,f1,fun j hj=>by
  rw [List.length_set]at hj;rw [f2 j hj];rcases hsz with rfl|hsz
  · rw [over,o5 j hj];split
    · rename_i hj2;have:=m4 (j-i*e) (by omega);simp only [length_nil,add_zero]at this;rw [if_neg (by omega)]at this;have h5:=k4 (j-i*e) (by omega);rw [this,←h5,show i*e+ (j-i*e) =j by omega,o5 j hj]
    ·rfl
  · rw [kW _ _ _ _ hsz];by_cases hj2:i*e≤j∧j<i*e+e
    · rw [if_pos hj2,m4 _ (by omega)];by_cases hj3:o≤j-i*e∧j-i*e<o+us.length
      ·rw [if_pos hj3,if_pos (by omega)];congr 1;omega
      · rw [if_neg hj3,if_neg (by omega)];have h5:=k4 (j-i*e) (by omega);rw [←h5];congr 1;omega
    ·rw [if_neg hj2,if_neg (by omega),o5 j hj]⟩)
 exact⟨_,run,q1,q2⟩
theorem aHy (n:Nat){t:TypeId}{d:TypeDesc}(hu:P.underlying t=some d){x y:AV}{cx cy:Value}{b:Bool}(hx:plainKey d x=true)(hy:plainKey d y=true)(h0:oD x y=some b)(vx:VR E x cx)(vy:VR E y cy) :
  (Op.equalIn (n+1) t cx cy).run P w= .ok b w:=by
 rcases eJ hx vx with⟨i,kk,m,rfl,rfl,rfl⟩ | ⟨l,m,rfl,rfl,rfl⟩ | ⟨b',rfl,rfl,rfl⟩
 · rcases eJ hy vy with⟨i',kk',m',e1,rfl,rfl⟩ | ⟨l',m',e1,_⟩ | ⟨b',e1,_⟩
   · simp only [oD]at h0;split at h0
     ·rename_i hk;cases h0;subst hk;simp [Op.equalIn,aB hu]
     ·cases h0
   ·cases e1
   ·cases e1
 · rcases eJ hy vy with⟨i',kk',m',e1,_⟩ | ⟨l',m',e1,rfl,rfl⟩ | ⟨b',e1,_⟩
   ·cases e1
   · have:=zS (d:=.string) rfl vx vy h0;simp only [Instr.sameNow]at this;simp only [Op.equalIn,Sem.run_bind,aB hu,Result.andThen_ok,Sem.run_pure];exact congrArg (Result.ok · w) (Option.some.inj this.1)
   ·cases e1
 · rcases eJ hy vy with⟨i',kk',m',e1,_⟩ | ⟨l',m',e1,_⟩ | ⟨b2,e1,rfl,rfl⟩
   ·cases e1
   ·cases e1
   ·simp only [oD]at h0;cases h0;simp [Op.equalIn,aB hu]
theorem aAI {d:TypeDesc}{x:AV}(h:plainKey d x=true) :isAggD d=false:=by
 unfold plainKey at h;split at h<;>first|rfl|cases h
theorem aAJ (n:Nat)(body:Field→Option Bool×Unit→Sem (ForInStep (Option Bool×Unit))){us vs:List Value}:∀ (fs:List Field) (k:Nat) (xs ys:List AV) (b:Bool),kQ P fs k xs ys=some b→VRs E xs (us.drop k) →VRs E ys (vs.drop k) →
  (∀f∈fs,∀s,body f s= (do if f.name≠ "_" then if !(←Op.equalIn (n+1) f.type (←part f.type ⟨us⟩ f.offset) (←part f.type ⟨vs⟩ f.offset))then pure (.done (some false,()))else pure (.yield (none,()))else pure (.yield (none,())) :Sem (ForInStep (Option Bool×Unit)))) →
  (forIn fs (none,()) body:Sem (Option Bool×Unit)).run P w= .ok (if b then(none,())else(some false,())) w
 | [],k,xs,ys,b,h0,_,_,_=>by
  cases xs<;>cases ys<;>simp only [kQ]at h0<;>cases h0;simp
 | f :: fs,k,xs,ys,b,h0,hx,hy,hb=>by
  cases xs with
  |nil=>cases ys<;>simp [kQ]at h0
  | cons x xs=>
   cases ys with
   |nil=>simp [kQ]at h0
   | cons y ys=>
    simp only [kQ]at h0;split at h0
    · rename_i d hu;cases hc: (beq f.offset k&& (f.name != "_") &&plainKey d x&&plainKey d y)with
      |false=>rw [hc]at h0;cases h0
      | true=>
       rw [hc]at h0;simp only [cond]at h0;simp only [and_eq_true,bne_iff_ne]at hc;obtain⟨⟨⟨ho,hn⟩,hpx⟩,hpy⟩ :=hc;have ho:=eq_of_beq_eq_true ho;split at h0
       · rename_i a b' hce hse;cases h0;obtain⟨cx,us',e1,q1,q2⟩ :=hx.cons_inv;obtain⟨cy,vs',e2,q3,q4⟩ :=hy.cons_inv;have g1:us[k]?=some cx:=by have:=congrArg (·[0]?) e1;simpa using this
         have g2:vs[k]?=some cy:=by have:=congrArg (·[0]?) e2;simpa using this
         have d1:us.drop (k+1) =us':=by rw [←drop_drop,e1];rfl
         have d2:vs.drop (k+1) =vs':=by rw [←drop_drop,e2];rfl
         have p1: (part f.type ⟨us⟩ f.offset).run P w= .ok cx w:=by
          simp [part,pQ hu,aAI hpx,ho,show(⟨us⟩ :Array Value)[k]?=some cx by rw [show(⟨us⟩ :Array Value) =us.toArray from rfl,getElem?_toArray];exact g1]
         have p2: (part f.type ⟨vs⟩ f.offset).run P w= .ok cy w:=by
          simp [part,pQ hu,aAI hpx,ho,show(⟨vs⟩ :Array Value)[k]?=some cy by rw [show(⟨vs⟩ :Array Value) =vs.toArray from rfl,getElem?_toArray];exact g2]
         have p3:=aHy (w:=w) n hu hpx hpy hce q1 q3;have ih:=aAJ n body fs (k+1) xs ys b' hse (by rw [d1];exact q2) (by rw [d2];exact q4) (fun f hf=>hb f (mem_cons_of_mem _ hf));rw [List.forIn_cons,hb f (mem_cons_self ..)];simp only [ne_eq,hn,not_false_eq_true,if_true,Sem.run_bind,p1,p2,p3,Result.andThen_ok];cases a with
         |true=>simp only [Bool.not_true,Bool.false_eq_true,if_false,Sem.run_pure,Result.andThen_ok,Bool.true_and];exact ih
         |false=>simp
       ·cases h0
    ·cases h0
theorem aD4 (n:Nat){t:TypeId}{fs:Array Field}(hu:P.underlying t=some (.struct fs))(hst:P.stoodInHeld t=false){xs ys:List AV}{us vs:List Value}{b:Bool}(h0:kQ P fs.toList 0 xs ys=some b)(hx:VRs E xs us)(hy:VRs E ys vs) :
  (Op.equalIn (n+2) t (.agg ⟨us⟩) (.agg ⟨vs⟩)).run P w= .ok b w:=by
 have:=aAJ (w:=w) n (fun f s=> (do if f.name≠ "_" then if !(←Op.equalIn (n+1) f.type (←part f.type ⟨us⟩ f.offset) (←part f.type ⟨vs⟩ f.offset))then pure (.done (some false,()))else pure (.yield (none,()))else pure (.yield (none,())) :Sem (ForInStep (Option Bool×Unit)))) fs.toList 0 xs ys b h0 (by simpa using hx) (by simpa using hy) (fun f _ s=>rfl);rw [Op.equalIn];simp only [Sem.run_bind,aB hu,Result.andThen_ok,run_program,hst,Bool.false_eq_true,if_false];rw [←Array.forIn_toList];rw [this];cases b<;>rfl
theorem aCy {op:BinOp}{t:TypeId}(hg:P.eqGuardType P.depth t=false)(X Y:Operand)(xs ys:Array Value) : (eqGuard op t X Y (.agg xs) (.agg ys)).run P w= .ok () w:=by
 cases op<;>simp [eqGuard,hg]
set_option maxHeartbeats 4000000 in
theorem aMP (r:Rel E h w.heap){o:Oper}(hρ:Reads E tm ρ (· ∈o.op.operands)){out:AOut}(h0:vop P h tm o=some out) :
  Out P E h w ((execOp ρ o).run P w) out∧ (cK o.op= .pure∨cK o.op= .read→aQL P E h w ((execOp ρ o).run P w) out) :=by
 unfold vop at h0;unfold execOp;split at h0
 all_goals (rename_i hop;try (simp only [hop];rw [hop]at hρ))
 · -- load
   rename_i t a;obtain⟨p,hp,h0⟩ :=cH h0;have hx:=hρ _ (by simp [Op.operands]) _ hp;split at h0
   · rename_i cs;obtain⟨v,hv,rfl⟩ :=dC h0;simp only [VR]at hx;obtain⟨us,k1,k,o',C,hL,k2,k3⟩ :=hx;obtain⟨el,f,k4⟩ :=r.imm k C k2;obtain⟨cv,m1,m2⟩ :=aCx hv k1.of_p k4 k3;exact aU r (by simp [Instr.loadAt,hL,Instr.sureAddr,m1]) m2
   · rename_i b e i k;split at h0
     · rename_i e' xs hb;cases hc:beq e' e with
       |false=>rw [hc]at h0;cases h0
       | true=>
        rw [hc]at h0;simp only [cond]at h0;have:=eq_of_beq_eq_true hc;subst this;split at h0
        · rename_i x hxi;obtain⟨v,hv,rfl⟩ :=dC h0;simp only [VR]at hx;obtain⟨L,hE,hL⟩ :=hx;obtain⟨C,el,vs,o1,o2,o3,o4,o5⟩ :=r.objL hb hE;obtain⟨u,q1,q2,q3,q4⟩ :=aD3 o3 o4 o5 hxi
          obtain⟨cv,m1,m2⟩ :=aCx (w:=w) (o:=L.sh+ (i*e'+k)) hv (q2.cells.drop k) o1 (fun j hj=>by
           rw [length_drop,Array.length_toList,q3.1]at hj;rw [getElem?_drop,Array.getElem?_toList,←q4 _ (by omega)];congr 1;omega)
          exact aU r (by simp [Instr.loadAt,hL,Instr.sureAddr,m1]) m2
        ·cases h0
     ·cases h0
   ·cases h0
 · -- store
   rename_i t a x;obtain⟨p,v,hp,hxv,h0⟩ :=fL h0;have hx:=hρ _ (by simp [Op.operands]) _ hp;have hv:=hρ _ (by simp [Op.operands]) _ hxv;split at h0
   · rename_i b e i k;split at h0
     · rename_i e' xs n hb hn;cases hc: (beq e' e&&beq v.cells.length n&&ble (k+n) e&&cJ v.cells)with
       |false=>rw [hc]at h0;cases h0
       | true=>
        rw [hc]at h0;simp only [cond]at h0;simp only [and_eq_true]at hc;obtain⟨⟨⟨hc1,hc2⟩,hc3⟩,hc4⟩ :=hc;have:=eq_of_beq_eq_true hc1;subst this;have hn2:=eq_of_beq_eq_true hc2;split at h0
        · rename_i y hy;split at h0
          · rename_i y' hy';cases h0;simp only [VR]at hx;obtain⟨L,hE,hL⟩ :=hx;obtain⟨w',m1,m2,m3⟩ :=aHx (P:=P) r hb hE hy hy' hv.cells (hv.cells.ones hc4);have hcl: (ρ x).cells.size=n:=by rw [←hn2,←hv.cells.length];simp
            refine nq (by simp [cK]) ?_;exact uU (by simp [Instr.storeAt,hL,Instr.sureAddr,storeVar,bS hn,hcl,m1]) m2 m3
          ·cases h0
        ·cases h0
     ·cases h0
   ·cases h0
 · -- fieldAddr
   rename_i t x f;obtain⟨a,ha,h0⟩ :=cH h0;have hx:=hρ _ (by simp [Op.operands]) _ ha;split at h0
   · rename_i cs;split at h0
     · rename_i o' ho;cases hc:Nat.blt o' cs.length with
       |false=>rw [hc]at h0;cases h0
       | true=>
        rw [hc]at h0;simp only [cond]at h0;cases h0;simp only [VR]at hx;obtain⟨us,k1,k,a0,C,hL,k2,k3⟩ :=hx;refine aU r (cv:=.pointer (some ⟨k,a0+o',none⟩)) (by rw [hL];exact sC ho _ _) ?_;simp only [VR];refine⟨us.drop o',k1.drop o',k,a0+o',C,rfl,k2,fun j hj=>?_⟩;rw [length_drop]at hj;rw [getElem?_drop,←k3 _ (by omega)];congr 1;omega
     ·cases h0
   · rename_i b e i k;split at h0
     · rename_i o' ho;cases h0;simp only [VR]at hx;obtain⟨L,hE,hL⟩ :=hx;exact aU r (cv:=.pointer (some ⟨L.blk,L.sh+ (i*e+k) +o',none⟩)) (by rw [hL];exact sC ho _ _) (by simp only [VR];exact⟨L,hE,by congr 3;omega⟩)
     ·cases h0
   ·cases h0
 · -- indexAddr
   rename_i t x ix;obtain⟨a,b,ha,hb,h0⟩ :=fL h0;have hx:=hρ _ (by simp [Op.operands]) _ ha;have hi:=hρ _ (by simp [Op.operands]) _ hb;split at h0
   · rename_i e xs ex;cases hc:yL P t e with
     |false=>rw [hc]at h0;cases h0
     | true =>
      rw [hc]at h0;simp only [cond]at h0;obtain⟨el,hu,hsz⟩ :=wV hc;split at h0
      · rename_i k hk;split at h0
        · rename_i y hy;cases h0;obtain⟨kk,hci,hlt⟩ :=kG hk hi;simp only [VR]at hx;obtain⟨vs,k1,k2⟩ :=hx;have hvl:=k1.length;rcases k2.2 with⟨rfl,_⟩ | ⟨kb,a0,cap,C,hL,g1,g2,g3,g4⟩
          ·simp at hvl;omega
          · obtain⟨u,q1,q2⟩ :=k1.get _ _ hy;have q3:=k2.1 u (mem_of_getElem? q1);refine aU r (cv:=.pointer (some ⟨kb,a0+k*e,none⟩)) ?_ ?_
            ·simp [Instr.indexAt,hci,asIntOf,hL,aB hu,hvl,Nat.not_le.2 hlt,bS hsz,eV]
            · simp only [VR];refine⟨u.cells.toList,q2.cells,kb,a0+k*e,C,rfl,g1,fun j hj=>?_⟩;rw [Array.length_toList,q3.1]at hj;have h6:k*e+e≤vs.length*e:=by rw [←succ_mul];exact mul_le_mul_right _ (by omega)
              rw [Array.getElem?_toList,←flat_get k2.1 q1 hj,←g4 _ (by omega)];congr 1;omega
        ·cases h0
      ·cases h0
   · rename_i b' e off len ex;cases hc:yL P t e with
     |false=>rw [hc]at h0;cases h0
     | true=>
      rw [hc]at h0;simp only [cond]at h0;obtain⟨el,hu,hsz⟩ :=wV hc;split at h0
      · rename_i k hk;cases h0;obtain⟨kk,hci,hlt⟩ :=kG hk hi;simp only [VR]at hx;rcases hx with⟨rfl,_⟩ | ⟨L,a0,cap,hE,hL,g2,g3,g4⟩
        ·omega
        · obtain⟨rfl,_⟩ :=g4 (by omega);refine aU r (cv:=.pointer (some ⟨L.blk,L.sh+off*e+k*e,none⟩)) ?_ (by simp only [VR];exact⟨L,hE,by rw [add_mul];congr 3;omega⟩);simp [Instr.indexAt,hci,asIntOf,hL,aB hu,Nat.not_le.2 hlt,bS hsz,eV]
      ·cases h0
   ·cases h0
 · -- slice
   rename_i t x lo hi mx;obtain⟨a,ha,h0⟩ :=cH h0;split at h0
   · rename_i l1 l2 l3 e1 e2 e3;split at h0
     · rename_i b1 b2 b3 d1 d2 d3;obtain⟨v,hv,rfl⟩ :=dC h0;obtain⟨cv,k1,k2⟩ :=aHw (w:=w) hv (hρ _ (by simp [Op.operands]) _ ha) (rA d1 (kH hρ (fun y hy=>by subst hy;simp [Op.operands]) e1)) (rA d2 (kH hρ (fun y hy=>by subst hy;simp [Op.operands]) e2)) (rA d3 (kH hρ (fun y hy=>by subst hy;simp [Op.operands]) e3));exact aU r k1 k2
     ·cases h0
   ·cases h0
 · -- '==' on structs
   rename_i op t x y yt;obtain⟨a,b,ha,hb,h0⟩ :=fL h0;have hx:=hρ _ (by simp [Op.operands]) _ ha;have hy:=hρ _ (by simp [Op.operands]) _ hb;split at h0
   · rename_i xs ys;simp only [VR]at hx hy;obtain⟨us,hL1,q1⟩ :=hx;obtain⟨vs,hL2,q2⟩ :=hy;split at h0
     · rename_i fs hu;cases hc: (!(P.eqGuardType P.depth t) && !(P.stoodInHeld t))with
       |false=>rw [hc]at h0;cases h0
       | true=>
        rw [hc]at h0;simp only [cond]at h0;simp only [and_eq_true,not_eq_true']at hc;cases hse:kQ P fs.toList 0 xs ys with
        |none=>rw [hse]at h0;cases op<;>cases h0
        | some b'=>
         rw [hse]at h0;have:=aD4 (w:=w) 9998 hu hc.2 hse q1 q2;have: (Op.equal t (.agg ⟨us⟩) (.agg ⟨vs⟩)).run P w= .ok b' w:=this;cases op<;>simp only at h0<;>cases h0
         · refine aU r (cv:=.bool b') ?_ (by simp [VR]);simp only [hL1,hL2,Sem.run_bind,aCy hc.1,Result.andThen_ok];simp [binOp,this]
         · refine aU r (cv:=.bool (!b')) ?_ (by simp [VR]);simp only [hL1,hL2,Sem.run_bind,aCy hc.1,Result.andThen_ok];simp [binOp,this]
     ·cases h0
   ·cases h0
 · -- len, append
   rename_i c;have hm:c.args.map ρ= ⟨c.args.toList.map ρ⟩ :=by apply Array.ext';simp
   have hargs:∀ {aS},fS tm c.args.toList=some aS→VRs E aS (c.args.toList.map ρ) :=fun hh=>hρ.list (fun x hx=>by simp only [Op.operands,Call.operands,Array.mem_append];exact .inr (by simpa using hx)) hh;split at h0
   · rename_i x hcal hargs0;have ha:=hargs hargs0;obtain⟨cx,us,e1,hx,hn⟩ :=ha.cons_inv;rw [hn.nil_inv]at e1;have hcm:c.args.map ρ= #[cx] :=by rw [hm,e1]
     split at h0
     · rename_i t e xs ex ht;split at h0
       · rename_i el hu;cases h0;simp only [VR]at hx;obtain⟨vs,k1,k2⟩ :=hx;obtain⟨a,cap,rfl,_⟩ :=sE (P:=P) r k2;rw [←k1.length];have hrun: (do let d ←resolve ρ c o.type;invoke d.target d.args:Sem Next).run P w= .ok (.value (.int .i64 vs.length)) w:=by
          simp [resolve,hcal,hcm,invoke,builtin,Builtin.len_,ht,aB hu,goInt]
         have hvr:VR E (.int .i64 vs.length) (.int .i64 vs.length) :=by simp only [VR]
         exact⟨⟨E,w,_,.inl hrun,hvr,r,Ext.refl _ _ _⟩,fun _=> ⟨rfl,_,hrun,hvr⟩⟩
       ·cases h0
     · rename_i t b e off len ex ht;split at h0
       · rename_i el hu;cases h0;simp only [VR]at hx;have:∃a cap,cx= .slice a len cap:=by
          rcases hx with⟨rfl,a,rfl⟩ | ⟨L,a,cap,_,rfl,_⟩
          ·exact⟨a,0,rfl⟩
          ·exact⟨_,cap,rfl⟩
         obtain⟨a,cap,rfl⟩ :=this;have hrun: (do let d ←resolve ρ c o.type;invoke d.target d.args:Sem Next).run P w= .ok (.value (.int .i64 len)) w:=by
          simp [resolve,hcal,hcm,invoke,builtin,Builtin.len_,ht,aB hu,goInt]
         have hvr:VR E (.int .i64 len) (.int .i64 len) :=by simp only [VR]
         exact⟨⟨E,w,_,.inl hrun,hvr,r,Ext.refl _ _ _⟩,fun _=> ⟨rfl,_,hrun,hvr⟩⟩
       ·cases h0
     ·cases h0
   · rename_i s x hcal hargs0;have ha:=hargs hargs0;obtain⟨cs,us,e1,hs,hn⟩ :=ha.cons_inv;obtain⟨cx,us',e2,hx,hn'⟩ :=hn.cons_inv;rw [hn'.nil_inv]at e2;rw [e2]at e1;have hcm:c.args.map ρ= #[cs,cx] :=by rw [hm,e1]
     obtain⟨v,h',hv,rfl⟩ :=aGg h0;obtain⟨cv,w',E',k1,k2,k3,k4⟩ :=vappend_sound (ty:=o.type) r hv hs hx;refine nq (by simp [cK,hcal]) ?_;have:=jP k1 k2 k3 k4;simpa [resolve,hcal,hcm,invoke,builtin]using this
   ·cases h0
 ·cases h0
theorem sF (r:Rel E h w.heap){o:Oper}(hρ:Reads E tm ρ (· ∈o.op.operands)){out:AOut}(h0:jH P h tm o=some out) :
  Out P E h w ((execOp ρ o).run P w) out∧ (cK o.op= .pure∨cK o.op= .read→aQL P E h w ((execOp ρ o).run P w) out) :=by
 unfold jH at h0;split at h0
 ·rename_i r' hr;cases h0;exact aJW r hρ hr
 ·exact aMP r hρ h0
theorem lS (r:Rel E h w.heap){o:Oper}(hρ:Reads E tm ρ (· ∈o.op.operands)){out:AOut}(h0:jH P h tm o=some out) :Out P E h w ((execOp ρ o).run P w) out:= (sF r hρ h0).1
end
section
variable {P :Program} {E:Emb} {h h':Hp} {w w':World}
section
variable {fn :FuncId} {tmps:Array Value} {ds:List Deferred} {kd:CallKind} {ro:Option Nat} {ops:Array Oper} {i:Nat} {rest:List Nat} {k:List Item} {cs:List Frame} {o:Oper}
abbrev rf (fn:FuncId)(tmps:Array Value)(todo:List Item)(ds:List Deferred)(kd:CallKind)(ro:Option Nat) :Frame:={fn,tmps,todo,defers:=ds,mode:=.run,kind:=kd,roundOf:=ro}
theorem kJ (ho:ops[i]?=some o)(hw:Region.wanted o (yielded ops tmps) =true)(hd:ro=none∨∀c,o.op≠ .defer c) :
  stepG P true {frame:=rf fn tmps (.inRegion ops (i::rest) ::k) ds kd ro,callers:=cs,status:=.running,dying:=none} w =
   stepG.apply P true (rf fn tmps (.inRegion ops (i::rest) ::k) ds kd ro) cs none (execOp (rf fn tmps (.inRegion ops (i::rest) ::k) ds kd ro).eval o) w:=by
 simp only [stepG,stepG.exec,stepG.oper,Frame.oper?,ho,map_some,getD_some,hw,if_true];rcases hd with rfl|hd
 ·rfl
 · cases ro with
   |none=>rfl
   | some l=>
    cases hop:o.op<;>first|rfl|exact absurd hop (hd _)
theorem sG (ho:ops[i]?=some o)(hw:Region.wanted o (yielded ops tmps) =true)(hd:ro=none∨∀c,o.op≠ .defer c){v:Value}
  (hr: (execOp (rf fn tmps (.inRegion ops (i::rest) ::k) ds kd ro).eval o).run P w= .ok (.value v) w') :
  step P (lone (rf fn tmps (.inRegion ops (i::rest) ::k) ds kd ro) cs w) = .next (lone ((rf fn tmps (.inRegion ops (i::rest) ::k) ds kd ro).finish v) cs w') :=
 step_lone_go (by rw [kJ ho hw hd];simp [stepG.apply,hr])
theorem aD5 (ho:ops[i]?=some o)(hw:Region.wanted o (yielded ops tmps) =true)(hd:ro=none∨∀c,o.op≠ .defer c)
  (hr: (execOp (rf fn tmps (.inRegion ops (i::rest) ::k) ds kd ro).eval o).run P w= .ok .skip w') :
  step P (lone (rf fn tmps (.inRegion ops (i::rest) ::k) ds kd ro) cs w) = .next (lone ((rf fn tmps (.inRegion ops (i::rest) ::k) ds kd ro).finish Go.undef) cs w') :=
 step_lone_go (by rw [kJ ho hw hd];simp [stepG.apply,hr])
theorem aD6 (ho:ops[i]?=some o)(hw:Region.wanted o (yielded ops tmps) =true)(hd:ro=none∨∀c,o.op≠ .defer c){f:FuncId}{args:Array Value}
  (hr: (execOp (rf fn tmps (.inRegion ops (i::rest) ::k) ds kd ro).eval o).run P w= .ok (.enter f args) w') :
  step P (lone (rf fn tmps (.inRegion ops (i::rest) ::k) ds kd ro) cs w) = .next (lone (Frame.enter P f args .normal) (rf fn tmps (.inRegion ops (i::rest) ::k) ds kd ro::cs) w') :=
 step_lone_go (by rw [kJ ho hw hd];simp [stepG.apply,hr])
theorem aD7 (ho:ops[i]?=some o)(hw:Region.wanted o (yielded ops tmps) =true)(hd:ro=none∨∀c,o.op≠ .defer c){l:Nat}{f:FuncId}{t:Array Value}{aS bd:Code}
  (hr: (execOp (rf fn tmps (.inRegion ops (i::rest) ::k) ds kd ro).eval o).run P w= .ok (.round l f t aS bd) w') :
  step P (lone (rf fn tmps (.inRegion ops (i::rest) ::k) ds kd ro) cs w) = .next (lone (Frame.round l f t aS bd .normal) (rf fn tmps (.inRegion ops (i::rest) ::k) ds kd ro::cs) w') :=
 step_lone_go (by rw [kJ ho hw hd];simp [stepG.apply,hr])
theorem aJX (ho:ops[i]?=some o)(hw:Region.wanted o (yielded ops tmps) =true){d:Deferred}
  (hr: (execOp (rf fn tmps (.inRegion ops (i::rest) ::k) ds kd none).eval o).run P w= .ok (.defer d) w') :
  step P (lone (rf fn tmps (.inRegion ops (i::rest) ::k) ds kd none) cs w) = .next (lone ((rf fn tmps (.inRegion ops (i::rest) ::k) (d::ds) kd none).finish Go.undef) cs w') :=
 step_lone_go (by rw [kJ ho hw (.inl rfl)];simp [stepG.apply,hr])
theorem aJY (ho:ops[i]?=some o)(hw:Region.wanted o (yielded ops tmps) =true)(hd:ro=none∨∀c,o.op≠ .defer c){v:Value}
  (hr: (execOp (rf fn tmps (.inRegion ops (i::rest) ::k) ds kd ro).eval o).run P w= .halt (.panic v) w') :
  step P (lone (rf fn tmps (.inRegion ops (i::rest) ::k) ds kd ro) cs w) = .next (lone ((rf fn tmps (.inRegion ops (i::rest) ::k) ds kd ro).raise [{v,recovered:=false}]) cs w') :=
 step_lone_go (by rw [kJ ho hw hd];simp [stepG.apply,hr])
theorem aFS (ho:ops[i]?=some o)(hw:Region.wanted o (yielded ops tmps) =true){c:Frame}
  (hr: (execOp (rf fn tmps (.inRegion ops (i::rest) ::k) ds .deferred none).eval o).run P w= .ok .recover w') :
  step P (lone (rf fn tmps (.inRegion ops (i::rest) ::k) ds .deferred none) (c::cs) w) =
   (match c.mode with
    | .panicking ({v,recovered:=false,goexit:=false}::older) =>.next (lone ((rf fn tmps (.inRegion ops (i::rest) ::k) ds .deferred none).finish v) ({c with mode:=.panicking ({v,recovered:=true}::older)}::cs) w')
    |_=>.next (lone ((rf fn tmps (.inRegion ops (i::rest) ::k) ds .deferred none).finish .nilIface) (c::cs) w')) :=by
 split
 · rename_i v older hc;exact step_lone_go (by rw [kJ ho hw (.inl rfl)];simp [stepG.apply,hr,tryRecover,hc])
 · rename_i hno;refine step_lone_go ?_;rw [kJ ho hw (.inl rfl)];simp only [stepG.apply,Sem.runT_eq,if_true,hr];have:tryRecover (rf fn tmps (.inRegion ops (i::rest) ::k) ds .deferred none) (c::cs) =none:=by
    simp only [tryRecover]
   simp [this]
theorem yY (ho:ops[i]?=some o)(hw:Region.wanted o (yielded ops tmps) =false) :
  step P (lone (rf fn tmps (.inRegion ops (i::rest) ::k) ds kd ro) cs w) = .next (lone ((rf fn tmps (.inRegion ops (i::rest) ::k) ds kd ro).finish Go.undef) cs w) :=
 step_lone_go (by
  have h1: ((ops[i]?).map (Region.wanted · (yielded ops tmps))).getD false=false:=by rw [ho];simpa using hw
  simp [stepG,stepG.exec,h1])
theorem aFT (v:Value) : (rf fn tmps (.inRegion ops (i::rest) ::k) ds kd ro).finish v =
  rf fn (match(ops[i]?).bind (·.dst)with|some d=>tmps.setIfInBounds d v|none=>tmps) (.inRegion ops rest::k) ds kd ro:=rfl
theorem yZ :step P (lone (rf fn tmps (.inRegion ops [] ::k) ds kd ro) cs w) = .next (lone (rf fn tmps k ds kd ro) cs w) :=step_lone_go (by simp [stepG,stepG.exec])
theorem aYQ :step P (lone (rf fn tmps (.code .skip::k) ds kd ro) cs w) = .next (lone (rf fn tmps k ds kd ro) cs w) :=step_lone_go (by simp [stepG,stepG.exec])
theorem aTq (l:Nat) :step P (lone (rf fn tmps (.code (.label l) ::k) ds kd ro) cs w) = .next (lone (rf fn tmps k ds kd ro) cs w) :=step_lone_go (by simp [stepG,stepG.exec])
theorem aMQ (l:Nat) :step P (lone (rf fn tmps (.inBlock l::k) ds kd ro) cs w) = .next (lone (rf fn tmps k ds kd ro) cs w) :=step_lone_go (by simp [stepG,stepG.exec])
theorem aMR (c:Code) :step P (lone (rf fn tmps (.inScope c::k) ds kd ro) cs w) = .next (lone (rf fn tmps k ds kd ro) cs w) :=step_lone_go (by simp [stepG,stepG.exec])
theorem bC1 (a b:Code) :step P (lone (rf fn tmps (.code (.seq a b) ::k) ds kd ro) cs w) = .next (lone (rf fn tmps (.code a:: .code b::k) ds kd ro) cs w) :=step_lone_go (by simp [stepG,stepG.exec])
theorem aTr (id:Nat)(c:Code) :step P (lone (rf fn tmps (.code (.block id c) ::k) ds kd ro) cs w) = .next (lone (rf fn tmps (.code c:: .inBlock id::k) ds kd ro) cs w) :=step_lone_go (by simp [stepG,stepG.exec])
theorem aYR (c:Code) :step P (lone (rf fn tmps (.code (.loop c) ::k) ds kd ro) cs w) = .next (lone (rf fn tmps (.code c:: .inLoop c::k) ds kd ro) cs w) :=step_lone_go (by simp [stepG,stepG.exec])
theorem aQP (c:Code) :step P (lone (rf fn tmps (.inLoop c::k) ds kd ro) cs w) = .next (lone (rf fn tmps (.code c:: .inLoop c::k) ds kd ro) cs w) :=step_lone_go (by simp [stepG,stepG.exec])
theorem aTs (c:Code) :step P (lone (rf fn tmps (.code (.scope c) ::k) ds kd ro) cs w) = .next (lone (rf fn tmps (.code c:: .inScope c::k) ds kd ro) cs w) :=step_lone_go (by simp [stepG,stepG.exec])
theorem aPG (c:Operand)(x y:Code)(t:Bool)(h: (rf fn tmps (.code (.cond c x y) ::k) ds kd ro).eval c= .bool t) :step P (lone (rf fn tmps (.code (.cond c x y) ::k) ds kd ro) cs w) = .next (lone (rf fn tmps (.code (if t then x else y) ::k) ds kd ro) cs w) :=
 step_lone_go (by simp [stepG,stepG.exec,h])
theorem aQQ (id:Nat) :step P (lone (rf fn tmps (.code (.region id ops false) ::k) ds kd ro) cs w) = .next (lone (rf fn tmps (.inRegion ops (List.range ops.size) ::k) ds kd ro) cs w) :=step_lone_go (by simp [stepG,stepG.exec])
theorem aYS (id:Nat) :step P (lone (rf fn tmps (.code (.region id ops true) ::k) ds kd ro) cs w) =
  .next (lone (rf fn tmps (.inRegion ops (Region.schedule (P.follows .mixedOrders) ops (w.tape w.drawn (.order fn id))) ::k) ds kd ro) cs {w with drawn:=w.drawn+1}) :=
 step_lone_go (by simp [stepG,stepG.exec,choose,Sem.run,Question.forced,Question.cut])
theorem aYT (id:Nat){k':List Item}(h:exitTo id k=some k') :step P (lone (rf fn tmps (.code (.exit id) ::k) ds kd ro) cs w) = .next (lone (rf fn tmps k' ds kd ro) cs w) :=step_lone_go (by simp [stepG,stepG.exec,h])
theorem aYU (l:Nat){k':List Item}(h:gotoIn l k=some k') :step P (lone (rf fn tmps (.code (.goto l) ::k) ds kd ro) cs w) = .next (lone (rf fn tmps k' ds kd ro) cs w) :=step_lone_go (by simp [stepG,stepG.exec,h])
theorem bC2 :step P (lone (rf fn tmps [] ds kd none) cs w) = .next (lone {rf fn tmps [] ds kd none with mode:=.returning} cs w) :=step_lone_go (by simp [stepG,stepG.exec])
theorem bC3 :step P (lone (rf fn tmps (.code .ret::k) ds kd none) cs w) = .next (lone {rf fn tmps (.code .ret::k) ds kd none with mode:=.returning} cs w) :=step_lone_go (by simp [stepG,stepG.exec])
theorem aFU {l:Nat}(h: (Instr.beginRound l).run P w= .ok () w') :step P (lone (rf fn tmps (.beginRound::k) ds kd (some l)) cs w) = .next (lone (rf fn tmps k ds kd (some l)) cs w') :=
 step_lone_go (by simp [stepG,stepG.exec,stepG.apply,h,Frame.finish])
theorem aTt {l:Nat}{jump:Option Code}(h: (Instr.endLoop l).run P w= .ok jump w') :step P (lone (rf fn tmps (.endRangeFunc l::k) ds kd ro) cs w) = .next (lone (rf fn tmps ((jump.map Item.code).toList++k) ds kd ro) cs w') :=
 step_lone_go (by simp [stepG,stepG.exec,h])
def handed (fr c:Frame)(v:Value) :Frame:=
 match fr.kind with
 | .normal=>c.finish v
 |_=>{c with mode:=settle c.mode}
theorem gJ {fr c:Frame}{v:Value}(hk:fr.kind= .normal∨fr.kind= .deferred) :
  (doReturn P true fr (c::cs) none v w).bare= .go {frame:=handed fr c v,callers:=cs,status:=.running,dying:=none} w:=by
 rcases hk with hk|hk
 ·simp [doReturn,hk,handed]
 · simp only [doReturn,hk,handed,settle];split<;> (try split) <;>simp_all
theorem vD {jump:Option Code}{l:Nat}{todo:List Item}{c:Frame}{v:Value}(hk:kd= .normal∨kd= .deferred)
  (ht: (todo= [] ∧jump=none) ∨ (∃k,todo= .code .ret::k∧jump=some .ret) ∨ (∃id k,todo= .code (.exit id) ::k∧jump=some (.exit id) ∧exitTo id k=none) ∨ (∃t k,todo= .code (.goto t) ::k∧jump=some (.goto t) ∧gotoIn t k=none))
  (h: (Instr.endRound l jump).run P w= .ok v w') :
  step P (lone (rf fn tmps todo ds kd (some l)) (c::cs) w) = .next (lone (handed (rf fn tmps todo ds kd (some l)) c v) cs w') :=by
 refine step_lone_go ?_;rcases ht with⟨rfl,rfl⟩ | ⟨k,rfl,rfl⟩ | ⟨id,k,rfl,rfl,hx⟩ | ⟨t,k,rfl,rfl,hx⟩
 ·simp only [stepG,stepG.exec,Sem.runT_eq,h,GStep.bare_after];exact gJ hk
 ·simp only [stepG,stepG.exec,Sem.runT_eq,h,GStep.bare_after];exact gJ hk
 ·simp only [stepG,stepG.exec,hx,elim,Sem.runT_eq,h,GStep.bare_after];exact gJ hk
 ·simp only [stepG,stepG.exec,hx,elim,Sem.runT_eq,h,GStep.bare_after];exact gJ hk
theorem aJZ {fr c:Frame}{v:Value}{fd:Func}(hm:fr.mode= .returning)(hd:fr.defers= [])(hf:P.funcs[fr.fn]?=some fd)(hr: (results fd fr.tmps).run P w= .ok v w)(hk:fr.kind= .normal∨fr.kind= .deferred) :
  step P (lone fr (c::cs) w) = .next (lone (handed fr c v) cs w) :=
 step_lone_go (by
  simp only [stepG,unwind,hm,hd,hf,Sem.runT_eq,hr,GStep.bare_after];exact gJ hk)
theorem vE {fr c:Frame}{chain:List PanicEntry}{fd:Func}(hm:fr.mode= .panicking chain)(hd:fr.defers= [])(hf:P.funcs[fr.fn]?=some fd) :
  step P (lone fr (c::cs) w) = .next (lone (c.raise chain) cs w) :=
 step_lone_go (by simp [stepG,unwind,hm,hd,Frame.catches,hf])
theorem aCz {fr:Frame}{f:FuncId}{cap args:Array Value}{ds:List Deferred}(hm:fr.mode≠ .run)(hd:fr.defers= {target:=.fn (.func f) cap,args}::ds)(hc:eH P f=true) :
  step P (lone fr cs w) = .next (lone (Frame.enter P f (args++cap) .deferred) ({fr with defers:=ds}::cs) w) :=
 step_defer (P:=P) hm hd rfl (by simp [invoke,nJ hc])
theorem aAK {fr:Frame}{b:Nat}{ds cl:List Deferred}(hm:fr.mode≠ .run)(hd:fr.defers= {target:=.collected b,args:= #[]}::ds)(hr: (Instr.takeDeferred b).run P w= .ok cl w') :
  step P (lone fr cs w) = .next (lone {fr with defers:=cl++ds} cs w') :=
 step_lone_go (by
  cases h:fr.mode with
  |run=>exact absurd h hm
  |returning=>simp [stepG,unwind,h,hd,hr]
  |panicking c=>simp [stepG,unwind,h,hd,hr])
theorem aHz {g:Operand}{ps:Array Tmp}{assign body:Code}{l:Nat}{mark:List Deferred}{w₁ w₁' w₂:World}{d:Deferred}{nx:Next}{G:Frame}
  (he: (Instr.enterLoop fn tmps ps assign body ro).run P w= .ok (l,mark) w₁)
  (hres: (resolve (rf fn tmps (.inRangeFunc l::k) (mark++ds) kd ro).eval {callee:=.value g,args:= #[.const (.func (.yield l) #[] #[])],argTypes:= #[]} 0).run P w₁= .ok d w₁')
  (hinv: (invoke d.target d.args).run P w₁'= .ok nx w₂)
  (hG: (∃f args,nx= .enter f args∧G=Frame.enter P f args .normal) ∨ (∃l f t aS bd,nx= .round l f t aS bd∧G=Frame.round l f t aS bd .normal)) :
  step P (lone (rf fn tmps (.code (.rangeFunc g ps assign body) ::k) ds kd ro) cs w) = .next (lone G (rf fn tmps (.inRangeFunc l::k) (mark++ds) kd ro::cs) w₂) :=by
 refine step_lone_go ?_;rcases hG with⟨f,args,rfl,rfl⟩ | ⟨l',f,t,aS,bd,rfl,rfl⟩
 ·simp [stepG,stepG.exec,he,stepG.apply,hres,hinv]
 ·simp [stepG,stepG.exec,he,stepG.apply,hres,hinv]
end
theorem TR.put {tm:T AV}{nt:Nat}{tmps:Array Value}(r:TR E tm nt tmps){d:Nat}(hd:d<nt){a:AV}{v:Value}(hv:VR E a v) :TR E (tm.put d a) nt (tmps.setIfInBounds d v) :=by
 refine⟨by simp [r.1],fun t b hb=>?_⟩;rw [T.at_put]at hb;by_cases ht:t=d
 · subst ht;rw [if_pos rfl]at hb;cases hb;exact⟨v,by simp [r.1,hd],hv⟩
 · rw [if_neg ht]at hb;rw [Array.getElem?_setIfInBounds_ne (fun e=>ht e.symm)];exact r.2 t b hb
def zU (dst:Option Nat)(v:Value)(tmps:Array Value) :Array Value:=match dst with|some d=>tmps.setIfInBounds d v|none=>tmps
theorem zV {tm tm':T AV}{nt:Nat}{tmps:Array Value}(r:TR E tm nt tmps){dst:Option Nat}{a:AV}{v:Value}(h0:gG tm nt dst a=some tm')(hv:VR E a v) :TR E tm' nt (zU dst v tmps) :=by
 unfold gG at h0;split at h0
 ·cases h0;exact r
 · rename_i d;rw [cO]at h0;by_cases hd:d<nt
   ·simp only [hd,decide_true,cond]at h0;cases h0;exact r.put hd hv
   ·simp only [hd,decide_false,cond]at h0;cases h0
theorem VR.not_bool {a:AV}{v:Value}(hv:VR E a v)(ha:∀b,a≠ .bool b)(ha2:∀u,a≠ .val u) :∀b,v≠ .bool b:=by
 intro b e;subst e;cases a<;>simp only [VR]at hv
 case bool b'=>exact ha b' rfl
 case val u=>exact ha2 u rfl
 case ilst=>obtain⟨vs,_,hv⟩ :=hv;rcases hv.2 with⟨_,_,_,hL,_⟩ | ⟨_,_,_,_,hL,_⟩ <;>cases hL
 case iptr=>obtain⟨us,_,_,_,_,hL,_⟩ :=hv;cases hL
 case gl=>rcases hv with⟨_,_,hL⟩ | ⟨_,_,_,_,hL,_⟩ <;>cases hL
 all_goals (first
  | (cases hv;done)
  | (obtain⟨_,_,hv⟩ :=hv;cases hv;done)
  | (obtain⟨_,_,_,_,hv,_⟩ :=hv;cases hv;done)
  | (obtain⟨_,_,hv,_⟩ :=hv;cases hv;done)
  | (obtain⟨_,hv,_⟩ :=hv;cases hv;done))
theorem vF {tm:T AV}{tmps:Array Value}{ops:Array Oper}{j:Nat}(r:∀o,ops[j]?=some o→∀t,o.dst=some t→∀a,tm.at t=some a→∃v,tmps[t]?=some v∧VR E a v){b:Option Bool}(h0:aHe tm ops.toList j=some b) :yielded ops tmps j=b:=by
 unfold aHe at h0;unfold yielded;rw [Array.getElem?_toList]at h0;split at h0
 ·rename_i ho;cases h0;simp [ho]
 · rename_i o ho;split at h0
   ·rename_i hd;cases h0;simp [ho,hd]
   · rename_i d hd;split at h0
     · rename_i b' hb;cases h0;obtain⟨v,h1,h2⟩ :=r _ ho _ hd _ hb;simp only [VR]at h2;simp [ho,hd,h1,h2]
     ·cases h0
     · rename_i a hb hb2 ha;cases h0;obtain⟨v,h1,h2⟩ :=r _ ho _ hd _ ha;have:=h2.not_bool (fun b e=>by subst e;exact hb b rfl) (fun b e=>by subst e;exact hb2 b rfl);simp only [ho,hd,bind_some,h1];cases v<;>first|rfl|exact absurd rfl (this _)
     ·cases h0
theorem vG {tm:T AV}{tmps:Array Value}{ops:Array Oper}{o:Oper}(r:∀g want,o.guard=some (g,want) →∀o',ops[g]?=some o'→∀t,o'.dst=some t→∀a,tm.at t=some a→∃v,tmps[t]?=some v∧VR E a v){b:Bool}(h0:bP tm ops.toList o=some b) :Region.wanted o (yielded ops tmps) =b:=by
 unfold bP at h0;unfold Region.wanted;split at h0
 ·rename_i hg;cases h0;rw [hg]
 · rename_i j want hg;rw [hg];simp only;split at h0
   ·cases h0
   · rename_i hb;cases h0;rw [vF (r j want hg) hb];rfl
   · rename_i b' hb;cases h0;rw [vF (r j want hg) hb];rfl
theorem zA {tm:T AV}{nt:Nat}{tmps:Array Value}(r:TR E tm nt tmps){ops:Array Oper}{o:Oper}{b:Bool}(h0:bP tm ops.toList o=some b) :Region.wanted o (yielded ops tmps) =b:=
 vG (fun _ _ _ _ _ t _ a ha=>r.2 t a ha) h0
theorem TR.reads {tm:T AV}{nt:Nat}{tmps:Array Value}(r:TR E tm nt tmps)(fn:FuncId)(todo:List Item)(ds:List Deferred)(kd:CallKind)(ro:Option Nat)(S:Operand→Prop) :Reads E tm (rf fn tmps todo ds kd ro).eval S:=by
 intro x _ a ha;cases x with
 | tmp t=>
  simp only [bI]at ha;obtain⟨v,h1,h2⟩ :=r.2 t a ha;simp only [Frame.eval,Array.getD_eq_getD_getElem?,h1];exact h2
 |const v=>exact aDT ha E
 |global g=>cases ha
 |func f=>simp only [bI]at ha;cases ha;simp only [Frame.eval,VR];exact⟨[],[],rfl,VRs.nil E,VRs.nil E⟩
def IR (E:Emb) :AItem→Item→Prop
 | .code c,i=>i= .code c
 | .inBlock id,i=>i= .inBlock id
 | .inLoop c,i=>i= .inLoop c
 | .inScope c,i=>i= .inScope c
 | .ops all k rest,i=>i= .inRegion all (List.range' k rest.length) ∧rest=all.toList.drop k
 | .inRF l,i=>∃L,E l=some L∧i= .inRangeFunc L.blk
 | .endRF l,i=>∃L,E l=some L∧i= .endRangeFunc L.blk
 | .beginRound,i=>i= .beginRound
 | .junk,i=>∃all l,i= .inRegion all l
def IRs (E:Emb) :List AItem→List Item→Prop
 | [],is=>is= []
 |a::aS,is=>∃i is',is=i::is'∧IR E a i∧IRs E aS is'
theorem IR.mono {E E':Emb}(h:E.le E'){a:AItem}{i:Item}(r:IR E a i) :IR E' a i:=by
 cases a<;>simp only [IR]at r ⊢ <;>first|exact r| (obtain⟨L,h1,h2⟩ :=r;exact⟨L,h.1 _ _ h1,h2⟩)
theorem IRs.mono {E E':Emb}(h:E.le E') :∀ {aS:List AItem} {is:List Item},IRs E aS is→IRs E' aS is
 | [],_,r=>by simpa [IRs]using r
 |_::_,_,r=>by simp only [IRs]at r ⊢;obtain⟨i,is',h1,h2,h3⟩ :=r;exact⟨i,is',h1,h2.mono h,h3.mono h⟩
theorem IRs.cons {a:AItem}{i:Item}{aS:List AItem}{is:List Item}(h1:IR E a i)(h2:IRs E aS is) :IRs E (a::aS) (i::is) :=by simp only [IRs];exact⟨i,is,rfl,h1,h2⟩
theorem IRs.cons_inv {a:AItem}{aS:List AItem}{is:List Item}(h:IRs E (a::aS) is) :∃i is',is=i::is'∧IR E a i∧IRs E aS is':=by simpa only [IRs]using h
theorem IRs.nil_inv {is:List Item}(h:IRs E [] is) :is= [] :=by simpa only [IRs]using h
def DRs (E:Emb) :List ADef→List Deferred→Prop
 | [],ds=>ds= []
 |a::aS,ds=>∃d ds',ds=d::ds'∧DR E a d∧DRs E aS ds'
theorem DRs.mono {E E':Emb}(h:E.le E') :∀ {aS:List ADef} {is:List Deferred},DRs E aS is→DRs E' aS is
 | [],_,r=>by simpa [DRs]using r
 |_::_,_,r=>by simp only [DRs]at r ⊢;obtain⟨i,is',h1,h2,h3⟩ :=r;exact⟨i,is',h1,h2.mono h,h3.mono h⟩
theorem DRs.cons {a:ADef}{d:Deferred}{aS:List ADef}{ds:List Deferred}(h1:DR E a d)(h2:DRs E aS ds) :DRs E (a::aS) (d::ds) :=by simp only [DRs];exact⟨d,ds,rfl,h1,h2⟩
theorem DRs.cons_inv {a:ADef}{aS:List ADef}{ds:List Deferred}(h:DRs E (a::aS) ds) :∃d ds',ds=d::ds'∧DR E a d∧DRs E aS ds':=by simpa only [DRs]using h
theorem DRs.nil_inv {ds:List Deferred}(h:DRs E [] ds) :ds= [] :=by simpa only [DRs]using h
def CR (E:Emb) :List (AV×Bool) →List PanicEntry→Prop
 | [],ps=>ps= []
 |a::aS,ps=>∃v ps',ps= {v,recovered:=a.2}::ps'∧VR E a.1 v∧CR E aS ps'
theorem CR.mono {E E':Emb}(h:E.le E') :∀ {aS:List (AV×Bool)} {is:List PanicEntry},CR E aS is→CR E' aS is
 | [],_,r=>by simpa [CR]using r
 |_::_,_,r=>by simp only [CR]at r ⊢;obtain⟨i,is',h1,h2,h3⟩ :=r;exact⟨i,is',h1,h2.mono h,h3.mono h⟩
theorem CR.append :∀ {aS bs:List (AV×Bool)} {is js:List PanicEntry},CR E aS is→CR E bs js→CR E (aS++bs) (is++js)
 | [],_,_,_,h,k=>by simp only [CR]at h;subst h;exact k
 |_::_,_,_,_,h,k=>by simp only [CR]at h;obtain⟨v,ps,rfl,h1,h2⟩ :=h;simp only [List.cons_append,CR];exact⟨v,_,rfl,h1,h2.append k⟩
def MR (E:Emb) :AMode→FrameMode→Prop
 | .run,m=>m= .run
 | .ret,m=>m= .returning
 | .pan chain,m=>∃ps,m= .panicking ps∧CR E chain ps
theorem MR.mono {E E':Emb}(h:E.le E'){a:AMode}{m:FrameMode}(r:MR E a m) :MR E' a m:=by
 cases a<;>simp only [MR]at r ⊢ <;>first|exact r| (obtain⟨ps,h1,h2⟩ :=r;exact⟨ps,h1,h2.mono h⟩)
def RR (E:Emb) :Option Nat→Option Nat→Prop
 |none,o=>o=none
 |some l,o=>∃L,E l=some L∧o=some L.blk
theorem RR.mono {E E':Emb}(h:E.le E'){a b:Option Nat}(r:RR E a b) :RR E' a b:=by
 cases a<;>simp only [RR]at r ⊢ <;>first|exact r| (obtain⟨L,h1,h2⟩ :=r;exact⟨L,h.1 _ _ h1,h2⟩)
structure FR (E:Emb) (a:AFrame) (c:Frame) :Prop where
 fn:c.fn=a.fn
 tm:TR E a.tm a.nt c.tmps
 todo:IRs E a.todo c.todo
 defers:DRs E a.defers c.defers
 mode:MR E a.mode c.mode
 kind:c.kind=a.kind
 round:RR E a.roundOf c.roundOf
theorem FR.mono {E E':Emb}(h:E.le E'){a:AFrame}{c:Frame}(r:FR E a c) :FR E' a c:=
 ⟨r.fn,r.tm.mono h,r.todo.mono h,r.defers.mono h,r.mode.mono h,r.kind,r.round.mono h⟩
def FRs (E:Emb) :List AFrame→List Frame→Prop
 | [],cs=>cs= []
 |a::aS,cs=>∃c cs',cs=c::cs'∧FR E a c∧FRs E aS cs'
theorem FRs.mono {E E':Emb}(h:E.le E') :∀ {aS:List AFrame} {is:List Frame},FRs E aS is→FRs E' aS is
 | [],_,r=>by simpa [FRs]using r
 |_::_,_,r=>by simp only [FRs]at r ⊢;obtain⟨i,is',h1,h2,h3⟩ :=r;exact⟨i,is',h1,h2.mono h,h3.mono h⟩
theorem FRs.cons {a:AFrame}{c:Frame}{aS:List AFrame}{cs:List Frame}(h1:FR E a c)(h2:FRs E aS cs) :FRs E (a::aS) (c::cs) :=by simp only [FRs];exact⟨c,cs,rfl,h1,h2⟩
theorem FRs.cons_inv {a:AFrame}{aS:List AFrame}{cs:List Frame}(h:FRs E (a::aS) cs) :∃c cs',cs=c::cs'∧FR E a c∧FRs E aS cs':=by simpa only [FRs]using h
theorem FRs.nil_inv {cs:List Frame}(h:FRs E [] cs) :cs= [] :=by simpa only [FRs]using h
theorem aMS (args:List AV)(i:Nat) : (dA .leaf 0 args).at i=if i<args.length then args[i]? else none:=aY args i
theorem iT {f:Nat}{args:List AV}{cargs:List Value}{kd:CallKind}{g:AFrame}(h0:cL P f args kd=some g)(ha:VRs E args cargs) :FR E g (Frame.enter P f ⟨cargs⟩ kd) :=by
 unfold cL at h0;split at h0
 · rename_i fn hf;split at h0
   · rename_i c hb;cases h0;have hlen:=ha.length;refine⟨by simp [Frame.enter],⟨?_,fun t a hta=>?_⟩,?_,by simp [Frame.enter,DRs],by simp [Frame.enter,MR],by simp [Frame.enter],by simp [Frame.enter,RR]⟩
     ·simp [Frame.enter,hf,hlen];omega
     · rw [aMS]at hta;split at hta
       · rename_i ht;obtain⟨v,h1,h2⟩ :=ha.get _ _ hta;refine⟨v,?_,h2⟩;simp only [Frame.enter];rw [Array.getElem?_append_left (by simp;omega)];rw [show(⟨cargs⟩ :Array Value) =cargs.toArray from rfl,getElem?_toArray];exact h1
       ·cases hta
     · simp only [Frame.enter,hf,hb,bind_some,getD_some];exact IRs.cons rfl (by simp [IRs])
   ·cases h0
 ·cases h0
theorem uK {nt:Nat}:∀ {ps:List Nat} {args:List AV} {cargs:List Value} {tm tm':T AV} {tmps:Array Value},lN tm nt ps args=some tm'→VRs E args cargs→TR E tm nt tmps →
  ps.length=cargs.length∧TR E tm' nt ((ps.zip cargs).foldl (fun tmps (p:Nat×Value) =>tmps.setIfInBounds p.1 p.2) tmps)
 | [],args,cargs,tm,tm',tmps,h0,ha,r=>by
  cases args with
  |nil=>simp [lN]at h0;subst h0;rw [ha.nil_inv];exact⟨rfl,r⟩
  |cons a aS=>simp [lN]at h0
 | p ::ps,args,cargs,tm,tm',tmps,h0,ha,r=>by
  cases args with
  |nil=>simp [lN]at h0
  | cons a aS=>
   obtain⟨v,vs,rfl,h1,h2⟩ :=ha.cons_inv;simp only [lN,cO]at h0;by_cases hp:p<nt
   · simp only [hp,decide_true,cond]at h0;obtain⟨g1,g2⟩ :=uK h0 h2 (r.put hp h1);exact⟨by simp [g1],by simpa using g2⟩
   ·simp only [hp,decide_false,cond]at h0;cases h0
theorem run_getLoop {l:Nat}{L:Loop}(hl:w.heap[l]?=some (.loop L)) : (Instr.getLoop l).run P w= .ok L w:=by
 simp [Instr.getLoop,getObj,Sem.run,hl]
theorem aBM (r:Rel E h w.heap){l:Nat}{args:List AV}{cargs:List Value}{g:AFrame}(h0:zQ h l args=some g){L:Loc}(hE:E l=some L)(ha:VRs E args cargs) :
  ∃fn tmps aS bd,(Instr.yield L.blk ⟨cargs⟩).run P w= .ok (.round L.blk fn tmps aS bd) w∧FR E g (Frame.round L.blk fn tmps aS bd .normal) :=by
 unfold zQ at h0;split at h0
 · rename_i st pe fn tm nt ps aS bd df hl;split at h0
   · rename_i tm' htm;cases h0;obtain⟨L',g1,tmps,Ld,g2,g3,g4⟩ :=r.obj _ _ hl;rw [hE]at g1;cases g1;obtain⟨k1,k2⟩ :=uK htm ha g4;refine⟨fn,_,aS,bd,?_,⟨rfl,k2,?_,by simp [Frame.round,DRs],by simp [Frame.round,MR],rfl,by simp only [Frame.round,RR];exact⟨L,hE,rfl⟩⟩⟩
     · have hs: (⟨cargs⟩ :Array Value).size= (⟨ps⟩ :Array Tmp).size:=by simp [k1]
       simp only [Instr.yield,Sem.run_bind,run_getLoop g2,Result.andThen_ok];rw [if_neg (by simp [hs])];simp only [Sem.run_pure];congr 2;rw [←Array.foldl_toList];simp
     ·exact IRs.cons rfl (IRs.cons rfl (IRs.cons rfl (by simp [IRs])))
   ·cases h0
 ·cases h0
theorem qM (r:Rel E h w.heap){c:AIn}{g:AFrame}(h0:dB P h c=some g){s:Sem Next}(hs:Out P E h w (s.run P w) (.call c)) :
  ∃nx G,s.run P w= .ok nx w∧ ((∃f args,nx= .enter f args∧G=Frame.enter P f args .normal) ∨ (∃l f t aS bd,nx= .round l f t aS bd∧G=Frame.round l f t aS bd .normal)) ∧FR E g G:=by
 cases c with
 | enter f args=>
  obtain⟨cargs,h1,h2⟩ :=hs;exact⟨_,_,h1,.inl ⟨f,_,rfl,rfl⟩,iT h0 h2⟩
 | round l args=>
  obtain⟨cargs,L,h1,h2,h3⟩ :=hs;obtain⟨fn,tmps,aS,bd,k1,k2⟩ :=aBM (P:=P) r h0 h1 h2;exact⟨_,_,h3.trans k1,.inr ⟨_,_,_,_,_,rfl,rfl⟩,k2⟩
theorem zB (bs:List Nat)(j:Nat) :∀es:List Edge,testBit (eS bs es) j=true↔∃e∈es,Region.binds .any e=true∧ (j=e.on∨testBit (bs.getD e.on 0) j=true)
 | [] =>by simp [eS]
 | e :: es=>by
  have ih:=zB bs j es;simp only [eS];cases hb:Region.binds .any e with
  | false=>
   simp only [cond,ih,mem_cons];constructor
   ·rintro⟨x,h1,h2⟩;exact⟨x,.inr h1,h2⟩
   · rintro⟨x,rfl|h1,h2⟩
     ·rw [hb]at h2;cases h2.1
     ·exact⟨x,h1,h2⟩
  | true=>
   simp only [cond];show testBit ((2 ^ e.on ||| bs.getD e.on 0) ||| eS bs es) j=true↔_;simp only [Nat.testBit_or,Nat.testBit_two_pow,or_eq_true,decide_eq_true_eq,ih,mem_cons];constructor
   · rintro((h1|h1) | ⟨x,h1,h2⟩)
     ·exact⟨e,.inl rfl,hb,.inl h1.symm⟩
     ·exact⟨e,.inl rfl,hb,.inr h1⟩
     ·exact⟨x,.inr h1,h2⟩
   · rintro⟨x,rfl|h1,h2,h3⟩
     · rcases h3 with h3|h3
       ·exact .inl (.inl h3.symm)
       ·exact .inl (.inr h3)
     ·exact .inr ⟨x,h1,h2,h3⟩
theorem aAL :∀ (l:List Oper) (acc:List Nat),(kR l acc).length=acc.length+l.length∧ (kR l acc).take acc.length=acc ∧
  ∀i o,l[i]?=some o→ (kR l acc)[acc.length+i]?=some (eS ((kR l acc).take (acc.length+i)) o.after.toList)
 | [],acc=>by simp [kR]
 | o ::l,acc=>by
  obtain⟨h1,h2,h3⟩ :=aAL l (acc++ [eS acc o.after.toList]);simp only [kR];simp only [length_append,length_cons,length_nil]at h1 h2 h3;refine⟨by rw [h1];simp;omega,?_,fun i x hx=>?_⟩
  · have:=congrArg (take acc.length) h2;rw [List.take_take]at this;rw [show min acc.length (acc.length+ (0+1)) =acc.length by omega]at this;rw [this];simp
  · cases i with
    | zero=>
     simp at hx;subst hx;have e1:=congrArg (fun z=>z[acc.length]?) h2;simp only [getElem?_take]at e1;rw [if_pos (by omega)]at e1;have e2:=congrArg (take acc.length) h2;rw [List.take_take,show min acc.length (acc.length+ (0+1)) =acc.length by omega]at e2;rw [add_zero,e1,e2];simp
    | succ i=>
     have:=h3 i x (by simpa using hx);rw [show acc.length+ (i+1) =acc.length+ (0+1) +i by omega];exact this
def bsOf (l:List Oper) :List Nat:=kR l []
theorem bGd {l:List Oper}{i:Nat}{o:Oper}(ho:l[i]?=some o)(j:Nat) :
  testBit ((bsOf l).getD i 0) j=true↔∃e∈o.after.toList,Region.binds .any e=true∧ (j=e.on∨ (e.on<i∧testBit ((bsOf l).getD e.on 0) j=true)) :=by
 obtain⟨h1,_,h3⟩ :=aAL l [];have:=h3 i o ho;simp only [length_nil,zero_add]at this;rw [getD_eq_getElem?_getD,show bsOf l=kR l []from rfl,this];simp only [getD_some,zB];constructor
 · rintro⟨e,k1,k2,k3⟩
   refine⟨e,k1,k2,k3.imp id fun k3=>?_⟩;rw [getD_eq_getElem?_getD,getElem?_take]at k3;by_cases he:e.on<i
   ·rw [if_pos he]at k3;exact⟨he,by rw [getD_eq_getElem?_getD];exact k3⟩
   ·rw [if_neg he]at k3;simp at k3
 · rintro⟨e,k1,k2,k3⟩
   refine⟨e,k1,k2,k3.imp id fun k3=>?_⟩;rw [getD_eq_getElem?_getD,getElem?_take,if_pos k3.1,←getD_eq_getElem?_getD];exact k3.2
def Met (D:Nat→Prop)(o:Oper) :Prop:=∀e∈o.after.toList,Region.binds .any e=true→D e.on
def Closed (l:List Oper)(D:Nat→Prop) :Prop:=∀i o,l[i]?=some o→D i→Met D o
theorem kK {l:List Oper}{D:Nat→Prop}(hD:Closed l D)(hlt:∀i,D i→i<l.length) :∀ (n i:Nat),i<n→∀o,l[i]?=some o→Met D o→∀j,testBit ((bsOf l).getD i 0) j=true→D j:=by
 intro n
 induction n with
 |zero=>intro i hi;omega
 | succ n ih=>
  intro i hi o ho hm j hj;obtain⟨e,k1,k2,k3⟩ := (bGd ho j).1 hj;have hde:=hm e k1 k2;rcases k3 with rfl| ⟨k3,k4⟩
  ·exact hde
  · have hlt':=hlt _ hde;have ho':l[e.on]?=some (l[e.on]'hlt') :=by simp
    exact ih e.on (by omega) _ ho' (hD _ _ ho' hde) j k4
theorem vH {md:Region.Mode}{n:Nat}{rk:List Nat}{i:Nat}:∀ {es:List Edge},wR md n rk i es=true→∀e∈es,Region.binds md e=true→e.on<n∧rk.getD e.on 0<rk.getD i 0
 | [],_,e,he,_=>by cases he
 | x :: xs, h,e,he,hb=>by
  simp only [wR,and_eq_true,or_eq_true,not_eq_true',cO,decide_eq_true_eq]at h;cases he with
  | head => rcases h.1 with h1|h1
            ·rw [hb]at h1;cases h1
            ·exact h1
  |tail _ he=>exact vH h.2 e he hb
theorem vI {md:Region.Mode}{n:Nat}{rk:List Nat}:∀ {l:List Oper} {k:Nat},rW md n rk l k=true→∀i o,l[i]?=some o→∀e∈o.after.toList,Region.binds md e=true→e.on<n∧rk.getD e.on 0<rk.getD (k+i) 0
 | [],_,_,i,o,ho=>by simp at ho
 | x::xs,k,h,i,o,ho=>by
  simp only [rW,and_eq_true]at h;cases i with
  |zero=>simp at ho;subst ho;exact vH h.1
  | succ i=>
   have:=vI h.2 i o (by simpa using ho);rwa [show Nat.succ k+i=k+ (i+1)by omega]at this
theorem ready_nil {md:Region.Mode}{ops:Array Oper}{rk:List Nat}(hrk:rW md ops.size rk ops.toList 0=true){listed:Array Bool}(hsz:listed.size=ops.size)(h0:Region.ready md ops listed= []) :
  ∀i,i<ops.size→listed.getD i true=true:=by
 have key:∀ (m i:Nat),i<ops.size→rk.getD i 0<m→listed.getD i true=true:=by
  intro m
  induction m with
  |zero=>intro i _ h;omega
  | succ m ih=>
   intro i hi hr;cases hl:listed.getD i true with
   |true=>rfl
   | false=>
    exfalso;have:i∈Region.ready md ops listed:=by
     unfold Region.ready;rw [List.mem_filter];refine⟨by simpa using hi,?_⟩;have ho:ops[i]?=some ops[i] :=by simp [hi]
     simp only [hl,Bool.not_false,Bool.true_and,ho,map_some,getD_some];rw [Array.all_eq_true];intro x hx;have hmem:ops[i].after[x] ∈ops[i].after.toList:=by simp
     cases hb:Region.binds md ops[i].after[x]with
     |false=>rfl
     | true=>
      have:=vI hrk i ops[i] (by simp [hi]) _ hmem hb;rw [zero_add]at this;have h2:=ih _ this.1 (by omega);simp only [Bool.not_true,Bool.false_or];have hlt:ops[i].after[x].on<listed.size:=by rw [hsz];exact this.1
      rw [Array.getD_eq_getD_getElem?]at h2 ⊢;rw [Array.getElem?_eq_getElem hlt]at h2 ⊢;exact h2
    rw [h0]at this;cases this
 intro i hi;exact key _ i hi (Nat.lt_succ_self _)
theorem aMT {md:Region.Mode}{ops:Array Oper}{listed:Array Bool}{i:Nat}(h0:i∈Region.ready md ops listed) :
  i<ops.size∧listed.getD i true=false∧∃o,ops[i]?=some o∧∀e∈o.after.toList,Region.binds md e=true→listed.getD e.on false=true:=by
 unfold Region.ready at h0;rw [List.mem_filter]at h0;obtain⟨h1,h2⟩ :=h0;simp only [List.mem_range]at h1;have ho:ops[i]?=some ops[i] :=by simp [h1]
 rw [ho]at h2;simp only [map_some,getD_some,and_eq_true,not_eq_true',Array.all_eq_true]at h2;refine⟨h1,h2.1,ops[i],ho,fun e he hb=>?_⟩;obtain⟨x,hx,rfl⟩ :=List.getElem_of_mem he;have:=h2.2 x (by simpa using hx);rw [Array.getElem_toList]at hb;rw [hb]at this;simpa using this
theorem aQR {md:Region.Mode}{e:Edge}(h:Region.binds .any e=true) :Region.binds md e=true:=by
 unfold Region.binds at h ⊢;cases hg:e.ground<;>simp_all<;>exact absurd h (by decide)
def sH (l:List Oper)(i:Nat)(o:Oper) :Plan:={o,kd:=cK o.op,lo:=aHf ((bsOf l).getD i 0) (eT l 0) 0,hi:=yM (bsOf l) i (eT l 0) 0}
theorem aCA (bs es:List Nat) :∀ (l:List Oper) (k i:Nat),(pO bs es l k)[i]?= (l[i]?).map fun o=>{o,kd:=cK o.op,lo:=aHf (bs.getD (k+i) 0) es 0,hi:=yM bs (k+i) es 0}
 | [],k,i=>by simp [pO]
 | o::l,k,i=>by
  cases i with
  |zero=>simp [pO]
  |succ i=>simp only [pO,List.getElem?_cons_succ];rw [aCA bs es l];rw [show Nat.succ k+i=k+ (i+1)by omega]
theorem vJ (bs es:List Nat) :∀ (l:List Oper) (k:Nat),(pO bs es l k).length=l.length
 | [],_=>rfl
 |_::l,k=>by simp [pO,vJ bs es l]
inductive RC (P:Program) (call:bK) (l:List Oper) (p:Plan) (r r':RS) (a:AV) :Prop
 |unwE (hw:bP r.tm l p.o=some false) (ha:a= .undef) (hk:p.kd= .eff) (e:r'= {r with tm:=r'.tm,h:=aM r.h r.s r.pend,stages:=r.h::r.stages,s:=r.s+1})
 |unwF (hw:bP r.tm l p.o=some false) (ha:a= .undef) (hk:p.kd= .fresh) (e:r'= {r with tm:=r'.tm,next:=r.next+1})
 |unwQ (hw:bP r.tm l p.o=some false) (ha:a= .undef) (hk:p.kd= .pure∨p.kd= .read) (e:r'= {r with tm:=r'.tm})
 |pure (hx:Hp) (hw:bP r.tm l p.o=some true) (hk:p.kd= .pure) (h0:jH P r.h r.tm p.o=some (.val a hx)) (e:r'= {r with tm:=r'.tm})
 |read (hx:Hp) (hw:bP r.tm l p.o=some true) (hk:p.kd= .read) (h0:jH P r.h r.tm p.o=some (.val a hx)) (e:r'= {r with tm:=r'.tm,again:=bif beq p.lo p.hi then r.again else⟨p.o,r.tm,p.lo,p.hi,a⟩ ::r.again})
 |own (vs:List AV) (hw:bP r.tm l p.o=some true) (hk:p.kd= .read) (h0:qX P r.tm r.pend p.hi p.o=some vs) (h1:qW vs=some a) (e:r'= {r with tm:=r'.tm})
 |fresh (ob:AObj) (hw:bP r.tm l p.o=some true) (hk:p.kd= .fresh) (h0:nA P r.tm r.next p.o=some (a,ob)) (e:r'= {r with tm:=r'.tm,next:=r.next+1,pend:= (p.hi,r.next,ob) ::r.pend})
 | eff (h2:Hp) (hw:bP r.tm l p.o=some true) (hk:p.kd= .eff)
   (h0:jH P (aM r.h r.s r.pend) r.tm p.o=some (.val a h2) ∨∃c,jH P (aM r.h r.s r.pend) r.tm p.o=some (.call c) ∧call r.s c (aM r.h r.s r.pend) =some (a,h2))
   (e:r'= {r with tm:=r'.tm,h:=h2,stages:=r.h::r.stages,s:=r.s+1})
theorem aCB {call:bK}{nt:Nat}{l:List Oper}{p:Plan}{r r':RS}(h0:kS P call nt l p r=some r') :∃a,gG r.tm nt p.o.dst a=some r'.tm∧RC P call l p r r' a:=by
 unfold kS at h0;split at h0
 ·cases h0
 · rename_i hw;split at h0
   ·cases h0
   · rename_i tm htm;split at h0
     ·rename_i hk;cases h0;exact⟨.undef,htm,.unwE hw rfl hk rfl⟩
     ·rename_i hk;cases h0;exact⟨.undef,htm,.unwF hw rfl hk rfl⟩
     · rename_i hk1 hk2;cases h0;refine⟨.undef,htm,.unwQ hw rfl ?_ rfl⟩;cases hk:p.kd<;>simp_all
 · rename_i hw;split at h0
   · rename_i hk;split at h0
     · rename_i v hx hv;split at h0
       ·rename_i tm htm;cases h0;exact⟨v,htm,.pure hx hw hk hv rfl⟩
       ·cases h0
     ·cases h0
   · rename_i hk;split at h0
     · rename_i v hx hv;split at h0
       ·rename_i tm htm;cases h0;exact⟨v,htm,.read hx hw hk hv rfl⟩
       ·cases h0
     · split at h0
       · rename_i vs hvs;split at h0
         · rename_i v hv;split at h0
           ·rename_i tm htm;cases h0;exact⟨v,htm,.own vs hw hk hvs hv rfl⟩
           ·cases h0
         ·cases h0
       ·cases h0
   · rename_i hk;split at h0
     · rename_i v ob hv;split at h0
       ·rename_i tm htm;cases h0;exact⟨v,htm,.fresh ob hw hk hv rfl⟩
       ·cases h0
     ·cases h0
   · rename_i hk;simp only at h0;split at h0
     · rename_i v h2 hv;split at h0
       ·rename_i tm htm;cases h0;exact⟨v,htm,.eff h2 hw hk (.inl hv) rfl⟩
       ·cases h0
     · rename_i c hv;split at h0
       · rename_i v h2 hc;split at h0
         ·rename_i tm htm;cases h0;exact⟨v,htm,.eff h2 hw hk (.inr ⟨c,hv,hc⟩) rfl⟩
         ·cases h0
       ·cases h0
     ·cases h0
theorem aAM {call:bK}{nt:Nat}{l:List Oper}:∀ {ps:List Plan} {r r':RS},nB P call nt l ps r=some r' →
  ∃R:Nat→RS,R 0=r∧R ps.length=r'∧∀i p,ps[i]?=some p→kS P call nt l p (R i) =some (R (i+1))
 | [],r,r',h0=>by simp [nB]at h0;subst h0;exact⟨fun _=>r,rfl,rfl,fun i p hp=>by simp at hp⟩
 | p ::ps,r,r',h0=>by
  simp only [nB]at h0;split at h0
  · rename_i r1 hr1;obtain⟨R,e1,e2,e3⟩ :=aAM h0;refine⟨fun i=>match i with|0=>r|i+1=>R i,rfl,e2,fun i q hq=>?_⟩;cases i with
    |zero=>simp at hq;subst hq;show _=some (R 0);rw [e1];exact hr1
    |succ i=>exact e3 i q (by simpa using hq)
  ·cases h0
theorem gW :∀ (l:List Oper) (k:Nat),(∀ (q e:Nat),(eT l k)[q]?=some e→k≤e∧e<k+l.length∧∃o,l[e-k]?=some o∧cK o.op= .eff) ∧
  (∀ (i:Nat) (o:Oper),l[i]?=some o→cK o.op= .eff→∃q:Nat,(eT l k)[q]?=some (k+i)) ∧List.Pairwise (· < ·) (eT l k)
 | [],k=>by simp [eT]
 | o ::l,k=>by
  obtain⟨h1,h2,h3⟩ :=gW l (Nat.succ k)
  have base:∀ (q e:Nat),(eT l (Nat.succ k))[q]?=some e→k≤e∧e<k+ (o::l).length∧∃o',(o::l)[e-k]?=some o'∧cK o'.op= .eff:=fun q e he=>by
   obtain⟨g1,g2,o',g3,g4⟩ :=h1 q e he;refine⟨by omega,by simp;omega,o',?_,g4⟩;rw [show e-k= (e-Nat.succ k) +1 by omega];simpa using g3
  have base2:∀ (i:Nat) (o':Oper),l[i]?=some o'→cK o'.op= .eff→∃q:Nat,(eT l (Nat.succ k))[q]?=some (k+ (i+1)) :=fun i o' hi hk=>by
   obtain⟨q,hq⟩ :=h2 i o' hi hk;exact⟨q,by rw [hq];congr 1;omega⟩
  cases hk:cK o.op with
  | eff=>
   simp only [eT,hk];refine⟨fun q e he=>?_,fun i o' hi hk'=>?_,?_⟩
   · cases q with
     |zero=>simp at he;subst he;exact⟨le_refl _,by simp,o,by simp,hk⟩
     |succ q=>exact base q e (by simpa using he)
   · cases i with
     |zero=>exact⟨0,by simp⟩
     | succ i=>
      obtain⟨q,hq⟩ :=base2 i o' (by simpa using hi) hk';exact⟨q+1,by simpa using hq⟩
   · rw [List.pairwise_cons];refine⟨fun e he=>?_,h3⟩;obtain⟨q,hq,rfl⟩ :=List.getElem_of_mem he;have:= (h1 q _ (List.getElem?_eq_getElem hq)).1;omega
  | _=>
   simp only [eT,hk];refine⟨base,fun i o' hi hk'=>?_,h3⟩;cases i with
   |zero=>simp at hi;subst hi;rw [hk]at hk';cases hk'
   |succ i=>exact base2 i o' (by simpa using hi) hk'
theorem aPH (b j:Nat) :∀ (es:List Nat) (k:Nat),(∀ (q e:Nat),es[q]?=some e→testBit b e=true→k+q+1≤j) →aHf b es k≤j
 | [],k,_=>by simp [aHf]
 | e::es,k,h=>by
  have ih:=aPH b j es (Nat.succ k) (fun q x hx hb=>by have:=h (q+1) x (by simpa using hx) hb;omega);simp only [aHf];cases hb:testBit b e with
  |true=>simp only [cond];have:=h 0 e rfl hb;omega
  |false=>simp only [cond];exact ih
theorem aBN (bs:List Nat)(i:Nat) :∀ (es:List Nat) (k:Nat),k≤yM bs i es k∧yM bs i es k≤k+es.length ∧
  (∀ (q e:Nat),es[q]?=some e→k+q<yM bs i es k→testBit (bs.getD e 0) i=false) ∧ (∀e:Nat,es[yM bs i es k-k]?=some e→testBit (bs.getD e 0) i=true)
 | [],k=>by simp [yM]
 | e ::es,k=>by
  obtain⟨h1,h2,h3,h4⟩ :=aBN bs i es (Nat.succ k);simp only [yM];cases hb:testBit (bs.getD e 0) i with
  | true=>
   simp only [cond];refine⟨le_refl _,by simp,fun q x hx hq=>by omega,fun x hx=>?_⟩;simp at hx;subst hx;exact hb
  | false=>
   simp only [cond];refine⟨by generalize yM bs i es (Nat.succ k) =m at h1;omega,by generalize yM bs i es (Nat.succ k) =m at h2;simp;omega,fun q x hx hq=>?_,fun x hx=>?_⟩
   · cases q with
     |zero=>simp at hx;subst hx;exact hb
     |succ q=>exact h3 q x (by simpa using hx) (by omega)
   · rw [show yM bs i es (Nat.succ k) -k= (yM bs i es (Nat.succ k) -Nat.succ k) +1 by generalize yM bs i es (Nat.succ k) =m at h1;omega]at hx;exact h4 x (by simpa using hx)
theorem aAN {bs:List Nat}:∀ {es:List Nat},chained bs es=true→∀ (q e f:Nat),es[q]?=some e→es[q+1]?=some f→testBit (bs.getD f 0) e=true
 | [],_,q,e,f,he,_=>by simp at he
 | [x],_,q,e,f,he,hf=>by simp at hf
 | x::y::es,h,q,e,f,he,hf=>by
  simp only [chained,and_eq_true]at h;cases q with
  |zero=>simp at he hf;subst he hf;exact h.1
  |succ q=>exact aAN h.2 q e f (by simpa using he) (by simpa using hf)
theorem nD {k:Nat}:∀ {ps:List (Nat×Nat×AObj)} {x:Nat} {o:AObj},(aM h k ps).look x=some o→ (k,x,o) ∈ps∨h.look x=some o
 | [],x,o,e=>.inr e
 | (a,id,ob) ::ps,x,o,e=>by
  simp only [aM,bH]at e;by_cases ha:a=k
  · simp only [ha,decide_true,cond]at e;rw [aX]at e;split at e
    ·rename_i hx;cases e;subst hx ha;exact .inl (mem_cons_self ..)
    ·exact(nD e).imp (mem_cons_of_mem _) (fun z=>z)
  · simp only [ha,decide_false,cond]at e;exact(nD e).imp (mem_cons_of_mem _) (fun z=>z)
theorem dP {k:Nat}:∀ {ps:List (Nat×Nat×AObj)},(aM h k ps).nb=h.nb
 | [] =>rfl
 | (a,id,ob) ::ps=>by
  simp only [aM];cases beq a k with
  |true=>simp only [cond,hX];exact dP
  |false=>simp only [cond];exact dP
noncomputable def dQ (tm0:T AV)(dst:Nat→Option Nat)(A:Nat→AV)(D:Nat→Prop)[DecidablePred D] :Nat→Nat→Option AV
 |0,t=>tm0.at t
 |n+1,t=>if D n∧dst n=some t then some (A n)else dQ tm0 dst A D n t
section
variable {tm0 :T AV} {dst:Nat→Option Nat} {A:Nat→AV} {D D':Nat→Prop} [DecidablePred D] [DecidablePred D']
theorem sJ {t:Nat}:∀ {n:Nat},(∀k,k<n→dst k=some t→ (D k↔D' k)) →dQ tm0 dst A D n t=dQ tm0 dst A D' n t
 |0,_=>rfl
 | n+1,h=>by
  simp only [dQ];rw [sJ (fun k hk=>h k (by omega))];by_cases hd:dst n=some t
  · have:=h n (by omega) hd;by_cases hD:D n
    ·rw [if_pos ⟨hD,hd⟩,if_pos ⟨this.1 hD,hd⟩]
    ·rw [if_neg (fun e=>hD e.1),if_neg (fun e=>hD (this.2 e.1))]
  ·rw [if_neg (fun e=>hd e.2),if_neg (fun e=>hd e.2)]
theorem wW {t i:Nat}:∀ {n:Nat},i≤n→ (∀k,i≤k→k<n→dst k=some t→¬D k) →dQ tm0 dst A D n t=dQ tm0 dst A D i t
 |0,hi,_=>by rw [show i=0 by omega]
 | n+1,hi,h=>by
  by_cases e:i=n+1
  ·rw [e]
  · simp only [dQ];rw [if_neg (fun⟨hD,hd⟩ =>h n (by omega) (by omega) hd hD)];exact wW (by omega) (fun k h1 h2=>h k h1 (by omega))
end
inductive Legal (l:List Oper) : (Nat→Bool) →List Nat→Prop
 |nil {D}: (∀i,i<l.length→D i=true) →Legal l D []
 |cons {D i is o}:l[i]?=some o→D i=false→Met (D · =true) o→Legal l (fun k=>D k||k==i) is→Legal l D (i::is)
def unl :List Bool→Nat
 | [] =>0
 |true::l=>unl l
 |false::l=>unl l+1
theorem aHA :∀ {l:List Bool} {i:Nat},l[i]?=some false→unl (l.set i true) +1=unl l
 | [],i,h=>by simp at h
 |b::l,0,h=>by simp at h;subst h;simp [unl]
 |true::l,i+1,h=>by simp only [List.set_cons_succ,unl];exact aHA (by simpa using h)
 |false::l,i+1,h=>by simp only [List.set_cons_succ,unl];have:=aHA (l:=l) (i:=i) (by simpa using h);omega
theorem aJ0 :∀ {l:List Bool} {i:Nat},unl l=0→i<l.length→l[i]?=some true
 | [],i,_,h=>by simp at h
 |true::l,0,_,_=>rfl
 |true::l,i+1,h,h2=>by simp only [List.getElem?_cons_succ];exact aJ0 h (by simpa using h2)
 |false::l,i,h,_=>by simp [unl]at h
theorem zC :∀n,unl (List.replicate n false) =n
 |0=>rfl
 |n+1=>by simp [List.replicate_succ,unl,zC n]
theorem aTu {md:Region.Mode}{ops:Array Oper}{rk:List Nat}(hrk:rW md ops.size rk ops.toList 0=true) :∀ (fuel t:Nat) (listed:Array Bool),listed.size=ops.size→unl listed.toList≤fuel →
  Legal ops.toList (fun k=>listed.getD k false) (Region.linearise.go md ops fuel t listed []) :=by
 have gd:∀ {listed:Array Bool} {i:Nat},listed.size=ops.size→i<ops.size→∀b,listed.getD i b=listed.getD i false:=fun {listed i} hs hi b=>by
  rw [Array.getD_eq_getD_getElem?,Array.getD_eq_getD_getElem?,Array.getElem?_eq_getElem (by omega)];rfl
 intro fuel
 induction fuel with
 | zero=>
  intro t listed hs hu;simp only [Region.linearise.go,List.reverse_nil];refine .nil fun i hi=>?_;have:=aJ0 (l:=listed.toList) (i:=i) (by omega) (by simp only [Array.length_toList]at hi ⊢;omega);rw [Array.getD_eq_getD_getElem?,←Array.getElem?_toList,this];rfl
 | succ fuel ih=>
  intro t listed hs hu;simp only [Region.linearise.go]
  change Legal _ _ (match(Region.ready md ops listed)[t % (Region.ready md ops listed).length]? with
   |some i=>Region.linearise.go md ops fuel (t / (Region.ready md ops listed).length) (listed.setIfInBounds i true) [i]
   |none=>[].reverse)
  cases hi: (Region.ready md ops listed)[t % (Region.ready md ops listed).length]? with
  | none=>
   have hnil:Region.ready md ops listed= [] :=by
    cases hr:Region.ready md ops listed with
    |nil=>rfl
    | cons x xs=>
     rw [hr]at hi;have hlt:t % (x::xs).length< (x::xs).length:=mod_lt _ (by simp);simp at hi;simp at hlt;omega
   simp only [List.reverse_nil];refine .nil fun i hi=>?_;have hi':i<ops.size:=by simpa using hi
   have:=ready_nil hrk hs hnil i hi';rw [gd hs hi']at this;exact this
  | some i=>
   simp only [];obtain⟨g1,g2,o,g3,g4⟩ :=aMT (mem_of_getElem? hi);rw [gd hs g1]at g2;rw [linearise_go_acc,List.reverse_singleton,List.singleton_append];have hlf:listed.toList[i]?=some false:=by
    rw [Array.getD_eq_getD_getElem?,Array.getElem?_eq_getElem (by omega)]at g2;rw [Array.getElem?_toList,Array.getElem?_eq_getElem (by omega)];simpa using g2
   have e: (fun k=> (listed.setIfInBounds i true).getD k false) = (fun k=>listed.getD k false||k==i) :=by
    funext k
    rw [Array.getD_eq_getD_getElem?,Array.getD_eq_getD_getElem?,Array.getElem?_setIfInBounds];by_cases hk:i=k
    ·subst hk;simp [hs,g1]
    · have: (k==i) =false:=by simp;omega
      simp [hk,this]
   refine .cons (by rw [Array.getElem?_toList];exact g3) g2 (fun x hx hb=>g4 x hx (aQR hb)) ?_
   have:=ih (t / (Region.ready md ops listed).length) (listed.setIfInBounds i true) (by simpa using hs) (by
    rw [Array.toList_setIfInBounds];have:=aHA hlf;omega)
   rw [e]at this;exact this
theorem aD8 {ops:Array Oper}(hok: (jJ ops).ok=true)(mx:Bool)(t:Nat) :Legal ops.toList (fun _=>false) (Region.schedule mx ops t) :=by
 simp only [jJ,and_eq_true]at hok;obtain⟨⟨⟨⟨h1,h2⟩,h3⟩,h4⟩,h5⟩ :=hok;have e: (fun k=> (Array.replicate ops.size false).getD k false) =fun _=>false:=by
  funext k
  rw [Array.getD_eq_getD_getElem?,Array.getElem?_replicate];split<;>rfl
 have key:∀ {md rk} t,rW md ops.size rk ops.toList 0=true→Legal ops.toList (fun _=>false) (Region.linearise md ops t) :=fun t hr=>by
  have:=aTu hr ops.size t (Array.replicate ops.size false) (by simp) (by simp [zC]);rw [e]at this;exact this
 unfold Region.schedule;split
 ·exact key t h3
 · split
   ·exact key _ h4
   ·exact key _ h5
def AOut.reh (h1:Hp) :AOut→AOut
 | .val v _=>.val v h1
 |o=>o
set_option maxHeartbeats 1000000 in
theorem aTv {tm:T AV}{o:Oper}(hk:cK o.op= .pure)(h1:Hp) :fK P h1 tm o= (fK P h tm o).map (AOut.reh h1) :=by
 unfold cK at hk;unfold fK;cases hop:o.op<;>simp only [hop]at hk ⊢ <;>first| (cases hk;done) |skip
 case call c=>
  unfold oK;cases hc:c.callee with
  | builtin b=>
   rw [hc]at hk;cases hv:fS tm c.args.toList with
   |none=>rfl
   | some args=>
    simp only;cases b<;> (try simp only at hk) <;> (first| (cases hk;done) |skip) <;> (unfold eI; (try simp only);repeat' split) <;>simp_all [AOut.reh]
  |value f=>rw [hc]at hk;cases hk
  |invoke r n=>rw [hc]at hk;cases hk
 all_goals (try simp only [val,uI,yU,cond_eq_ite])
 all_goals (repeat' split)
 all_goals (first|rfl|simp_all [AOut.reh,val])
set_option maxHeartbeats 1000000 in
theorem aYV {tm:T AV}{o:Oper}(hk:cK o.op= .pure)(h1:Hp) :vop P h1 tm o= (vop P h tm o).map (AOut.reh h1) :=by
 unfold cK at hk;unfold vop;cases hop:o.op<;>simp only [hop]at hk ⊢ <;>first| (cases hk;done) |rfl|skip
 case call c=>
  cases hc:c.callee with
  | builtin b=>
   rw [hc]at hk;cases b<;> (try simp only at hk) <;> (first| (cases hk;done) |skip) <;> ((try simp only);repeat' split) <;>simp_all [AOut.reh]
  |value f=>rw [hc]at hk;cases hk
  |invoke r n=>rw [hc]at hk;cases hk
 all_goals (try simp only [val,uI,yU,cond_eq_ite])
 all_goals (repeat' split)
 all_goals (first|rfl|simp_all [AOut.reh,val])
theorem aYW {tm:T AV}{o:Oper}(hk:cK o.op= .pure)(h1:Hp) :jH P h1 tm o= (jH P h tm o).map (AOut.reh h1) :=by
 unfold jH;rw [aTv hk (h:=h),aYV hk (h:=h)];cases fK P h tm o<;>rfl
theorem aTw {tm:T AV}{o:Oper}(hk:cK o.op= .pure){a:AV}{hx:Hp}(h0:jH P h tm o=some (.val a hx))(h1:Hp) :jH P h1 tm o=some (.val a h1) :=by
 rw [aYW hk (h:=h),h0];rfl
mutual
theorem AV.same_eq :∀ (a b:AV),same a b=true→a=b
 | .bool _,b,h=>by cases b<;>simp_all [same]
 | .int _ _,b,h=>by cases b<;>simp_all [same]
 | .str _ _,b,h=>by cases b<;>simp_all [same,bH]
 | .ptr _ _,b,h=>by cases b<;>simp_all [same,bH]
 | .nilp,b,h=>by cases b<;>simp_all [same]
 | .slice ..,b,h=>by cases b<;>simp_all [same,bH]
 | .nils,b,h=>by cases b<;>simp_all [same]
 | .map _,b,h=>by cases b<;>simp_all [same,bH]
 | .nilm,b,h=>by cases b<;>simp_all [same]
 | .func f fs cs,b,h=>by
  cases b with
  | func f' fs' cs'=>
   simp only [same,and_eq_true,bH,decide_eq_true_eq]at h;rw [h.1.1,AV.sameL_eq _ _ h.1.2,AV.sameL_eq _ _ h.2]
  |_=>simp [same]at h
 | .yield _,b,h=>by cases b<;>simp_all [same,bH]
 | .meth _ _,b,h=>by cases b<;>simp_all [same]
 | .via ..,b,h=>by cases b<;>simp_all [same]
 | .nilf,b,h=>by cases b<;>simp_all [same]
 | .iface t v,b,h=>by
  cases b with
  | iface t' v'=>
   simp only [same,and_eq_true,bH,decide_eq_true_eq]at h;rw [h.1,AV.same_eq _ _ h.2]
  |_=>simp [same]at h
 | .nili,b,h=>by cases b<;>simp_all [same]
 | .agg vs,b,h=>by
  cases b with
  |agg vs'=>simp only [same]at h;rw [AV.sameL_eq _ _ h]
  |_=>simp [same]at h
 | .tup vs,b,h=>by
  cases b with
  |tup vs'=>simp only [same]at h;rw [AV.sameL_eq _ _ h]
  |_=>simp [same]at h
 | .ilst e xs ex,b,h=>by
  cases b with
  | ilst e' xs' ex'=>
   simp only [same,and_eq_true,bH,decide_eq_true_eq,beq_iff_eq]at h;rw [h.1.1,AV.sameL_eq _ _ h.1.2,h.2]
  |_=>simp [same]at h
 | .iptr cs,b,h=>by
  cases b with
  |iptr cs'=>simp only [same]at h;rw [AV.sameL_eq _ _ h]
  |_=>simp [same]at h
 | .gl ..,b,h=>by cases b<;>simp_all [same,bH]
 | .ep ..,b,h=>by cases b<;>simp_all [same,bH]
 | .val _,b,h=>by cases b<;>simp_all [same]
theorem AV.sameL_eq :∀ (a b:List AV),sameL a b=true→a=b
 | [],b,h=>by cases b<;>simp_all [sameL]
 | a::aS,b,h=>by
  cases b with
  |nil=>simp [sameL]at h
  | cons b bs=>
   simp only [sameL,and_eq_true]at h;rw [AV.same_eq _ _ h.1,AV.sameL_eq _ _ h.2]
end
theorem aHB {a:Again}(h0:aDb P a h=true) :∃hx,jH P h a.tm a.o=some (.val a.v hx) :=by
 unfold aDb at h0;split at h0
 ·rename_i v hx hv;exact⟨hx,by rw [hv,AV.same_eq _ _ h0]⟩
 ·cases h0
theorem rD {a:Again}:∀ {hs:List Hp} {k x:Nat} {h:Hp},mU P a hs k=true→hs[x]?=some h→x≤k→a.lo≤k-x→k-x≤a.hi→aDb P a h=true
 | [],k,x,h,_,hx,_,_,_=>by simp at hx
 | y::ys,k,x,h,h0,hx,hk,h1,h2=>by
  simp only [mU,and_eq_true]at h0;cases x with
  | zero=>
   simp at hx;subst hx;have:=h0.1;rw [Nat.sub_zero]at h1 h2;simp only [iO,h1,h2,decide_true,Bool.and_self,cond]at this;exact this
  |succ x=>exact rD (k:=k-1) (x:=x) h0.2 (by simpa using hx) (by omega) (by omega) (by omega)
theorem zD {hs:List Hp}{k:Nat}:∀ {aS:List Again},qY P hs k aS=true→∀a∈aS,mU P a hs k=true
 | [],_,a,ha=>by cases ha
 | x::xs,h0,a,ha=>by
  simp only [qY,and_eq_true]at h0;cases ha with
  |head=>exact h0.1
  |tail _ ha=>exact zD h0.2 a ha
def wX (P:Program)(hs:List Hp)(k:Nat)(aS:List Again) :Prop:=
 ∀a∈aS,∀ (x:Nat) (h:Hp),hs[x]?=some h→x≤k→a.lo≤k-x→k-x≤a.hi→∃hx,jH P h a.tm a.o=some (.val a.v hx)
theorem aD9 {hs:List Hp}{k:Nat}{aS:List Again}(h0:qY P hs k aS=true) :wX P hs k aS:=
 fun a ha _ _ hx h1 h2 h3=>aHB (rD (zD h0 a ha) hx h1 h2 h3)
theorem aBO {tm:T AV}{o:Oper}(c:Call)(hc:o.op= .defer c) :vop P h tm o=none:=by
 unfold vop;rw [hc]
theorem zW {tm:T AV}{o:Oper}(c:Call)(hc:o.op= .defer c){out:AOut}(h0:fK P h tm o=some out) :∃d,out= .defer d:=by
 unfold fK at h0;rw [hc]at h0;simp only [cond_eq_ite]at h0
 repeat' split at h0
 all_goals first| (cases h0;done) | (cases h0;exact⟨_,rfl⟩)
theorem aGk {tm:T AV}{o:Oper}{v:AV}{h2:Hp}(h0:jH P h tm o=some (.val v h2)) :∀c,o.op≠ .defer c:=by
 intro c hc;unfold jH at h0;split at h0
 ·rename_i r hr;cases h0;obtain⟨d,e⟩ :=zW c hc hr;cases e
 ·rw [aBO c hc]at h0;cases h0
theorem aEa {tm:T AV}{o:Oper}{c':AIn}(h0:jH P h tm o=some (.call c')) :∀c,o.op≠ .defer c:=by
 intro c hc;unfold jH at h0;split at h0
 ·rename_i r hr;cases h0;obtain⟨d,e⟩ :=zW c hc hr;cases e
 ·rw [aBO c hc]at h0;cases h0
end
end
end Go.Hb
