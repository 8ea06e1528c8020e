/-
  OWN WORK (S14c, S14d, S14e, S15, S16, S17, S18, S19, S20, S21, S22): a machine on abstract values, its soundness, ways through the text (the ways WRITTEN BY A PROGRAM), plain laws.
-/
import Derived.Test.YtabmpnmmkeieiaaGreatHB
import Derived.Defers
import Derived.Orders
set_option linter.unusedVariables false
set_option linter.unusedSimpArgs false
set_option linter.unusedSectionVars false
set_option maxRecDepth 100000
namespace Go.Hb
variable {P :Program} {E:Emb} {h h':Hp} {w w':World}
theorem wQ (r:Rel E h w.heap){b e:Nat}{xs:List AV}(hb:h.look b=some (.lst e xs)){L:Loc}(hE:E b=some L){x:Nat}{o:AObj}{Lx:Loc}(hx:h.look x=some o)(hEx:E x=some Lx)(hne:x≠b) :Lx.blk≠L.blk:=fun hbl=>by
 rcases r.kin _ _ _ _ _ _ hx hb hEx hE hbl hne with⟨_,h2,_⟩ | ⟨h1,_⟩
 ·cases h2
 ·cases h1
theorem moved (r:Rel E h w.heap){b e:Nat}{xs:List AV}(hb:h.look b=some (.lst e xs)){L:Loc}(hE:E b=some L){C C2:Array Value}{el:TypeId}(o1:w.heap[L.blk]?=some (.cells C el (0,0)))(hsz:C2.size=L.sz)(sh:Nat)
  {xs2:List AV} {vs2:List Value} (hv:VRs E xs2 vs2) (hk:∀u∈vs2,okE e u) (hC:∀j,j<vs2.length*e→C2[sh+j]?= (flat vs2)[j]?) :
  Rel (E.put h.nb ⟨L.blk,sh,L.sz⟩) ((h.del b).new (.lst e xs2)) (cN w L.blk (.cells C2 el (0,0))).heap ∧
   Ext E h w (E.put h.nb ⟨L.blk,sh,L.sz⟩) ((h.del b).new (.lst e xs2)) (cN w L.blk (.cells C2 el (0,0))) :=by
 have hf:E h.nb=none:=r.fresh _ (Nat.le_refl _)
 have hle:E.le (E.put h.nb ⟨L.blk,sh,L.sz⟩) :=Emb.le_put hf
 have hlook:∀ {x o},((h.del b).new (.lst e xs2)).look x=some o→ (x=h.nb∧o= .lst e xs2) ∨ (x≠h.nb∧x≠b∧h.look x=some o) :=by
  intro x o hx
  rw [dD,aGS]at hx
  split at hx
  ·rename_i hh;cases hx;exact .inl ⟨hh,rfl⟩
  · rename_i hh
    rw [nM]at hx
    split at hx
    ·cases hx
    ·rename_i hb';exact .inr ⟨hh,hb',hx⟩
 refine⟨⟨?_,?_,?_,r.imm_put hb hE _,?_,fun x o hx=>by
  rw [nV,aGS];rcases hlook hx with⟨rfl,_⟩ | ⟨_,_,h3⟩
  ·omega
  ·have:=r.keys x o h3;omega⟩,⟨hle,by simp [cN],?_,?_,by simp [nV,aGS],rfl,rfl,rfl,fun x hx=>Emb.put_ne _ _ (by omega),(fun a _=>sD o1 rfl rfl a),fun _ _ e _=>.inl e,fun x o hx hlt=>by
  rcases hlook hx with⟨rfl,_⟩ | ⟨_,_,h3⟩
  ·omega
  ·exact⟨o,h3⟩⟩⟩
 · intro x o hx
   rcases hlook hx with⟨rfl,rfl⟩ | ⟨h1,h2,h3⟩
   ·exact .inr ⟨_,Emb.put_same _ _ _,C2,el,vs2,pA o1,hsz,hv.mono hle,hk,hC⟩
   · rcases r.obj0 x o h3 with⟨u1,u2⟩ | ⟨Lx,k1,k2⟩
     ·exact .inl ⟨u1,by rw [Emb.put_ne _ _ h1];exact u2⟩
     ·exact .inr ⟨Lx,by rw [Emb.put_ne _ _ h1];exact k1,(k2.mono hle).heap (by simp only [cN];rw [Array.getElem?_setIfInBounds_ne (wQ r hb hE h3 k1 h2).symm])⟩
 · intro x y ox oy Lx Ly hx hy kx ky hbl hne
   rcases hlook hx with⟨rfl,rfl⟩ | ⟨h1,h2,h3⟩
   · rcases hlook hy with⟨rfl,rfl⟩ | ⟨g1,g2,g3⟩
     ·exact absurd rfl hne
     · rw [Emb.put_same]at kx;cases kx
       rw [Emb.put_ne _ _ g1]at ky
       exact absurd hbl.symm (wQ r hb hE g3 ky g2)
   · rw [Emb.put_ne _ _ h1]at kx
     rcases hlook hy with⟨rfl,rfl⟩ | ⟨g1,g2,g3⟩
     · rw [Emb.put_same]at ky;cases ky
       exact absurd hbl (wQ r hb hE h3 kx h2)
     · rw [Emb.put_ne _ _ g1]at ky
       exact r.kin x y ox oy Lx Ly h3 g3 kx ky hbl hne
 · intro x hx
   rw [nV,aGS]at hx
   rw [Emb.put_ne _ _ (by omega)]
   exact r.fresh x (by omega)
 · intro x o Lx hx kx
   show E.imm Lx.blk=none
   rcases hlook hx with⟨rfl,rfl⟩ | ⟨h1,h2,h3⟩
   ·rw [Emb.put_same]at kx;cases kx;exact r.apart b _ L hb hE
   ·rw [Emb.put_ne _ _ h1]at kx;exact r.apart x o Lx h3 kx
 · intro i hi hno
   simp only [cN]
   rw [Array.getElem?_setIfInBounds_ne (hno b _ L hb hE)]
 · intro x o Lx hx kx _
   rcases hlook hx with⟨rfl,rfl⟩ | ⟨h1,h2,h3⟩
   ·rw [Emb.put_same]at kx;cases kx;exact⟨b,_,L,hb,hE,rfl⟩
   ·rw [Emb.put_ne _ _ h1]at kx;exact⟨x,o,Lx,h3,kx,rfl⟩
def Emb.immPut (E:Emb)(k:Nat)(C:Array Value) :Emb:= ⟨E.loc,fun x=>if x=k then some C else E.imm x⟩
theorem aWq (r:Rel E h w.heap)(C:Array Value)(el:TypeId)(d:Nat) :
  E.le (E.immPut w.heap.size C) ∧Rel (E.immPut w.heap.size C) h (w.heap.push (.cells C el)) ∧Ext E h w (E.immPut w.heap.size C) h {w with drawn:=d,heap:=w.heap.push (.cells C el)}:=by
 have hold:∀ {i},i<w.heap.size→ (w.heap.push (.cells C el))[i]?=w.heap[i]?:=fun hi=>by rw [Array.getElem?_push,if_neg (by omega)]
 have hle:E.le (E.immPut w.heap.size C) := ⟨fun _ _ e=>e,fun k D e=>by
  have:=r.immLt e
  show(if k=w.heap.size then some C else E.imm k) =some D
  rw [if_neg (by omega)];exact e⟩
 refine⟨hle,⟨?_,r.kin,r.fresh,?_,?_,r.keys⟩,(⟨hle,by simp,fun i hi _=>hold hi,fun b o L h1 h2 _=> ⟨b,o,L,h1,h2,rfl⟩,Nat.le_refl _,rfl,rfl,rfl,fun _ _=>rfl,(fun a _=>uJ w rfl a),?_,fun _ o e _=> ⟨o,e⟩⟩ :Ext E h w (E.immPut w.heap.size C) h {w with heap:=w.heap.push (.cells C el)}).drawn d⟩
 · intro b o hb
   rcases r.obj0 b o hb with u| ⟨L,g1,g2⟩
   ·exact .inl u
   ·exact .inr ⟨L,g1,(g2.mono hle).heap (hold g2.lt)⟩
 · intro k D e
   simp only [Emb.immPut]at e
   split at e
   ·rename_i hk;cases e;subst hk;exact⟨el,(0,0),by simp⟩
   · obtain⟨e1,f1,g⟩ :=r.imm k D e
     exact⟨e1,f1,by rw [hold (Array.getElem?_eq_some_iff.1 g).1];exact g⟩
 · intro b o L hb hE
   simp only [Emb.immPut]
   rw [if_neg (by have:=r.lt hb hE;omega)]
   exact r.apart b o L hb hE
 · intro k D e hk
   simp only [Emb.immPut]at e
   rw [if_neg (by omega)]at e
   exact .inl e
set_option maxHeartbeats 1000000 in
theorem vappend_sound (r :Rel E h w.heap){argTypes:Array TypeId}{ty:TypeId}{s x v:AV}{cs cx:Value}(ha:pT P h argTypes s x=some (v,h'))(hs:VR E s cs)(hx:VR E x cx) :
  ∃cv w' E',(Builtin.append_ argTypes ty #[cs,cx]).run P w= .ok cv w'∧VR E' v cv∧Rel E' h' w'.heap∧Ext E h w E' h' w':=by
 unfold pT at ha
 split at ha
 · rename_i st xt hst hxt
   split at ha
   · rename_i el el' hu hu'
     split at ha
     · rename_i e inf z hsz hinf hz
       split at ha
       ·cases ha
       · rename_i ys hadd
         cases hc: (Nat.beq z.cells.length e&&Nat.ble e 40&&Nat.ble inf.bytes 1000&&Nat.ble 1 inf.bytes&&Nat.ble 1 e)with
         |false=>rw [hc]at ha;cases ha
         | true =>
          rw [hc]at ha;simp only [cond]at ha
          simp only [jG,bW,Bool.and_eq_true,decide_eq_true_eq]at hc
          obtain⟨⟨⟨⟨hzl,_⟩,hb2⟩,hb1⟩,he1⟩ :=hc
          obtain⟨ws,hA,hys,hk⟩ :=aG4 (P:=P) (w:=w) r hadd hu' hx
          have hyl:=hys.length
          have hfl:=flat_length hk
          split at ha
          · -- the nil slice
            split at ha
            · rename_i hn
              cases ha
              simp only [VR]at hs;subst hs
              exact uT hst hxt hu hsz hinf hz hzl hb1 hb2 r r (Ext.refl _ _ _) rfl hA hys hk hn none
            ·cases ha
          · rename_i b e' off len ex
            split at ha
            · rename_i e2 xs hb
              split at ha
              · rename_i hcond
                cases ha
                obtain⟨rfl,rfl,hlen,hn⟩ :=hcond
                simp only [VR]at hs
                obtain⟨rd,xd⟩ :=r.drop b
                rcases hs with⟨rfl,a,rfl⟩ | ⟨L,a,cap,hE,rfl,k1,k2,k3⟩
                · have:=uT (ty:=ty) hst hxt hu hsz hinf hz hzl hb1 hb2 r rd xd rfl hA hys hk (by omega) a
                  simpa using this
                · obtain ⟨C,el2,vs,o1,o2,o3,o4,o5⟩ :=r.objL hb hE
                  have hvl:=o3.length
                  have okd:∀u∈vs.drop off,okE e2 u:=fun u hu=>o4 u (List.mem_of_mem_drop hu)
                  have hvs:= (o3.drop off).take len
                  have okt:∀u∈ (vs.drop off).take len,okE e2 u:=fun u hu=>okd u (List.mem_of_mem_take hu)
                  have hvll: ((vs.drop off).take len).length=len:=by rw [List.length_take,List.length_drop];omega
                  have hall:=hvs.append hys
                  have okall:∀u∈ (vs.drop off).take len++ws,okE e2 u:=fun u hu=>by
                   rcases List.mem_append.1 hu with g|g
                   ·exact okt u g
                   ·exact hk u g
                  have hle6:off*e2+len*e2≤vs.length*e2:=by rw [←Nat.add_mul];exact Nat.mul_le_mul_right _ (by omega)
                  have hold:∀j,j<len*e2→C[L.sh+off*e2+j]?= (flat ((vs.drop off).take len))[j]?:=fun j hj=>by
                   rw [rK _ okd,oQ _ o4,List.getElem?_take_of_lt hj,List.getElem?_drop,←o5 _ (by omega)]
                   congr 1;omega
                  by_cases hroom:len+ys.length≤cap
                  · by_cases hn0:ys= []
                    · subst hn0
                      have hw0:ws= [] :=List.length_eq_zero_iff.1 hyl
                      subst hw0
                      obtain⟨q1,q2⟩ :=moved (C2:=C) r hb hE o1 o2 (L.sh+off*e2) hall okall (fun j hj=>by rw [List.append_nil]at hj ⊢;exact hold j (by rw [hvll]at hj;exact hj))
                      rw [pV o1]at q1 q2
                      refine⟨.slice (some ⟨L.blk,a,none⟩) (len+0) cap,w,_,?_,?_,q1,q2⟩
                      ·exact run_append_room (base:=some ⟨L.blk,a,none⟩) (len:=len) (cap:=cap) (w':=w) hA hst hxt hu hsz (by simpa using hroom) (by simp [flat,storeCells])
                      · simp only [VR]
                        refine .inr ⟨_,a,cap,Emb.put_same _ _ _,by simp,by simpa using hroom,(fun e=>by cases e),fun hc0=>?_⟩
                        obtain⟨g1,g2⟩ :=k3 hc0
                        exact⟨by simp [g1],g2⟩
                    · have hpos:0<ys.length:=List.length_pos_iff.2 hn0
                      obtain⟨g1,g2⟩ :=k3 (by omega)
                      subst g1
                      have hm: (len+ys.length) *e2≤cap*e2:=Nat.mul_le_mul_right _ hroom
                      rw [Nat.add_mul]at hm
                      have hfit:L.sh+off*e2+len*e2+ (flat ws).length≤C.size:=by rw [hfl,hyl,o2];omega
                      obtain⟨q1,q2⟩ :=moved (C2:=over C (L.sh+off*e2+len*e2) (flat ws)) r hb hE o1 (by rw [mO];exact o2) (L.sh+off*e2) hall okall (fun j hj=>by
                       rw [List.length_append,hvll,Nat.add_mul]at hj
                       rw [lX _ _ _ _ hfit,uR]
                       have hfo: (flat ((vs.drop off).take len)).length=len*e2:=by rw [flat_length okt,hvll]
                       by_cases hj2:j<len*e2
                       ·rw [if_neg (by omega),List.getElem?_append_left (by omega)];exact hold j hj2
                       · rw [if_pos (by rw [hfl];omega),List.getElem?_append_right (by omega),hfo]
                         congr 1;omega)
                      refine⟨.slice (some ⟨L.blk,L.sh+off*e2,none⟩) (len+ys.length) cap,_,_,?_,?_,q1,q2⟩
                      · refine run_append_room (base:=some ⟨L.blk,L.sh+off*e2,none⟩) (len:=len) (cap:=cap) hA hst hxt hu hsz hroom ?_
                        simp only [fQ]
                        have:=lY (P:=P) (flat ws) (w:=w) (b:=L.blk) (k:=L.sh+off*e2+len*e2) (i:=0) o1 (by simpa using hfit) (aQB hk)
                        simpa using this
                      · simp only [VR]
                        exact .inr ⟨_,_,cap,Emb.put_same _ _ _,rfl,hroom,(fun e=>by cases e),fun _=> ⟨by simp,g2⟩⟩
                  · have hpos:0<ys.length:=by omega
                    obtain⟨nc,rest,d,m1,m2,m3⟩ :=run_append_grow (ty:=ty) (base:=some ⟨L.blk,a,none⟩) (len:=len) (cap:=cap) (os:=flat ((vs.drop off).take len)) hA hz hinf hb1 hb2 hst hxt hu hsz hroom (by omega) (fun w1 hw=>by
                     simp only [Builtin.firstCells]
                     by_cases hc0:cap=0
                     · have:len=0:=by omega
                       subst this
                       simp [loadCells,loadCellsFrom,flat]
                     · obtain⟨g1,g2⟩ :=k3 hc0
                       subst g1
                       exact run_loadCells _ (by rw [hw];exact o1) (by rw [flat_length okt,hvll]) hold)
                    obtain⟨q1,q2⟩ :=xX r rd xd rfl hall okall el rest d
                    rw [uR]at q1 q2
                    refine⟨_,_,_,m3,?_,q1,q2⟩
                    simp only [VR]
                    refine .inr ⟨_,0,nc,Emb.put_same _ _ _,rfl,m1,(fun e=>by cases e),fun _=> ⟨by simp,?_⟩⟩
                    rw [List.length_append,List.length_append,flat_length okt,hvll,hfl,m2,hzl,hyl,Nat.zero_add,←Nat.add_mul,←Nat.add_mul]
                    exact Nat.mul_le_mul_right _ (by omega)
              ·cases ha
            ·cases ha
          · -- a slice without room,and without elements
            split at ha
            · rename_i hcond
              cases ha
              obtain⟨rfl,hn⟩ :=hcond
              simp only [VR]at hs
              obtain⟨vs,h1,h2⟩ :=hs
              rw [h1.nil_inv]at h2
              obtain⟨a,cap,rfl,_,g2,_⟩ :=sJ (P:=P) r h2
              rw [g2 rfl]
              exact uT hst hxt hu hsz hinf hz hzl hb1 hb2 r r (Ext.refl _ _ _) rfl hA hys hk hn a
            ·cases ha
          · rename_i e' y xs
            split at ha
            · rename_i hcond
              cases ha
              obtain⟨rfl,hkl,hn⟩ :=hcond
              simp only [VR]at hs
              obtain⟨vs,h1,h2⟩ :=hs
              have hvl:=h1.length
              obtain⟨a,cap,rfl,g1,g2,g3,g4⟩ :=sJ (P:=P) r h2
              have hce:=g2 rfl
              subst hce
              have hysp:=fR hkl hys
              have okall:∀u∈vs++ws,okE e' u:=fun u hu=>by
               rcases List.mem_append.1 hu with g|g
               ·exact h2.1 u g
               ·exact hk u g
              by_cases hn0:ys= []
              · subst hn0
                have hw0:ws= [] :=List.length_eq_zero_iff.1 hyl
                subst hw0
                refine⟨.slice a vs.length vs.length,w,E,?_,?_,r,Ext.refl _ _ _⟩
                ·exact run_append_room (base:=a) (len:=vs.length) (cap:=vs.length) (w':=w) hA hst hxt hu hsz (by simp) (by cases a<;>simp [flat,storeCells])
                · simp only [VR,List.append_nil]
                  refine⟨vs,h1,h2.1,?_⟩
                  rcases h2.2 with⟨p1,p2,p3,p4,p5,p6⟩ | ⟨k,b,c,D,p1,p2,p3,p4,p5⟩
                  ·exact .inl ⟨p1,p2,p3,p4,p5,(fun e=>by cases e)⟩
                  ·exact .inr ⟨k,b,c,D,p1,p2,p3,(fun e=>by cases e),p5⟩
              · have hpos:0<ys.length:=List.length_pos_iff.2 hn0
                simp only [List.length_cons]at hn hvl
                obtain⟨nc,rest,d,m1,m2,m3⟩ :=run_append_grow (ty:=ty) (base:=a) (len:=vs.length) (cap:=vs.length) (os:=flat vs) hA hz hinf hb1 hb2 hst hxt hu hsz (by omega) (by omega) (fun w1 hw=>by
                 cases a with
                 |none=>obtain⟨_,h0⟩ :=g1 rfl;subst h0;simp at hvl
                 |some ad=>simp only [Builtin.firstCells];exact g4 ad rfl w1 hw)
                obtain⟨hle,q1,q2⟩ :=aWq r ⟨flat vs++flat ws++rest⟩ el d
                refine⟨_,_,_,m3,?_,q1,q2⟩
                simp only [VR]
                refine⟨vs++ws,(h1.append hysp).mono hle.pp,okall,.inr ⟨w.heap.size,0,nc,⟨flat vs++flat ws++rest⟩,by rw [List.length_append,hyl],by simp [Emb.immPut],by rw [List.length_append,hyl];exact m1,(fun e=>by cases e),fun j hj=>?_⟩⟩
                rw [show(⟨flat vs++flat ws++rest⟩ :Array Value) = (flat vs++flat ws++rest).toArray from rfl,List.getElem?_toArray,Nat.zero_add,←uR,List.getElem?_append_left (by rw [flat_length okall];exact hj)]
            ·cases ha
          ·cases ha
     ·cases ha
   ·cases ha
 ·cases ha
end Go.Hb
namespace Go.Hb
variable {P :Program} {E:Emb} {h h':Hp} {w w':World} {tm:T AV} {ρ:Operand→Value}
theorem wR {t:TypeId}{e:Nat}(h0:xO P t e=true) :∃el,P.underlying t=some (.slice el) ∧bG P el=some e:=by
 unfold xO at h0
 split at h0
 · rename_i el hu
   split at h0
   ·rename_i s hs;have:=Nat.eq_of_beq_eq_true h0;subst this;exact⟨el,hu,hs⟩
   ·cases h0
 ·cases h0
theorem aG5 {t:TypeId}{x v:AV}{cx:Value}{lo hi mx:Option Nat}{clo chi cmx:Option Value}(hv:aBg P t x lo hi mx=some v)(hx:VR E x cx)
  (h1:NVR lo clo) (h2:NVR hi chi) (h3:NVR mx cmx) :∃cv,(Instr.sliceAt t cx clo chi cmx).run P w= .ok cv w∧VR E v cv:=by
 unfold aBg at hv
 split at hv
 · rename_i e xs ex
   cases hc:xO P t e with
   |false=>rw [hc]at hv;cases hv
   | true =>
    rw [hc]at hv;simp only [cond]at hv
    obtain⟨el,hu,hsz⟩ :=wR hc
    simp only [VR]at hx
    obtain⟨vs,k1,k2⟩ :=hx
    have hvl:=k1.length
    have key :∀ (l u m:Nat) (ex':Bool) (a:Option Addr) (cap:Nat),cx= .slice a vs.length cap→l≤u→u≤vs.length→u≤m→m≤cap→ (ex'=true→m=u) →
      (Instr.sliceBounds true vs.length cap clo chi cmx).run P w= .ok (l,u,m) w →
      ∃cv,(Instr.sliceAt t cx clo chi cmx).run P w= .ok cv w∧VR E (.ilst e ((xs.drop l).take (u-l)) ex') cv:=by
     intro l u m ex' a cap hcx hlu hul hum hmc hex hb
     refine⟨.slice (if m=l then a else a.map (·.add (l*e))) (u-l) (m-l),?_,?_⟩
     · subst hcx
       simp [Instr.sliceAt,Instr.slice,aH hu,hb,cG hsz]
     · simp only [VR]
       have okv:∀x∈ (vs.drop l).take (u-l),okE e x:=fun x hx=>k2.1 x (List.mem_of_mem_drop (List.mem_of_mem_take hx))
       have hlen: ((vs.drop l).take (u-l)).length=u-l:=by rw [List.length_take,List.length_drop];omega
       refine⟨(vs.drop l).take (u-l),(k1.drop l).take (u-l),okv,?_⟩
       rcases k2.2 with⟨p1,b,c,p2,p3,p4⟩ | ⟨k,b,c,C,p2,p3,p4,p5,p6⟩
       · subst p1
         rw [hcx]at p2;cases p2
         simp only [List.length_nil]at hul
         have hu0:u=0:=by omega
         have hl0:l=0:=by omega
         subst hu0;subst hl0
         refine .inl ⟨by simp,_,m,rfl,fun hn=>?_,fun he=>by have:=hex he;omega⟩
         have:a=none:=by
          split at hn
          ·exact hn
          ·cases a<;>simp at hn ⊢
         have:=p3 this
         omega
       · rw [hcx]at p2;cases p2
         by_cases hul0:u-l=0
         · refine .inl ⟨List.length_eq_zero_iff.1 (by omega),_,m-l,by rw [hul0],fun hn=>?_,fun he=>by have:=hex he;omega⟩
           split at hn<;>simp at hn
         · have hml:m≠l:=by omega
           refine .inr ⟨k,b+l*e,m-l,C,?_,p3,by omega,fun he=>by rw [hlen];have:=hex he;omega,fun j hj=>?_⟩
           ·rw [if_neg hml,hlen];simp [fQ]
           · rw [hlen]at hj
             have h6:l*e+ (u-l) *e≤vs.length*e:=by rw [←Nat.add_mul];exact Nat.mul_le_mul_right _ (by omega)
             rw [rK _ (fun x hx=>k2.1 x (List.mem_of_mem_drop hx)),oQ _ k2.1,List.getElem?_take_of_lt hj,List.getElem?_drop,←p6 _ (by omega)]
             congr 1;omega
    obtain⟨a,cap,hcx,hcap,hexact⟩ :∃a cap,cx= .slice a vs.length cap∧vs.length≤cap∧ (ex=true→cap=vs.length) :=by
     rcases k2.2 with⟨p1,b,c,p2,p3,p4⟩ | ⟨k,b,c,C,p2,p3,p4,p5,p6⟩
     ·subst p1;exact⟨b,c,p2,Nat.zero_le _,fun e=>p4 e⟩
     ·exact⟨_,c,p2,p4,p5⟩
    split at hv
    · rename_i hmx
      split at hv
      · rename_i hb
        cases hv
        rw [←hvl]at hb ⊢
        cases cmx with
        |some c=>exact h3.elim
        | none=>
         have:=jH (P:=P) (w:=w) (isS:=true) (len:=vs.length) (cap:=cap) h1 h2 (show NVR none none from trivial) (by simp) hb.1 (by simp only [Option.getD_none];omega) (Nat.le_refl _)
         exact key _ _ cap _ a cap hcx hb.1 hb.2 (by omega) (Nat.le_refl _) (fun he=>by
          simp only [Bool.and_eq_true]at he
          have h5:=Nat.eq_of_beq_eq_true he.2
          have:=hexact he.1
          omega) this
      ·cases hv
    · rename_i m u
      split at hv
      · rename_i hb
        cases hv
        simp only [Option.getD_some]at hb ⊢
        rw [←hvl]at hb
        have:=jH (P:=P) (w:=w) (isS:=true) (len:=vs.length) (cap:=cap) h1 h2 h3 (by simp) (by simpa using hb.1) (by simp only [Option.getD_some];omega) (by simp only [Option.getD_some];omega)
        exact key _ _ m _ a cap hcx hb.1 (by omega) hb.2.1 (by omega) (fun he=> (Nat.eq_of_beq_eq_true he).symm) (by simpa using this)
      ·cases hv
    ·cases hv
 · rename_i b e off len ex
   cases hc:xO P t e with
   |false=>rw [hc]at hv;cases hv
   | true =>
    rw [hc]at hv;simp only [cond]at hv
    obtain⟨el,hu,hsz⟩ :=wR hc
    have hx0:=hx
    simp only [VR]at hx
    have key:∀ (l u m:Nat) (ex':Bool) (a:Option Addr) (cap:Nat),cx= .slice a len cap→l≤u→u≤len→u≤m→m≤cap→ (ex'=true→m=u) →
      (Instr.sliceBounds true len cap clo chi cmx).run P w= .ok (l,u,m) w →
      ∃cv,(Instr.sliceAt t cx clo chi cmx).run P w= .ok cv w∧VR E (.gl b e (off+l) (u-l) ex') cv:=by
     intro l u m ex' a cap hcx hlu hul hum hmc hex hb
     refine⟨.slice (if m=l then a else a.map (·.add (l*e))) (u-l) (m-l),?_,?_⟩
     · subst hcx
       simp [Instr.sliceAt,Instr.slice,aH hu,hb,cG hsz]
     · simp only [VR]
       rcases hx with⟨p1,b',p2⟩ | ⟨L,b',c,p1,p2,p3,p4,p5⟩
       · rw [hcx]at p2;cases p2
         have:u=0:=by omega
         subst this
         have:l=0:=by omega
         subst this
         have:m=0:=by omega
         subst this
         exact .inl ⟨rfl,_,rfl⟩
       · rw [hcx]at p2;cases p2
         refine .inr ⟨L,if m=l then b' else b'+l*e,m-l,p1,?_,by omega,fun he=>by have:=hex he;omega,fun hc0=>?_⟩
         ·split<;>simp [fQ]
         · have hml:m≠l:=by omega
           rw [if_neg hml]
           obtain⟨g1,g2⟩ :=p5 (by omega)
           have h6:l*e+ (m-l) *e≤cap*e:=by rw [←Nat.add_mul];exact Nat.mul_le_mul_right _ (by omega)
           exact⟨by rw [g1,Nat.add_mul];omega,by omega⟩
    obtain⟨a,cap,hcx,hcap,hexact⟩ :∃a cap,cx= .slice a len cap∧len≤cap∧ (ex=true→cap=len) :=by
     rcases hx with⟨p1,b',p2⟩ | ⟨L,b',c,p1,p2,p3,p4,p5⟩
     ·subst p1;exact⟨b',0,p2,Nat.le_refl _,fun _=>rfl⟩
     ·exact⟨_,c,p2,p3,p4⟩
    split at hv
    · rename_i hmx
      split at hv
      · rename_i hb
        cases hv
        cases cmx with
        |some c=>exact h3.elim
        | none=>
         have:=jH (P:=P) (w:=w) (isS:=true) (len:=len) (cap:=cap) h1 h2 (show NVR none none from trivial) (by simp) hb.1 (by simp only [Option.getD_none];omega) (Nat.le_refl _)
         exact key _ _ cap _ a cap hcx hb.1 hb.2 (by omega) (Nat.le_refl _) (fun he=>by
          simp only [Bool.and_eq_true]at he
          have h5:=Nat.eq_of_beq_eq_true he.2
          have:=hexact he.1
          omega) this
      ·cases hv
    · rename_i m u
      split at hv
      · rename_i hb
        cases hv
        simp only [Option.getD_some]at hb ⊢
        have:=jH (P:=P) (w:=w) (isS:=true) (len:=len) (cap:=cap) h1 h2 h3 (by simp) (by simpa using hb.1) (by simp only [Option.getD_some];omega) (by simp only [Option.getD_some];omega)
        exact key _ _ m _ a cap hcx hb.1 (by omega) hb.2.1 (by omega) (fun he=> (Nat.eq_of_beq_eq_true he).symm) (by simpa using this)
      ·cases hv
    ·cases hv
 ·cases hv
theorem aFF {v:Value}(h:v.oneCell'=true) :v.cells.toList= [v] :=by cases v<;>first|rfl| (simp [Value.oneCell']at h)
theorem aFe {x x':AV}{o e:Nat}{vs:List AV}{us:List Value}{v:Value}(h0:jS x o vs=some x')(hx:VR E x v)(hk:okE e v)(hv:VRs E vs us)(h1:∀u∈us,u.oneCell'=true) :
  ∃v',VR E x' v'∧okE e v'∧o+us.length≤e∧∀j,j<e→v'.cells[j]?=if o≤j∧j<o+us.length then us[j-o]? else v.cells[j]?:=by
 have hl:=hv.length
 unfold jS at h0
 split at h0
 · rename_i cs
   cases hc:Nat.ble (o+vs.length) cs.length with
   |false=>rw [hc]at h0;cases h0
   | true =>
    rw [hc]at h0;simp only [cond]at h0;cases h0
    have hle:=Nat.le_of_ble_eq_true hc
    simp only [VR]at hx
    obtain⟨ws,rfl,hws⟩ :=hx
    have hwl:=hws.length
    have he:ws.length=e:=by have:=hk.1;simpa [Value.cells]using this
    refine⟨.agg ⟨ws.take o++us++ws.drop (o+us.length)⟩,?_,⟨?_,?_⟩,by omega,fun j hj=>?_⟩
    · simp only [VR];refine⟨_,rfl,?_⟩
      unfold setAt;rw [←hl]
      exact((hws.take o).append hv).append (hws.drop _)
    ·simp [Value.cells];omega
    · intro c hcm
      simp only [Value.cells]at hcm
      rcases List.mem_append.1 hcm with g|g
      · rcases List.mem_append.1 g with g|g
        ·exact hk.2 c (by simp only [Value.cells];exact List.mem_of_mem_take g)
        ·exact h1 c g
      ·exact hk.2 c (by simp only [Value.cells];exact List.mem_of_mem_drop g)
    · simp only [Value.cells]
      rw [show(⟨ws.take o++us++ws.drop (o+us.length)⟩ :Array Value) = (ws.take o++us++ws.drop (o+us.length)).toArray from rfl,List.getElem?_toArray,show(⟨ws⟩ :Array Value) =ws.toArray from rfl,List.getElem?_toArray]
      by_cases h2:o≤j∧j<o+us.length
      · rw [if_pos h2,List.getElem?_append_left (by simp;omega),List.getElem?_append_right (by simp;omega)]
        congr 1;simp;omega
      · rw [if_neg h2]
        by_cases h3:j<o
        ·rw [List.getElem?_append_left (by simp;omega),List.getElem?_append_left (by simp;omega),List.getElem?_take_of_lt h3]
        · rw [List.getElem?_append_right (by simp;omega),List.getElem?_drop]
          congr 1;simp;omega
 ·cases h0
 ·cases h0
 · rename_i hn1 hn2 hn3
   split at h0
   · rename_i v1
     cases h0
     obtain⟨u1,us',rfl,q1,q2⟩ :=hv.cons_inv
     rw [q2.nil_inv]at h1 ⊢
     have ho:x.one=true:=by cases x<;>first|rfl|exact absurd rfl (hn1 _) |exact absurd rfl (hn2 _) |exact absurd rfl (hn3 _)
     have hvo:=aFF (hx.one ho)
     have he:e=1:=by have:=hk.1;rw [←Array.length_toList,hvo]at this;exact this.symm
     have h11:=aFF (h1 u1 (List.mem_cons_self ..))
     refine⟨u1,q1,⟨by rw [←Array.length_toList,h11,he];rfl,fun c hc=>by rw [h11]at hc;simp at hc;subst hc;exact h1 _ (List.mem_cons_self ..)⟩,by simp [he],fun j hj=>?_⟩
     have hj0:j=0:=by omega
     subst hj0
     rw [if_pos (by simp),←Array.getElem?_toList,h11]
   ·cases h0
theorem aQC {e : Nat}{vs:List Value}(hk:∀u∈vs,okE e u){i:Nat}(hi:i<vs.length){v':Value}(hk':okE e v') :
  (∀u∈vs.set i v',okE e u) ∧∀j,j<vs.length*e→ (flat (vs.set i v'))[j]?=if i*e≤j∧j<i*e+e then v'.cells[j-i*e]? else(flat vs)[j]?:=by
 have ok2:∀u∈vs.set i v',okE e u:=fun u hu=>by
  rcases List.mem_or_eq_of_mem_set hu with g|g
  ·exact hk u g
  ·rw [g];exact hk'
 refine⟨ok2,fun j hj=>?_⟩
 have he : 0 < e := by rcases Nat.eq_zero_or_pos e with g|g; · subst g;simp at hj
                       ·exact g
 have hq:j / e<vs.length:=Nat.div_lt_of_lt_mul (by rw [Nat.mul_comm];exact hj)
 have hr:j % e<e:=Nat.mod_lt _ he
 have hj':j=j / e*e+j % e:=by have:=Nat.div_add_mod j e;rw [Nat.mul_comm]at this;exact this.symm
 have h1:=flat_get (v:= (vs.set i v')[j / e]'(by simpa using hq)) ok2 (List.getElem?_eq_getElem _) hr
 have h2:=flat_get (v:=vs[j / e]) hk (List.getElem?_eq_getElem hq) hr
 rw [←hj']at h1 h2
 rw [h1,h2,List.getElem_set]
 by_cases hi2:i=j / e
 · rw [if_pos hi2,if_pos (by rw [hi2];omega)]
   congr 1;rw [hi2];omega
 · rw [if_neg hi2,if_neg (fun hh=>hi2 ?_)]
   have:=Nat.div_eq_of_lt_le (m:=j) (n:=e) (k:=i) (by omega) (by rw [Nat.succ_mul];omega)
   omega
theorem aG6 (r:Rel E h w.heap){b e i o:Nat}{xs:List AV}{x x':AV}{vs:List AV}{us:List Value}(hb:h.look b=some (.lst e xs)){L:Loc}(hE:E b=some L)(hx:xs[i]?=some x)(h0:jS x o vs=some x')(hv:VRs E vs us)(h1:∀u∈us,u.oneCell'=true) :
  ∃w',(storeCells ⟨L.blk,L.sh+ (i*e+o),none⟩ us).run P w= .ok () w'∧Rel E (h.set b (.lst e (xs.set i x'))) w'.heap∧Ext E h w E (h.set b (.lst e (xs.set i x'))) w':=by
 obtain⟨C,el,ws,o1,o2,o3,o4,o5⟩ :=r.objL hb hE
 obtain⟨v,k1,k2,k3,k4⟩ :=aDi o3 o4 o5 hx
 obtain⟨v',m1,m2,m3,m4⟩ :=aFe h0 k2 k3 hv h1
 have hi:= (List.getElem?_eq_some_iff.1 k1).1
 obtain⟨f1,f2⟩ :=aQC o4 hi m2
 have hie:i*e+e≤ws.length*e:=by rw [←Nat.succ_mul];exact Nat.mul_le_mul_right _ hi
 have hsz:us= [] ∨L.sh+ (i*e+o) +us.length≤C.size:=by
  by_cases hu:us= []
  ·exact .inl hu
  · have hpos:0<us.length:=List.length_pos_iff.2 hu
    have h7:=k4 (o+us.length-1) (by omega)
    have h8:v.cells[o+us.length-1]?≠none:=by rw [Array.getElem?_eq_getElem (by rw [k3.1];omega)];simp
    rw [←h7]at h8
    have h9:L.sh+ (i*e+ (o+us.length-1)) <C.size:=by
     rcases Nat.lt_or_ge (L.sh+ (i*e+ (o+us.length-1))) C.size with g|g
     ·exact g
     ·exact absurd (Array.getElem?_eq_none g) h8
    exact .inr (by omega)
 have run: (storeCells ⟨L.blk,L.sh+ (i*e+o),none⟩ us).run P w= .ok () (cN w L.blk (.cells (over C (L.sh+ (i*e+o)) us) el (0,0))) :=by
  rcases hsz with rfl|hsz
  ·simp [storeCells,over,pV o1]
  · have:=lY (P:=P) us (w:=w) (b:=L.blk) (k:=L.sh+ (i*e+o)) (i:=0) o1 (by simpa using hsz) h1
    simpa using this
 obtain ⟨q1,q2⟩ :=r.setObj (o':=.lst e (xs.set i x')) (.cells (over C (L.sh+ (i*e+o)) us) el (0,0)) hb hE rfl rfl (fun H' hH=> ⟨over C (L.sh+ (i*e+o)) us,el,ws.set i v',hH,by rw [mO];exact o2,by
  refine VRs.of_get (by simp [o3.length]) (fun k a ha=>?_)
  rw [List.getElem?_set]at ha ⊢
  by_cases hki:i=k
  · rw [if_pos hki]at ha ⊢
    have hxl:= (List.getElem?_eq_some_iff.1 hx).1
    rw [if_pos (by omega)]at ha
    rw [if_pos (by omega)]
    cases ha
    exact⟨v',rfl,m1⟩
  · rw [if_neg hki]at ha ⊢
    exact o3.get k a ha,f1,fun j hj=>by
  rw [List.length_set]at hj
  rw [f2 j hj]
  rcases hsz with rfl|hsz
  · rw [over,o5 j hj]
    split
    · rename_i hj2
      have:=m4 (j-i*e) (by omega)
      simp only [List.length_nil,Nat.add_zero]at this
      rw [if_neg (by omega)]at this
      have h5:=k4 (j-i*e) (by omega)
      rw [this,←h5,show i*e+ (j-i*e) =j by omega,o5 j hj]
    ·rfl
  · rw [lX _ _ _ _ hsz]
    by_cases hj2:i*e≤j∧j<i*e+e
    · rw [if_pos hj2,m4 _ (by omega)]
      by_cases hj3:o≤j-i*e∧j-i*e<o+us.length
      ·rw [if_pos hj3,if_pos (by omega)];congr 1;omega
      · rw [if_neg hj3,if_neg (by omega)]
        have h5:=k4 (j-i*e) (by omega)
        rw [←h5];congr 1;omega
    ·rw [if_neg hj2,if_neg (by omega),o5 j hj]⟩)
 exact⟨_,run,q1,q2⟩
end Go.Hb
namespace Go.Hb
variable {P :Program} {E:Emb} {h h':Hp} {w w':World} {tm:T AV} {ρ:Operand→Value}
theorem aG7 (n:Nat){t:TypeId}{d:TypeDesc}(hu:P.underlying t=some d){x y:AV}{cx cy:Value}{b:Bool}(hx:plainKey d x=true)(hy:plainKey d y=true)(h0:nT x y=some b)(vx:VR E x cx)(vy:VR E y cy) :
  (Op.equalIn (n+1) t cx cy).run P w= .ok b w:=by
 rcases eY hx vx with⟨i,kk,m,rfl,rfl,rfl⟩ | ⟨l,m,rfl,rfl,rfl⟩ | ⟨b',rfl,rfl,rfl⟩
 · rcases eY hy vy with⟨i',kk',m',e1,rfl,rfl⟩ | ⟨l',m',e1,_⟩ | ⟨b',e1,_⟩
   · simp only [nT]at h0
     split at h0
     ·rename_i hk;cases h0;subst hk;simp [Op.equalIn,aH hu]
     ·cases h0
   ·cases e1
   ·cases e1
 · rcases eY hy vy with⟨i',kk',m',e1,_⟩ | ⟨l',m',e1,rfl,rfl⟩ | ⟨b',e1,_⟩
   ·cases e1
   · have:=yP (d:=.string) rfl vx vy h0
     simp only [Instr.sameNow]at this
     simp only [Op.equalIn,Sem.run_bind,aH hu,Result.andThen_ok,Sem.run_pure]
     exact congrArg (Result.ok · w) (Option.some.inj this.1)
   ·cases e1
 · rcases eY hy vy with⟨i',kk',m',e1,_⟩ | ⟨l',m',e1,_⟩ | ⟨b2,e1,rfl,rfl⟩
   ·cases e1
   ·cases e1
   ·simp only [nT]at h0;cases h0;simp [Op.equalIn,aH hu]
theorem aAt {d:TypeDesc}{x:AV}(h:plainKey d x=true) :isAggD d=false:=by
 unfold plainKey at h;split at h<;>first|rfl|cases h
theorem aAu (n:Nat)(body:Field→Option Bool×Unit→Sem (ForInStep (Option Bool×Unit))){us vs:List Value}:∀ (fs:List Field) (k:Nat) (xs ys:List AV) (b:Bool),lS P fs k xs ys=some b→VRs E xs (us.drop k) →VRs E ys (vs.drop k) →
  (∀f∈fs,∀s,body f s= (do if f.name≠ "_" then if !(←Op.equalIn (n+1) f.type (←part f.type ⟨us⟩ f.offset) (←part f.type ⟨vs⟩ f.offset))then pure (.done (some false,()))else pure (.yield (none,()))else pure (.yield (none,())) :Sem (ForInStep (Option Bool×Unit)))) →
  (forIn fs (none,()) body:Sem (Option Bool×Unit)).run P w= .ok (if b then(none,())else(some false,())) w
 | [],k,xs,ys,b,h0,_,_,_=>by
  cases xs<;>cases ys<;>simp only [lS]at h0<;>cases h0
  simp
 | f :: fs,k,xs,ys,b,h0,hx,hy,hb=>by
  cases xs with
  |nil=>cases ys<;>simp [lS]at h0
  | cons x xs=>
   cases ys with
   |nil=>simp [lS]at h0
   | cons y ys=>
    simp only [lS]at h0
    split at h0
    · rename_i d hu
      cases hc: (Nat.beq f.offset k&& (f.name != "_") &&plainKey d x&&plainKey d y)with
      |false=>rw [hc]at h0;cases h0
      | true=>
       rw [hc]at h0;simp only [cond]at h0
       simp only [Bool.and_eq_true,bne_iff_ne]at hc
       obtain⟨⟨⟨ho,hn⟩,hpx⟩,hpy⟩ :=hc
       have ho:=Nat.eq_of_beq_eq_true ho
       split at h0
       · rename_i a b' hce hse
         cases h0
         obtain⟨cx,us',e1,q1,q2⟩ :=hx.cons_inv
         obtain⟨cy,vs',e2,q3,q4⟩ :=hy.cons_inv
         have g1:us[k]?=some cx:=by have:=congrArg (·[0]?) e1;simpa using this
         have g2:vs[k]?=some cy:=by have:=congrArg (·[0]?) e2;simpa using this
         have d1:us.drop (k+1) =us':=by rw [←List.drop_drop,e1];rfl
         have d2:vs.drop (k+1) =vs':=by rw [←List.drop_drop,e2];rfl
         have p1: (part f.type ⟨us⟩ f.offset).run P w= .ok cx w:=by
          simp [part,pW hu,aAt hpx,ho,show(⟨us⟩ :Array Value)[k]?=some cx by rw [show(⟨us⟩ :Array Value) =us.toArray from rfl,List.getElem?_toArray];exact g1]
         have p2: (part f.type ⟨vs⟩ f.offset).run P w= .ok cy w:=by
          simp [part,pW hu,aAt hpx,ho,show(⟨vs⟩ :Array Value)[k]?=some cy by rw [show(⟨vs⟩ :Array Value) =vs.toArray from rfl,List.getElem?_toArray];exact g2]
         have p3:=aG7 (w:=w) n hu hpx hpy hce q1 q3
         have ih:=aAu n body fs (k+1) xs ys b' hse (by rw [d1];exact q2) (by rw [d2];exact q4) (fun f hf=>hb f (List.mem_cons_of_mem _ hf))
         rw [List.forIn_cons,hb f (List.mem_cons_self ..)]
         simp only [ne_eq,hn,not_false_eq_true,if_true,Sem.run_bind,p1,p2,p3,Result.andThen_ok]
         cases a with
         |true=>simp only [Bool.not_true,Bool.false_eq_true,if_false,Sem.run_pure,Result.andThen_ok,Bool.true_and];exact ih
         |false=>simp
       ·cases h0
    ·cases h0
theorem aDj (n:Nat){t:TypeId}{fs:Array Field}(hu:P.underlying t=some (.struct fs))(hst:P.stoodInHeld t=false){xs ys:List AV}{us vs:List Value}{b:Bool}(h0:lS P fs.toList 0 xs ys=some b)(hx:VRs E xs us)(hy:VRs E ys vs) :
  (Op.equalIn (n+2) t (.agg ⟨us⟩) (.agg ⟨vs⟩)).run P w= .ok b w:=by
 have:=aAu (w:=w) n (fun f s=> (do if f.name≠ "_" then if !(←Op.equalIn (n+1) f.type (←part f.type ⟨us⟩ f.offset) (←part f.type ⟨vs⟩ f.offset))then pure (.done (some false,()))else pure (.yield (none,()))else pure (.yield (none,())) :Sem (ForInStep (Option Bool×Unit)))) fs.toList 0 xs ys b h0 (by simpa using hx) (by simpa using hy) (fun f _ s=>rfl)
 rw [Op.equalIn]
 simp only [Sem.run_bind,aH hu,Result.andThen_ok,run_program,hst,Bool.false_eq_true,if_false]
 rw [←Array.forIn_toList]
 rw [this]
 cases b<;>rfl
theorem aB3 {op:BinOp}{t:TypeId}(hg:P.eqGuardType P.depth t=false)(X Y:Operand)(xs ys:Array Value) : (eqGuard op t X Y (.agg xs) (.agg ys)).run P w= .ok () w:=by
 cases op<;>simp [eqGuard,hg]
set_option maxHeartbeats 4000000 in
theorem aLA (r:Rel E h w.heap){o:Oper}(hρ:Reads E tm ρ (· ∈o.op.operands)){out:AOut}(h0:vop P h tm o=some out) :
  Out P E h w ((execOp ρ o).run P w) out∧ (dJ o.op= .pure∨dJ o.op= .read→aOw P E h w ((execOp ρ o).run P w) out) :=by
 unfold vop at h0
 unfold execOp
 split at h0
 all_goals (rename_i hop;try (simp only [hop];rw [hop]at hρ))
 · -- load
   rename_i t a
   obtain⟨p,hp,h0⟩ :=dE h0
   have hx:=hρ _ (by simp [Op.operands]) _ hp
   split at h0
   · rename_i cs
     obtain⟨v,hv,rfl⟩ :=dW h0
     simp only [VR]at hx
     obtain⟨us,k1,k,o',C,hL,k2,k3⟩ :=hx
     obtain⟨el,f,k4⟩ :=r.imm k C k2
     obtain⟨cv,m1,m2⟩ :=aB2 hv k1.of_p k4 k3
     exact aZ r (by simp [Instr.loadAt,hL,Instr.sureAddr,m1]) m2
   · rename_i b e i k
     split at h0
     · rename_i e' xs hb
       cases hc:Nat.beq e' e with
       |false=>rw [hc]at h0;cases h0
       | true=>
        rw [hc]at h0;simp only [cond]at h0
        have:=Nat.eq_of_beq_eq_true hc
        subst this
        split at h0
        · rename_i x hxi
          obtain⟨v,hv,rfl⟩ :=dW h0
          simp only [VR]at hx
          obtain⟨L,hE,hL⟩ :=hx
          obtain⟨C,el,vs,o1,o2,o3,o4,o5⟩ :=r.objL hb hE
          obtain⟨u,q1,q2,q3,q4⟩ :=aDi o3 o4 o5 hxi
          obtain⟨cv,m1,m2⟩ :=aB2 (w:=w) (o:=L.sh+ (i*e'+k)) hv (q2.cells.drop k) o1 (fun j hj=>by
           rw [List.length_drop,Array.length_toList,q3.1]at hj
           rw [List.getElem?_drop,Array.getElem?_toList,←q4 _ (by omega)];congr 1;omega)
          exact aZ r (by simp [Instr.loadAt,hL,Instr.sureAddr,m1]) m2
        ·cases h0
     ·cases h0
   ·cases h0
 · -- store
   rename_i t a x
   obtain⟨p,v,hp,hxv,h0⟩ :=gJ h0
   have hx:=hρ _ (by simp [Op.operands]) _ hp
   have hv:=hρ _ (by simp [Op.operands]) _ hxv
   split at h0
   · rename_i b e i k
     split at h0
     · rename_i e' xs n hb hn
       cases hc: (Nat.beq e' e&&Nat.beq v.cells.length n&&Nat.ble (k+n) e&&cV v.cells)with
       |false=>rw [hc]at h0;cases h0
       | true=>
        rw [hc]at h0;simp only [cond]at h0
        simp only [Bool.and_eq_true]at hc
        obtain⟨⟨⟨hc1,hc2⟩,hc3⟩,hc4⟩ :=hc
        have:=Nat.eq_of_beq_eq_true hc1
        subst this
        have hn2:=Nat.eq_of_beq_eq_true hc2
        split at h0
        · rename_i y hy
          split at h0
          · rename_i y' hy'
            cases h0
            simp only [VR]at hx
            obtain⟨L,hE,hL⟩ :=hx
            obtain⟨w',m1,m2,m3⟩ :=aG6 (P:=P) r hb hE hy hy' hv.cells (hv.cells.ones hc4)
            have hcl: (ρ x).cells.size=n:=by rw [←hn2,←hv.cells.length];simp
            refine nq (by simp [dJ]) ?_
            exact uL (by simp [Instr.storeAt,hL,Instr.sureAddr,storeVar,cG hn,hcl,m1]) m2 m3
          ·cases h0
        ·cases h0
     ·cases h0
   ·cases h0
 · -- fieldAddr
   rename_i t x f
   obtain⟨a,ha,h0⟩ :=dE h0
   have hx:=hρ _ (by simp [Op.operands]) _ ha
   split at h0
   · rename_i cs
     split at h0
     · rename_i o' ho
       cases hc:Nat.blt o' cs.length with
       |false=>rw [hc]at h0;cases h0
       | true=>
        rw [hc]at h0;simp only [cond]at h0;cases h0
        simp only [VR]at hx
        obtain⟨us,k1,k,a0,C,hL,k2,k3⟩ :=hx
        refine aZ r (cv:=.pointer (some ⟨k,a0+o',none⟩)) (by rw [hL];exact sG ho _ _) ?_
        simp only [VR]
        refine⟨us.drop o',k1.drop o',k,a0+o',C,rfl,k2,fun j hj=>?_⟩
        rw [List.length_drop]at hj
        rw [List.getElem?_drop,←k3 _ (by omega)];congr 1;omega
     ·cases h0
   · rename_i b e i k
     split at h0
     · rename_i o' ho
       cases h0
       simp only [VR]at hx
       obtain⟨L,hE,hL⟩ :=hx
       exact aZ r (cv:=.pointer (some ⟨L.blk,L.sh+ (i*e+k) +o',none⟩)) (by rw [hL];exact sG ho _ _) (by simp only [VR];exact⟨L,hE,by congr 3;omega⟩)
     ·cases h0
   ·cases h0
 · -- indexAddr
   rename_i t x ix
   obtain⟨a,b,ha,hb,h0⟩ :=gJ h0
   have hx:=hρ _ (by simp [Op.operands]) _ ha
   have hi:=hρ _ (by simp [Op.operands]) _ hb
   split at h0
   · rename_i e xs ex
     cases hc:xO P t e with
     |false=>rw [hc]at h0;cases h0
     | true =>
      rw [hc]at h0;simp only [cond]at h0
      obtain⟨el,hu,hsz⟩ :=wR hc
      split at h0
      · rename_i k hk
        split at h0
        · rename_i y hy
          cases h0
          obtain⟨kk,hci,hlt⟩ :=lF hk hi
          simp only [VR]at hx
          obtain⟨vs,k1,k2⟩ :=hx
          have hvl:=k1.length
          rcases k2.2 with⟨rfl,_⟩ | ⟨kb,a0,cap,C,hL,g1,g2,g3,g4⟩
          ·simp at hvl;omega
          · obtain⟨u,q1,q2⟩ :=k1.get _ _ hy
            have q3:=k2.1 u (List.mem_of_getElem? q1)
            refine aZ r (cv:=.pointer (some ⟨kb,a0+k*e,none⟩)) ?_ ?_
            ·simp [Instr.indexAt,hci,asIntOf,hL,aH hu,hvl,Nat.not_le.2 hlt,cG hsz,fQ]
            · simp only [VR]
              refine⟨u.cells.toList,q2.cells,kb,a0+k*e,C,rfl,g1,fun j hj=>?_⟩
              rw [Array.length_toList,q3.1]at hj
              have h6:k*e+e≤vs.length*e:=by rw [←Nat.succ_mul];exact Nat.mul_le_mul_right _ (by omega)
              rw [Array.getElem?_toList,←flat_get k2.1 q1 hj,←g4 _ (by omega)];congr 1;omega
        ·cases h0
      ·cases h0
   · rename_i b' e off len ex
     cases hc:xO P t e with
     |false=>rw [hc]at h0;cases h0
     | true=>
      rw [hc]at h0;simp only [cond]at h0
      obtain⟨el,hu,hsz⟩ :=wR hc
      split at h0
      · rename_i k hk
        cases h0
        obtain⟨kk,hci,hlt⟩ :=lF hk hi
        simp only [VR]at hx
        rcases hx with⟨rfl,_⟩ | ⟨L,a0,cap,hE,hL,g2,g3,g4⟩
        ·omega
        · obtain⟨rfl,_⟩ :=g4 (by omega)
          refine aZ r (cv:=.pointer (some ⟨L.blk,L.sh+off*e+k*e,none⟩)) ?_ (by simp only [VR];exact⟨L,hE,by rw [Nat.add_mul];congr 3;omega⟩)
          simp [Instr.indexAt,hci,asIntOf,hL,aH hu,Nat.not_le.2 hlt,cG hsz,fQ]
      ·cases h0
   ·cases h0
 · -- slice
   rename_i t x lo hi mx
   obtain⟨a,ha,h0⟩ :=dE h0
   split at h0
   · rename_i l1 l2 l3 e1 e2 e3
     split at h0
     · rename_i b1 b2 b3 d1 d2 d3
       obtain⟨v,hv,rfl⟩ :=dW h0
       obtain⟨cv,k1,k2⟩ :=aG5 (w:=w) hv (hρ _ (by simp [Op.operands]) _ ha) (rI d1 (lG hρ (fun y hy=>by subst hy;simp [Op.operands]) e1)) (rI d2 (lG hρ (fun y hy=>by subst hy;simp [Op.operands]) e2)) (rI d3 (lG hρ (fun y hy=>by subst hy;simp [Op.operands]) e3))
       exact aZ r k1 k2
     ·cases h0
   ·cases h0
 · -- '==' on structs
   rename_i op t x y yt
   obtain⟨a,b,ha,hb,h0⟩ :=gJ h0
   have hx:=hρ _ (by simp [Op.operands]) _ ha
   have hy:=hρ _ (by simp [Op.operands]) _ hb
   split at h0
   · rename_i xs ys
     simp only [VR]at hx hy
     obtain⟨us,hL1,q1⟩ :=hx
     obtain⟨vs,hL2,q2⟩ :=hy
     split at h0
     · rename_i fs hu
       cases hc: (!(P.eqGuardType P.depth t) && !(P.stoodInHeld t))with
       |false=>rw [hc]at h0;cases h0
       | true=>
        rw [hc]at h0;simp only [cond]at h0
        simp only [Bool.and_eq_true,Bool.not_eq_true']at hc
        cases hse:lS P fs.toList 0 xs ys with
        |none=>rw [hse]at h0;cases op<;>cases h0
        | some b'=>
         rw [hse]at h0
         have:=aDj (w:=w) 9998 hu hc.2 hse q1 q2
         have: (Op.equal t (.agg ⟨us⟩) (.agg ⟨vs⟩)).run P w= .ok b' w:=this
         cases op<;>simp only at h0<;>cases h0
         · refine aZ r (cv:=.bool b') ?_ (by simp [VR])
           simp only [hL1,hL2,Sem.run_bind,aB3 hc.1,Result.andThen_ok]
           simp [binOp,this]
         · refine aZ r (cv:=.bool (!b')) ?_ (by simp [VR])
           simp only [hL1,hL2,Sem.run_bind,aB3 hc.1,Result.andThen_ok]
           simp [binOp,this]
     ·cases h0
   ·cases h0
 · -- len, append
   rename_i c
   have hm:c.args.map ρ= ⟨c.args.toList.map ρ⟩ :=by apply Array.ext';simp
   have hargs:∀ {aS},jA tm c.args.toList=some aS→VRs E aS (c.args.toList.map ρ) :=fun hh=>hρ.list (fun x hx=>by simp only [Op.operands,Call.operands,Array.mem_append];exact .inr (by simpa using hx)) hh
   split at h0
   · rename_i x hcal hargs0
     have ha:=hargs hargs0
     obtain⟨cx,us,e1,hx,hn⟩ :=ha.cons_inv
     rw [hn.nil_inv]at e1
     have hcm:c.args.map ρ= #[cx] :=by rw [hm,e1]
     split at h0
     · rename_i t e xs ex ht
       split at h0
       · rename_i el hu
         cases h0
         simp only [VR]at hx
         obtain⟨vs,k1,k2⟩ :=hx
         obtain⟨a,cap,rfl,_⟩ :=sJ (P:=P) r k2
         rw [←k1.length]
         have hrun: (do let d ←resolve ρ c o.type;invoke d.target d.args:Sem Next).run P w= .ok (.value (.int .i64 vs.length)) w:=by
          simp [resolve,hcal,hcm,invoke,builtin,Builtin.len_,ht,aH hu,goInt]
         have hvr:VR E (.int .i64 vs.length) (.int .i64 vs.length) :=by simp only [VR]
         exact⟨⟨E,w,_,.inl hrun,hvr,r,Ext.refl _ _ _⟩,fun _=> ⟨rfl,_,hrun,hvr⟩⟩
       ·cases h0
     · rename_i t b e off len ex ht
       split at h0
       · rename_i el hu
         cases h0
         simp only [VR]at hx
         have:∃a cap,cx= .slice a len cap:=by
          rcases hx with⟨rfl,a,rfl⟩ | ⟨L,a,cap,_,rfl,_⟩
          ·exact⟨a,0,rfl⟩
          ·exact⟨_,cap,rfl⟩
         obtain⟨a,cap,rfl⟩ :=this
         have hrun: (do let d ←resolve ρ c o.type;invoke d.target d.args:Sem Next).run P w= .ok (.value (.int .i64 len)) w:=by
          simp [resolve,hcal,hcm,invoke,builtin,Builtin.len_,ht,aH hu,goInt]
         have hvr:VR E (.int .i64 len) (.int .i64 len) :=by simp only [VR]
         exact⟨⟨E,w,_,.inl hrun,hvr,r,Ext.refl _ _ _⟩,fun _=> ⟨rfl,_,hrun,hvr⟩⟩
       ·cases h0
     ·cases h0
   · rename_i s x hcal hargs0
     have ha:=hargs hargs0
     obtain⟨cs,us,e1,hs,hn⟩ :=ha.cons_inv
     obtain⟨cx,us',e2,hx,hn'⟩ :=hn.cons_inv
     rw [hn'.nil_inv]at e2
     rw [e2]at e1
     have hcm:c.args.map ρ= #[cs,cx] :=by rw [hm,e1]
     obtain⟨v,h',hv,rfl⟩ :=aFC h0
     obtain⟨cv,w',E',k1,k2,k3,k4⟩ :=vappend_sound (ty:=o.type) r hv hs hx
     refine nq (by simp [dJ,hcal]) ?_
     have:=kN k1 k2 k3 k4
     simpa [resolve,hcal,hcm,invoke,builtin]using this
   ·cases h0
 ·cases h0
theorem yQ (r:Rel E h w.heap){o:Oper}(hρ:Reads E tm ρ (· ∈o.op.operands)){out:AOut}(h0:lD P h tm o=some out) :
  Out P E h w ((execOp ρ o).run P w) out∧ (dJ o.op= .pure∨dJ o.op= .read→aOw P E h w ((execOp ρ o).run P w) out) :=by
 unfold lD at h0
 split at h0
 ·rename_i r' hr;cases h0;exact aIJ r hρ hr
 ·exact aLA r hρ h0
theorem lH (r:Rel E h w.heap){o:Oper}(hρ:Reads E tm ρ (· ∈o.op.operands)){out:AOut}(h0:lD P h tm o=some out) :Out P E h w ((execOp ρ o).run P w) out:= (yQ r hρ h0).1
end Go.Hb
namespace Go.Hb
variable {P :Program} {E:Emb} {h h':Hp} {w w':World}
section
variable {fn :FuncId} {tmps:Array Value} {ds:List Deferred} {kd:CallKind} {ro:Option Nat} {ops:Array Oper} {i:Nat} {rest:List Nat} {k:List Item} {cs:List Frame} {o:Oper}
abbrev rf (fn:FuncId)(tmps:Array Value)(todo:List Item)(ds:List Deferred)(kd:CallKind)(ro:Option Nat) :Frame:={fn,tmps,todo,defers:=ds,mode:=.run,kind:=kd,roundOf:=ro}
theorem lI (ho:ops[i]?=some o)(hw:Region.wanted o (yielded ops tmps) =true)(hd:ro=none∨∀c,o.op≠ .defer c) :
  stepG P true {frame:=rf fn tmps (.inRegion ops (i::rest) ::k) ds kd ro,callers:=cs,status:=.running,dying:=none} w =
   stepG.apply P true (rf fn tmps (.inRegion ops (i::rest) ::k) ds kd ro) cs none (execOp (rf fn tmps (.inRegion ops (i::rest) ::k) ds kd ro).eval o) w:=by
 simp only [stepG,stepG.exec,stepG.oper,Frame.oper?,ho,Option.map_some,Option.getD_some,hw,if_true]
 rcases hd with rfl|hd
 ·rfl
 · cases ro with
   |none=>rfl
   | some l=>
    cases hop:o.op<;>first|rfl|exact absurd hop (hd _)
theorem sK (ho:ops[i]?=some o)(hw:Region.wanted o (yielded ops tmps) =true)(hd:ro=none∨∀c,o.op≠ .defer c){v:Value}
  (hr: (execOp (rf fn tmps (.inRegion ops (i::rest) ::k) ds kd ro).eval o).run P w= .ok (.value v) w') :
  step P (lone (rf fn tmps (.inRegion ops (i::rest) ::k) ds kd ro) cs w) = .next (lone ((rf fn tmps (.inRegion ops (i::rest) ::k) ds kd ro).finish v) cs w') :=
 step_lone_go (by rw [lI ho hw hd];simp [stepG.apply,hr])
theorem aDk (ho:ops[i]?=some o)(hw:Region.wanted o (yielded ops tmps) =true)(hd:ro=none∨∀c,o.op≠ .defer c)
  (hr: (execOp (rf fn tmps (.inRegion ops (i::rest) ::k) ds kd ro).eval o).run P w= .ok .skip w') :
  step P (lone (rf fn tmps (.inRegion ops (i::rest) ::k) ds kd ro) cs w) = .next (lone ((rf fn tmps (.inRegion ops (i::rest) ::k) ds kd ro).finish Go.undef) cs w') :=
 step_lone_go (by rw [lI ho hw hd];simp [stepG.apply,hr])
theorem yR (ho:ops[i]?=some o)(hw:Region.wanted o (yielded ops tmps) =true)(hd:ro=none∨∀c,o.op≠ .defer c){f:FuncId}{args:Array Value}
  (hr: (execOp (rf fn tmps (.inRegion ops (i::rest) ::k) ds kd ro).eval o).run P w= .ok (.enter f args) w') :
  step P (lone (rf fn tmps (.inRegion ops (i::rest) ::k) ds kd ro) cs w) = .next (lone (Frame.enter P f args .normal) (rf fn tmps (.inRegion ops (i::rest) ::k) ds kd ro::cs) w') :=
 step_lone_go (by rw [lI ho hw hd];simp [stepG.apply,hr])
theorem aDl (ho:ops[i]?=some o)(hw:Region.wanted o (yielded ops tmps) =true)(hd:ro=none∨∀c,o.op≠ .defer c){l:Nat}{f:FuncId}{t:Array Value}{aS bd:Code}
  (hr: (execOp (rf fn tmps (.inRegion ops (i::rest) ::k) ds kd ro).eval o).run P w= .ok (.round l f t aS bd) w') :
  step P (lone (rf fn tmps (.inRegion ops (i::rest) ::k) ds kd ro) cs w) = .next (lone (Frame.round l f t aS bd .normal) (rf fn tmps (.inRegion ops (i::rest) ::k) ds kd ro::cs) w') :=
 step_lone_go (by rw [lI ho hw hd];simp [stepG.apply,hr])
theorem aIK (ho:ops[i]?=some o)(hw:Region.wanted o (yielded ops tmps) =true){d:Deferred}
  (hr: (execOp (rf fn tmps (.inRegion ops (i::rest) ::k) ds kd none).eval o).run P w= .ok (.defer d) w') :
  step P (lone (rf fn tmps (.inRegion ops (i::rest) ::k) ds kd none) cs w) = .next (lone ((rf fn tmps (.inRegion ops (i::rest) ::k) (d::ds) kd none).finish Go.undef) cs w') :=
 step_lone_go (by rw [lI ho hw (.inl rfl)];simp [stepG.apply,hr])
theorem aIL (ho:ops[i]?=some o)(hw:Region.wanted o (yielded ops tmps) =true)(hd:ro=none∨∀c,o.op≠ .defer c){v:Value}
  (hr: (execOp (rf fn tmps (.inRegion ops (i::rest) ::k) ds kd ro).eval o).run P w= .halt (.panic v) w') :
  step P (lone (rf fn tmps (.inRegion ops (i::rest) ::k) ds kd ro) cs w) = .next (lone ((rf fn tmps (.inRegion ops (i::rest) ::k) ds kd ro).raise [{v,recovered:=false}]) cs w') :=
 step_lone_go (by rw [lI ho hw hd];simp [stepG.apply,hr])
theorem aFf (ho:ops[i]?=some o)(hw:Region.wanted o (yielded ops tmps) =true){c:Frame}
  (hr: (execOp (rf fn tmps (.inRegion ops (i::rest) ::k) ds .deferred none).eval o).run P w= .ok .recover w') :
  step P (lone (rf fn tmps (.inRegion ops (i::rest) ::k) ds .deferred none) (c::cs) w) =
   (match c.mode with
    | .panicking ({v,recovered:=false,goexit:=false}::older) =>.next (lone ((rf fn tmps (.inRegion ops (i::rest) ::k) ds .deferred none).finish v) ({c with mode:=.panicking ({v,recovered:=true}::older)}::cs) w')
    |_=>.next (lone ((rf fn tmps (.inRegion ops (i::rest) ::k) ds .deferred none).finish .nilIface) (c::cs) w')) :=by
 split
 · rename_i v older hc
   exact step_lone_go (by rw [lI ho hw (.inl rfl)];simp [stepG.apply,hr,tryRecover,hc])
 · rename_i hno
   refine step_lone_go ?_
   rw [lI ho hw (.inl rfl)]
   simp only [stepG.apply,Sem.runT_eq,if_true,hr]
   have:tryRecover (rf fn tmps (.inRegion ops (i::rest) ::k) ds .deferred none) (c::cs) =none:=by
    simp only [tryRecover]
   simp [this]
theorem xY (ho:ops[i]?=some o)(hw:Region.wanted o (yielded ops tmps) =false) :
  step P (lone (rf fn tmps (.inRegion ops (i::rest) ::k) ds kd ro) cs w) = .next (lone ((rf fn tmps (.inRegion ops (i::rest) ::k) ds kd ro).finish Go.undef) cs w) :=
 step_lone_go (by
  have h1: ((ops[i]?).map (Region.wanted · (yielded ops tmps))).getD false=false:=by rw [ho];simpa using hw
  simp [stepG,stepG.exec,h1])
theorem aFg (v:Value) : (rf fn tmps (.inRegion ops (i::rest) ::k) ds kd ro).finish v =
  rf fn (match(ops[i]?).bind (·.dst)with|some d=>tmps.setIfInBounds d v|none=>tmps) (.inRegion ops rest::k) ds kd ro:=rfl
theorem xZ :step P (lone (rf fn tmps (.inRegion ops [] ::k) ds kd ro) cs w) = .next (lone (rf fn tmps k ds kd ro) cs w) :=step_lone_go (by simp [stepG,stepG.exec])
theorem aTK :step P (lone (rf fn tmps (.code .skip::k) ds kd ro) cs w) = .next (lone (rf fn tmps k ds kd ro) cs w) :=step_lone_go (by simp [stepG,stepG.exec])
theorem aQD (l:Nat) :step P (lone (rf fn tmps (.code (.label l) ::k) ds kd ro) cs w) = .next (lone (rf fn tmps k ds kd ro) cs w) :=step_lone_go (by simp [stepG,stepG.exec])
theorem aLB (l:Nat) :step P (lone (rf fn tmps (.inBlock l::k) ds kd ro) cs w) = .next (lone (rf fn tmps k ds kd ro) cs w) :=step_lone_go (by simp [stepG,stepG.exec])
theorem aLC (c:Code) :step P (lone (rf fn tmps (.inScope c::k) ds kd ro) cs w) = .next (lone (rf fn tmps k ds kd ro) cs w) :=step_lone_go (by simp [stepG,stepG.exec])
theorem aWr (a b:Code) :step P (lone (rf fn tmps (.code (.seq a b) ::k) ds kd ro) cs w) = .next (lone (rf fn tmps (.code a:: .code b::k) ds kd ro) cs w) :=step_lone_go (by simp [stepG,stepG.exec])
theorem aQE (id:Nat)(c:Code) :step P (lone (rf fn tmps (.code (.block id c) ::k) ds kd ro) cs w) = .next (lone (rf fn tmps (.code c:: .inBlock id::k) ds kd ro) cs w) :=step_lone_go (by simp [stepG,stepG.exec])
theorem aTL (c:Code) :step P (lone (rf fn tmps (.code (.loop c) ::k) ds kd ro) cs w) = .next (lone (rf fn tmps (.code c:: .inLoop c::k) ds kd ro) cs w) :=step_lone_go (by simp [stepG,stepG.exec])
theorem aOA (c:Code) :step P (lone (rf fn tmps (.inLoop c::k) ds kd ro) cs w) = .next (lone (rf fn tmps (.code c:: .inLoop c::k) ds kd ro) cs w) :=step_lone_go (by simp [stepG,stepG.exec])
theorem aQF (c:Code) :step P (lone (rf fn tmps (.code (.scope c) ::k) ds kd ro) cs w) = .next (lone (rf fn tmps (.code c:: .inScope c::k) ds kd ro) cs w) :=step_lone_go (by simp [stepG,stepG.exec])
theorem aNJ (c:Operand)(x y:Code)(t:Bool)(h: (rf fn tmps (.code (.cond c x y) ::k) ds kd ro).eval c= .bool t) :step P (lone (rf fn tmps (.code (.cond c x y) ::k) ds kd ro) cs w) = .next (lone (rf fn tmps (.code (if t then x else y) ::k) ds kd ro) cs w) :=
 step_lone_go (by simp [stepG,stepG.exec,h])
theorem aOB (id:Nat) :step P (lone (rf fn tmps (.code (.region id ops false) ::k) ds kd ro) cs w) = .next (lone (rf fn tmps (.inRegion ops (List.range ops.size) ::k) ds kd ro) cs w) :=step_lone_go (by simp [stepG,stepG.exec])
theorem aTM (id:Nat) :step P (lone (rf fn tmps (.code (.region id ops true) ::k) ds kd ro) cs w) =
  .next (lone (rf fn tmps (.inRegion ops (Region.schedule (P.follows .mixedOrders) ops (w.tape w.drawn (.order fn id))) ::k) ds kd ro) cs {w with drawn:=w.drawn+1}) :=
 step_lone_go (by simp [stepG,stepG.exec,choose,Sem.run,Question.forced,Question.cut])
theorem aTN (id:Nat){k':List Item}(h:exitTo id k=some k') :step P (lone (rf fn tmps (.code (.exit id) ::k) ds kd ro) cs w) = .next (lone (rf fn tmps k' ds kd ro) cs w) :=step_lone_go (by simp [stepG,stepG.exec,h])
theorem aTO (l:Nat){k':List Item}(h:gotoIn l k=some k') :step P (lone (rf fn tmps (.code (.goto l) ::k) ds kd ro) cs w) = .next (lone (rf fn tmps k' ds kd ro) cs w) :=step_lone_go (by simp [stepG,stepG.exec,h])
theorem aWs :step P (lone (rf fn tmps [] ds kd none) cs w) = .next (lone {rf fn tmps [] ds kd none with mode:=.returning} cs w) :=step_lone_go (by simp [stepG,stepG.exec])
theorem aWt :step P (lone (rf fn tmps (.code .ret::k) ds kd none) cs w) = .next (lone {rf fn tmps (.code .ret::k) ds kd none with mode:=.returning} cs w) :=step_lone_go (by simp [stepG,stepG.exec])
theorem aFh {l:Nat}(h: (Instr.beginRound l).run P w= .ok () w') :step P (lone (rf fn tmps (.beginRound::k) ds kd (some l)) cs w) = .next (lone (rf fn tmps k ds kd (some l)) cs w') :=
 step_lone_go (by simp [stepG,stepG.exec,stepG.apply,h,Frame.finish])
theorem aQG {l:Nat}{jump:Option Code}(h: (Instr.endLoop l).run P w= .ok jump w') :step P (lone (rf fn tmps (.endRangeFunc l::k) ds kd ro) cs w) = .next (lone (rf fn tmps ((jump.map Item.code).toList++k) ds kd ro) cs w') :=
 step_lone_go (by simp [stepG,stepG.exec,h])
def handed (fr c:Frame)(v:Value) :Frame:=
 match fr.kind with
 | .normal=>c.finish v
 |_=>{c with mode:=settle c.mode}
theorem iO {fr c:Frame}{v:Value}(hk:fr.kind= .normal∨fr.kind= .deferred) :
  (doReturn P true fr (c::cs) none v w).bare= .go {frame:=handed fr c v,callers:=cs,status:=.running,dying:=none} w:=by
 rcases hk with hk|hk
 ·simp [doReturn,hk,handed]
 · simp only [doReturn,hk,handed,settle]
   split<;> (try split) <;>simp_all
theorem uU {jump:Option Code}{l:Nat}{todo:List Item}{c:Frame}{v:Value}(hk:kd= .normal∨kd= .deferred)
  (ht: (todo= [] ∧jump=none) ∨ (∃k,todo= .code .ret::k∧jump=some .ret) ∨ (∃id k,todo= .code (.exit id) ::k∧jump=some (.exit id) ∧exitTo id k=none) ∨ (∃t k,todo= .code (.goto t) ::k∧jump=some (.goto t) ∧gotoIn t k=none))
  (h: (Instr.endRound l jump).run P w= .ok v w') :
  step P (lone (rf fn tmps todo ds kd (some l)) (c::cs) w) = .next (lone (handed (rf fn tmps todo ds kd (some l)) c v) cs w') :=by
 refine step_lone_go ?_
 rcases ht with⟨rfl,rfl⟩ | ⟨k,rfl,rfl⟩ | ⟨id,k,rfl,rfl,hx⟩ | ⟨t,k,rfl,rfl,hx⟩
 ·simp only [stepG,stepG.exec,Sem.runT_eq,h,GStep.bare_after];exact iO hk
 ·simp only [stepG,stepG.exec,Sem.runT_eq,h,GStep.bare_after];exact iO hk
 ·simp only [stepG,stepG.exec,hx,Option.elim,Sem.runT_eq,h,GStep.bare_after];exact iO hk
 ·simp only [stepG,stepG.exec,hx,Option.elim,Sem.runT_eq,h,GStep.bare_after];exact iO hk
theorem aIM {fr c:Frame}{v:Value}{fd:Func}(hm:fr.mode= .returning)(hd:fr.defers= [])(hf:P.funcs[fr.fn]?=some fd)(hr: (results fd fr.tmps).run P w= .ok v w)(hk:fr.kind= .normal∨fr.kind= .deferred) :
  step P (lone fr (c::cs) w) = .next (lone (handed fr c v) cs w) :=
 step_lone_go (by
  simp only [stepG,unwind,hm,hd,hf,Sem.runT_eq,hr,GStep.bare_after]
  exact iO hk)
theorem aDm {fr c:Frame}{chain:List PanicEntry}{fd:Func}(hm:fr.mode= .panicking chain)(hd:fr.defers= [])(hf:P.funcs[fr.fn]?=some fd) :
  step P (lone fr (c::cs) w) = .next (lone (c.raise chain) cs w) :=
 step_lone_go (by simp [stepG,unwind,hm,hd,Frame.catches,hf])
theorem aB4 {fr:Frame}{f:FuncId}{cap args:Array Value}{ds:List Deferred}(hm:fr.mode≠ .run)(hd:fr.defers= {target:=.fn (.func f) cap,args}::ds)(hc:eF P f=true) :
  step P (lone fr cs w) = .next (lone (Frame.enter P f (args++cap) .deferred) ({fr with defers:=ds}::cs) w) :=
 step_defer (P:=P) hm hd rfl (by simp [invoke,oJ hc])
theorem aAv {fr:Frame}{b:Nat}{ds cl:List Deferred}(hm:fr.mode≠ .run)(hd:fr.defers= {target:=.collected b,args:= #[]}::ds)(hr: (Instr.takeDeferred b).run P w= .ok cl w') :
  step P (lone fr cs w) = .next (lone {fr with defers:=cl++ds} cs w') :=
 step_lone_go (by
  cases h:fr.mode with
  |run=>exact absurd h hm
  |returning=>simp [stepG,unwind,h,hd,hr]
  |panicking c=>simp [stepG,unwind,h,hd,hr])
theorem aG8 {g:Operand}{ps:Array Tmp}{assign body:Code}{l:Nat}{mark:List Deferred}{w₁ w₁' w₂:World}{d:Deferred}{nx:Next}{G:Frame}
  (he: (Instr.enterLoop fn tmps ps assign body ro).run P w= .ok (l,mark) w₁)
  (hres: (resolve (rf fn tmps (.inRangeFunc l::k) (mark++ds) kd ro).eval {callee:=.value g,args:= #[.const (.func (.yield l) #[] #[])],argTypes:= #[]} 0).run P w₁= .ok d w₁')
  (hinv: (invoke d.target d.args).run P w₁'= .ok nx w₂)
  (hG: (∃f args,nx= .enter f args∧G=Frame.enter P f args .normal) ∨ (∃l f t aS bd,nx= .round l f t aS bd∧G=Frame.round l f t aS bd .normal)) :
  step P (lone (rf fn tmps (.code (.rangeFunc g ps assign body) ::k) ds kd ro) cs w) = .next (lone G (rf fn tmps (.inRangeFunc l::k) (mark++ds) kd ro::cs) w₂) :=by
 refine step_lone_go ?_
 rcases hG with⟨f,args,rfl,rfl⟩ | ⟨l',f,t,aS,bd,rfl,rfl⟩
 ·simp [stepG,stepG.exec,he,stepG.apply,hres,hinv]
 ·simp [stepG,stepG.exec,he,stepG.apply,hres,hinv]
end
end Go.Hb
namespace Go.Hb
variable {P :Program} {E:Emb} {h h':Hp} {w w':World}
theorem TR.put {tm:T AV}{nt:Nat}{tmps:Array Value}(r:TR E tm nt tmps){d:Nat}(hd:d<nt){a:AV}{v:Value}(hv:VR E a v) :TR E (tm.put d a) nt (tmps.setIfInBounds d v) :=by
 refine⟨by simp [r.1],fun t b hb=>?_⟩
 rw [T.at_put]at hb
 by_cases ht:t=d
 · subst ht
   rw [if_pos rfl]at hb;cases hb
   exact⟨v,by simp [r.1,hd],hv⟩
 · rw [if_neg ht]at hb
   rw [Array.getElem?_setIfInBounds_ne (fun e=>ht e.symm)]
   exact r.2 t b hb
def yS (dst:Option Nat)(v:Value)(tmps:Array Value) :Array Value:=match dst with|some d=>tmps.setIfInBounds d v|none=>tmps
theorem yT {tm tm':T AV}{nt:Nat}{tmps:Array Value}(r:TR E tm nt tmps){dst:Option Nat}{a:AV}{v:Value}(h0:jB tm nt dst a=some tm')(hv:VR E a v) :TR E tm' nt (yS dst v tmps) :=by
 unfold jB at h0
 split at h0
 ·cases h0;exact r
 · rename_i d
   rw [dH]at h0
   by_cases hd:d<nt
   ·simp only [hd,decide_true,cond]at h0;cases h0;exact r.put hd hv
   ·simp only [hd,decide_false,cond]at h0;cases h0
theorem VR.not_bool {a:AV}{v:Value}(hv:VR E a v)(ha:∀b,a≠ .bool b)(ha2:∀u,a≠ .val u) :∀b,v≠ .bool b:=by
 intro b e
 subst e
 cases a<;>simp only [VR]at hv
 case bool b'=>exact ha b' rfl
 case val u=>exact ha2 u rfl
 case ilst=>obtain⟨vs,_,hv⟩ :=hv;rcases hv.2 with⟨_,_,_,hL,_⟩ | ⟨_,_,_,_,hL,_⟩ <;>cases hL
 case iptr=>obtain⟨us,_,_,_,_,hL,_⟩ :=hv;cases hL
 case gl=>rcases hv with⟨_,_,hL⟩ | ⟨_,_,_,_,hL,_⟩ <;>cases hL
 all_goals (first
  | (cases hv;done)
  | (obtain⟨_,_,hv⟩ :=hv;cases hv;done)
  | (obtain⟨_,_,_,_,hv,_⟩ :=hv;cases hv;done)
  | (obtain⟨_,_,hv,_⟩ :=hv;cases hv;done)
  | (obtain⟨_,hv,_⟩ :=hv;cases hv;done))
theorem uV {tm:T AV}{tmps:Array Value}{ops:Array Oper}{j:Nat}(r:∀o,ops[j]?=some o→∀t,o.dst=some t→∀a,tm.at t=some a→∃v,tmps[t]?=some v∧VR E a v){b:Option Bool}(h0:aGO tm ops.toList j=some b) :yielded ops tmps j=b:=by
 unfold aGO at h0
 unfold yielded
 rw [Array.getElem?_toList]at h0
 split at h0
 ·rename_i ho;cases h0;simp [ho]
 · rename_i o ho
   split at h0
   ·rename_i hd;cases h0;simp [ho,hd]
   · rename_i d hd
     split at h0
     · rename_i b' hb
       cases h0
       obtain⟨v,h1,h2⟩ :=r _ ho _ hd _ hb
       simp only [VR]at h2
       simp [ho,hd,h1,h2]
     ·cases h0
     · rename_i a hb hb2 ha
       cases h0
       obtain⟨v,h1,h2⟩ :=r _ ho _ hd _ ha
       have:=h2.not_bool (fun b e=>by subst e;exact hb b rfl) (fun b e=>by subst e;exact hb2 b rfl)
       simp only [ho,hd,Option.bind_some,h1]
       cases v<;>first|rfl|exact absurd rfl (this _)
     ·cases h0
theorem uW {tm:T AV}{tmps:Array Value}{ops:Array Oper}{o:Oper}(r:∀g want,o.guard=some (g,want) →∀o',ops[g]?=some o'→∀t,o'.dst=some t→∀a,tm.at t=some a→∃v,tmps[t]?=some v∧VR E a v){b:Bool}(h0:bY tm ops.toList o=some b) :Region.wanted o (yielded ops tmps) =b:=by
 unfold bY at h0
 unfold Region.wanted
 split at h0
 ·rename_i hg;cases h0;rw [hg]
 · rename_i j want hg
   rw [hg]
   simp only
   split at h0
   ·cases h0
   · rename_i hb;cases h0
     rw [uV (r j want hg) hb];rfl
   · rename_i b' hb;cases h0
     rw [uV (r j want hg) hb];rfl
theorem qQ {tm:T AV}{nt:Nat}{tmps:Array Value}(r:TR E tm nt tmps){ops:Array Oper}{o:Oper}{b:Bool}(h0:bY tm ops.toList o=some b) :Region.wanted o (yielded ops tmps) =b:=
 uW (fun _ _ _ _ _ t _ a ha=>r.2 t a ha) h0
theorem TR.reads {tm:T AV}{nt:Nat}{tmps:Array Value}(r:TR E tm nt tmps)(fn:FuncId)(todo:List Item)(ds:List Deferred)(kd:CallKind)(ro:Option Nat)(S:Operand→Prop) :Reads E tm (rf fn tmps todo ds kd ro).eval S:=by
 intro x _ a ha
 cases x with
 | tmp t=>
  simp only [cF]at ha
  obtain⟨v,h1,h2⟩ :=r.2 t a ha
  simp only [Frame.eval,Array.getD_eq_getD_getElem?,h1]
  exact h2
 |const v=>exact aC8 ha E
 |global g=>cases ha
 |func f=>simp only [cF]at ha;cases ha;simp only [Frame.eval,VR];exact⟨[],[],rfl,VRs.nil E,VRs.nil E⟩
def IR (E:Emb) :AItem→Item→Prop
 | .code c,i=>i= .code c
 | .inBlock id,i=>i= .inBlock id
 | .inLoop c,i=>i= .inLoop c
 | .inScope c,i=>i= .inScope c
 | .ops all k rest,i=>i= .inRegion all (List.range' k rest.length) ∧rest=all.toList.drop k
 | .inRF l,i=>∃L,E l=some L∧i= .inRangeFunc L.blk
 | .endRF l,i=>∃L,E l=some L∧i= .endRangeFunc L.blk
 | .beginRound,i=>i= .beginRound
def IRs (E:Emb) :List AItem→List Item→Prop
 | [],is=>is= []
 |a::aS,is=>∃i is',is=i::is'∧IR E a i∧IRs E aS is'
theorem IR.mono {E E':Emb}(h:E.le E'){a:AItem}{i:Item}(r:IR E a i) :IR E' a i:=by
 cases a<;>simp only [IR]at r ⊢ <;>first|exact r| (obtain⟨L,h1,h2⟩ :=r;exact⟨L,h.1 _ _ h1,h2⟩)
theorem IRs.mono {E E':Emb}(h:E.le E') :∀ {aS:List AItem} {is:List Item},IRs E aS is→IRs E' aS is
 | [],_,r=>by simpa [IRs]using r
 |_::_,_,r=>by simp only [IRs]at r ⊢;obtain⟨i,is',h1,h2,h3⟩ :=r;exact⟨i,is',h1,h2.mono h,h3.mono h⟩
theorem IRs.cons {a:AItem}{i:Item}{aS:List AItem}{is:List Item}(h1:IR E a i)(h2:IRs E aS is) :IRs E (a::aS) (i::is) :=by simp only [IRs];exact⟨i,is,rfl,h1,h2⟩
theorem IRs.cons_inv {a:AItem}{aS:List AItem}{is:List Item}(h:IRs E (a::aS) is) :∃i is',is=i::is'∧IR E a i∧IRs E aS is':=by simpa only [IRs]using h
theorem IRs.nil_inv {is:List Item}(h:IRs E [] is) :is= [] :=by simpa only [IRs]using h
def DRs (E:Emb) :List ADef→List Deferred→Prop
 | [],ds=>ds= []
 |a::aS,ds=>∃d ds',ds=d::ds'∧DR E a d∧DRs E aS ds'
theorem DRs.mono {E E':Emb}(h:E.le E') :∀ {aS:List ADef} {is:List Deferred},DRs E aS is→DRs E' aS is
 | [],_,r=>by simpa [DRs]using r
 |_::_,_,r=>by simp only [DRs]at r ⊢;obtain⟨i,is',h1,h2,h3⟩ :=r;exact⟨i,is',h1,h2.mono h,h3.mono h⟩
theorem DRs.cons {a:ADef}{d:Deferred}{aS:List ADef}{ds:List Deferred}(h1:DR E a d)(h2:DRs E aS ds) :DRs E (a::aS) (d::ds) :=by simp only [DRs];exact⟨d,ds,rfl,h1,h2⟩
theorem DRs.cons_inv {a:ADef}{aS:List ADef}{ds:List Deferred}(h:DRs E (a::aS) ds) :∃d ds',ds=d::ds'∧DR E a d∧DRs E aS ds':=by simpa only [DRs]using h
theorem DRs.nil_inv {ds:List Deferred}(h:DRs E [] ds) :ds= [] :=by simpa only [DRs]using h
def CR (E:Emb) :List (AV×Bool) →List PanicEntry→Prop
 | [],ps=>ps= []
 |a::aS,ps=>∃v ps',ps= {v,recovered:=a.2}::ps'∧VR E a.1 v∧CR E aS ps'
theorem CR.mono {E E':Emb}(h:E.le E') :∀ {aS:List (AV×Bool)} {is:List PanicEntry},CR E aS is→CR E' aS is
 | [],_,r=>by simpa [CR]using r
 |_::_,_,r=>by simp only [CR]at r ⊢;obtain⟨i,is',h1,h2,h3⟩ :=r;exact⟨i,is',h1,h2.mono h,h3.mono h⟩
theorem CR.append :∀ {aS bs:List (AV×Bool)} {is js:List PanicEntry},CR E aS is→CR E bs js→CR E (aS++bs) (is++js)
 | [],_,_,_,h,k=>by simp only [CR]at h;subst h;exact k
 |_::_,_,_,_,h,k=>by simp only [CR]at h;obtain⟨v,ps,rfl,h1,h2⟩ :=h;simp only [List.cons_append,CR];exact⟨v,_,rfl,h1,h2.append k⟩
def MR (E:Emb) :AMode→FrameMode→Prop
 | .run,m=>m= .run
 | .ret,m=>m= .returning
 | .pan chain,m=>∃ps,m= .panicking ps∧CR E chain ps
theorem MR.mono {E E':Emb}(h:E.le E'){a:AMode}{m:FrameMode}(r:MR E a m) :MR E' a m:=by
 cases a<;>simp only [MR]at r ⊢ <;>first|exact r| (obtain⟨ps,h1,h2⟩ :=r;exact⟨ps,h1,h2.mono h⟩)
def RR (E:Emb) :Option Nat→Option Nat→Prop
 |none,o=>o=none
 |some l,o=>∃L,E l=some L∧o=some L.blk
theorem RR.mono {E E':Emb}(h:E.le E'){a b:Option Nat}(r:RR E a b) :RR E' a b:=by
 cases a<;>simp only [RR]at r ⊢ <;>first|exact r| (obtain⟨L,h1,h2⟩ :=r;exact⟨L,h.1 _ _ h1,h2⟩)
structure FR (E:Emb) (a:AFrame) (c:Frame) :Prop where
 fn:c.fn=a.fn
 tm:TR E a.tm a.nt c.tmps
 todo:IRs E a.todo c.todo
 defers:DRs E a.defers c.defers
 mode:MR E a.mode c.mode
 kind:c.kind=a.kind
 round:RR E a.roundOf c.roundOf
theorem FR.mono {E E':Emb}(h:E.le E'){a:AFrame}{c:Frame}(r:FR E a c) :FR E' a c:=
 ⟨r.fn,r.tm.mono h,r.todo.mono h,r.defers.mono h,r.mode.mono h,r.kind,r.round.mono h⟩
def FRs (E:Emb) :List AFrame→List Frame→Prop
 | [],cs=>cs= []
 |a::aS,cs=>∃c cs',cs=c::cs'∧FR E a c∧FRs E aS cs'
theorem FRs.mono {E E':Emb}(h:E.le E') :∀ {aS:List AFrame} {is:List Frame},FRs E aS is→FRs E' aS is
 | [],_,r=>by simpa [FRs]using r
 |_::_,_,r=>by simp only [FRs]at r ⊢;obtain⟨i,is',h1,h2,h3⟩ :=r;exact⟨i,is',h1,h2.mono h,h3.mono h⟩
theorem FRs.cons {a:AFrame}{c:Frame}{aS:List AFrame}{cs:List Frame}(h1:FR E a c)(h2:FRs E aS cs) :FRs E (a::aS) (c::cs) :=by simp only [FRs];exact⟨c,cs,rfl,h1,h2⟩
theorem FRs.cons_inv {a:AFrame}{aS:List AFrame}{cs:List Frame}(h:FRs E (a::aS) cs) :∃c cs',cs=c::cs'∧FR E a c∧FRs E aS cs':=by simpa only [FRs]using h
theorem FRs.nil_inv {cs:List Frame}(h:FRs E [] cs) :cs= [] :=by simpa only [FRs]using h
theorem aLD (args:List AV)(i:Nat) : (jF .leaf 0 args).at i=if i<args.length then args[i]? else none:=dX args i
theorem jV {f:Nat}{args:List AV}{cargs:List Value}{kd:CallKind}{g:AFrame}(h0:eP P f args kd=some g)(ha:VRs E args cargs) :FR E g (Frame.enter P f ⟨cargs⟩ kd) :=by
 unfold eP at h0
 split at h0
 · rename_i fn hf
   split at h0
   · rename_i c hb
     cases h0
     have hlen:=ha.length
     refine⟨by simp [Frame.enter],⟨?_,fun t a hta=>?_⟩,?_,by simp [Frame.enter,DRs],by simp [Frame.enter,MR],by simp [Frame.enter],by simp [Frame.enter,RR]⟩
     ·simp [Frame.enter,hf,hlen];omega
     · rw [aLD]at hta
       split at hta
       · rename_i ht
         obtain⟨v,h1,h2⟩ :=ha.get _ _ hta
         refine⟨v,?_,h2⟩
         simp only [Frame.enter]
         rw [Array.getElem?_append_left (by simp;omega)]
         rw [show(⟨cargs⟩ :Array Value) =cargs.toArray from rfl,List.getElem?_toArray];exact h1
       ·cases hta
     · simp only [Frame.enter,hf,hb,Option.bind_some,Option.getD_some]
       exact IRs.cons rfl (by simp [IRs])
   ·cases h0
 ·cases h0
theorem tV {nt:Nat}:∀ {ps:List Nat} {args:List AV} {cargs:List Value} {tm tm':T AV} {tmps:Array Value},mK tm nt ps args=some tm'→VRs E args cargs→TR E tm nt tmps →
  ps.length=cargs.length∧TR E tm' nt ((ps.zip cargs).foldl (fun tmps (p:Nat×Value) =>tmps.setIfInBounds p.1 p.2) tmps)
 | [],args,cargs,tm,tm',tmps,h0,ha,r=>by
  cases args with
  |nil=>simp [mK]at h0;subst h0;rw [ha.nil_inv];exact⟨rfl,r⟩
  |cons a aS=>simp [mK]at h0
 | p ::ps,args,cargs,tm,tm',tmps,h0,ha,r=>by
  cases args with
  |nil=>simp [mK]at h0
  | cons a aS=>
   obtain⟨v,vs,rfl,h1,h2⟩ :=ha.cons_inv
   simp only [mK,dH]at h0
   by_cases hp:p<nt
   · simp only [hp,decide_true,cond]at h0
     obtain⟨g1,g2⟩ :=tV h0 h2 (r.put hp h1)
     exact⟨by simp [g1],by simpa using g2⟩
   ·simp only [hp,decide_false,cond]at h0;cases h0
theorem run_getLoop {l:Nat}{L:Loop}(hl:w.heap[l]?=some (.loop L)) : (Instr.getLoop l).run P w= .ok L w:=by
 simp [Instr.getLoop,getObj,Sem.run,hl]
theorem aBm (r:Rel E h w.heap){l:Nat}{args:List AV}{cargs:List Value}{g:AFrame}(h0:yN h l args=some g){L:Loc}(hE:E l=some L)(ha:VRs E args cargs) :
  ∃fn tmps aS bd,(Instr.yield L.blk ⟨cargs⟩).run P w= .ok (.round L.blk fn tmps aS bd) w∧FR E g (Frame.round L.blk fn tmps aS bd .normal) :=by
 unfold yN at h0
 split at h0
 · rename_i st pe fn tm nt ps aS bd df hl
   split at h0
   · rename_i tm' htm
     cases h0
     obtain⟨L',g1,tmps,Ld,g2,g3,g4⟩ :=r.obj _ _ hl
     rw [hE]at g1;cases g1
     obtain⟨k1,k2⟩ :=tV htm ha g4
     refine⟨fn,_,aS,bd,?_,⟨rfl,k2,?_,by simp [Frame.round,DRs],by simp [Frame.round,MR],rfl,by simp only [Frame.round,RR];exact⟨L,hE,rfl⟩⟩⟩
     · have hs: (⟨cargs⟩ :Array Value).size= (⟨ps⟩ :Array Tmp).size:=by simp [k1]
       simp only [Instr.yield,Sem.run_bind,run_getLoop g2,Result.andThen_ok]
       rw [if_neg (by simp [hs])]
       simp only [Sem.run_pure]
       congr 2
       rw [←Array.foldl_toList];simp
     ·exact IRs.cons rfl (IRs.cons rfl (IRs.cons rfl (by simp [IRs])))
   ·cases h0
 ·cases h0
theorem qR (r:Rel E h w.heap){c:AIn}{g:AFrame}(h0:gC P h c=some g){s:Sem Next}(hs:Out P E h w (s.run P w) (.call c)) :
  ∃nx G,s.run P w= .ok nx w∧ ((∃f args,nx= .enter f args∧G=Frame.enter P f args .normal) ∨ (∃l f t aS bd,nx= .round l f t aS bd∧G=Frame.round l f t aS bd .normal)) ∧FR E g G:=by
 cases c with
 | enter f args=>
  obtain⟨cargs,h1,h2⟩ :=hs
  exact⟨_,_,h1,.inl ⟨f,_,rfl,rfl⟩,jV h0 h2⟩
 | round l args=>
  obtain⟨cargs,L,h1,h2,h3⟩ :=hs
  obtain⟨fn,tmps,aS,bd,k1,k2⟩ :=aBm (P:=P) r h0 h1 h2
  exact⟨_,_,h3.trans k1,.inr ⟨_,_,_,_,_,rfl,rfl⟩,k2⟩
end Go.Hb
namespace Go.Hb
variable {P :Program} {E:Emb} {h h':Hp} {w w':World}
theorem yA (bs:List Nat)(j:Nat) :∀es:List Edge,Nat.testBit (fN bs es) j=true↔∃e∈es,Region.binds .any e=true∧ (j=e.on∨Nat.testBit (bs.getD e.on 0) j=true)
 | [] =>by simp [fN]
 | e :: es=>by
  have ih:=yA bs j es
  simp only [fN]
  cases hb:Region.binds .any e with
  | false=>
   simp only [cond,ih,List.mem_cons]
   constructor
   ·rintro⟨x,h1,h2⟩;exact⟨x,.inr h1,h2⟩
   · rintro⟨x,rfl|h1,h2⟩
     ·rw [hb]at h2;cases h2.1
     ·exact⟨x,h1,h2⟩
  | true=>
   simp only [cond]
   show Nat.testBit ((2 ^ e.on ||| bs.getD e.on 0) ||| fN bs es) j=true↔_
   simp only [Nat.testBit_or,Nat.testBit_two_pow,Bool.or_eq_true,decide_eq_true_eq,ih,List.mem_cons]
   constructor
   · rintro((h1|h1) | ⟨x,h1,h2⟩)
     ·exact⟨e,.inl rfl,hb,.inl h1.symm⟩
     ·exact⟨e,.inl rfl,hb,.inr h1⟩
     ·exact⟨x,.inr h1,h2⟩
   · rintro⟨x,rfl|h1,h2,h3⟩
     · rcases h3 with h3|h3
       ·exact .inl (.inl h3.symm)
       ·exact .inl (.inr h3)
     ·exact .inr ⟨x,h1,h2,h3⟩
theorem aAw :∀ (l:List Oper) (acc:List Nat),(lT l acc).length=acc.length+l.length∧ (lT l acc).take acc.length=acc ∧
  ∀i o,l[i]?=some o→ (lT l acc)[acc.length+i]?=some (fN ((lT l acc).take (acc.length+i)) o.after.toList)
 | [],acc=>by simp [lT]
 | o ::l,acc=>by
  obtain⟨h1,h2,h3⟩ :=aAw l (acc++ [fN acc o.after.toList])
  simp only [lT]
  simp only [List.length_append,List.length_cons,List.length_nil]at h1 h2 h3
  refine⟨by rw [h1];simp;omega,?_,fun i x hx=>?_⟩
  · have:=congrArg (List.take acc.length) h2
    rw [List.take_take]at this
    rw [show min acc.length (acc.length+ (0+1)) =acc.length by omega]at this
    rw [this];simp
  · cases i with
    | zero=>
     simp at hx;subst hx
     have e1:=congrArg (fun z=>z[acc.length]?) h2
     simp only [List.getElem?_take]at e1
     rw [if_pos (by omega)]at e1
     have e2:=congrArg (List.take acc.length) h2
     rw [List.take_take,show min acc.length (acc.length+ (0+1)) =acc.length by omega]at e2
     rw [Nat.add_zero,e1,e2];simp
    | succ i=>
     have:=h3 i x (by simpa using hx)
     rw [show acc.length+ (i+1) =acc.length+ (0+1) +i by omega]
     exact this
def bsOf (l:List Oper) :List Nat:=lT l []
theorem aXS {l:List Oper}{i:Nat}{o:Oper}(ho:l[i]?=some o)(j:Nat) :
  Nat.testBit ((bsOf l).getD i 0) j=true↔∃e∈o.after.toList,Region.binds .any e=true∧ (j=e.on∨ (e.on<i∧Nat.testBit ((bsOf l).getD e.on 0) j=true)) :=by
 obtain⟨h1,_,h3⟩ :=aAw l []
 have:=h3 i o ho
 simp only [List.length_nil,Nat.zero_add]at this
 rw [List.getD_eq_getElem?_getD,show bsOf l=lT l []from rfl,this]
 simp only [Option.getD_some,yA]
 constructor
 · rintro⟨e,k1,k2,k3⟩
   refine⟨e,k1,k2,k3.imp id fun k3=>?_⟩
   rw [List.getD_eq_getElem?_getD,List.getElem?_take]at k3
   by_cases he:e.on<i
   ·rw [if_pos he]at k3;exact⟨he,by rw [List.getD_eq_getElem?_getD];exact k3⟩
   ·rw [if_neg he]at k3;simp at k3
 · rintro⟨e,k1,k2,k3⟩
   refine⟨e,k1,k2,k3.imp id fun k3=>?_⟩
   rw [List.getD_eq_getElem?_getD,List.getElem?_take,if_pos k3.1,←List.getD_eq_getElem?_getD]
   exact k3.2
def Met (D:Nat→Prop)(o:Oper) :Prop:=∀e∈o.after.toList,Region.binds .any e=true→D e.on
def Closed (l:List Oper)(D:Nat→Prop) :Prop:=∀i o,l[i]?=some o→D i→Met D o
theorem lJ {l:List Oper}{D:Nat→Prop}(hD:Closed l D)(hlt:∀i,D i→i<l.length) :∀ (n i:Nat),i<n→∀o,l[i]?=some o→Met D o→∀j,Nat.testBit ((bsOf l).getD i 0) j=true→D j:=by
 intro n
 induction n with
 |zero=>intro i hi;omega
 | succ n ih=>
  intro i hi o ho hm j hj
  obtain⟨e,k1,k2,k3⟩ := (aXS ho j).1 hj
  have hde:=hm e k1 k2
  rcases k3 with rfl| ⟨k3,k4⟩
  ·exact hde
  · have hlt':=hlt _ hde
    have ho':l[e.on]?=some (l[e.on]'hlt') :=by simp
    exact ih e.on (by omega) _ ho' (hD _ _ ho' hde) j k4
theorem uX {md:Region.Mode}{n:Nat}{rk:List Nat}{i:Nat}:∀ {es:List Edge},wN md n rk i es=true→∀e∈es,Region.binds md e=true→e.on<n∧rk.getD e.on 0<rk.getD i 0
 | [],_,e,he,_=>by cases he
 | x :: xs, h,e,he,hb=>by
  simp only [wN,Bool.and_eq_true,Bool.or_eq_true,Bool.not_eq_true',dH,decide_eq_true_eq]at h
  cases he with
  | head => rcases h.1 with h1|h1
            ·rw [hb]at h1;cases h1
            ·exact h1
  |tail _ he=>exact uX h.2 e he hb
theorem uY {md:Region.Mode}{n:Nat}{rk:List Nat}:∀ {l:List Oper} {k:Nat},sB md n rk l k=true→∀i o,l[i]?=some o→∀e∈o.after.toList,Region.binds md e=true→e.on<n∧rk.getD e.on 0<rk.getD (k+i) 0
 | [],_,_,i,o,ho=>by simp at ho
 | x::xs,k,h,i,o,ho=>by
  simp only [sB,Bool.and_eq_true]at h
  cases i with
  |zero=>simp at ho;subst ho;exact uX h.1
  | succ i=>
   have:=uY h.2 i o (by simpa using ho)
   rwa [show Nat.succ k+i=k+ (i+1)by omega]at this
theorem ready_nil {md:Region.Mode}{ops:Array Oper}{rk:List Nat}(hrk:sB md ops.size rk ops.toList 0=true){listed:Array Bool}(hsz:listed.size=ops.size)(h0:Region.ready md ops listed= []) :
  ∀i,i<ops.size→listed.getD i true=true:=by
 have key:∀ (m i:Nat),i<ops.size→rk.getD i 0<m→listed.getD i true=true:=by
  intro m
  induction m with
  |zero=>intro i _ h;omega
  | succ m ih=>
   intro i hi hr
   cases hl:listed.getD i true with
   |true=>rfl
   | false=>
    exfalso
    have:i∈Region.ready md ops listed:=by
     unfold Region.ready
     rw [List.mem_filter]
     refine⟨by simpa using hi,?_⟩
     have ho:ops[i]?=some ops[i] :=by simp [hi]
     simp only [hl,Bool.not_false,Bool.true_and,ho,Option.map_some,Option.getD_some]
     rw [Array.all_eq_true]
     intro x hx
     have hmem:ops[i].after[x] ∈ops[i].after.toList:=by simp
     cases hb:Region.binds md ops[i].after[x]with
     |false=>rfl
     | true=>
      have:=uY hrk i ops[i] (by simp [hi]) _ hmem hb
      rw [Nat.zero_add]at this
      have h2:=ih _ this.1 (by omega)
      simp only [Bool.not_true,Bool.false_or]
      have hlt:ops[i].after[x].on<listed.size:=by rw [hsz];exact this.1
      rw [Array.getD_eq_getD_getElem?]at h2 ⊢
      rw [Array.getElem?_eq_getElem hlt]at h2 ⊢
      exact h2
    rw [h0]at this;cases this
 intro i hi
 exact key _ i hi (Nat.lt_succ_self _)
theorem aLE {md:Region.Mode}{ops:Array Oper}{listed:Array Bool}{i:Nat}(h0:i∈Region.ready md ops listed) :
  i<ops.size∧listed.getD i true=false∧∃o,ops[i]?=some o∧∀e∈o.after.toList,Region.binds md e=true→listed.getD e.on false=true:=by
 unfold Region.ready at h0
 rw [List.mem_filter]at h0
 obtain⟨h1,h2⟩ :=h0
 simp only [List.mem_range]at h1
 have ho:ops[i]?=some ops[i] :=by simp [h1]
 rw [ho]at h2
 simp only [Option.map_some,Option.getD_some,Bool.and_eq_true,Bool.not_eq_true',Array.all_eq_true]at h2
 refine⟨h1,h2.1,ops[i],ho,fun e he hb=>?_⟩
 obtain⟨x,hx,rfl⟩ :=List.getElem_of_mem he
 have:=h2.2 x (by simpa using hx)
 rw [Array.getElem_toList]at hb
 rw [hb]at this
 simpa using this
theorem aOC {md:Region.Mode}{e:Edge}(h:Region.binds .any e=true) :Region.binds md e=true:=by
 unfold Region.binds at h ⊢
 cases hg:e.ground<;>simp_all<;>exact absurd h (by decide)
end Go.Hb
namespace Go.Hb
variable {P :Program} {E:Emb} {h h':Hp} {w w':World}
def sL (l:List Oper)(i:Nat)(o:Oper) :Plan:={o,kd:=dJ o.op,lo:=aGP ((bsOf l).getD i 0) (fO l 0) 0,hi:=xP (bsOf l) i (fO l 0) 0}
theorem aB5 (bs es:List Nat) :∀ (l:List Oper) (k i:Nat),(pU bs es l k)[i]?= (l[i]?).map fun o=>{o,kd:=dJ o.op,lo:=aGP (bs.getD (k+i) 0) es 0,hi:=xP bs (k+i) es 0}
 | [],k,i=>by simp [pU]
 | o::l,k,i=>by
  cases i with
  |zero=>simp [pU]
  |succ i=>simp only [pU,List.getElem?_cons_succ];rw [aB5 bs es l];rw [show Nat.succ k+i=k+ (i+1)by omega]
theorem uZ (bs es:List Nat) :∀ (l:List Oper) (k:Nat),(pU bs es l k).length=l.length
 | [],_=>rfl
 |_::l,k=>by simp [pU,uZ bs es l]
inductive RC (P:Program) (call:bZ) (l:List Oper) (p:Plan) (r r':RS) (a:AV) :Prop
 |unwE (hw:bY r.tm l p.o=some false) (ha:a= .undef) (hk:p.kd= .eff) (e:r'= {r with tm:=r'.tm,h:=aV r.h r.s r.pend,stages:=r.h::r.stages,s:=r.s+1})
 |unwF (hw:bY r.tm l p.o=some false) (ha:a= .undef) (hk:p.kd= .fresh) (e:r'= {r with tm:=r'.tm,next:=r.next+1})
 |unwQ (hw:bY r.tm l p.o=some false) (ha:a= .undef) (hk:p.kd= .pure∨p.kd= .read) (e:r'= {r with tm:=r'.tm})
 |pure (hx:Hp) (hw:bY r.tm l p.o=some true) (hk:p.kd= .pure) (h0:lD P r.h r.tm p.o=some (.val a hx)) (e:r'= {r with tm:=r'.tm})
 |read (hx:Hp) (hw:bY r.tm l p.o=some true) (hk:p.kd= .read) (h0:lD P r.h r.tm p.o=some (.val a hx)) (e:r'= {r with tm:=r'.tm,again:=bif Nat.beq p.lo p.hi then r.again else⟨p.o,r.tm,p.lo,p.hi,a⟩ ::r.again})
 |fresh (ob:AObj) (hw:bY r.tm l p.o=some true) (hk:p.kd= .fresh) (h0:qL P r.tm r.next p.o=some (a,ob)) (e:r'= {r with tm:=r'.tm,next:=r.next+1,pend:= (p.hi,r.next,ob) ::r.pend})
 | eff (h2:Hp) (hw:bY r.tm l p.o=some true) (hk:p.kd= .eff)
   (h0:lD P (aV r.h r.s r.pend) r.tm p.o=some (.val a h2) ∨∃c,lD P (aV r.h r.s r.pend) r.tm p.o=some (.call c) ∧call r.s c (aV r.h r.s r.pend) =some (a,h2))
   (e:r'= {r with tm:=r'.tm,h:=h2,stages:=r.h::r.stages,s:=r.s+1})
theorem aB6 {call:bZ}{nt:Nat}{l:List Oper}{p:Plan}{r r':RS}(h0:oD P call nt l p r=some r') :∃a,jB r.tm nt p.o.dst a=some r'.tm∧RC P call l p r r' a:=by
 unfold oD at h0
 split at h0
 ·cases h0
 · rename_i hw
   split at h0
   ·cases h0
   · rename_i tm htm
     split at h0
     ·rename_i hk;cases h0;exact⟨.undef,htm,.unwE hw rfl hk rfl⟩
     ·rename_i hk;cases h0;exact⟨.undef,htm,.unwF hw rfl hk rfl⟩
     · rename_i hk1 hk2;cases h0
       refine⟨.undef,htm,.unwQ hw rfl ?_ rfl⟩
       cases hk:p.kd<;>simp_all
 · rename_i hw
   split at h0
   · rename_i hk
     split at h0
     · rename_i v hx hv
       split at h0
       ·rename_i tm htm;cases h0;exact⟨v,htm,.pure hx hw hk hv rfl⟩
       ·cases h0
     ·cases h0
   · rename_i hk
     split at h0
     · rename_i v hx hv
       split at h0
       ·rename_i tm htm;cases h0;exact⟨v,htm,.read hx hw hk hv rfl⟩
       ·cases h0
     ·cases h0
   · rename_i hk
     split at h0
     · rename_i v ob hv
       split at h0
       ·rename_i tm htm;cases h0;exact⟨v,htm,.fresh ob hw hk hv rfl⟩
       ·cases h0
     ·cases h0
   · rename_i hk
     simp only at h0
     split at h0
     · rename_i v h2 hv
       split at h0
       ·rename_i tm htm;cases h0;exact⟨v,htm,.eff h2 hw hk (.inl hv) rfl⟩
       ·cases h0
     · rename_i c hv
       split at h0
       · rename_i v h2 hc
         split at h0
         ·rename_i tm htm;cases h0;exact⟨v,htm,.eff h2 hw hk (.inr ⟨c,hv,hc⟩) rfl⟩
         ·cases h0
       ·cases h0
     ·cases h0
theorem aAx {call:bZ}{nt:Nat}{l:List Oper}:∀ {ps:List Plan} {r r':RS},nU P call nt l ps r=some r' →
  ∃R:Nat→RS,R 0=r∧R ps.length=r'∧∀i p,ps[i]?=some p→oD P call nt l p (R i) =some (R (i+1))
 | [],r,r',h0=>by simp [nU]at h0;subst h0;exact⟨fun _=>r,rfl,rfl,fun i p hp=>by simp at hp⟩
 | p ::ps,r,r',h0=>by
  simp only [nU]at h0
  split at h0
  · rename_i r1 hr1
    obtain⟨R,e1,e2,e3⟩ :=aAx h0
    refine⟨fun i=>match i with|0=>r|i+1=>R i,rfl,e2,fun i q hq=>?_⟩
    cases i with
    |zero=>simp at hq;subst hq;show _=some (R 0);rw [e1];exact hr1
    |succ i=>exact e3 i q (by simpa using hq)
  ·cases h0
theorem iW :∀ (l:List Oper) (k:Nat),(∀ (q e:Nat),(fO l k)[q]?=some e→k≤e∧e<k+l.length∧∃o,l[e-k]?=some o∧dJ o.op= .eff) ∧
  (∀ (i:Nat) (o:Oper),l[i]?=some o→dJ o.op= .eff→∃q:Nat,(fO l k)[q]?=some (k+i)) ∧List.Pairwise (· < ·) (fO l k)
 | [],k=>by simp [fO]
 | o ::l,k=>by
  obtain⟨h1,h2,h3⟩ :=iW l (Nat.succ k)
  have base:∀ (q e:Nat),(fO l (Nat.succ k))[q]?=some e→k≤e∧e<k+ (o::l).length∧∃o',(o::l)[e-k]?=some o'∧dJ o'.op= .eff:=fun q e he=>by
   obtain⟨g1,g2,o',g3,g4⟩ :=h1 q e he
   refine⟨by omega,by simp;omega,o',?_,g4⟩
   rw [show e-k= (e-Nat.succ k) +1 by omega];simpa using g3
  have base2:∀ (i:Nat) (o':Oper),l[i]?=some o'→dJ o'.op= .eff→∃q:Nat,(fO l (Nat.succ k))[q]?=some (k+ (i+1)) :=fun i o' hi hk=>by
   obtain⟨q,hq⟩ :=h2 i o' hi hk
   exact⟨q,by rw [hq];congr 1;omega⟩
  cases hk:dJ o.op with
  | eff=>
   simp only [fO,hk]
   refine⟨fun q e he=>?_,fun i o' hi hk'=>?_,?_⟩
   · cases q with
     |zero=>simp at he;subst he;exact⟨Nat.le_refl _,by simp,o,by simp,hk⟩
     |succ q=>exact base q e (by simpa using he)
   · cases i with
     |zero=>exact⟨0,by simp⟩
     | succ i=>
      obtain⟨q,hq⟩ :=base2 i o' (by simpa using hi) hk'
      exact⟨q+1,by simpa using hq⟩
   · rw [List.pairwise_cons]
     refine⟨fun e he=>?_,h3⟩
     obtain⟨q,hq,rfl⟩ :=List.getElem_of_mem he
     have:= (h1 q _ (List.getElem?_eq_getElem hq)).1
     omega
  | _=>
   simp only [fO,hk]
   refine⟨base,fun i o' hi hk'=>?_,h3⟩
   cases i with
   |zero=>simp at hi;subst hi;rw [hk]at hk';cases hk'
   |succ i=>exact base2 i o' (by simpa using hi) hk'
theorem aNK (b j:Nat) :∀ (es:List Nat) (k:Nat),(∀ (q e:Nat),es[q]?=some e→Nat.testBit b e=true→k+q+1≤j) →aGP b es k≤j
 | [],k,_=>by simp [aGP]
 | e::es,k,h=>by
  have ih:=aNK b j es (Nat.succ k) (fun q x hx hb=>by have:=h (q+1) x (by simpa using hx) hb;omega)
  simp only [aGP]
  cases hb:Nat.testBit b e with
  |true=>simp only [cond];have:=h 0 e rfl hb;omega
  |false=>simp only [cond];exact ih
theorem aBn (bs:List Nat)(i:Nat) :∀ (es:List Nat) (k:Nat),k≤xP bs i es k∧xP bs i es k≤k+es.length ∧
  (∀ (q e:Nat),es[q]?=some e→k+q<xP bs i es k→Nat.testBit (bs.getD e 0) i=false) ∧ (∀e:Nat,es[xP bs i es k-k]?=some e→Nat.testBit (bs.getD e 0) i=true)
 | [],k=>by simp [xP]
 | e ::es,k=>by
  obtain⟨h1,h2,h3,h4⟩ :=aBn bs i es (Nat.succ k)
  simp only [xP]
  cases hb:Nat.testBit (bs.getD e 0) i with
  | true=>
   simp only [cond]
   refine⟨Nat.le_refl _,by simp,fun q x hx hq=>by omega,fun x hx=>?_⟩
   simp at hx;subst hx;exact hb
  | false=>
   simp only [cond]
   refine⟨by generalize xP bs i es (Nat.succ k) =m at h1;omega,by generalize xP bs i es (Nat.succ k) =m at h2;simp;omega,fun q x hx hq=>?_,fun x hx=>?_⟩
   · cases q with
     |zero=>simp at hx;subst hx;exact hb
     |succ q=>exact h3 q x (by simpa using hx) (by omega)
   · rw [show xP bs i es (Nat.succ k) -k= (xP bs i es (Nat.succ k) -Nat.succ k) +1 by generalize xP bs i es (Nat.succ k) =m at h1;omega]at hx
     exact h4 x (by simpa using hx)
theorem aAy {bs:List Nat}:∀ {es:List Nat},chained bs es=true→∀ (q e f:Nat),es[q]?=some e→es[q+1]?=some f→Nat.testBit (bs.getD f 0) e=true
 | [],_,q,e,f,he,_=>by simp at he
 | [x],_,q,e,f,he,hf=>by simp at hf
 | x::y::es,h,q,e,f,he,hf=>by
  simp only [chained,Bool.and_eq_true]at h
  cases q with
  |zero=>simp at he hf;subst he hf;exact h.1
  |succ q=>exact aAy h.2 q e f (by simpa using he) (by simpa using hf)
theorem nW {k:Nat}:∀ {ps:List (Nat×Nat×AObj)} {x:Nat} {o:AObj},(aV h k ps).look x=some o→ (k,x,o) ∈ps∨h.look x=some o
 | [],x,o,e=>.inr e
 | (a,id,ob) ::ps,x,o,e=>by
  simp only [aV,bW]at e
  by_cases ha:a=k
  · simp only [ha,decide_true,cond]at e
    rw [bL]at e
    split at e
    ·rename_i hx;cases e;subst hx ha;exact .inl (List.mem_cons_self ..)
    ·exact(nW e).imp (List.mem_cons_of_mem _) (fun z=>z)
  · simp only [ha,decide_false,cond]at e
    exact(nW e).imp (List.mem_cons_of_mem _) (fun z=>z)
theorem eD {k:Nat}:∀ {ps:List (Nat×Nat×AObj)},(aV h k ps).nb=h.nb
 | [] =>rfl
 | (a,id,ob) ::ps=>by
  simp only [aV]
  cases Nat.beq a k with
  |true=>simp only [cond,kQ];exact eD
  |false=>simp only [cond];exact eD
noncomputable def eG (tm0:T AV)(dst:Nat→Option Nat)(A:Nat→AV)(D:Nat→Prop)[DecidablePred D] :Nat→Nat→Option AV
 |0,t=>tm0.at t
 |n+1,t=>if D n∧dst n=some t then some (A n)else eG tm0 dst A D n t
section
variable {tm0 :T AV} {dst:Nat→Option Nat} {A:Nat→AV} {D D':Nat→Prop} [DecidablePred D] [DecidablePred D']
theorem sN {t:Nat}:∀ {n:Nat},(∀k,k<n→dst k=some t→ (D k↔D' k)) →eG tm0 dst A D n t=eG tm0 dst A D' n t
 |0,_=>rfl
 | n+1,h=>by
  simp only [eG]
  rw [sN (fun k hk=>h k (by omega))]
  by_cases hd:dst n=some t
  · have:=h n (by omega) hd
    by_cases hD:D n
    ·rw [if_pos ⟨hD,hd⟩,if_pos ⟨this.1 hD,hd⟩]
    ·rw [if_neg (fun e=>hD e.1),if_neg (fun e=>hD (this.2 e.1))]
  ·rw [if_neg (fun e=>hd e.2),if_neg (fun e=>hd e.2)]
theorem wS {t i:Nat}:∀ {n:Nat},i≤n→ (∀k,i≤k→k<n→dst k=some t→¬D k) →eG tm0 dst A D n t=eG tm0 dst A D i t
 |0,hi,_=>by rw [show i=0 by omega]
 | n+1,hi,h=>by
  by_cases e:i=n+1
  ·rw [e]
  · simp only [eG]
    rw [if_neg (fun⟨hD,hd⟩ =>h n (by omega) (by omega) hd hD)]
    exact wS (by omega) (fun k h1 h2=>h k h1 (by omega))
end
end Go.Hb
namespace Go.Hb
variable {P :Program} {E:Emb} {h h':Hp} {w w':World}
inductive Legal (l:List Oper) : (Nat→Bool) →List Nat→Prop
 |nil {D}: (∀i,i<l.length→D i=true) →Legal l D []
 |cons {D i is o}:l[i]?=some o→D i=false→Met (D · =true) o→Legal l (fun k=>D k||k==i) is→Legal l D (i::is)
def unl :List Bool→Nat
 | [] =>0
 |true::l=>unl l
 |false::l=>unl l+1
theorem aG9 :∀ {l:List Bool} {i:Nat},l[i]?=some false→unl (l.set i true) +1=unl l
 | [],i,h=>by simp at h
 |b::l,0,h=>by simp at h;subst h;simp [unl]
 |true::l,i+1,h=>by simp only [List.set_cons_succ,unl];exact aG9 (by simpa using h)
 |false::l,i+1,h=>by simp only [List.set_cons_succ,unl];have:=aG9 (l:=l) (i:=i) (by simpa using h);omega
theorem aIN :∀ {l:List Bool} {i:Nat},unl l=0→i<l.length→l[i]?=some true
 | [],i,_,h=>by simp at h
 |true::l,0,_,_=>rfl
 |true::l,i+1,h,h2=>by simp only [List.getElem?_cons_succ];exact aIN h (by simpa using h2)
 |false::l,i,h,_=>by simp [unl]at h
theorem yB :∀n,unl (List.replicate n false) =n
 |0=>rfl
 |n+1=>by simp [List.replicate_succ,unl,yB n]
theorem aQH {md:Region.Mode}{ops:Array Oper}{rk:List Nat}(hrk:sB md ops.size rk ops.toList 0=true) :∀ (fuel t:Nat) (listed:Array Bool),listed.size=ops.size→unl listed.toList≤fuel →
  Legal ops.toList (fun k=>listed.getD k false) (Region.linearise.go md ops fuel t listed []) :=by
 have gd:∀ {listed:Array Bool} {i:Nat},listed.size=ops.size→i<ops.size→∀b,listed.getD i b=listed.getD i false:=fun {listed i} hs hi b=>by
  rw [Array.getD_eq_getD_getElem?,Array.getD_eq_getD_getElem?,Array.getElem?_eq_getElem (by omega)];rfl
 intro fuel
 induction fuel with
 | zero=>
  intro t listed hs hu
  simp only [Region.linearise.go,List.reverse_nil]
  refine .nil fun i hi=>?_
  have:=aIN (l:=listed.toList) (i:=i) (by omega) (by simp only [Array.length_toList]at hi ⊢;omega)
  rw [Array.getD_eq_getD_getElem?,←Array.getElem?_toList,this];rfl
 | succ fuel ih=>
  intro t listed hs hu
  simp only [Region.linearise.go]
  change Legal _ _ (match(Region.ready md ops listed)[t % (Region.ready md ops listed).length]? with
   |some i=>Region.linearise.go md ops fuel (t / (Region.ready md ops listed).length) (listed.setIfInBounds i true) [i]
   |none=>[].reverse)
  cases hi: (Region.ready md ops listed)[t % (Region.ready md ops listed).length]? with
  | none=>
   have hnil:Region.ready md ops listed= [] :=by
    cases hr:Region.ready md ops listed with
    |nil=>rfl
    | cons x xs=>
     rw [hr]at hi
     have hlt:t % (x::xs).length< (x::xs).length:=Nat.mod_lt _ (by simp)
     simp at hi
     simp at hlt
     omega
   simp only [List.reverse_nil]
   refine .nil fun i hi=>?_
   have hi':i<ops.size:=by simpa using hi
   have:=ready_nil hrk hs hnil i hi'
   rw [gd hs hi']at this;exact this
  | some i=>
   simp only []
   obtain⟨g1,g2,o,g3,g4⟩ :=aLE (List.mem_of_getElem? hi)
   rw [gd hs g1]at g2
   rw [linearise_go_acc,List.reverse_singleton,List.singleton_append]
   have hlf:listed.toList[i]?=some false:=by
    rw [Array.getD_eq_getD_getElem?,Array.getElem?_eq_getElem (by omega)]at g2
    rw [Array.getElem?_toList,Array.getElem?_eq_getElem (by omega)]
    simpa using g2
   have e: (fun k=> (listed.setIfInBounds i true).getD k false) = (fun k=>listed.getD k false||k==i) :=by
    funext k
    rw [Array.getD_eq_getD_getElem?,Array.getD_eq_getD_getElem?,Array.getElem?_setIfInBounds]
    by_cases hk:i=k
    ·subst hk;simp [hs,g1]
    · have: (k==i) =false:=by simp;omega
      simp [hk,this]
   refine .cons (by rw [Array.getElem?_toList];exact g3) g2 (fun x hx hb=>g4 x hx (aOC hb)) ?_
   have:=ih (t / (Region.ready md ops listed).length) (listed.setIfInBounds i true) (by simpa using hs) (by
    rw [Array.toList_setIfInBounds]
    have:=aG9 hlf
    omega)
   rw [e]at this
   exact this
theorem aDn {ops:Array Oper}(hok: (lU ops).ok=true)(mx:Bool)(t:Nat) :Legal ops.toList (fun _=>false) (Region.schedule mx ops t) :=by
 simp only [lU,Bool.and_eq_true]at hok
 obtain⟨⟨⟨⟨h1,h2⟩,h3⟩,h4⟩,h5⟩ :=hok
 have e: (fun k=> (Array.replicate ops.size false).getD k false) =fun _=>false:=by
  funext k
  rw [Array.getD_eq_getD_getElem?,Array.getElem?_replicate]
  split<;>rfl
 have key:∀ {md rk} t,sB md ops.size rk ops.toList 0=true→Legal ops.toList (fun _=>false) (Region.linearise md ops t) :=fun t hr=>by
  have:=aQH hr ops.size t (Array.replicate ops.size false) (by simp) (by simp [yB])
  rw [e]at this
  exact this
 unfold Region.schedule
 split
 ·exact key t h3
 · split
   ·exact key _ h4
   ·exact key _ h5
def AOut.reh (h1:Hp) :AOut→AOut
 | .val v _=>.val v h1
 |o=>o
set_option maxHeartbeats 1000000 in
theorem aQI {tm:T AV}{o:Oper}(hk:dJ o.op= .pure)(h1:Hp) :kL P h1 tm o= (kL P h tm o).map (AOut.reh h1) :=by
 unfold dJ at hk
 unfold kL
 cases hop:o.op<;>simp only [hop]at hk ⊢ <;>first| (cases hk;done) |skip
 case call c=>
  unfold uD
  cases hc:c.callee with
  | builtin b=>
   rw [hc]at hk
   cases hv:jA tm c.args.toList with
   |none=>rfl
   | some args=>
    simp only
    cases b<;> (try simp only at hk) <;> (first| (cases hk;done) |skip) <;> (unfold kK; (try simp only);repeat' split) <;>simp_all [AOut.reh]
  |value f=>rw [hc]at hk;cases hk
  |invoke r n=>rw [hc]at hk;cases hk
 all_goals (try simp only [val,wM,ev2,cond_eq_ite])
 all_goals (repeat' split)
 all_goals (first|rfl|simp_all [AOut.reh,val])
set_option maxHeartbeats 1000000 in
theorem aTP {tm:T AV}{o:Oper}(hk:dJ o.op= .pure)(h1:Hp) :vop P h1 tm o= (vop P h tm o).map (AOut.reh h1) :=by
 unfold dJ at hk
 unfold vop
 cases hop:o.op<;>simp only [hop]at hk ⊢ <;>first| (cases hk;done) |rfl|skip
 case call c=>
  cases hc:c.callee with
  | builtin b=>
   rw [hc]at hk
   cases b<;> (try simp only at hk) <;> (first| (cases hk;done) |skip) <;> ((try simp only);repeat' split) <;>simp_all [AOut.reh]
  |value f=>rw [hc]at hk;cases hk
  |invoke r n=>rw [hc]at hk;cases hk
 all_goals (try simp only [val,wM,ev2,cond_eq_ite])
 all_goals (repeat' split)
 all_goals (first|rfl|simp_all [AOut.reh,val])
theorem aTQ {tm:T AV}{o:Oper}(hk:dJ o.op= .pure)(h1:Hp) :lD P h1 tm o= (lD P h tm o).map (AOut.reh h1) :=by
 unfold lD
 rw [aQI hk (h:=h),aTP hk (h:=h)]
 cases kL P h tm o<;>rfl
theorem aQJ {tm:T AV}{o:Oper}(hk:dJ o.op= .pure){a:AV}{hx:Hp}(h0:lD P h tm o=some (.val a hx))(h1:Hp) :lD P h1 tm o=some (.val a h1) :=by
 rw [aTQ hk (h:=h),h0];rfl
mutual
theorem AV.same_eq :∀ (a b:AV),AV.same a b=true→a=b
 | .bool _,b,h=>by cases b<;>simp_all [AV.same]
 | .int _ _,b,h=>by cases b<;>simp_all [AV.same]
 | .str _ _,b,h=>by cases b<;>simp_all [AV.same,bW]
 | .ptr _ _,b,h=>by cases b<;>simp_all [AV.same,bW]
 | .nilp,b,h=>by cases b<;>simp_all [AV.same]
 | .slice ..,b,h=>by cases b<;>simp_all [AV.same,bW]
 | .nils,b,h=>by cases b<;>simp_all [AV.same]
 | .map _,b,h=>by cases b<;>simp_all [AV.same,bW]
 | .nilm,b,h=>by cases b<;>simp_all [AV.same]
 | .func f fs cs,b,h=>by
  cases b with
  | func f' fs' cs'=>
   simp only [AV.same,Bool.and_eq_true,bW,decide_eq_true_eq]at h
   rw [h.1.1,AV.sameL_eq _ _ h.1.2,AV.sameL_eq _ _ h.2]
  |_=>simp [AV.same]at h
 | .yield _,b,h=>by cases b<;>simp_all [AV.same,bW]
 | .meth _ _,b,h=>by cases b<;>simp_all [AV.same]
 | .via ..,b,h=>by cases b<;>simp_all [AV.same]
 | .nilf,b,h=>by cases b<;>simp_all [AV.same]
 | .iface t v,b,h=>by
  cases b with
  | iface t' v'=>
   simp only [AV.same,Bool.and_eq_true,bW,decide_eq_true_eq]at h
   rw [h.1,AV.same_eq _ _ h.2]
  |_=>simp [AV.same]at h
 | .nili,b,h=>by cases b<;>simp_all [AV.same]
 | .agg vs,b,h=>by
  cases b with
  |agg vs'=>simp only [AV.same]at h;rw [AV.sameL_eq _ _ h]
  |_=>simp [AV.same]at h
 | .tup vs,b,h=>by
  cases b with
  |tup vs'=>simp only [AV.same]at h;rw [AV.sameL_eq _ _ h]
  |_=>simp [AV.same]at h
 | .ilst e xs ex,b,h=>by
  cases b with
  | ilst e' xs' ex'=>
   simp only [AV.same,Bool.and_eq_true,bW,decide_eq_true_eq,beq_iff_eq]at h
   rw [h.1.1,AV.sameL_eq _ _ h.1.2,h.2]
  |_=>simp [AV.same]at h
 | .iptr cs,b,h=>by
  cases b with
  |iptr cs'=>simp only [AV.same]at h;rw [AV.sameL_eq _ _ h]
  |_=>simp [AV.same]at h
 | .gl ..,b,h=>by cases b<;>simp_all [AV.same,bW]
 | .ep ..,b,h=>by cases b<;>simp_all [AV.same,bW]
 | .val _,b,h=>by cases b<;>simp_all [AV.same]
theorem AV.sameL_eq :∀ (a b:List AV),AV.sameL a b=true→a=b
 | [],b,h=>by cases b<;>simp_all [AV.sameL]
 | a::aS,b,h=>by
  cases b with
  |nil=>simp [AV.sameL]at h
  | cons b bs=>
   simp only [AV.sameL,Bool.and_eq_true]at h
   rw [AV.same_eq _ _ h.1,AV.sameL_eq _ _ h.2]
end
theorem aHa {a:Again}(h0:aCM P a h=true) :∃hx,lD P h a.tm a.o=some (.val a.v hx) :=by
 unfold aCM at h0
 split at h0
 ·rename_i v hx hv;exact⟨hx,by rw [hv,AV.same_eq _ _ h0]⟩
 ·cases h0
theorem rM {a:Again}:∀ {hs:List Hp} {k x:Nat} {h:Hp},nL P a hs k=true→hs[x]?=some h→x≤k→a.lo≤k-x→k-x≤a.hi→aCM P a h=true
 | [],k,x,h,_,hx,_,_,_=>by simp at hx
 | y::ys,k,x,h,h0,hx,hk,h1,h2=>by
  simp only [nL,Bool.and_eq_true]at h0
  cases x with
  | zero=>
   simp at hx;subst hx
   have:=h0.1
   rw [Nat.sub_zero]at h1 h2
   simp only [jG,h1,h2,decide_true,Bool.and_self,cond]at this
   exact this
  |succ x=>exact rM (k:=k-1) (x:=x) h0.2 (by simpa using hx) (by omega) (by omega) (by omega)
theorem yC {hs:List Hp}{k:Nat}:∀ {aS:List Again},rG P hs k aS=true→∀a∈aS,nL P a hs k=true
 | [],_,a,ha=>by cases ha
 | x::xs,h0,a,ha=>by
  simp only [rG,Bool.and_eq_true]at h0
  cases ha with
  |head=>exact h0.1
  |tail _ ha=>exact yC h0.2 a ha
def wT (P:Program)(hs:List Hp)(k:Nat)(aS:List Again) :Prop:=
 ∀a∈aS,∀ (x:Nat) (h:Hp),hs[x]?=some h→x≤k→a.lo≤k-x→k-x≤a.hi→∃hx,lD P h a.tm a.o=some (.val a.v hx)
theorem aDo {hs:List Hp}{k:Nat}{aS:List Again}(h0:rG P hs k aS=true) :wT P hs k aS:=
 fun a ha _ _ hx h1 h2 h3=>aHa (rM (yC h0 a ha) hx h1 h2 h3)
theorem aBo {tm:T AV}{o:Oper}(c:Call)(hc:o.op= .defer c) :vop P h tm o=none:=by
 unfold vop;rw [hc]
theorem yU {tm:T AV}{o:Oper}(c:Call)(hc:o.op= .defer c){out:AOut}(h0:kL P h tm o=some out) :∃d,out= .defer d:=by
 unfold kL at h0
 rw [hc]at h0
 simp only [cond_eq_ite]at h0
 repeat' split at h0
 all_goals first| (cases h0;done) | (cases h0;exact⟨_,rfl⟩)
theorem aFG {tm:T AV}{o:Oper}{v:AV}{h2:Hp}(h0:lD P h tm o=some (.val v h2)) :∀c,o.op≠ .defer c:=by
 intro c hc
 unfold lD at h0
 split at h0
 ·rename_i r hr;cases h0;obtain⟨d,e⟩ :=yU c hc hr;cases e
 ·rw [aBo c hc]at h0;cases h0
theorem yV {tm:T AV}{o:Oper}{c':AIn}(h0:lD P h tm o=some (.call c')) :∀c,o.op≠ .defer c:=by
 intro c hc
 unfold lD at h0
 split at h0
 ·rename_i r hr;cases h0;obtain⟨d,e⟩ :=yU c hc hr;cases e
 ·rw [aBo c hc]at h0;cases h0
end Go.Hb
namespace Go.Hb
variable {P :Program} {E:Emb} {h h':Hp} {w w':World}
def rN (l:List Oper)(i:Nat) :Option Nat:= (l[i]?).bind (·.dst)
def xQ (l:List Oper)(i:Nat) :Nat:=xP (bsOf l) i (fO l 0) 0
def aWu (l:List Oper)(i:Nat) :Nat:=aGP ((bsOf l).getD i 0) (fO l 0) 0
structure Trace (P:Program) (call:bZ) (l:List Oper) (nt:Nat) (R:Nat→RS) (A:Nat→AV) :Prop where
 step:∀i o,l[i]?=some o→jB (R i).tm nt o.dst (A i) =some (R (i+1)).tm∧RC P call l (sL l i o) (R i) (R (i+1)) (A i)
 chain:chained (bsOf l) (fO l 0) =true
 wok:wOk (bsOf l) l l 0=true
 idOk:∀i o,l[i]?=some o→∀e∈o.after.toList,Region.binds .any e=true→e.on<i
 s0: (R 0).s=0
 st0: (R 0).stages= []
 p0: (R 0).pend= []
 a0: (R 0).again= []
 nx: (R l.length).next≤ (R 0).h.nb
 again:wT P ((R l.length).h:: (R l.length).stages) (R l.length).s (R l.length).again
def cP (l:List Oper)(R:Nat→RS)(k:Nat) :Hp:= (((R l.length).h:: (R l.length).stages)[(R l.length).s-k]?).getD (R 0).h
theorem RC.s {call:bZ}{l:List Oper}{p:Plan}{r r':RS}{a:AV}(c:RC P call l p r r' a) :r'.s=if p.kd= .eff then r.s+1 else r.s:=by
 cases c with
 |unwE hw ha hk e=>rw [e,hk];rfl
 |unwF hw ha hk e=>rw [e,hk];rfl
 |unwQ hw ha hk e=>rw [e];rcases hk with hk|hk<;>rw [hk] <;>rfl
 |pure hx hw hk h0 e=>rw [e,hk];rfl
 |read hx hw hk h0 e=>rw [e,hk];rfl
 |fresh ob hw hk h0 e=>rw [e,hk];rfl
 |eff h2 hw hk h0 e=>rw [e,hk];rfl
theorem RC.list {call:bZ}{l:List Oper}{p:Plan}{r r':RS}{a:AV}(c:RC P call l p r r' a) :
  (p.kd= .eff∧r'.stages=r.h::r.stages) ∨ (p.kd≠ .eff∧r'.h=r.h∧r'.stages=r.stages) :=by
 cases c with
 |unwE hw ha hk e=>left;rw [e,hk];exact⟨rfl,rfl⟩
 |unwF hw ha hk e=>right;rw [e,hk];exact⟨by decide,rfl,rfl⟩
 |unwQ hw ha hk e=>right;rw [e];rcases hk with hk|hk<;>rw [hk] <;>exact⟨by decide,rfl,rfl⟩
 |pure hx hw hk h0 e=>right;rw [e,hk];exact⟨by decide,rfl,rfl⟩
 |read hx hw hk h0 e=>right;rw [e,hk];exact⟨by decide,rfl,rfl⟩
 |fresh ob hw hk h0 e=>right;rw [e,hk];exact⟨by decide,rfl,rfl⟩
 |eff h2 hw hk h0 e=>left;rw [e,hk];exact⟨rfl,rfl⟩
theorem RC.next {call:bZ}{l:List Oper}{p:Plan}{r r':RS}{a:AV}(c:RC P call l p r r' a) :r'.next=if p.kd= .fresh then r.next+1 else r.next:=by
 cases c with
 |unwE hw ha hk e=>rw [e,hk];rfl
 |unwF hw ha hk e=>rw [e,hk];rfl
 |unwQ hw ha hk e=>rw [e];rcases hk with hk|hk<;>rw [hk] <;>rfl
 |pure hx hw hk h0 e=>rw [e,hk];rfl
 |read hx hw hk h0 e=>rw [e,hk];rfl
 |fresh ob hw hk h0 e=>rw [e,hk];rfl
 |eff h2 hw hk h0 e=>rw [e,hk];rfl
theorem RC.pend {call:bZ}{l:List Oper}{p:Plan}{r r':RS}{a:AV}(c:RC P call l p r r' a) :
  r'.pend=r.pend∨∃ob,p.kd= .fresh∧bY r.tm l p.o=some true∧qL P r.tm r.next p.o=some (a,ob) ∧r'.pend= (p.hi,r.next,ob) ::r.pend:=by
 cases c with
 |unwE hw ha hk e=>left;rw [e]
 |unwF hw ha hk e=>left;rw [e]
 |unwQ hw ha hk e=>left;rw [e]
 |pure hx hw hk h0 e=>left;rw [e]
 |read hx hw hk h0 e=>left;rw [e]
 |fresh ob hw hk h0 e=>right;rw [e];exact⟨ob,hk,hw,h0,rfl⟩
 |eff h2 hw hk h0 e=>left;rw [e]
theorem RC.again {call:bZ}{l:List Oper}{p:Plan}{r r':RS}{a:AV}(c:RC P call l p r r' a) :∀x∈r.again,x∈r'.again:=by
 cases c with
 | read hx hw hk h0 e=>
  rw [e];intro x hx
  simp only
  cases Nat.beq p.lo p.hi with
  |true=>exact hx
  |false=>exact List.mem_cons_of_mem _ hx
 |unwE hw ha hk e=>rw [e];exact fun _ h=>h
 |unwF hw ha hk e=>rw [e];exact fun _ h=>h
 |unwQ hw ha hk e=>rw [e];exact fun _ h=>h
 |pure hx hw hk h0 e=>rw [e];exact fun _ h=>h
 |fresh ob hw hk h0 e=>rw [e];exact fun _ h=>h
 |eff h2 hw hk h0 e=>rw [e];exact fun _ h=>h
section
variable {call :bZ} {l:List Oper} {nt:Nat} {R:Nat→RS} {A:Nat→AV}
theorem sO {i:Nat}{o:Oper}(h:l[i]?=some o) :i<l.length:= (List.getElem?_eq_some_iff.1 h).1
theorem vA {i:Nat}(h:i<l.length) :∃o,l[i]?=some o:= ⟨_,List.getElem?_eq_getElem h⟩
theorem aAz (l:List Oper){p q e f:Nat}(hp: (fO l 0)[p]?=some e)(hq: (fO l 0)[q]?=some f) : (p<q↔e<f) :=by
 obtain⟨_,_,h⟩ :=iW l 0
 rw [List.pairwise_iff_getElem]at h
 obtain⟨hp1,hp2⟩ :=List.getElem?_eq_some_iff.1 hp
 obtain⟨hq1,hq2⟩ :=List.getElem?_eq_some_iff.1 hq
 constructor
 ·intro g;have:=h p q hp1 hq1 g;rw [hp2,hq2]at this;exact this
 · intro g
   rcases Nat.lt_trichotomy p q with k|k|k
   ·exact k
   ·subst k;rw [hp]at hq;cases hq;omega
   ·have:=h q p hq1 hp1 k;rw [hp2,hq2]at this;omega
theorem Trace.cnt (T:Trace P call l nt R A) :∀i,i≤l.length→ (R i).s≤ (fO l 0).length∧∀q e,(fO l 0)[q]?=some e→ (q< (R i).s↔e<i)
 |0,_=>by rw [T.s0];exact⟨Nat.zero_le _,fun q e _=>by omega⟩
 | i + 1,hi=>by
  obtain⟨h1,h2⟩ :=T.cnt i (by omega)
  obtain⟨o,ho⟩ :=vA (l:=l) (i:=i) (by omega)
  have hs:= (T.step i o ho).2.s
  by_cases hk:dJ o.op= .eff
  · rw [if_pos (show(sL l i o).kd= .eff from hk)]at hs
    obtain⟨q,hq⟩ := (iW l 0).2.1 i o ho hk
    rw [Nat.zero_add]at hq
    have hql:= (List.getElem?_eq_some_iff.1 hq).1
    have hqs: (R i).s=q:=by
     rcases Nat.lt_trichotomy (R i).s q with k|k|k
     · obtain⟨e,he⟩ :∃e,(fO l 0)[(R i).s]?=some e:= ⟨_,List.getElem?_eq_getElem (by omega)⟩
       have:= (aAz l he hq).1 k
       have:= (h2 _ _ he).2 this
       omega
     ·exact k
     ·have:= (h2 _ _ hq).1 k;omega
    rw [hs,hqs]
    refine⟨by omega,fun q' e' he'=>?_⟩
    have a1:=aAz l he' hq
    have a2:=aAz l hq he'
    constructor
    · intro g;rcases Nat.lt_or_ge q' q with k|k
      ·have:=a1.1 k;omega
      · have:q'=q:=by omega
        subst this;rw [hq]at he';cases he';omega
    · intro g;rcases Nat.lt_or_ge q q' with k|k
      ·have:=a2.1 k;omega
      ·omega
  · rw [if_neg (show ¬ (sL l i o).kd= .eff from hk)]at hs
    rw [hs]
    refine⟨h1,fun q' e' he'=>?_⟩
    rw [h2 _ _ he']
    obtain⟨_,_,o',ho',hk'⟩ := (iW l 0).1 q' e' he'
    have:e'≠i:=fun e=>by subst e;rw [Nat.sub_zero]at ho';rw [ho]at ho';cases ho';exact hk hk'
    omega
theorem Trace.sEff (T:Trace P call l nt R A){q e:Nat}(hq: (fO l 0)[q]?=some e) : (R e).s=q∧ (R (e+1)).s=q+1:=by
 obtain⟨_,h2,o,ho,hk⟩ := (iW l 0).1 q e hq
 rw [Nat.sub_zero]at ho
 have hs:= (T.step e o ho).2.s
 rw [if_pos (show(sL l e o).kd= .eff from hk)]at hs
 obtain⟨a1,a2⟩ :=T.cnt e (by omega)
 obtain⟨b1,b2⟩ :=T.cnt (e+1) (by omega)
 have:=a2 q e hq
 have:=b2 q e hq
 omega
theorem Trace.sEnd (T:Trace P call l nt R A) : (R l.length).s= (fO l 0).length:=by
 obtain⟨a1,a2⟩ :=T.cnt l.length (Nat.le_refl _)
 rcases Nat.lt_or_ge (R l.length).s (fO l 0).length with k|k
 · obtain⟨e,he⟩ :∃e,(fO l 0)[(R l.length).s]?=some e:= ⟨_,List.getElem?_eq_getElem k⟩
   obtain⟨_,h2,_⟩ := (iW l 0).1 _ e he
   have:= (a2 _ _ he).2 (by omega)
   omega
 ·omega
theorem Trace.suffix (T:Trace P call l nt R A) :∀d i,i+d=l.length→ (R i).s≤ (R l.length).s∧∃pre,pre.length= (R l.length).s- (R i).s∧ (R l.length).h:: (R l.length).stages=pre++ ((R i).h:: (R i).stages)
 | 0,i,hi=>by
  rw [Nat.add_zero]at hi
  subst hi
  exact⟨Nat.le_refl _,[],by simp,rfl⟩
 | d +1,i,hi=>by
  obtain⟨h1,pre,h2,h3⟩ :=T.suffix d (i+1) (by omega)
  obtain⟨o,ho⟩ :=vA (l:=l) (i:=i) (by omega)
  have hs:= (T.step i o ho).2.s
  rcases(T.step i o ho).2.list with⟨hk,e⟩ | ⟨hk,e1,e2⟩
  · rw [if_pos hk]at hs
    refine⟨by omega,pre++ [(R (i+1)).h],by simp;omega,?_⟩
    rw [h3,e];simp
  · rw [if_neg hk]at hs
    refine⟨by omega,pre,by omega,?_⟩
    rw [h3,e1,e2]
theorem Trace.stage (T:Trace P call l nt R A){i:Nat}(hi:i≤l.length) :cP l R (R i).s= (R i).h:=by
 obtain⟨h1,pre,h2,h3⟩ :=T.suffix (l.length-i) i (by omega)
 unfold cP
 rw [h3,←h2,List.getElem?_append_right (Nat.le_refl _)]
 simp
theorem Trace.stages_len (T:Trace P call l nt R A) :∀i,i≤l.length→ (R i).stages.length= (R i).s
 |0,_=>by rw [T.st0,T.s0];rfl
 | i+1,hi=>by
  have ih:=T.stages_len i (by omega)
  obtain⟨o,ho⟩ :=vA (l:=l) (i:=i) (by omega)
  have hs:= (T.step i o ho).2.s
  rcases(T.step i o ho).2.list with⟨hk,e⟩ | ⟨hk,e1,e2⟩
  ·rw [if_pos hk]at hs;rw [e,hs];simp [ih]
  ·rw [if_neg hk]at hs;rw [e2,hs,ih]
theorem Trace.stage_get (T:Trace P call l nt R A){k:Nat}(hk:k≤ (R l.length).s) : ((R l.length).h:: (R l.length).stages)[(R l.length).s-k]?=some (cP l R k) :=by
 have:=T.stages_len _ (Nat.le_refl _)
 unfold cP
 rw [List.getElem?_eq_getElem (by simp;omega)]
 rfl
theorem Trace.next_mono (T:Trace P call l nt R A) :∀d i,i+d≤l.length→ (R i).next≤ (R (i+d)).next
 |0,i,_=>Nat.le_refl _
 | d+1,i,hi=>by
  have ih:=T.next_mono d i (by omega)
  obtain⟨o,ho⟩ :=vA (l:=l) (i:=i+d) (by omega)
  have hs:= (T.step _ o ho).2.next
  rw [show i+ (d+1) =i+d+1 by omega,hs]
  split<;>omega
theorem Trace.next_fresh (T:Trace P call l nt R A){f:Nat}{o:Oper}(ho:l[f]?=some o)(hk:dJ o.op= .fresh) : (R (f+1)).next= (R f).next+1:=by
 have:= (T.step _ o ho).2.next
 rw [if_pos (show(sL l f o).kd= .fresh from hk)]at this
 exact this
theorem Trace.id_ne (T:Trace P call l nt R A){f g:Nat}{o o':Oper}(ho:l[f]?=some o)(hk:dJ o.op= .fresh)(ho':l[g]?=some o')(hk':dJ o'.op= .fresh)(hne:f≠g) : (R f).next≠ (R g).next:=by
 have h1:=T.next_fresh ho hk
 have h2:=T.next_fresh ho' hk'
 have hf:=sO ho
 have hg:=sO ho'
 rcases Nat.lt_or_ge f g with k|k
 · have:=T.next_mono (g- (f+1)) (f+1) (by omega)
   rw [show f+1+ (g- (f+1)) =g by omega]at this
   omega
 · have:=T.next_mono (f- (g+1)) (g+1) (by omega)
   rw [show g+1+ (f- (g+1)) =f by omega]at this
   omega
theorem Trace.id_lt (T:Trace P call l nt R A){f:Nat}{o:Oper}(ho:l[f]?=some o)(hk:dJ o.op= .fresh) : (R 0).next≤ (R f).next∧ (R f).next< (R 0).h.nb:=by
 have h1:=T.next_fresh ho hk
 have hf:=sO ho
 have h2:=T.next_mono f 0 (by omega)
 rw [Nat.zero_add]at h2
 have h3:=T.next_mono (l.length- (f+1)) (f+1) (by omega)
 rw [show f+1+ (l.length- (f+1)) =l.length by omega]at h3
 have:=T.nx
 omega
theorem Trace.pend_mem (T:Trace P call l nt R A) :∀i,i≤l.length→∀k x ob,(k,x,ob) ∈ (R i).pend →
  ∃f o,f<i∧l[f]?=some o∧dJ o.op= .fresh∧bY (R f).tm l o=some true∧qL P (R f).tm (R f).next o=some (A f,ob) ∧k=xQ l f∧x= (R f).next
 |0,_,k,x,ob,h=>by rw [T.p0]at h;cases h
 | i +1,hi,k,x,ob,h=>by
  have ih:=T.pend_mem i (by omega)
  obtain⟨o,ho⟩ :=vA (l:=l) (i:=i) (by omega)
  have old: (k,x,ob) ∈ (R i).pend→ (∃f o,f<i+1∧l[f]?=some o∧dJ o.op= .fresh∧bY (R f).tm l o=some true∧qL P (R f).tm (R f).next o=some (A f,ob) ∧k=xQ l f∧x= (R f).next) :=fun g=>by
   obtain⟨f,o,h1,h2⟩ :=ih k x ob g
   exact⟨f,o,by omega,h2⟩
  rcases(T.step i o ho).2.pend with e| ⟨ob',hk,hw,hf,e⟩
  ·rw [e]at h;exact old h
  · rw [e]at h
    cases h with
    |head=>exact⟨i,o,by omega,ho,hk,hw,hf,rfl,rfl⟩
    |tail _ h=>exact old h
theorem Trace.again_mem (T:Trace P call l nt R A) :∀d i,i+d≤l.length→∀x∈ (R i).again,x∈ (R (i+d)).again
 |0,i,_,x,hx=>hx
 | d+1,i,hi,x,hx=>by
  have ih:=T.again_mem d i (by omega) x hx
  obtain⟨o,ho⟩ :=vA (l:=l) (i:=i+d) (by omega)
  exact(T.step _ o ho).2.again x ih
theorem Trace.view (T:Trace P call l nt R A)(t:Nat) :∀i,i≤l.length→ (R i).tm.at t=eG (R 0).tm (rN l) A (fun _=>True) i t
 |0,_=>rfl
 | i +1,hi=>by
  have ih:=T.view t i (by omega)
  obtain⟨o,ho⟩ :=vA (l:=l) (i:=i) (by omega)
  have hp:= (T.step _ o ho).1
  have hd:rN l i=o.dst:=by simp [rN,ho]
  simp only [eG,hd,true_and]
  unfold jB at hp
  split at hp
  ·rename_i h0;rw [←Option.some.inj hp,h0,if_neg (by simp)];exact ih
  · rename_i d h0
    rw [h0]
    cases hb:Nat.blt d nt with
    |false=>rw [hb]at hp;cases hp
    | true=>
     rw [hb]at hp
     simp only [cond,Option.some.injEq]at hp
     rw [←hp,Go.Hb.T.at_put]
     by_cases ht:t=d
     ·subst ht;simp
     ·rw [if_neg ht,if_neg (by simpa using fun e=>ht e.symm)];exact ih
theorem Trace.nat_closed (T:Trace P call l nt R A)(i:Nat) :Closed l (· <i) :=fun k o ho hk e he hb=>Nat.lt_trans (T.idOk k o ho e he hb) hk
theorem Trace.window (T:Trace P call l nt R A){D:Nat→Prop}{j i:Nat}{o:Oper}(hD:Closed l D)(hlt:∀i,D i→i<l.length)(hE:∀q e,(fO l 0)[q]?=some e→ (D e↔q<j))(hj:j≤ (fO l 0).length)
  (ho:l[i]?=some o) (hi:¬D i) (hm:Met D o) :aWu l i≤j∧j≤xQ l i:=by
 refine⟨aNK _ _ _ _ fun q e he hb=>?_,?_⟩
 · have:=lJ hD hlt (i+1) i (by omega) o ho hm e hb
   have:= (hE q e he).1 this
   omega
 · obtain⟨h1,h2,h3,h4⟩ :=aBn (bsOf l) i (fO l 0) 0
   rcases Nat.lt_or_ge (xQ l i) j with k|k
   · exfalso
     have hl:xQ l i< (fO l 0).length:=by omega
     have hx: (fO l 0)[xQ l i]?=some ((fO l 0)[xQ l i]) :=List.getElem?_eq_getElem hl
     have hb:=h4 _ hx
     have hd:= (hE _ _ hx).2 k
     obtain⟨oe,hoe⟩ :=vA (hlt _ hd)
     exact hi (lJ hD hlt _ _ (Nat.lt_succ_self _) oe hoe (hD _ _ hoe hd) i hb)
   ·exact k
theorem aLF {f e:Nat}(he: (fO l 0)[xQ l f]?=some e) :Nat.testBit ((bsOf l).getD e 0) f=true:=
 (aBn (bsOf l) f (fO l 0) 0).2.2.2 _ he
theorem Trace.before (T:Trace P call l nt R A){q e f:Nat}(he: (fO l 0)[q]?=some e)(hf: (fO l 0)[q+1]?=some f) :Nat.testBit ((bsOf l).getD f 0) e=true:=aAy T.chain q e f he hf
theorem memN_spec {t:Nat}:∀ {l:List Nat},uG t l=true↔t∈l
 | [] =>by simp [uG]
 |x::xs=>by simp only [uG,Bool.or_eq_true,bW,decide_eq_true_eq,memN_spec (l:=xs),List.mem_cons];exact⟨fun h=>h.imp Eq.symm id,fun h=>h.imp Eq.symm id⟩
theorem aDp {bs:List Nat}{i:Nat}{names:List Nat}:∀ {l:List Oper} {k:Nat},aIC bs i names l k=true→∀x o d,l[x]?=some o→o.dst=some d→d∈names →
  k+x=i∨ (k+x<i∧Nat.testBit (bs.getD i 0) (k+x) =true) ∨ (i<k+x∧Nat.testBit (bs.getD (k+x) 0) i=true)
 | [],k,_,x,o,d,ho,_,_=>by simp at ho
 | y::ys,k,h,x,o,d,ho,hd,hn=>by
  simp only [aIC,Bool.and_eq_true]at h
  cases x with
  | zero=>
   simp at ho;subst ho
   have:=h.1
   rw [hd]at this
   simp only [Bool.or_eq_true,Bool.not_eq_true',bW,dH,decide_eq_true_eq,Bool.and_eq_true]at this
   rcases this with((g|g) |g) |g
   ·rw [memN_spec.2 hn]at g;cases g
   ·exact .inl g
   ·exact .inr (.inl g)
   ·exact .inr (.inr g)
  | succ x=>
   have:=aDp h.2 x o d (by simpa using ho) hd hn
   rwa [show Nat.succ k+x=k+ (x+1)by omega]at this
theorem aIO {bs:List Nat}{ops:List Oper}:∀ {l:List Oper} {k:Nat},wOk bs ops l k=true→∀i o,l[i]?=some o→aIC bs (k+i) (nD ops o) ops 0=true
 | [],k,_,i,o,ho=>by simp at ho
 | y::ys,k,h,i,o,ho=>by
  simp only [wOk,Bool.and_eq_true]at h
  cases i with
  |zero=>simp at ho;subst ho;exact h.1
  | succ i=>
   have:=aIO h.2 i o (by simpa using ho)
   rwa [show Nat.succ k+i=k+ (i+1)by omega]at this
theorem Trace.writers (T:Trace P call l nt R A){D:Nat→Prop}{i:Nat}{o:Oper}(hD:Closed l D)(hlt:∀i,D i→i<l.length)(ho:l[i]?=some o)(hi:¬D i)(hm:Met D o){t k:Nat}(ht:t∈nD l o)(hk:rN l k=some t) :
  k=i∨ (k<i∧D k) ∨ (i<k∧¬D k) :=by
 unfold rN at hk
 cases hok:l[k]? with
 |none=>rw [hok]at hk;cases hk
 | some ok=>
  rw [hok]at hk
  have:=aIO T.wok i o ho
  rw [Nat.zero_add]at this
  have:=aDp this k ok t hok hk ht
  rw [Nat.zero_add]at this
  rcases this with h1| ⟨h1,h2⟩ | ⟨h1,h2⟩
  ·exact .inl h1
  ·exact .inr (.inl ⟨h1,lJ hD hlt (i+1) i (by omega) o ho hm k h2⟩)
  ·refine .inr (.inr ⟨h1,fun hd=>hi (lJ hD hlt (k+1) k (by omega) ok hok (hD _ _ hok hd) i h2)⟩)
section
variable {D :Nat→Prop} [DecidablePred D] {i:Nat} {o:Oper}
theorem Trace.view_ready (T:Trace P call l nt R A)(hD:Closed l D)(hlt:∀i,D i→i<l.length)(ho:l[i]?=some o)(hi:¬D i)(hm:Met D o){t:Nat}(ht:t∈nD l o) :
  eG (R 0).tm (rN l) A D l.length t= (R i).tm.at t:=by
 have hil:=sO ho
 rw [T.view t i (by omega),wS (i:=i) (n:=l.length) (by omega) (fun k h1 h2 hk=>?_)]
 · refine sN fun k hk hd=> ⟨fun _=>trivial,fun _=>?_⟩
   rcases T.writers hD hlt ho hi hm ht hd with g|g|g
   ·omega
   ·exact g.2
   ·omega
 · rcases T.writers hD hlt ho hi hm ht hk with g|g|g
   ·subst g;exact hi
   ·omega
   ·exact g.2
theorem Trace.view_done (T:Trace P call l nt R A)(hD:Closed l D)(hlt:∀i,D i→i<l.length)(ho:l[i]?=some o)(hi:¬D i)(hm:Met D o)(t:Nat){D':Nat→Prop}[DecidablePred D'](hD':∀k,D' k↔ (D k∨k=i)) :
  eG (R 0).tm (rN l) A D' l.length t=if o.dst=some t then some (A i)else eG (R 0).tm (rN l) A D l.length t:=by
 have hil:=sO ho
 have hd0:rN l i=o.dst:=by simp [rN,ho]
 split
 · rename_i hd
   have hn:t∈nD l o:=by simp [nD,hd]
   rw [wS (i:=i+1) (n:=l.length) (by omega) (fun k h1 h2 hk=>?_)]
   · simp only [eG]
     rw [if_pos ⟨(hD' i).2 (.inr rfl),by rw [hd0];exact hd⟩]
   · rw [hD']
     rintro(g|g)
     · rcases T.writers hD hlt ho hi hm hn hk with g'|g'|g'
       ·omega
       ·omega
       ·exact g'.2 g
     ·omega
 · rename_i hd
   refine sN fun k hk hdk=>?_
   rw [hD']
   constructor
   · rintro(g|g)
     ·exact g
     ·subst g;rw [hd0]at hdk;exact absurd hdk hd
   ·exact .inl
end
end
end Go.Hb
namespace Go.Hb
variable {P :Program}
section
variable {call :bZ} {l:List Oper} {nt:Nat} {R:Nat→RS} {A:Nat→AV}
structure Pd (P:Program) (l:List Oper) (R:Nat→RS) (A:Nat→AV) (D:Nat→Prop) (j f:Nat) (ob:AObj) :Prop where
 done:D f
 op:∃o,l[f]?=some o∧dJ o.op= .fresh∧bY (R f).tm l o=some true∧qL P (R f).tm (R f).next o=some (A f,ob)
 late:j≤xQ l f
structure Inv (P:Program) (l:List Oper) (nt:Nat) (R:Nat→RS) (A:Nat→AV) (E0:Emb) (h0:Hp) (w0:World) (D:Nat→Prop) [DecidablePred D] (j:Nat) (E:Emb) (w:World) (tmps:Array Value) :Prop where
 closed:Closed l D
 lt:∀i,D i→i<l.length
 eff:∀q e,(fO l 0)[q]?=some e→ (D e↔q<j)
 jle:j≤ (fO l 0).length
 ext:Ext E0 h0 w0 E (cP l R j) w
 nb: (R 0).h.nb≤ (cP l R j).nb
 rel:Rel E (cP l R j) w.heap
 size:tmps.size=nt
 tv:∀t a,eG (R 0).tm (rN l) A D l.length t=some a→∃v,tmps[t]?=some v∧VR E a v
 und:∀f o,¬D f→l[f]?=some o→dJ o.op= .fresh→E (R f).next=none
 pd:∀f ob,Pd P l R A D j f ob→∃L,E (R f).next=some L∧OR E w.heap L ob∧w0.heap.size≤L.blk∧∀b o L',(cP l R j).look b=some o→E b=some L'→L'.blk≠L.blk
 pdi:∀f ob,Pd P l R A D j f ob→∀L,E (R f).next=some L→E.imm L.blk=none
 hn0:h0.nb= (R 0).next
 ul:∀b o,(cP l R j).look b=some o→E b=none→b<h0.nb∨ (R 0).h.nb≤b
 pd2:∀f g ob ob' L L',Pd P l R A D j f ob→Pd P l R A D j g ob'→f≠g→E (R f).next=some L→E (R g).next=some L'→L.blk≠L'.blk
variable {E0 :Emb} {h0:Hp} {w0:World} {D D':Nat→Prop} [DecidablePred D] [DecidablePred D'] {j:Nat} {E:Emb} {w:World} {tmps:Array Value}
theorem Inv.publish (T:Trace P call l nt R A)(I:Inv P l nt R A E0 h0 w0 D j E w tmps){ps:List (Nat×Nat×AObj)}
  (hps:∀x ob,(j,x,ob) ∈ps→∃f,Pd P l R A D j f ob∧xQ l f=j∧x= (R f).next) :
  Rel E (aV (cP l R j) j ps) w.heap∧Ext E0 h0 w0 E (aV (cP l R j) j ps) w ∧
   (∀x ob,(aV (cP l R j) j ps).look x=some ob→ (∃f,Pd P l R A D j f ob∧xQ l f=j∧x= (R f).next) ∨ (cP l R j).look x=some ob) :=by
 have hl:∀x ob,(aV (cP l R j) j ps).look x=some ob→ (∃f,Pd P l R A D j f ob∧xQ l f=j∧x= (R f).next) ∨ (cP l R j).look x=some ob:=fun x ob e=>
  (nW e).imp (hps x ob) (fun z=>z)
 have pdlt:∀ {f ob},Pd P l R A D j f ob→h0.nb≤ (R f).next∧ (R f).next< (R 0).h.nb:=fun p=>by
  obtain⟨o',h1,h2,_⟩ :=p.op
  have:=T.id_lt h1 h2
  have:=I.hn0
  omega
 refine⟨⟨fun b o e=>?_,fun b b' o o' L L' e e' k k' hbl hne=>?_,fun b hb=>?_,I.rel.imm,fun b o L e k=>?_,fun b o e=>?_⟩,⟨I.ext.le,I.ext.size,I.ext.keep,fun b' o' L' e k hlt=>?_,?_,I.ext.os,I.ext.tape,I.ext.output,I.ext.low,I.ext.froz,I.ext.immo,fun b o e hb=>?_⟩,hl⟩
 · rcases hl b o e with⟨f,hf,_,rfl⟩ |e
   ·obtain⟨L,g1,g2,_⟩ :=I.pd f o hf;exact .inr ⟨L,g1,g2⟩
   ·exact I.rel.obj0 b o e
 · rcases hl b o e with⟨f,hf,_,rfl⟩ |e1
   · obtain⟨L1,g1,g2,g3,g4⟩ :=I.pd f o hf
     rw [k]at g1;cases g1
     rcases hl b' o' e' with⟨g,hg,_,rfl⟩ |e2
     ·exact absurd hbl (I.pd2 f g o o' L L' hf hg (fun e=>hne (by rw [e])) k k')
     ·exact absurd hbl.symm (g4 _ _ _ e2 k')
   · rcases hl b' o' e' with⟨g,hg,_,rfl⟩ |e2
     · obtain⟨L1,g1,g2,g3,g4⟩ :=I.pd g o' hg
       rw [k']at g1;cases g1
       exact absurd hbl (g4 _ _ _ e1 k)
     ·exact I.rel.kin b b' o o' L L' e1 e2 k k' hbl hne
 ·rw [eD]at hb;exact I.rel.fresh b hb
 · rcases hl b o e with⟨f,hf,_,rfl⟩ |e1
   ·exact I.pdi f o hf L k
   ·exact I.rel.apart b o L e1 k
 · rw [eD]
   rcases hl b o e with⟨f,hf,_,rfl⟩ |e1
   ·have:=pdlt hf;have:=I.nb;omega
   ·exact I.rel.keys b o e1
 · rcases hl b' o' e with⟨f,hf,_,rfl⟩ |e1
   · obtain⟨L1,g1,g2,g3,g4⟩ :=I.pd f o' hf
     rw [k]at g1;cases g1
     omega
   ·exact I.ext.own b' o' L' e1 k hlt
 ·rw [eD];exact I.ext.nb
 · rcases hl b o e with⟨f,hf,_,rfl⟩ |e1
   ·have:=pdlt hf;omega
   ·exact I.ext.keys b o e1 hb
theorem aBp (d:Option Nat)(v:Value)(a:Array Value) : (yS d v a).size=a.size:=by cases d<;>simp [yS]
theorem aHb (T:Trace P call l nt R A)(hD:Closed l D)(hlt:∀i,D i→i<l.length)(hsz:tmps.size=nt){i:Nat}{o:Oper}(ho:l[i]?=some o)(hi:¬D i)(hm:Met D o)(hD':∀k,D' k↔ (D k∨k=i)){cv:Value}(hv:VR E (A i) cv)
  (tv:∀t a,eG (R 0).tm (rN l) A D l.length t=some a→∃v,tmps[t]?=some v∧VR E a v) :
  ∀t a,eG (R 0).tm (rN l) A D' l.length t=some a→∃v,(yS o.dst cv tmps)[t]?=some v∧VR E a v:=by
 intro t a hta
 rw [T.view_done hD hlt ho hi hm t hD']at hta
 have hp:= (T.step i o ho).1
 split at hta
 · rename_i hd
   cases hta
   refine⟨cv,?_,hv⟩
   rw [hd]at hp ⊢
   unfold jB at hp
   simp only at hp
   cases hb:Nat.blt t nt with
   |false=>rw [hb]at hp;cases hp
   | true=>
    rw [dH,decide_eq_true_eq]at hb
    simp [yS,hsz,hb]
 · rename_i hd
   obtain⟨v,h1,h2⟩ :=tv t a hta
   refine⟨v,?_,h2⟩
   unfold yS
   split
   · rename_i d hd'
     rw [Array.getElem?_setIfInBounds_ne (fun e=>hd (by rw [hd',e]))];exact h1
   ·exact h1
theorem vB {i:Nat}{o:Oper}(hD:Closed l D)(ho:l[i]?=some o)(hm:Met D o)(hD':∀k,D' k↔ (D k∨k=i)) :Closed l D':=by
 intro k ok hok hk e he hb
 rw [hD']
 rcases(hD' k).1 hk with g|g
 ·exact .inl (hD k ok hok g e he hb)
 ·subst g;rw [ho]at hok;cases hok;exact .inl (hm e he hb)
theorem aHc {i:Nat}{o:Oper}(hlt:∀i,D i→i<l.length)(ho:l[i]?=some o)(hD':∀k,D' k↔ (D k∨k=i)) :∀k,D' k→k<l.length:=fun k hk=>by
 rcases(hD' k).1 hk with g|g
 ·exact hlt k g
 ·subst g;exact sO ho
theorem Inv.quiet (T:Trace P call l nt R A)(I:Inv P l nt R A E0 h0 w0 D j E w tmps){i:Nat}{o:Oper}(ho:l[i]?=some o)(hi:¬D i)(hm:Met D o)(hk:dJ o.op≠ .eff)(hD':∀k,D' k↔ (D k∨k=i))
  (hf:dJ o.op= .fresh→bY (R i).tm l o=some false) {cv:Value} (hv:VR E (A i) cv) :
  Inv P l nt R A E0 h0 w0 D' j E w (yS o.dst cv tmps) :=by
 have back:∀f ob,Pd P l R A D' j f ob→Pd P l R A D j f ob:=fun f ob p=>by
  refine⟨?_,p.op,p.late⟩
  rcases(hD' f).1 p.done with g|g
  ·exact g
  · subst g
    obtain⟨o',h1,h2,h3,h4⟩ :=p.op
    rw [ho]at h1;cases h1
    rw [hf h2]at h3;cases h3
 refine⟨vB I.closed ho hm hD',aHc I.lt ho hD',fun q e he=>?_,I.jle,I.ext,I.nb,I.rel,by rw [aBp];exact I.size,
  aHb T I.closed I.lt I.size ho hi hm hD' hv I.tv,fun f of hnd h1 h2=>I.und f of (fun g=>hnd ((hD' f).2 (.inl g))) h1 h2,fun f ob p=>I.pd f ob (back f ob p),fun f ob p=>I.pdi f ob (back f ob p),I.hn0,I.ul,fun f g ob ob' L L' p p'=>I.pd2 f g ob ob' L L' (back f ob p) (back g ob' p')⟩
 rw [hD',←I.eff q e he]
 constructor
 · rintro(g|g)
   ·exact g
   · subst g
     obtain⟨_,_,o',h1,h2⟩ := (iW l 0).1 q e he
     rw [Nat.sub_zero,ho]at h1;cases h1;exact absurd h2 hk
 ·exact .inl
theorem Inv.turn (T:Trace P call l nt R A)(I:Inv P l nt R A E0 h0 w0 D j E w tmps){i:Nat}{o:Oper}(ho:l[i]?=some o)(hi:¬D i)(hm:Met D o)(hk:dJ o.op= .eff) : (fO l 0)[j]?=some i:=by
 obtain⟨q,hq⟩ := (iW l 0).2.1 i o ho hk
 rw [Nat.zero_add]at hq
 have hqj:¬q<j:=fun g=>hi ((I.eff q i hq).2 g)
 rcases Nat.lt_or_ge j q with g|g
 · exfalso
   obtain⟨q',rfl⟩ :∃q',q=q'+1:= ⟨q-1,by omega⟩
   have hql:= (List.getElem?_eq_some_iff.1 hq).1
   have he: (fO l 0)[q']?=some ((fO l 0)[q']) :=List.getElem?_eq_getElem (by omega)
   have:=lJ I.closed I.lt (i+1) i (by omega) o ho hm _ (T.before he hq)
   have:= (I.eff _ _ he).1 this
   omega
 · have:q=j:=by omega
   rw [←this];exact hq
theorem Inv.waits (T:Trace P call l nt R A)(I:Inv P l nt R A E0 h0 w0 D j E w tmps){i:Nat}{o:Oper}(ho:l[i]?=some o)(hi:¬D i)(hm:Met D o)(hk:dJ o.op= .eff) :
  ∀x ob,(j,x,ob) ∈ (R i).pend→∃f,Pd P l R A D j f ob∧xQ l f=j∧x= (R f).next:=by
 intro x ob hx
 have hil:=sO ho
 obtain⟨f,o',h1,h2,h3,h4,h5,h6,h7⟩ :=T.pend_mem i (by omega) j x ob hx
 have hq:=I.turn T ho hi hm hk
 rw [h6]at hq
 exact⟨f,⟨lJ I.closed I.lt (i+1) i (by omega) o ho hm f (aLF hq),⟨o',h2,h3,h4,h5⟩,by omega⟩,h6.symm,h7⟩
theorem Inv.effect (T:Trace P call l nt R A)(I:Inv P l nt R A E0 h0 w0 D j E w tmps){i:Nat}{o:Oper}(ho:l[i]?=some o)(hi:¬D i)(hm:Met D o)(hk:dJ o.op= .eff)(hD':∀k,D' k↔ (D k∨k=i))
  {E':Emb} {w':World} {cv:Value} (hv:VR E' (A i) cv) (r':Rel E' (cP l R (j+1)) w'.heap) (x':Ext E (aV (cP l R j) j (R i).pend) w E' (cP l R (j+1)) w') :
  Inv P l nt R A E0 h0 w0 D' (j+1) E' w' (yS o.dst cv tmps) :=by
 obtain⟨p1,p2,p3⟩ :=I.publish T (I.waits T ho hi hm hk)
 have hq:=I.turn T ho hi hm hk
 have hql:= (List.getElem?_eq_some_iff.1 hq).1
 have back:∀f ob,Pd P l R A D' (j+1) f ob→Pd P l R A D j f ob:=fun f ob p=>by
  refine⟨?_,p.op,by have:=p.late;omega⟩
  rcases(hD' f).1 p.done with g|g
  ·exact g
  · subst g
    obtain⟨o',h1,h2,h3,h4⟩ :=p.op
    rw [ho]at h1;cases h1
    rw [hk]at h2;cases h2
 have nown:∀f ob L,Pd P l R A D' (j+1) f ob→E (R f).next=some L→∀b o L',(aV (cP l R j) j (R i).pend).look b=some o→E b=some L'→L'.blk≠L.blk:=fun f ob L p hE b o L' hb hE' hbl=>by
  have hb':=back f ob p
  rcases p3 b o hb with⟨g,hg,g1,rfl⟩ |hb1
  ·exact I.pd2 g f o ob L' L hg hb' (fun e=>by subst e;have:=p.late;omega) hE' hE hbl
  · obtain⟨L1,k1,_,_,k4⟩ :=I.pd f ob hb'
    rw [hE]at k1;cases k1
    exact k4 b o L' hb1 hE' hbl
 refine⟨vB I.closed ho hm hD',aHc I.lt ho hD',fun q e he=>?_,by omega,p2.trans x',?_,r',by rw [aBp];exact I.size,
  aHb T I.closed I.lt I.size ho hi hm hD' hv (fun t a hta=>by obtain⟨v,h1,h2⟩ :=I.tv t a hta;exact⟨v,h1,h2.mono x'.le⟩),fun f of hnd h1 h2=>?_,fun f ob p=>?_,fun f ob p L' hL'=>?_,I.hn0,fun b o hb hE=>?_,fun f g ob ob' L L' p p' hne hE hE'=>?_⟩
 · rw [hD',I.eff q e he]
   constructor
   · rintro(g|g)
     ·omega
     · subst g
       rcases Nat.lt_trichotomy q j with k|k|k
       ·omega
       ·omega
       ·have:= (aAz l hq he).1 k;omega
   · intro g
     rcases Nat.lt_or_ge q j with k|k
     ·exact .inl k
     · have:q=j:=by omega
       subst this
       rw [hq]at he;cases he;exact .inr rfl
 ·have:=x'.nb;rw [eD]at this;have:=I.nb;omega
 · have hid:=T.id_lt h1 h2
   rw [x'.low _ (by rw [eD];have:=I.nb;omega)]
   exact I.und f of (fun g=>hnd ((hD' f).2 (.inl g))) h1 h2
 · obtain⟨L,k1,k2,k3,k4⟩ :=I.pd f ob (back f ob p)
   have hno:=nown f ob L p k1
   refine⟨L,x'.le.1 _ _ k1,(k2.mono x'.le).heap (x'.keep _ k2.lt fun b o L' hb hE hbl=>hno b o L' hb hE hbl),k3,fun b o L' hb hE hbl=>?_⟩
   obtain⟨b1,o1,L1,g1,g2,g3⟩ :=x'.own b o L' hb hE (by rw [hbl];exact k2.lt)
   exact hno b1 o1 L1 g1 g2 (g3.trans hbl)
 · obtain⟨L,k1,k2,k3,k4⟩ :=I.pd f ob (back f ob p)
   have e3:=x'.le.1 _ _ k1
   rw [hL']at e3
   obtain rfl:L'=L:=Option.some.inj e3
   cases hi:E'.imm L'.blk with
   |none=>rfl
   | some C=>
    rcases x'.immo _ C hi k2.lt with g| ⟨b,o,L2,g1,g2,g3⟩
    ·rw [I.pdi f ob (back f ob p) L' k1]at g;cases g
    ·exact absurd g3 (nown f ob L' p k1 b o L2 g1 g2)
 · rcases Nat.lt_or_ge b (cP l R j).nb with g|g
   · obtain⟨o0,e0⟩ :=x'.keys b o hb (by rw [eD];exact g)
     rw [x'.low b (by rw [eD];exact g)]at hE
     rcases p3 b o0 e0 with⟨f,hf,_,rfl⟩ |e1
     · obtain⟨L,k1,_⟩ :=I.pd f o0 hf
       rw [k1]at hE;cases hE
     ·exact I.ul b o0 e1 hE
   ·have:=I.nb;exact .inr (by omega)
 · obtain⟨L1,k1,_⟩ :=I.pd f ob (back f ob p)
   obtain⟨L2,k2,_⟩ :=I.pd g ob' (back g ob' p')
   rw [x'.le.1 _ _ k1]at hE;cases hE
   rw [x'.le.1 _ _ k2]at hE';cases hE'
   exact I.pd2 f g ob ob' _ _ (back f ob p) (back g ob' p') hne k1 k2
theorem Inv.alloc (T:Trace P call l nt R A)(I:Inv P l nt R A E0 h0 w0 D j E w tmps){i:Nat}{o:Oper}(ho:l[i]?=some o)(hi:¬D i)(hm:Met D o)(hk:dJ o.op= .fresh)(hD':∀k,D' k↔ (D k∨k=i))(hn0:h0.nb= (R 0).next)
  {ob:Obj} (hz:noFrz ob=true) {n:Nat} {cv:Value} (hv:VR (E.put (R i).next ⟨w.heap.size,0,n⟩) (A i) cv) (hob:∀aob,qL P (R i).tm (R i).next o=some (A i,aob) →OR (E.put (R i).next ⟨w.heap.size,0,n⟩) (w.heap.push ob) ⟨w.heap.size,0,n⟩ aob) :
  Inv P l nt R A E0 h0 w0 D' j (E.put (R i).next ⟨w.heap.size,0,n⟩) {w with heap:=w.heap.push ob} (yS o.dst cv tmps) :=by
 have hid:=T.id_lt ho hk
 have hf:E (R i).next=none:=I.und i o hi ho hk
 have hle:E.le (E.put (R i).next ⟨w.heap.size,0,n⟩) :=Emb.le_put hf
 have hold:∀ {x},x<w.heap.size→ (w.heap.push ob)[x]?=w.heap[x]?:=fun hx=>by rw [Array.getElem?_push,if_neg (by omega)]
 have hno:∀b o',(cP l R j).look b=some o'→b≠ (R i).next:=fun b o' hb e=>by
  cases hE:E b with
  |some L=>rw [e,hf]at hE;cases hE
  | none=>
   have h1:=I.ul b o' hb hE
   have h2:=I.hn0
   omega
 have back:∀f aob,Pd P l R A D' j f aob→f≠i→Pd P l R A D j f aob:=fun f aob p hne=> ⟨((hD' f).1 p.done).resolve_right hne,p.op,p.late⟩
 have idne:∀f aob,Pd P l R A D' j f aob→f≠i→ (R f).next≠ (R i).next:=fun f aob p hne=>by
  obtain⟨o',h1,h2,_⟩ :=p.op
  exact T.id_ne h1 h2 ho hk hne
 refine⟨vB I.closed ho hm hD',aHc I.lt ho hD',fun q e he=>?_,I.jle,?_,I.nb,?_,by rw [aBp];exact I.size,
  aHb T I.closed I.lt I.size ho hi hm hD' hv (fun t a hta=>by obtain⟨v,h1,h2⟩ :=I.tv t a hta;exact⟨v,h1,h2.mono hle⟩),fun f of hnd h1 h2=>?_,fun f aob p=>?_,fun f aob p L' hL'=>?_,I.hn0,fun b o' hb hE=>I.ul b o' hb (by rw [Emb.put_ne _ _ (hno _ _ hb)]at hE;exact hE),fun f g aob aob' L L' p p' hne hE hE'=>?_⟩
 · rw [hD',←I.eff q e he]
   constructor
   · rintro(g|g)
     ·exact g
     · subst g
       obtain⟨_,_,o',h1,h2⟩ := (iW l 0).1 q e he
       rw [Nat.sub_zero,ho]at h1;cases h1;rw [hk]at h2;cases h2
   ·exact .inl
 · refine⟨I.ext.le.trans hle,by have:=I.ext.size;simp;omega,fun x hx hn=>?_,fun b' o' L' e k hlt=>?_,I.ext.nb,I.ext.os,I.ext.tape,I.ext.output,fun x hx=>?_,fun x hx=> (uJ w hz x).trans (I.ext.froz x hx),I.ext.immo,I.ext.keys⟩
   · have:=I.ext.size
     show(w.heap.push ob)[x]?=_
     rw [hold (by omega)];exact I.ext.keep x hx hn
   · rw [Emb.put_ne _ _ (hno _ _ e)]at k
     exact I.ext.own b' o' L' e k hlt
   ·rw [Emb.put_ne _ _ (by omega)];exact I.ext.low x hx
 · refine⟨fun b o' e=>?_,fun b b' o1 o2 L L' e e' k k'=>?_,fun b hb=>?_,fun k C e=>?_,fun b o' L e k=>?_,I.rel.keys⟩
   · rcases I.rel.obj0 b o' e with⟨u1,u2⟩ | ⟨L,g1,g2⟩
     ·exact .inl ⟨u1,by rw [Emb.put_ne _ _ (hno _ _ e)];exact u2⟩
     ·exact .inr ⟨L,hle.1 _ _ g1,(g2.mono hle).heap (hold g2.lt)⟩
   · rw [Emb.put_ne _ _ (hno _ _ e)]at k
     rw [Emb.put_ne _ _ (hno _ _ e')]at k'
     exact I.rel.kin b b' o1 o2 L L' e e' k k'
   · have:=I.nb
     rw [Emb.put_ne _ _ (by omega)];exact I.rel.fresh b hb
   · obtain⟨e1,f1,g⟩ :=I.rel.imm k C e
     exact⟨e1,f1,by rw [hold (Array.getElem?_eq_some_iff.1 g).1];exact g⟩
   · rw [Emb.put_ne _ _ (hno _ _ e)]at k
     exact I.rel.apart b o' L e k
 · have hne:f≠i:=fun e=>hnd ((hD' f).2 (.inr e))
   rw [Emb.put_ne _ _ (T.id_ne h1 h2 ho hk hne)]
   exact I.und f of (fun g=>hnd ((hD' f).2 (.inl g))) h1 h2
 · by_cases hfi:f=i
   · subst hfi
     obtain⟨o',g1,g2,g3,g4⟩ :=p.op
     rw [ho]at g1;cases g1
     refine⟨_,Emb.put_same _ _ _,hob aob g4,I.ext.size,fun b o' L' hb hE hbl=>?_⟩
     rw [Emb.put_ne _ _ (hno _ _ hb)]at hE
     have:=I.rel.lt hb hE
     simp only at hbl
     omega
   · obtain⟨L,k1,k2,k3,k4⟩ :=I.pd f aob (back f aob p hfi)
     refine⟨L,hle.1 _ _ k1,(k2.mono hle).heap (hold k2.lt),k3,fun b o' L' hb hE hbl=>?_⟩
     rw [Emb.put_ne _ _ (hno _ _ hb)]at hE
     exact k4 b o' L' hb hE hbl
 · show E.imm L'.blk=none
   by_cases hfi:f=i
   · subst hfi
     rw [Emb.put_same]at hL';cases hL'
     cases hi:E.imm w.heap.size with
     |none=>rfl
     |some C=>exact absurd (I.rel.immLt hi) (Nat.lt_irrefl _)
   · obtain⟨L,k1,k2,_⟩ :=I.pd f aob (back f aob p hfi)
     have e3:=hle.1 _ _ k1
     rw [hL']at e3
     obtain rfl:L'=L:=Option.some.inj e3
     exact I.pdi f aob (back f aob p hfi) L' k1
 · by_cases hfi:f=i
   · by_cases hgi:g=i
     ·exact absurd (hfi.trans hgi.symm) hne
     · subst hfi
       rw [Emb.put_same]at hE;cases hE
       obtain⟨L2,k1,k2,_⟩ :=I.pd g aob' (back g aob' p' hgi)
       rw [hle.1 _ _ k1]at hE';cases hE'
       have:=k2.lt
       simp only
       omega
   · obtain⟨L1,k1,k2,_⟩ :=I.pd f aob (back f aob p hfi)
     rw [hle.1 _ _ k1]at hE;cases hE
     by_cases hgi:g=i
     · subst hgi
       rw [Emb.put_same]at hE';cases hE'
       have:=k2.lt
       simp only
       omega
     · obtain⟨L2,g1,g2,_⟩ :=I.pd g aob' (back g aob' p' hgi)
       rw [hle.1 _ _ g1]at hE';cases hE'
       exact I.pd2 f g aob aob' _ _ (back f aob p hfi) (back g aob' p' hgi) hne k1 g1
end
end Go.Hb
namespace Go.Hb
variable {P :Program}
def eW (P:Program)(call:bZ) :Prop:=∀k c h v h',call k c h=some (v,h') →∃g,gC P h c=some g ∧
 ∀ (E:Emb) (w:World) (G:Frame),Rel E h w.heap→FR E g G→G.kind= .normal→∀cl base,∃cv w' E',Steps P (lone G (cl::base) w) (lone (cl.finish cv) base w') ∧VR E' v cv∧Rel E' h' w'.heap∧Ext E h w E' h' w'
theorem aHd {E:Emb}{h:Hp}{w:World}(r:Rel E h w.heap){tm:T AV}{ρ:Operand→Value}{o:Oper}(hρ:Reads E tm ρ (· ∈o.op.operands)){id:Nat}(hid:E id=none){a:AV}{ob0:AObj}(h0:qL P tm id o=some (a,ob0)) :
  ∃ob n cv,noFrz ob=true∧ (execOp ρ o).run P w= .ok (.value cv) {w with heap:=w.heap.push ob}∧VR (E.put id ⟨w.heap.size,0,n⟩) a cv∧OR (E.put id ⟨w.heap.size,0,n⟩) (w.heap.push ob) ⟨w.heap.size,0,n⟩ ob0:=by
 have hle:∀n,E.le (E.put id ⟨w.heap.size,0,n⟩) :=fun n=>Emb.le_put hid
 have hpush:∀ob,(w.heap.push ob)[w.heap.size]?=some ob:=fun ob=>by simp
 unfold qL at h0
 unfold execOp
 split at h0
 · rename_i e hop
   rw [hop]at hρ
   simp only [hop]
   split at h0
   · rename_i z hz
     cases h0
     obtain⟨cz,z1,z2⟩ :=iM hz
     have hc:= (z2 E).cells
     refine⟨.cells cz.cells e,cz.cells.size,.pointer (some ⟨w.heap.size,0,none⟩),rfl,by simp [Instr.alloc,z1,newVar,newRow],by simp only [VR];exact⟨_,Emb.put_same _ _ _,rfl⟩,?_⟩
     exact uM (C:=cz.cells) ⟨[],by simp⟩ (hc.mono (hle _)) (hpush _) _ (dX _) _ (Nat.le_refl _) _ _
   ·cases h0
 · rename_i t n ps hop
   rw [hop]at hρ
   simp only [hop]
   split at h0
   · rename_i l hl
     split at h0
     · rename_i cs s hcs
       cases h0
       obtain⟨g1,g2⟩ :=hρ.parts (fun p hp=>by simp only [Op.operands,List.mem_toArray,List.mem_map];exact⟨p,hp,rfl⟩) hl
       obtain⟨out,e,k1,k2,k3⟩ :=pZ (P:=P) r (qs:=ps.map fun(i,x) => (i,ρ x)) hcs (by rw [g1];simp) (by simpa [Function.comp_def]using g2)
       refine⟨.cells ⟨out⟩ e,out.length,.slice (some ⟨w.heap.size,0,none⟩) n n,rfl,by simp [k3 w],?_,?_⟩
       ·simp only [VR];exact⟨_,0,n,Emb.put_same _ _ _,rfl,Nat.le_refl _,Nat.le_refl _,fun _=>rfl,fun _=>rfl,by simpa using k2⟩
       ·exact uM (C:= ⟨out⟩) ⟨[],by simp⟩ (k1.mono (hle _)) (hpush _) _ (dX _) _ (Nat.le_refl _) _ _
     ·cases h0
   ·cases h0
 ·cases h0
section
variable {call :bZ} {ops:Array Oper} {nt:Nat} {R:Nat→RS} {A:Nat→AV} {E0:Emb} {h0:Hp} {w0:World} {fn:FuncId} {ds:List Deferred} {kd:CallKind} {ro:Option Nat} {k:List Item} {cs:List Frame}
theorem aIP (T:Trace P call ops.toList nt R A){D:Nat→Prop}[DecidablePred D]{j:Nat}{E:Emb}{w:World}{tmps:Array Value}(I:Inv P ops.toList nt R A E0 h0 w0 D j E w tmps){i:Nat}{o:Oper}(ho:ops.toList[i]?=some o)(hi:¬D i)(hm:Met D o)(todo:List Item) :
  Reads E (R i).tm (rf fn tmps todo ds kd ro).eval (· ∈o.op.operands) :=by
 intro x hx a ha
 cases x with
 | tmp t=>
  simp only [cF]at ha
  have hn:t∈nD ops.toList o:=by
   simp only [nD,List.mem_append,List.mem_filterMap]
   exact .inr (.inl ⟨.tmp t,by simpa using hx,rfl⟩)
  rw [←T.view_ready I.closed I.lt ho hi hm hn]at ha
  obtain⟨v,h1,h2⟩ :=I.tv t a ha
  simp only [Frame.eval,Array.getD_eq_getD_getElem?,h1]
  exact h2
 |const v=>exact aC8 ha E
 |global g=>cases ha
 |func f=>simp only [cF]at ha;cases ha;simp only [Frame.eval,VR];exact⟨[],[],rfl,VRs.nil E,VRs.nil E⟩
theorem jW (T:Trace P call ops.toList nt R A){D:Nat→Prop}[DecidablePred D]{j:Nat}{E:Emb}{w:World}{tmps:Array Value}(I:Inv P ops.toList nt R A E0 h0 w0 D j E w tmps){i:Nat}{o:Oper}(ho:ops.toList[i]?=some o)(hi:¬D i)(hm:Met D o){b:Bool}
  (hw:bY (R i).tm ops.toList o=some b) :Region.wanted o (yielded ops tmps) =b:=by
 refine uW (E:=E) (tm:= (R i).tm) (fun g want hg o' ho' t ht a ha=>?_) hw
 have hn:t∈nD ops.toList o:=by
  simp only [nD,List.mem_append]
  refine .inr (.inr ?_)
  rw [hg]
  simp only [Array.getElem?_toList,ho',ht]
  simp
 rw [←T.view_ready I.closed I.lt ho hi hm hn]at ha
 exact I.tv t a ha
theorem nO {tmps:Array Value}{i:Nat}{is:List Nat}{o:Oper}(ho:ops[i]?=some o)(v:Value) :
  (rf fn tmps (.inRegion ops (i::is) ::k) ds kd ro).finish v=rf fn (yS o.dst v tmps) (.inRegion ops is::k) ds kd ro:=by
 rw [aFg,ho];rfl
theorem aOD (hc:eW P call)(T:Trace P call ops.toList nt R A)(hn0:h0.nb= (R 0).next){D D':Nat→Prop}[DecidablePred D][DecidablePred D']{j:Nat}{E:Emb}{w:World}{tmps:Array Value}(I:Inv P ops.toList nt R A E0 h0 w0 D j E w tmps){i:Nat}{o:Oper}(ho:ops.toList[i]?=some o)(hi:¬D i)(hm:Met D o)(hD':∀k,D' k↔ (D k∨k=i))(is:List Nat) :
  ∃j' E' w' tmps',Steps P (lone (rf fn tmps (.inRegion ops (i::is) ::k) ds kd ro) cs w) (lone (rf fn tmps' (.inRegion ops is::k) ds kd ro) cs w') ∧Inv P ops.toList nt R A E0 h0 w0 D' j' E' w' tmps':=by
 have hoa:ops[i]?=some o:=by rw [←Array.getElem?_toList];exact ho
 have hil:=sO ho
 have hρ:=aIP (fn:=fn) (ds:=ds) (kd:=kd) (ro:=ro) T I ho hi hm (.inRegion ops (i::is) ::k)
 obtain⟨_,c⟩ :=T.step i o ho
 have unw:bY (R i).tm ops.toList o=some false→step P (lone (rf fn tmps (.inRegion ops (i::is) ::k) ds kd ro) cs w) = .next (lone (rf fn (yS o.dst Go.undef tmps) (.inRegion ops is::k) ds kd ro) cs w) :=fun hw=>by
  rw [xY hoa (jW T I ho hi hm hw),nO hoa]
 have value:∀ {hx:Hp} {h2:Hp} {a:AV} {w':World} {cv:Value},bY (R i).tm ops.toList o=some true→lD P hx (R i).tm o=some (.val a h2) →
   ((execOp (rf fn tmps (.inRegion ops (i::is) ::k) ds kd ro).eval o).run P w= .ok (.value cv) w'∨ ((execOp (rf fn tmps (.inRegion ops (i::is) ::k) ds kd ro).eval o).run P w= .ok .skip w'∧cv=Go.undef)) →
   step P (lone (rf fn tmps (.inRegion ops (i::is) ::k) ds kd ro) cs w) = .next (lone (rf fn (yS o.dst cv tmps) (.inRegion ops is::k) ds kd ro) cs w') :=fun hw h0 hr=>by
  have hd:=aFG h0
  rcases hr with hr| ⟨hr,rfl⟩
  ·rw [sK hoa (jW T I ho hi hm hw) (.inr hd) hr,nO hoa]
  ·rw [aDk hoa (jW T I ho hi hm hw) (.inr hd) hr,nO hoa]
 have effStage:dJ o.op= .eff→ (R i).h=cP ops.toList R j∧ (R (i+1)).h=cP ops.toList R (j+1) :=fun hk=>by
  have hq:=I.turn T ho hi hm hk
  obtain⟨s1,s2⟩ :=T.sEff hq
  have e1:=T.stage (i:=i) (by omega)
  have e2:=T.stage (i:=i+1) (by omega)
  rw [s1]at e1;rw [s2]at e2
  exact⟨e1.symm,e2.symm⟩
 have effS:dJ o.op= .eff→ (R i).s=j:=fun hk=> (T.sEff (I.turn T ho hi hm hk)).1
 cases c with
 | unwE hw ha hk e=>
  have hk':dJ o.op= .eff:=hk
  obtain⟨e1,e2⟩ :=effStage hk'
  obtain⟨p1,p2,p3⟩ :=I.publish T (I.waits T ho hi hm hk')
  have e3:cP ops.toList R (j+1) =aV (cP ops.toList R j) j (R i).pend:=by
   rw [←e2,e,←e1,←effS hk']
  refine⟨j+1,E,w,_,.one (unw hw),I.effect T ho hi hm hk' hD' (by rw [ha];exact rH E) (by rw [e3];exact p1) ?_⟩
  rw [e3];exact Ext.refl _ _ _
 | unwF hw ha hk e=>
  have hk':dJ o.op= .fresh:=hk
  exact⟨j,E,w,_,.one (unw hw),I.quiet T ho hi hm (by rw [hk'];decide) hD' (fun _=>hw) (by rw [ha];exact rH E)⟩
 | unwQ hw ha hk e=>
  have hk':dJ o.op= .pure∨dJ o.op= .read:=hk
  exact⟨j,E,w,_,.one (unw hw),I.quiet T ho hi hm (by rcases hk' with hk'|hk'<;>rw [hk'] <;>decide) hD' (fun hf=>by rcases hk' with hk'|hk'<;>rw [hk']at hf<;>cases hf) (by rw [ha];exact rH E)⟩
 | pure hx hw hk hv e=>
  have hk':dJ o.op= .pure:=hk
  have hv':=aQJ (o:=o) hk' hv (cP ops.toList R j)
  obtain⟨_,cv,g1,g2⟩ := (yQ I.rel hρ hv').2 (.inl hk')
  exact⟨j,E,w,_,.one (value hw hv' (.inl g1)),I.quiet T ho hi hm (by rw [hk'];decide) hD' (fun hf=>by rw [hk']at hf;cases hf) g2⟩
 | read hx hw hk hv e=>
  have hk':dJ o.op= .read:=hk
  obtain⟨b1,b2⟩ :=T.window I.closed I.lt I.eff I.jle ho hi hm
  obtain⟨c1,c2⟩ :=T.cnt i (by omega)
  obtain⟨a1,a2⟩ :=T.window (D:= (· <i)) (T.nat_closed i) (fun x hx=>by omega) (fun q e he=> (c2 q e he).symm) c1 ho (by omega) (T.idOk i o ho)
  have hv':∃hx,lD P (cP ops.toList R j) (R i).tm o=some (.val (A i) hx) :=by
   by_cases hlh:aWu ops.toList i=xQ ops.toList i
   · have: (R i).s=j:=by omega
     exact⟨hx,by rw [←this,T.stage (by omega)];exact hv⟩
   · have hmem: (⟨o,(R i).tm,aWu ops.toList i,xQ ops.toList i,A i⟩ :Again) ∈ (R (i+1)).again:=by
      rw [e]
      simp only
      rw [bW]
      have:decide ((sL ops.toList i o).lo= (sL ops.toList i o).hi) =false:=by
       rw [decide_eq_false_iff_not];exact hlh
      rw [this]
      exact List.mem_cons_self ..
     have hmem':=T.again_mem (ops.toList.length- (i+1)) (i+1) (by omega) _ hmem
     rw [show i+1+ (ops.toList.length- (i+1)) =ops.toList.length by omega]at hmem'
     have hj:=I.jle
     have hse:=T.sEnd
     exact T.again _ hmem' ((R ops.toList.length).s-j) _ (T.stage_get (k:=j) (by omega)) (by omega) (by simp only;omega) (by simp only;omega)
  obtain⟨hx',hv'⟩ :=hv'
  obtain⟨_,cv,g1,g2⟩ := (yQ I.rel hρ hv').2 (.inr hk')
  exact⟨j,E,w,_,.one (value hw hv' (.inl g1)),I.quiet T ho hi hm (by rw [hk'];decide) hD' (fun hf=>by rw [hk']at hf;cases hf) g2⟩
 | fresh aob hw hk hv e=>
  have hk':dJ o.op= .fresh:=hk
  obtain⟨ob,n,cv,hz,g1,g2,g3⟩ :=aHd I.rel hρ (I.und i o hi ho hk') hv
  refine⟨j,_,_,_,.one ?_,I.alloc T ho hi hm hk' hD' hn0 hz g2 (fun aob' h'=>by
   have hv2:qL P (R i).tm (R i).next o=some (A i,aob) :=hv
   rw [hv2]at h';cases h';exact g3)⟩
  have hd:∀c,o.op≠ .defer c:=fun c hc'=>by rw [hc']at hk';cases hk'
  rw [sK hoa (jW T I ho hi hm hw) (.inr hd) g1,nO hoa]
 | eff h2 hw hk hv e=>
  have hk':dJ o.op= .eff:=hk
  obtain⟨e1,e2⟩ :=effStage hk'
  obtain⟨p1,p2,p3⟩ :=I.publish T (I.waits T ho hi hm hk')
  have e3:cP ops.toList R (j+1) =h2:=by rw [←e2,e]
  rw [effS hk',e1]at hv
  rcases hv with hv| ⟨c,hv,hcv⟩
  · obtain⟨E',w',cv,g1,g2,g3,g4⟩ :=lH p1 hρ hv
    refine⟨j+1,E',w',_,.one (value hw hv g1),I.effect T ho hi hm hk' hD' g2 (by rw [e3];exact g3) ?_⟩
    rw [e3];exact g4
  · obtain⟨g,hg,hcall⟩ :=hc _ c _ _ _ hcv
    have hout:=lH p1 hρ hv
    obtain⟨nx,G,g1,g2,g3⟩ :=qR p1 hg hout
    have hd:=yV hv
    have hkG:G.kind= .normal:=by
     rcases g2 with⟨f,args,_,rfl⟩ | ⟨l,f,t,aS,bd,_,rfl⟩ <;>rfl
    obtain⟨cv,w',E',s1,s2,s3,s4⟩ :=hcall E w G p1 g3 hkG (rf fn tmps (.inRegion ops (i::is) ::k) ds kd ro) cs
    refine⟨j+1,E',w',_,?_,I.effect T ho hi hm hk' hD' s2 (by rw [e3];exact s3) (by rw [e3];exact s4)⟩
    rw [nO hoa]at s1
    rcases g2 with⟨f,args,rfl,rfl⟩ | ⟨l,f,t,aS,bd,rfl,rfl⟩
    ·exact .head (yR hoa (jW T I ho hi hm hw) (.inr hd) g1) s1
    ·exact .head (aDl hoa (jW T I ho hi hm hw) (.inr hd) g1) s1
theorem aLG (hc:eW P call)(T:Trace P call ops.toList nt R A)(hn0:h0.nb= (R 0).next){is:List Nat}{D:Nat→Bool}(hl:Legal ops.toList D is) :∀ {j:Nat} {E:Emb} {w:World} {tmps:Array Value},Inv P ops.toList nt R A E0 h0 w0 (fun k=>D k=true) j E w tmps →
  ∃ (D':Nat→Bool) (j':Nat) (E':Emb) (w':World) (tmps':Array Value),Steps P (lone (rf fn tmps (.inRegion ops is::k) ds kd ro) cs w) (lone (rf fn tmps' (.inRegion ops [] ::k) ds kd ro) cs w') ∧Inv P ops.toList nt R A E0 h0 w0 (fun k=>D' k=true) j' E' w' tmps'∧∀i,i<ops.toList.length→D' i=true:=by
 induction hl with
 | @nil D h=>intro j E w tmps I;exact⟨D,j,E,w,tmps,Steps.refl _ _,I,h⟩
 | @cons D i is o h1 h2 h3 h4 ih=>
  intro j E w tmps I
  obtain⟨j',E',w',tmps',s1,I'⟩ :=aOD (D':=fun k=> (D k||k==i) =true) (fn:=fn) (ds:=ds) (kd:=kd) (ro:=ro) (k:=k) (cs:=cs) hc T hn0 I h1 (by simp [h2]) h3 (fun k=>by simp) is
  obtain⟨D2,j2,E2,w2,tmps2,s2,I2,hall⟩ :=ih I'
  exact⟨D2,j2,E2,w2,tmps2,s1.trans s2,I2,hall⟩
end
end Go.Hb
