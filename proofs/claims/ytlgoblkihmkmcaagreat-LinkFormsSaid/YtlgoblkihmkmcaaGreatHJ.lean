/- A machine on abstract values, its soundness, ways, plain laws. -/
import Derived.Test.YtlgoblkihmkmcaaGreatHF
import Derived.Test.YtlgoblkihmkmcaaGreatHG
import Derived.Test.YtlgoblkihmkmcaaGreatHH
import Derived.Test.YtlgoblkihmkmcaaGreatHI
set_option linter.defProp false
set_option linter.unusedVariables false
set_option linter.unusedSimpArgs false
set_option linter.unusedSectionVars false
set_option maxRecDepth 100000
set_option maxHeartbeats 8000000
namespace Go.Hb
open AV (keyless keylessL)
open Bool (and_eq_true)
open List (all_cons all_map count_append flatten_cons getElem?_cons_succ getElem?_eq_getElem length length_cons map map_cons mem_cons_of_mem mem_cons_self mem_of_getElem?)
open Terms (av)
open Go.Proofs Tryz
noncomputable section
def dW (so n:Int)(s:aA)(k:Int)(ho:Bool) :Bool:=
 if so=1∨so=2∨so=3 then decide (k=0) &&decide (n=0) &&decide (s= [])
 else if so=4 then decide (k=2) &&decide (n=0) &&decide (s= [])
 else if so=5∨so=6∨so=7 then decide (k=1) &&decide (n=0) &&decide (s= [])
 else if so=8 then decide (k=0) &&decide (n=0) &&cP s
 else if so=9 then ho&&decide (k=0) &&decide (s= []) &&bG n 0 99
 else false
mutual
def aDn (ho:Bool) :Typ→Bool
 | .mk o n s ps=>dW o n s (length ps) ho&&aGK ho ps
def aGK (ho:Bool) :List Typ→Bool
 | [] =>true
 |t::ts=>aDn ho t&&aGK ho ts
end
mutual
def cK :Typ→Nat
 | .mk _ _ _ ps=>cV ps+1
def cV :List Typ→Nat
 | [] =>0
 |t::ts=>cK t+cV ts
end
theorem rN :∀ts:List Typ,ts.length≤cV ts
 | [] =>by simp
 | .mk o n s ps::ts=>by have:=rN ts;simp only [cV,cK,length_cons];omega
theorem aIF :∀t:Typ,1≤cK t
 | .mk _ _ _ ps=>by simp only [cK];omega
def mX (t:Typ)(left:Int) :Int:=if(cK t:Int) ≤left then left-cK t else -1
def oQ (ts:List Typ)(left:Int) :Int:=if left<0 then left else if(cV ts:Int) ≤left then left-cV ts else -1
theorem aKj (t:Typ)(ts:List Typ){left:Int}(h0:0≤left) :oQ (t::ts) left=oQ ts (mX t left) :=by
 have hp:=aIF t;unfold oQ mX;rw [cV];by_cases h1: (cK t:Int) ≤left
 · rw [if_pos h1,if_neg (show ¬left<0 by omega),if_neg (show ¬left- (cK t:Int) <0 by omega)];by_cases h2: (cV ts:Int) ≤left-cK t
   · rw [if_pos h2,if_pos (by omega)];omega
   ·rw [if_neg h2,if_neg (by omega)]
 ·rw [if_neg h1,if_pos (show(-1:Int) <0 by omega),if_neg (show ¬left<0 by omega),if_neg (by omega)]
theorem aMJ (o n:Int)(s:aA)(ps:List Typ)(l0:Int)(ih:∀t∈ps,∀left:Int,0≤left→left≤1000→Pure PP 110 [Typ.av t,.int .i64 left] (.int .i64 (mX t left))) :
  ∀ (ts:List Typ) (i:Nat) (left:Int),ps.drop i=ts→ -1≤left→ (i:Int) +left≤1000→Ends PP 0 (aKh o n s ps l0 left (i:Int)).as (.ret (.int .i64 (oQ ts left))) (aG [] 0)
 | [],i,left,h,h1,h2=>by
  have:=aZ h;have e:oQ [] left=left:=by
   unfold oQ;by_cases hn:left<0
   ·rw [if_pos hn]
   · rw [if_neg hn,if_pos (by simp only [cV];omega)];simp only [cV];omega
  rw [e];exact aTM o n s ps l0 left i|>.f sd tv
 | .mk o' n' s' ps'::ts,i,left,h,h1,h2=>by
  obtain⟨g1,g2,g3⟩ :=aY h;by_cases h0:0≤left
  · have hp:=aIF (.mk o' n' s' ps');rw [aKj _ _ h0];refine(aTM o n s ps l0 left i|>.t sd|>.t (by simp;omega) o' n' s' ps' sd sd (mX (.mk o' n' s' ps') left) (ih _ (mem_of_getElem? g1) left h0 (by omega)) sd tv).ends ?_;exact aMJ o n s ps l0 ih ts (i+1) _ g2 (by unfold mX;split<;>omega) (by unfold mX;split<;>omega)
  · have e:∀us,oQ us left=left:=fun us=>by unfold oQ;rw [if_pos (by omega)]
    rw [e];exact aTM o n s ps l0 left i|>.t sd|>.f (by simp;omega) tv
mutual
theorem aGL :∀ (t:Typ) (left:Int),-1≤left→left≤1000→Pure PP 110 [Typ.av t,.int .i64 left] (.int .i64 (mX t left))
 | .mk o n s ps,left,h1,h2=>by
  have e1:cK (.mk o n s ps) =cV ps+1:=by rw [cK]
  refine aP (by kernel_rfl) (by simp [keylessL,aAg,keyless]) rfl ?_;by_cases ha:left<1
  · have e:mX (.mk o n s ps) left= -1:=by unfold mX;rw [if_neg (by omega)]
    rw [e];exact aYl o n s ps left|>.t (by simp [ha]) tv
  · have e:mX (.mk o n s ps) left=oQ ps (left-1) :=by
     unfold mX oQ;rw [if_neg (show ¬left-1<0 by omega)];by_cases hc: (cV ps:Int) ≤left-1
     ·rw [if_pos hc,if_pos (by omega)];omega
     ·rw [if_neg hc,if_neg (by omega)]
    rw [e];refine(aYl o n s ps left|>.f (by simp;omega) sd tv).ends ?_;exact aMJ o n s ps left (fun t ht l a b=>aP6 ps t ht l (by omega) b) ps 0 (left-1) rfl (by omega) (by omega)
theorem aP6 :∀ (ts:List Typ),∀t∈ts,∀left:Int,-1≤left→left≤1000→Pure PP 110 [Typ.av t,.int .i64 left] (.int .i64 (mX t left))
 | [],t,ht=>by cases ht
 | u::ts,t,ht=>by
  rcases List.mem_cons.1 ht with e|ht
  ·rw [e];exact fun left a b=>aGL u left a b
  ·exact aP6 ts t ht
end
theorem bAP (t9 q9:Int)(t0:aA)(q8:List Typ)(ho:Bool)(hl:q8.length<1000000)(b:Bool)(hk:∀i:Bool,i=dW t9 q9 t0 (length q8) ho→Ends PP 0 (dP t9 q9 t0 q8 ho i 0).as (.ret (.bool b)) (aG [] 0)) :
  Ends PP 0 (start PP 117 [Typ.av (.mk t9 q9 t0 q8),.bool ho]).as (.ret (.bool b)) (aG [] 0) :=by
 have T0:=aMI t9 q9 t0 q8 ho;cases hb1: (t9== (1:Int))
 case true=>
  replace T0:=T0.t hb1;cases hb2: (((length q8:Nat) :Int) == (0:Int))
  case true=>
   cases hb3: (q9== (0:Int))
   case true=>exact LeadsM.ends (T0|>.t hb2|>.t hb3 tv) (hk _ (by clear hk;simp_all [dW,aB,aE]))
   exact LeadsM.ends (T0|>.t hb2|>.f hb3 tv) (hk _ (by clear hk;simp_all [dW,aB,aE]))
  exact LeadsM.ends (T0|>.f hb2 tv) (hk _ (by clear hk;simp_all [dW,aB,aE]))
 replace T0:=T0.f hb1;cases hb4: (t9== (2:Int))
 case true=>
  replace T0:=T0.t hb4;cases hb5: (((length q8:Nat) :Int) == (0:Int))
  case true=>
   cases hb6: (q9== (0:Int))
   case true=>exact LeadsM.ends (T0|>.t hb5|>.t hb6 tv) (hk _ (by clear hk;simp_all [dW,aB,aE]))
   exact LeadsM.ends (T0|>.t hb5|>.f hb6 tv) (hk _ (by clear hk;simp_all [dW,aB,aE]))
  exact LeadsM.ends (T0|>.f hb5 tv) (hk _ (by clear hk;simp_all [dW,aB,aE]))
 replace T0:=T0.f hb4;cases hb7: (t9== (3:Int))
 case true=>
  replace T0:=T0.t hb7;cases hb8: (((length q8:Nat) :Int) == (0:Int))
  case true=>
   cases hb9: (q9== (0:Int))
   case true=>exact LeadsM.ends (T0|>.t hb8|>.t hb9 tv) (hk _ (by clear hk;simp_all [dW,aB,aE]))
   exact LeadsM.ends (T0|>.t hb8|>.f hb9 tv) (hk _ (by clear hk;simp_all [dW,aB,aE]))
  exact LeadsM.ends (T0|>.f hb8 tv) (hk _ (by clear hk;simp_all [dW,aB,aE]))
 replace T0:=T0.f hb7;cases hb10: (t9== (4:Int))
 case true=>
  replace T0:=T0.t hb10;cases hb11: (((length q8:Nat) :Int) == (2:Int))
  case true=>
   cases hb12: (q9== (0:Int))
   case true=>exact LeadsM.ends (T0|>.t hb11|>.t hb12 tv) (hk _ (by clear hk;simp_all [dW,aB,aE]))
   exact LeadsM.ends (T0|>.t hb11|>.f hb12 tv) (hk _ (by clear hk;simp_all [dW,aB,aE]))
  exact LeadsM.ends (T0|>.f hb11 tv) (hk _ (by clear hk;simp_all [dW,aB,aE]))
 replace T0:=T0.f hb10;cases hb13: (t9== (5:Int))
 case true=>
  replace T0:=T0.t hb13;cases hb14: (((length q8:Nat) :Int) == (1:Int))
  case true=>
   cases hb15: (q9== (0:Int))
   case true=>exact LeadsM.ends (T0|>.t hb14|>.t hb15 tv) (hk _ (by clear hk;simp_all [dW,aB,aE]))
   exact LeadsM.ends (T0|>.t hb14|>.f hb15 tv) (hk _ (by clear hk;simp_all [dW,aB,aE]))
  exact LeadsM.ends (T0|>.f hb14 tv) (hk _ (by clear hk;simp_all [dW,aB,aE]))
 replace T0:=T0.f hb13;cases hb16: (t9== (6:Int))
 case true=>
  replace T0:=T0.t hb16;cases hb17: (((length q8:Nat) :Int) == (1:Int))
  case true=>
   cases hb18: (q9== (0:Int))
   case true=>exact LeadsM.ends (T0|>.t hb17|>.t hb18 tv) (hk _ (by clear hk;simp_all [dW,aB,aE]))
   exact LeadsM.ends (T0|>.t hb17|>.f hb18 tv) (hk _ (by clear hk;simp_all [dW,aB,aE]))
  exact LeadsM.ends (T0|>.f hb17 tv) (hk _ (by clear hk;simp_all [dW,aB,aE]))
 replace T0:=T0.f hb16;cases hb19: (t9== (7:Int))
 case true=>
  replace T0:=T0.t hb19;cases hb20: (((length q8:Nat) :Int) == (1:Int))
  case true=>
   cases hb21: (q9== (0:Int))
   case true=>exact LeadsM.ends (T0|>.t hb20|>.t hb21 tv) (hk _ (by clear hk;simp_all [dW,aB,aE]))
   exact LeadsM.ends (T0|>.t hb20|>.f hb21 tv) (hk _ (by clear hk;simp_all [dW,aB,aE]))
  exact LeadsM.ends (T0|>.f hb20 tv) (hk _ (by clear hk;simp_all [dW,aB,aE]))
 replace T0:=T0.f hb19;cases hb22: (t9== (8:Int))
 case true=>
  replace T0:=T0.t hb22;cases hb23: (((length q8:Nat) :Int) == (0:Int))
  case true=>
   cases hb24: (q9== (0:Int))
   case true=>exact LeadsM.ends (T0|>.t hb23|>.t hb24 (cP t0) (mB t0) tv) (hk _ (by clear hk;simp_all [dW,aB,aE]))
   exact LeadsM.ends (T0|>.t hb23|>.f hb24 tv) (hk _ (by clear hk;simp_all [dW,aB,aE]))
  exact LeadsM.ends (T0|>.f hb23 tv) (hk _ (by clear hk;simp_all [dW,aB,aE]))
 cases hb25: (t9== (9:Int))
 case true=>
  cases ho
  case true=>
   cases hb26: (((length q8:Nat) :Int) == (0:Int))
   case true=>
    cases hb27: (bB (length t0) (aC t0) 0 0)
    case true=>exact LeadsM.ends (aMI t9 q9 t0 q8 true|>.f hb1|>.f hb4|>.f hb7|>.f hb10|>.f hb13|>.f hb16|>.f hb19|>.f hb22|>.t hb25|>.t rfl|>.t hb26|>.t hb27 (bG q9 0 99) (iW q9 0 99) tv) (hk _ (by clear hk;simp_all [dW,aB,aE]))
    exact LeadsM.ends (aMI t9 q9 t0 q8 true|>.f hb1|>.f hb4|>.f hb7|>.f hb10|>.f hb13|>.f hb16|>.f hb19|>.f hb22|>.t hb25|>.t rfl|>.t hb26|>.f hb27 tv) (hk _ (by clear hk;simp_all [dW,aB,aE]))
   exact LeadsM.ends (aMI t9 q9 t0 q8 true|>.f hb1|>.f hb4|>.f hb7|>.f hb10|>.f hb13|>.f hb16|>.f hb19|>.f hb22|>.t hb25|>.t rfl|>.f hb26 tv) (hk _ (by clear hk;simp_all [dW,aB,aE]))
  exact LeadsM.ends (aMI t9 q9 t0 q8 false|>.f hb1|>.f hb4|>.f hb7|>.f hb10|>.f hb13|>.f hb16|>.f hb19|>.f hb22|>.t hb25|>.f rfl tv) (hk _ (by clear hk;simp_all [dW,aB,aE]))
 exact LeadsM.ends (T0|>.f hb22|>.f hb25 tv) (hk _ (by clear hk;simp_all [dW,aB,aE]))
theorem aMK (o n:Int)(s:aA)(ps:List Typ)(ho:Bool)(hl:ps.length<1000000)(ih:∀t∈ps,Pure PP 117 [Typ.av t,.bool ho] (.bool (aDn ho t))) :
  ∀ (ts:List Typ) (i:Nat) (b:Bool),ps.drop i=ts→Ends PP 0 (dP o n s ps ho b (i:Int)).as (.ret (.bool (b&&aGK ho ts))) (aG [] 0)
 | [],i,b,h=>by
  have:=aZ h;exact Ends.eqv (aTN o n s ps ho b i|>.f sd tv) (by simp [aGK])
 | .mk o' n' s' ps'::ts,i,b,h=>by
  obtain⟨g1,g2,g3⟩ :=aY h;cases b
  case false=>exact Ends.eqv (aTN o n s ps ho false i|>.t sd|>.f rfl tv) (by simp)
  refine(aTN o n s ps ho true i|>.t sd|>.t rfl o' n' s' ps' sd sd (aDn ho (.mk o' n' s' ps')) (ih _ (mem_of_getElem? g1)) sd tv).ends ?_;exact Ends.eqv (aMK o n s ps ho hl ih ts (i+1) _ g2) (by simp [aGK])
mutual
theorem aML (ho:Bool) :∀ (t:Typ),cK t<1000000→Pure PP 117 [Typ.av t,.bool ho] (.bool (aDn ho t))
 | .mk o n s ps,hf=>by
  refine aP (by kernel_rfl) (by simp [keylessL,aAg,keyless]) rfl ?_;simp only [cK]at hf;have:=rN ps;refine bAP o n s ps ho (by omega) _ (fun i hi=>?_);rw [hi,aDn];exact aMK o n s ps ho (by omega) (aP7 ho ps (by omega)) ps 0 _ rfl
theorem aP7 (ho:Bool) :∀ (ts:List Typ),cV ts<1000000→∀t∈ts,Pure PP 117 [Typ.av t,.bool ho] (.bool (aDn ho t))
 | [],_,t,ht=>by cases ht
 | u::ts,hf,t,ht=>by
  simp only [cV]at hf;rcases List.mem_cons.1 ht with e|ht
  ·rw [e];exact aML ho u (by omega)
  ·exact aP7 ho ts (by omega) t ht
end
def aAt (t:Typ) :Bool:=decide (cK t≤12) &&aDn false t
theorem aGM (t:Typ) :Pure PP 42 [Typ.av t] (.bool (aAt t)) :=by
 have hw:=aGL t 12 (by omega) (by omega);unfold aAt;unfold mX at hw;obtain⟨o,n,s,ps⟩ :=t;refine aP (by kernel_rfl) (by simp [keylessL,aAg]) rfl ?_;by_cases h:cK (.mk o n s ps) ≤12
 · rw [if_pos (by omega)]at hw;exact Ends.eqv (aYm o n s ps _ hw|>.t (by simp;omega) _ (aML false (.mk o n s ps) (by omega)) tv) (by simp [h])
 · rw [if_neg (by omega)]at hw;exact Ends.eqv (aYm o n s ps _ hw|>.f (by simp) tv) (by simp [h])
mutual
def aCk :Typ→Bool
 | .mk _ _ s ps=>aDo ps&&decide (((length s:Nat) :Int) ≤30)
def aDo :List Typ→Bool
 | [] =>true
 |t::ts=>aCk t&&aDo ts
end
theorem aMM (o n:Int)(s:aA)(ps:List Typ)(hl:ps.length<1000000)(ih:∀t∈ps,Pure PP 111 [Typ.av t] (.bool (aCk t))) :
  ∀ (ts:List Typ) (i:Nat),ps.drop i=ts→Ends PP 0 (aKi o n s ps (i:Int)).as (.ret (.bool (aDo ts&&decide (((length s:Nat) :Int) ≤30)))) (aG [] 0)
 | [],i,h=>by
  have:=aZ h;exact Ends.eqv (aTO o n s ps i|>.f sd tv) (by simp [aDo])
 | .mk o' n' s' ps'::ts,i,h=>by
  obtain⟨g1,g2,g3⟩ :=aY h;have hp:=ih _ (mem_of_getElem? g1);rw [aDo];cases hb:aCk (.mk o' n' s' ps')
  case true=>
   rw [hb]at hp;exact(aTO o n s ps i|>.t sd o' n' s' ps' sd sd true hp|>.f rfl sd tv).ends (Ends.eqv (aMM o n s ps hl ih ts (i+1) g2) (by simp))
  rw [hb]at hp;exact Ends.eqv (aTO o n s ps i|>.t sd o' n' s' ps' sd sd false hp|>.t rfl tv) (by simp)
mutual
theorem aMN :∀ (t:Typ),cK t<1000000→Pure PP 111 [Typ.av t] (.bool (aCk t))
 | .mk o n s ps,hf=>by
  refine aP (by kernel_rfl) (by simp [keylessL,aAg]) rfl ?_;simp only [cK]at hf;have:=rN ps;rw [aCk];exact(aWO o n s ps).ends (aMM o n s ps (by omega) (aP8 ps (by omega)) ps 0 rfl)
theorem aP8 :∀ (ts:List Typ),cV ts<1000000→∀t∈ts,Pure PP 111 [Typ.av t] (.bool (aCk t))
 | [],_,t,ht=>by cases ht
 | u::ts,hf,t,ht=>by
  simp only [cV]at hf;rcases List.mem_cons.1 ht with e|ht
  ·rw [e];exact aMN u (by omega)
  ·exact aP8 ts (by omega) t ht
end
def rO (t:Typ) :Bool:=decide (cK t≤16) &&aCk t
def pY (so:Int) :Int:=if so=4 then 2 else if so=5∨so=6∨so=7 then 1 else 0
def eY (so n:Int)(s:aA)(ho:Bool) :Bool:=
 if so=1∨so=2∨so=3∨so=4∨so=5∨so=6∨so=7 then true else if so=8 then cP s else if so=9 then ho&&bG n 0 99 else false
def fY (pv so n:Int)(s:aA)(k:Int) :Bool:=decide (k=pv) && (decide (so=9) ||decide (n=0)) && (decide (so=8) ||decide (s= []))
theorem aRK (so n:Int)(s:aA)(k:Int)(ho:Bool) :dW so n s k ho= (eY so n s ho&&fY (pY so) so n s k) :=by
 by_cases h1:so=1
 · subst h1;simp [dW,eY,fY,pY,Bool.and_assoc,Bool.and_comm,Bool.and_left_comm]
 by_cases h2:so=2
 · subst h2;simp [dW,eY,fY,pY,Bool.and_assoc,Bool.and_comm,Bool.and_left_comm]
 by_cases h3:so=3
 · subst h3;simp [dW,eY,fY,pY,Bool.and_assoc,Bool.and_comm,Bool.and_left_comm]
 by_cases h4:so=4
 · subst h4;simp [dW,eY,fY,pY,Bool.and_assoc,Bool.and_comm,Bool.and_left_comm]
 by_cases h5:so=5
 · subst h5;simp [dW,eY,fY,pY,Bool.and_assoc,Bool.and_comm,Bool.and_left_comm]
 by_cases h6:so=6
 · subst h6;simp [dW,eY,fY,pY,Bool.and_assoc,Bool.and_comm,Bool.and_left_comm]
 by_cases h7:so=7
 · subst h7;simp [dW,eY,fY,pY,Bool.and_assoc,Bool.and_comm,Bool.and_left_comm]
 by_cases h8:so=8
 · subst h8;simp [dW,eY,fY,pY,Bool.and_assoc,Bool.and_comm,Bool.and_left_comm]
 by_cases h9:so=9
 · subst h9;simp [dW,eY,fY,pY,Bool.and_assoc,Bool.and_comm,Bool.and_left_comm]
 simp [dW,eY,h1,h2,h3,h4,h5,h6,h7,h8,h9]
theorem aZO (t9 q9:Int)(t0:aA)(q8:List Typ)(ho:Bool)(b:Bool)(hno:eY t9 q9 t0 ho=false→b=false)(hk:∀pv,eY t9 q9 t0 ho=true→pv=pY t9→Ends PP 0 (pM t9 q9 t0 q8 ho pv).as (mE b) (aG [] 0)) :
  Ends PP 0 (aTP t9 q9 t0 q8 ho).as (mE b) (aG [] 0) :=by
 cases hb1: (t9== (1:Int))
 case true=>exact LeadsM.ends (tD t9 q9 t0 q8 ho|>.t hb1 tv) (hk _ (by clear hno hk;simp_all [eY,pY,bG] <;>omega) (by clear hno hk;simp_all [eY,pY,bG] <;>omega))
 cases hb2: (t9== (2:Int))
 case true=>exact LeadsM.ends (tD t9 q9 t0 q8 ho|>.f hb1|>.t hb2 tv) (hk _ (by clear hno hk;simp_all [eY,pY,bG] <;>omega) (by clear hno hk;simp_all [eY,pY,bG] <;>omega))
 cases hb3: (t9== (3:Int))
 case true=>exact LeadsM.ends (tD t9 q9 t0 q8 ho|>.f hb1|>.f hb2|>.t hb3 tv) (hk _ (by clear hno hk;simp_all [eY,pY,bG] <;>omega) (by clear hno hk;simp_all [eY,pY,bG] <;>omega))
 cases hb4: (t9== (4:Int))
 case true=>exact LeadsM.ends (tD t9 q9 t0 q8 ho|>.f hb1|>.f hb2|>.f hb3|>.t hb4 tv) (hk _ (by clear hno hk;simp_all [eY,pY,bG] <;>omega) (by clear hno hk;simp_all [eY,pY,bG] <;>omega))
 cases hb5: (t9== (5:Int))
 case true=>exact LeadsM.ends (tD t9 q9 t0 q8 ho|>.f hb1|>.f hb2|>.f hb3|>.f hb4|>.t hb5 tv) (hk _ (by clear hno hk;simp_all [eY,pY,bG] <;>omega) (by clear hno hk;simp_all [eY,pY,bG] <;>omega))
 cases hb6: (t9== (6:Int))
 case true=>exact LeadsM.ends (tD t9 q9 t0 q8 ho|>.f hb1|>.f hb2|>.f hb3|>.f hb4|>.f hb5|>.t hb6 tv) (hk _ (by clear hno hk;simp_all [eY,pY,bG] <;>omega) (by clear hno hk;simp_all [eY,pY,bG] <;>omega))
 cases hb7: (t9== (7:Int))
 case true=>exact LeadsM.ends (tD t9 q9 t0 q8 ho|>.f hb1|>.f hb2|>.f hb3|>.f hb4|>.f hb5|>.f hb6|>.t hb7 tv) (hk _ (by clear hno hk;simp_all [eY,pY,bG] <;>omega) (by clear hno hk;simp_all [eY,pY,bG] <;>omega))
 cases hb8: (t9== (8:Int))
 case true=>
  cases hb9: (!(cP t0))
  case true=>
   rw [hno (by clear hno hk;simp_all [eY,pY,bG] <;>omega)];exact tD t9 q9 t0 q8 ho|>.f hb1|>.f hb2|>.f hb3|>.f hb4|>.f hb5|>.f hb6|>.f hb7|>.t hb8 (cP t0) (iG t0)|>.t hb9 tv
  exact LeadsM.ends (tD t9 q9 t0 q8 ho|>.f hb1|>.f hb2|>.f hb3|>.f hb4|>.f hb5|>.f hb6|>.f hb7|>.t hb8 (cP t0) (iG t0)|>.f hb9 tv) (hk _ (by clear hno hk;simp_all [eY,pY,bG] <;>omega) (by clear hno hk;simp_all [eY,pY,bG] <;>omega))
 cases hb10: (t9== (9:Int))
 case true=>
  cases ho
  case true=>
   cases hb11: (decide (q9≥ (0:Int)))
   case true=>
    cases hb12: (!(decide (q9≤ (99:Int))))
    case true=>
     rw [hno (by clear hno hk;simp_all [eY,pY,bG] <;>omega)];exact tD t9 q9 t0 q8 true|>.f hb1|>.f hb2|>.f hb3|>.f hb4|>.f hb5|>.f hb6|>.f hb7|>.f hb8|>.t hb10|>.t rfl|>.t hb11|>.t hb12 tv
    exact LeadsM.ends (tD t9 q9 t0 q8 true|>.f hb1|>.f hb2|>.f hb3|>.f hb4|>.f hb5|>.f hb6|>.f hb7|>.f hb8|>.t hb10|>.t rfl|>.t hb11|>.f hb12 tv) (hk _ (by clear hno hk;simp_all [eY,pY,bG] <;>omega) (by clear hno hk;simp_all [eY,pY,bG] <;>omega))
   rw [hno (by clear hno hk;simp_all [eY,pY,bG] <;>omega)];exact tD t9 q9 t0 q8 true|>.f hb1|>.f hb2|>.f hb3|>.f hb4|>.f hb5|>.f hb6|>.f hb7|>.f hb8|>.t hb10|>.t rfl|>.f hb11 tv
  rw [hno (by clear hno hk;simp_all [eY,pY,bG] <;>omega)];exact tD t9 q9 t0 q8 false|>.f hb1|>.f hb2|>.f hb3|>.f hb4|>.f hb5|>.f hb6|>.f hb7|>.f hb8|>.t hb10|>.f rfl tv
 rw [hno (by clear hno hk;simp_all [eY,pY,bG] <;>omega)];exact tD t9 q9 t0 q8 ho|>.f hb1|>.f hb2|>.f hb3|>.f hb4|>.f hb5|>.f hb6|>.f hb7|>.f hb8|>.f hb10 tv
theorem bAQ (t9 q9:Int)(t0:aA)(q8:List Typ)(ho:Bool)(parts4:Int)(b:Bool)(hno:fY parts4 t9 q9 t0 (length q8) =false→b=false)(hk:fY parts4 t9 q9 t0 (length q8) =true→Ends PP 0 (aAs t9 q9 t0 q8 ho 0).as (mE b) (aG [] 0)) :
  Ends PP 0 (pM t9 q9 t0 q8 ho parts4).as (mE b) (aG [] 0) :=by
 cases hb1: (((length q8:Nat) :Int) ==parts4)
 case true=>
  cases hb2: (t9== (9:Int))
  case true=>
   cases hb3: (t9== (8:Int))
   case true=>exact LeadsM.ends (aE3 t9 q9 t0 q8 ho parts4|>.t hb1|>.t hb2|>.t hb3 tv) (hk (by clear hno hk;simp_all [fY,aB,aE]))
   cases hb4: (!(bB (length t0) (aC t0) 0 0))
   case true=>
    rw [hno (by clear hno hk;simp_all [fY,aB,aE])];exact aE3 t9 q9 t0 q8 ho parts4|>.t hb1|>.t hb2|>.f hb3|>.t hb4 tv
   exact LeadsM.ends (aE3 t9 q9 t0 q8 ho parts4|>.t hb1|>.t hb2|>.f hb3|>.f hb4 tv) (hk (by clear hno hk;simp_all [fY,aB,aE]))
  cases hb5: (q9== (0:Int))
  case true=>
   cases hb6: (t9== (8:Int))
   case true=>exact LeadsM.ends (aE3 t9 q9 t0 q8 ho parts4|>.t hb1|>.f hb2|>.t hb5|>.t hb6 tv) (hk (by clear hno hk;simp_all [fY,aB,aE]))
   cases hb7: (!(bB (length t0) (aC t0) 0 0))
   case true=>
    rw [hno (by clear hno hk;simp_all [fY,aB,aE])];exact aE3 t9 q9 t0 q8 ho parts4|>.t hb1|>.f hb2|>.t hb5|>.f hb6|>.t hb7 tv
   exact LeadsM.ends (aE3 t9 q9 t0 q8 ho parts4|>.t hb1|>.f hb2|>.t hb5|>.f hb6|>.f hb7 tv) (hk (by clear hno hk;simp_all [fY,aB,aE]))
  rw [hno (by clear hno hk;simp_all [fY,aB,aE])];exact aE3 t9 q9 t0 q8 ho parts4|>.t hb1|>.f hb2|>.f hb5 tv
 rw [hno (by clear hno hk;simp_all [fY,aB,aE])];exact aE3 t9 q9 t0 q8 ho parts4|>.f hb1 tv
theorem aGN (t:Typ) :Pure PP 37 [Typ.av t] (.bool (rO t)) :=by
 have hw:=aGL t 16 (by omega) (by omega);unfold rO;unfold mX at hw;obtain⟨o,n,s,ps⟩ :=t;refine aP (by kernel_rfl) (by simp [keylessL,aAg]) rfl ?_;by_cases h:cK (.mk o n s ps) ≤16
 · rw [if_pos (by omega)]at hw;exact Ends.eqv (aYn o n s ps _ hw|>.t (by simp;omega) _ (aMN (.mk o n s ps) (by omega)) tv) (by simp [h])
 · rw [if_neg (by omega)]at hw;exact Ends.eqv (aYn o n s ps _ hw|>.f (by simp) tv) (by simp [h])
theorem aMO (o n:Int)(s:aA)(ps:List Typ)(ho:Bool)(hl:ps.length<1000000)(ih:∀t∈ps,POT 248 [Typ.av t,.bool ho] (aDn ho t)) :
  ∀ (ts:List Typ) (i:Nat),ps.drop i=ts→Ends PP 0 (aAs o n s ps ho (i:Int)).as (mE (aGK ho ts)) (aG [] 0)
 | [],i,h=>by
  have:=aZ h;exact aTR o n s ps ho i|>.f sd tv
 | .mk o' n' s' ps'::ts,i,h=>by
  obtain⟨g1,g2,g3⟩ :=aY h;have hp:=ih _ (mem_of_getElem? g1);rw [aGK];cases hb:aDn ho (.mk o' n' s' ps')
  case true=>
   rw [hb]at hp;rw [Bool.true_and];exact(aTR o n s ps ho i|>.t sd o' n' s' ps' sd sd|>.2 hp sd tv).ends (aMO o n s ps ho hl ih ts (i+1) g2)
  rw [hb]at hp;rw [Bool.false_and];exact aTR o n s ps ho i|>.t sd o' n' s' ps' sd sd|>.1 hp tv
mutual
theorem aP9 (ho:Bool) :∀ (t:Typ),cK t<1000000→POT 248 [Typ.av t,.bool ho] (aDn ho t)
 | .mk o n s ps,hf=>by
  simp only [cK]at hf;have:=rN ps;refine aOw (s:=aTP o n s ps ho) (by kernel_rfl) (by kernel_rfl) (by simp [keylessL,aAg,keyless]) ?_;rw [aDn,aRK];refine aZO o n s ps ho _ (fun h=>by rw [h];simp) (fun pv he hp=>?_);subst hp;rw [he];refine bAQ o n s ps ho _ _ (fun h=>by rw [h];simp) (fun h=>?_);rw [h,Bool.true_and,Bool.true_and];exact aMO o n s ps ho (by omega) (aQa ho ps (by omega)) ps 0 rfl
theorem aQa (ho:Bool) :∀ (ts:List Typ),cV ts<1000000→∀t∈ts,POT 248 [Typ.av t,.bool ho] (aDn ho t)
 | [],_,t,ht=>by cases ht
 | u::ts,hf,t,ht=>by
  simp only [cV]at hf;rcases List.mem_cons.1 ht with e|ht
  ·rw [e];exact aP9 ho u (by omega)
  ·exact aQa ho ts (by omega) t ht
end
def GKS (p:Typ)(a b:Int) :Prop:=Spec PP (.enter 247 [.ptr 0 0,Typ.av p]) (aG [(0,GC a b,false)] 1) (mE (sC (cK p) a)) (aG [(0,GC (eE (cK p) a) b,false)] 1)
theorem aQb (a b f n:Int)(s:aA)(ps:List Typ)(hl:ps.length<1000000)(ih:∀p∈ps,∀a,0≤a→a≤1000→GKS p a b) :∀ (t:List Typ) (i:Nat) (c:Int),ps.drop i=t→0≤c→c≤1000 →
  Ends PP 1 (aP5 a b f n s ps (i:Int) c).as (mE (sC (cV t) c)) (aG [(0,GC (eE (cV t) c) b,false)] 1)
 | [],i,c,h,h0,h1=>by
  have:=aZ h;have e1:sC (cV []) c=true:=by simp [sC,cV,h0]
  have e2:eE (cV []) c=c:=by simp [eE,cV,h0]
  rw [e1,e2];exact aTQ a b f n s ps i c|>.f sd tv
 | .mk f' n' s' ps'::t,i,c,h,h0,h1=>by
  obtain⟨g1,g2,g3⟩ :=aY h;have hs:=ih _ (mem_of_getElem? g1) c h0 h1;unfold GKS at hs;by_cases hc: (cK (.mk f' n' s' ps') :Int) ≤c
  · have e1:sC (cK (.mk f' n' s' ps')) c=true:=by simp [sC,hc]
    have e2:eE (cK (.mk f' n' s' ps')) c=c-cK (.mk f' n' s' ps') :=by simp [eE,hc]
    rw [e1,e2]at hs;have r1:sC (cV (.mk f' n' s' ps'::t)) c=sC (cV t) (c-cK (.mk f' n' s' ps')) :=by
     unfold sC;rw [cV];congr 1;apply propext;omega
    have r2:eE (cV (.mk f' n' s' ps'::t)) c=eE (cV t) (c-cK (.mk f' n' s' ps')) :=by
     unfold eE;rw [cV];split<;>split<;>omega
    rw [r1,r2];refine(aTQ a b f n s ps i c|>.t sd f' n' s' ps' sd sd|>.2 (c-cK (.mk f' n' s' ps')) (eM (ks:=[0]) hs (by kernel_rfl) (gP true) (by kernel_rfl) (by kernel_rfl) trivial (by kernel_rfl) trivial) sd tv).ends ?_;exact aQb a b f n s ps hl ih t (i+1) _ g2 (by omega) (by omega)
  · have e1:sC (cK (.mk f' n' s' ps')) c=false:=by simp only [sC];exact decide_eq_false hc
    have e2:eE (cK (.mk f' n' s' ps')) c= -1:=by unfold eE;rw [if_neg hc]
    rw [e1,e2]at hs;have r1:sC (cV (.mk f' n' s' ps'::t)) c=false:=by simp only [sC,cV];exact decide_eq_false (by omega)
    have r2:eE (cV (.mk f' n' s' ps'::t)) c= -1:=by unfold eE;rw [cV,if_neg (by omega)]
    rw [r1,r2];exact aTQ a b f n s ps i c|>.t sd f' n' s' ps' sd sd|>.1 (-1) (eM (ks:=[0]) hs (by kernel_rfl) (gP false) (by kernel_rfl) (by kernel_rfl) trivial (by kernel_rfl) trivial) tv
mutual
theorem aQc (b:Int)(hb:0≤b) :∀ (p:Typ) (a:Int),0≤a→a≤1000→cK p<1000000→GKS p a b
 | .mk f n s ps,a,h0,h1,hp=>by
  simp only [cK]at hp;have:=rN ps;refine⟨(aZN a b f n s ps).as.fr,by kernel_rfl,?_⟩;have E:Ends PP 1 (aZN a b f n s ps).as (mE (sC (cK (.mk f n s ps)) a)) (aG [(0,GC (eE (cK (.mk f n s ps)) a) b,false)] 1) :=by
   by_cases ha:1≤a
   · have r1:sC (cK (.mk f n s ps)) a=sC (cV ps) (a-1) :=by
      unfold sC;rw [cK];congr 1;apply propext;omega
     have r2:eE (cK (.mk f n s ps)) a=eE (cV ps) (a-1) :=by
      unfold eE;rw [cK];split<;>split<;>omega
     rw [r1,r2];exact(aYp a b f n s ps sd|>.t (by simp;omega)|>.f (by simp;omega) tv).ends (aQb a b f n s ps (by omega) (fun p hp a h0 h1=>aTT b hb ps (by omega) p hp a h0 h1) ps 0 (a-1) rfl (by omega) (by omega))
   · obtain rfl:a=0:=by omega
     have r1:sC (cK (.mk f n s ps)) 0=false:=by simp only [sC,cK];exact decide_eq_false (by omega)
     have r2:eE (cK (.mk f n s ps)) 0=0-1:=by unfold eE;rw [cK,if_neg (by omega)];rfl
     rw [r1,r2];exact aYp 0 b f n s ps sd|>.f (by simp) tv
  exact Eq.mp (by kernel_rfl) E
theorem aTT (b:Int)(hb:0≤b) :∀ (ps:List Typ),cV ps<1000000→∀p∈ps,∀a,0≤a→a≤1000→GKS p a b
 | [],_,p,hp=>by cases hp
 | q::ps,h,p,hp=>by
  simp only [cV]at h;rcases List.mem_cons.1 hp with e|hp
  ·rw [e];exact fun a h0 h1=>aQc b hb q a h0 h1 (by omega)
  ·exact aTT b hb ps (by omega) p hp
end
theorem aGO (t:Typ)(hf:cK t<1000000) :Pure PP 175 [Typ.av t] (.bool (aAt t)) :=by
 have hg:=aQc 0 (by omega) t 12 (by omega) (by omega) hf;have hs:=aP9 false t hf;unfold GKS at hg;have e:aAt t= (sC (cK t) 12&&aDn false t) :=by
  unfold aAt sC;congr 2;apply propext;omega
 rw [e];obtain⟨o,n,s,ps⟩ :=t;refine bU (s:=aYo o n s ps) (by kernel_rfl) (by kernel_rfl) (by simp [keylessL,aAg]) (by simp [keyless]) ?_;generalize eE (cK (.mk o n s ps)) 12=z at hg;cases hb:sC (cK (.mk o n s ps)) 12
 case false=>
  rw [hb]at hg;rw [Bool.false_and];exact aTS o n s ps|>.1 z (eM (ks:=[4]) hg (by kernel_rfl) (gP false) (by kernel_rfl) (by kernel_rfl) trivial (by kernel_rfl) trivial) tv
 rw [hb]at hg;rw [Bool.true_and];cases hF:aDn false (.mk o n s ps)
 case true=>
  rw [hF]at hs;exact aTS o n s ps|>.2 z (eM (ks:=[4]) hg (by kernel_rfl) (gP true) (by kernel_rfl) (by kernel_rfl) trivial (by kernel_rfl) trivial)|>.2 hs tv
 rw [hF]at hs;exact aTS o n s ps|>.2 z (eM (ks:=[4]) hg (by kernel_rfl) (gP true) (by kernel_rfl) (by kernel_rfl) trivial (by kernel_rfl) trivial)|>.1 hs tv
abbrev aYq (a:Mod):AV:=.agg [aD a.name,.ilst 2 (map DataD.av a.datas) false,.ilst 15 (FunDs.av a.funs) false]
abbrev aQd (a:Nat)(b:Mod):=oC a [aD b.name,.ilst 2 (map DataD.av b.datas) false,.ilst 15 (FunDs.av b.funs) false]
abbrev aGP (a b:Int)(c:aA)(d:List Term)(e:List Pat):AV:=.agg [nI a,nI b,aD c,.ilst 5 (av d) false,iP e]
abbrev aYr (a:DataD):AV:=.agg [aD a.name,.ilst 2 (map ConD.av a.cons) false]
abbrev aQe (a:Nat)(b:DataD):=oC a [aD b.name,.ilst 2 (map ConD.av b.cons) false]
abbrev aIG (a b:Int)(c:aA)(d:List Typ):AV:=.agg [nI a,nI b,aD c,.ilst 4 (Typs.av d) false]
def aGQ(a:DataD)(b:Int):TS:=⟨tf 41 53 [kp 1 0,(2,bV false),(3,nI b)] [kc f41 116,kl f41 116,.inBlock 0,kc f41 15],[],[aQe 0 a],1⟩
def aKk(a:DataD)(b:aA)(c:List Typ)(d e:Int):TS:=⟨tf 41 53 [kp 1 0,(2,bV false),(3,nI e),kp 4 1,(5,nI d)] [kc f41 29852,kl f41 29852,.inBlock 2,.inBlock 1,kc f41 467,kl f41 116,.inBlock 0,kc f41 15],[],[aQe 0 a,oC 1 [aD b,.ilst 4 (Typs.av c) false]],2⟩
def aKl(a:Mod)(b:Int):TS:=⟨tf 8 77 [kp 1 0,(2,bV false),(3,nI b)] [kc f8 116,kl f8 116,.inBlock 0,kc f8 15],[],[aQd 0 a],1⟩
def aKm(a:Mod)(b:Int):TS:=⟨tf 8 77 [kp 1 0,(2,bV false),(4,nI b)] [kc f8 244,kl f8 244,.inBlock 2,kc f8 31],[],[aQd 0 a],1⟩
def aGR(a:DataD)(b:Int):TS:=⟨tf 36 52 [kp 1 0,(2,bV false),(3,nI b)] [kc f36 116,kl f36 116,.inBlock 0,kc f36 15],[],[aQe 0 a],1⟩
def aKn(a:DataD)(b:aA)(c:List Typ)(d e:Int):TS:=⟨tf 36 52 [kp 1 0,(2,bV false),(3,nI e),kp 4 1,(5,nI d)] [kc f36 29852,kl f36 29852,.inBlock 2,.inBlock 1,kc f36 467,kl f36 116,.inBlock 0,kc f36 15],[],[aQe 0 a,oC 1 [aD b,.ilst 4 (Typs.av c) false]],2⟩
def aKo(a:Mod)(b:Int):TS:=⟨tf 7 76 [kp 1 0,(2,bV false),(3,nI b)] [kc f7 116,kl f7 116,.inBlock 0,kc f7 15],[],[aQd 0 a],1⟩
def aKp(a:Mod)(b:Int):TS:=⟨tf 7 76 [kp 1 0,(2,bV false),(4,nI b)] [kc f7 244,kl f7 244,.inBlock 2,kc f7 31],[],[aQd 0 a],1⟩
def aKq(a b:Int)(c:aA)(d:List Term)(e:List Pat)(f:Int):TS:=⟨tf 113 43 [kp 1 0,(2,bV false),(3,nI f)] [kc f113 116,kl f113 116,.inBlock 0,kc f113 15],[],[oC 0 [nI a,nI b,aD c,.ilst 5 (av d) false,iP e]],1⟩
def aKr(a b:Int)(c:aA)(d:List Term)(e:List Pat)(f:Int):TS:=⟨tf 113 43 [kp 1 0,(2,bV false),(4,nI f)] [kc f113 244,kl f113 244,.inBlock 2,kc f113 31],[],[oC 0 [nI a,nI b,aD c,.ilst 5 (av d) false,iP e]],1⟩
def aTU(a:DataD):=tT 0 (start PP 41 [aYr a])<|cD 10 116 [aD a.name]<|fun b=>.b 2 10 (!b) (gE 13 1 (bV false))<|gl 2 ConD.av a.cons<|cD 0 40 [nI (a.cons.length:Int),nI 1,nI 5]<|fun c=>.b 3 16 (!c) (gE 6 1 (bV false))<|.W 9 1 [0] (aGQ a 0)
def aQf(a:DataD)(c:Int):=tT 0 (aGQ a c)<|gl 6 ConD.av a.cons<|gd 2 21 (c< (a.cons.length:Int)) (gX ConD.av 9 a.cons c<|fun b=>cD 9 116 [aD b.name]<|fun d=>.b 2 33 (!d) (gE 12 2 (bV false))<|gm 2 dU b.args<|gd 3 38 ((b.args.length:Int) >3) (gE 6 2 (bV false))<|.W 8 2 [0,1] (aKk a b.name b.args 0 c))<|gE 7 1 (bV true)
def aTV(d:DataD)(e:aA)(a:List Typ)(b c:Int):=tT 0 (aKk d e a b c)<|gm 6 dU a<|gd 2 43 (b< (a.length:Int)) (aL9 9 a b<|fun f g i j=>cD 1 42 [aIG f g i j]<|fun k=>.b 2 52 (!k) (gE 6 2 (bV false))<|gw 6 45 (b+1)<|.W 3 2 [0,1] (aKk d e a (b+1) c))<|gw 6 23 (c+1)<|.W 3 2 [0] (aGQ d (c+1))
def aQg(a:Mod):=tT 0 (start PP 8 [aYq a])<|cD 10 39 [aD a.name]<|fun b=>.b 2 10 (!b) (gE 19 1 (bV false))<|gl 2 DataD.av a.datas<|gd 3 16 ((a.datas.length:Int) >4) (gE 13 1 (bV false))<|gm 2 cN a.funs<|cD 0 40 [nI (a.funs.length:Int),nI 1,nI 5]<|fun c=>.b 3 22 (!c) (gE 6 1 (bV false))<|.W 9 1 [0] (aKl a 0)
def aTW(a:Mod)(b:Int):=tT 0 (aKl a b)<|gl 6 DataD.av a.datas<|gd 2 27 (b< (a.datas.length:Int)) (gX DataD.av 9 a.datas b<|fun c=>cD 1 41 [.agg [aD c.name,.ilst 2 (map ConD.av c.cons) false]]<|fun d=>.b 2 36 (!d) (gE 6 1 (bV false))<|gw 6 29 (b+1)<|.W 3 1 [0] (aKl a (b+1)))<|.W 9 1 [0] (aKm a 0)
def aGS(a:Mod)(b:Int):=tT 0 (aKm a b)<|gm 6 cN a.funs<|gd 2 41 (b< (a.funs.length:Int)) (.y fun c:aA=>.y fun d:aA=>.y fun e:Int=>.y fun f:Int=>.y fun g:aA=>.y fun i:List Typ=>.y fun j:Int=>.y fun k:Int=>.y fun l:aA=>.y fun m:List Typ=>.y fun n:Int=>.y fun o:Int=>.y fun p:aA=>.y fun q:List Term=>.y fun r:List Pat=>giF cN 9 a.funs b (FunD.mk c d (Typ.mk e f g i) (Typ.mk j k l m) (Term.mk n o p q r))<|cD 8 39 [aD c]<|fun s=>.b 2 53 (!s) (gE 30 2 (bV false))<|cD 2 39 [aD d]<|fun t=>.b 3 59 (!t) (gE 24 2 (bV false))<|cD 2 42 [aIG e f g i]<|fun u=>.b 3 65 (!u) (gE 18 2 (bV false))<|cD 2 42 [aIG j k l m]<|fun v=>.b 3 71 (!v) (gE 12 2 (bV false))<|cD 2 43 [aGP n o p q r]<|fun w=>.b 3 76 (!w) (gE 6 2 (bV false))<|gw 6 43 (b+1)<|.W 3 2 [0] (aKm a (b+1)))<|gE 7 1 (bV true)
def aTX(a:DataD):=tT 0 (start PP 36 [aYr a])<|gd 13 10 ((a.name.length:Int) >30) (gE 12 1 (bV false))<|gl 2 ConD.av a.cons<|gd 3 15 ((a.cons.length:Int) >8) (gE 6 1 (bV false))<|.W 9 1 [0] (aGR a 0)
def aQh(a:DataD)(c:Int):=tT 0 (aGR a c)<|gl 6 ConD.av a.cons<|gd 2 20 (c< (a.cons.length:Int)) (gX ConD.av 9 a.cons c<|fun b=>gd 12 32 ((b.name.length:Int) >30) (gE 12 2 (bV false))<|gm 2 dU b.args<|gd 3 37 ((b.args.length:Int) >6) (gE 6 2 (bV false))<|.W 8 2 [0,1] (aKn a b.name b.args 0 c))<|gE 7 1 (bV true)
def aTY(d:DataD)(e:aA)(a:List Typ)(b c:Int):=tT 0 (aKn d e a b c)<|gm 6 dU a<|gd 2 42 (b< (a.length:Int)) (aL9 9 a b<|fun f g i j=>cD 1 37 [aIG f g i j]<|fun k=>.b 2 51 (!k) (gE 6 2 (bV false))<|gw 6 44 (b+1)<|.W 3 2 [0,1] (aKn d e a (b+1) c))<|gw 6 22 (c+1)<|.W 3 2 [0] (aGR d (c+1))
def aQi(a:Mod):=tT 0 (start PP 7 [aYq a])<|gd 13 10 ((a.name.length:Int) >30) (gE 18 1 (bV false))<|gl 2 DataD.av a.datas<|gd 3 16 ((a.datas.length:Int) >6) (gE 12 1 (bV false))<|gm 2 cN a.funs<|gd 3 21 ((a.funs.length:Int) >8) (gE 6 1 (bV false))<|.W 9 1 [0] (aKo a 0)
def aOx(a:Mod)(b:Int):=tT 0 (aKo a b)<|gl 6 DataD.av a.datas<|gd 2 26 (b< (a.datas.length:Int)) (gX DataD.av 9 a.datas b<|fun c=>cD 1 36 [.agg [aD c.name,.ilst 2 (map ConD.av c.cons) false]]<|fun d=>.b 2 35 (!d) (gE 6 1 (bV false))<|gw 6 28 (b+1)<|.W 3 1 [0] (aKo a (b+1)))<|.W 9 1 [0] (aKp a 0)
def aCl(a:Mod)(b:Int):=tT 0 (aKp a b)<|gm 6 cN a.funs<|gd 2 40 (b< (a.funs.length:Int)) (.y fun c:aA=>.y fun d:aA=>.y fun e:Int=>.y fun f:Int=>.y fun g:aA=>.y fun i:List Typ=>.y fun j:Int=>.y fun k:Int=>.y fun l:aA=>.y fun m:List Typ=>.y fun n:Int=>.y fun o:Int=>.y fun p:aA=>.y fun q:List Term=>.y fun r:List Pat=>giF cN 9 a.funs b (FunD.mk c d (Typ.mk e f g i) (Typ.mk j k l m) (Term.mk n o p q r))<|gd 11 52 ((c.length:Int) >30) (gE 30 2 (bV false))<|gd 6 58 ((d.length:Int) >30) (gE 24 2 (bV false))<|cD 2 37 [aIG e f g i]<|fun s=>.b 3 64 (!s) (gE 18 2 (bV false))<|cD 2 37 [aIG j k l m]<|fun t=>.b 3 70 (!t) (gE 12 2 (bV false))<|cD 2 38 [aGP n o p q r]<|fun u=>.b 3 75 (!u) (gE 6 2 (bV false))<|gw 6 42 (b+1)<|.W 3 2 [0] (aKp a (b+1)))<|gE 7 1 (bV true)
def aOy(c d:Int)(b:aA)(e:List Term)(a:List Pat):=tT 0 (start PP 113 [aGP c d b e a])<|gd 13 9 ((b.length:Int) >30) (gE 12 1 (bV false))<|gm 2 aF a<|gd 3 14 ((a.length:Int) >8) (gE 6 1 (bV false))<|.W 9 1 [0] (aKq c d b e a 0)
def aOz(c d:Int)(e:aA)(f:List Term)(a:List Pat)(b:Int):=tT 0 (aKq c d e f a b)<|gm 6 aF a<|gd 2 19 (b< (a.length:Int)) (wY 9 a b<|fun g i j k=>cD 1 138 [.agg [nI g,nI i,aD j,iP k]]<|fun l=>.b 2 28 (!l) (gE 6 1 (bV false))<|gw 6 21 (b+1)<|.W 3 1 [0] (aKq c d e f a (b+1)))<|.W 9 1 [0] (aKr c d e f a 0)
def aOA(c d:Int)(e:aA)(a:List Term)(f:List Pat)(b:Int):=tT 0 (aKr c d e a f b)<|gm 6 dA a<|gd 2 33 (b< (a.length:Int)) (aER 9 a b<|fun g i j k l=>cD 1 113 [aGP g i j k l]<|fun m=>.b 2 42 (!m) (gE 6 1 (bV false))<|gw 6 35 (b+1)<|.W 3 1 [0] (aKr c d e a f (b+1)))<|gE 7 1 (bV true)
def aTZ(a b:Int)(c:aA)(d:List Term)(e:List Pat):=tT 0 (start PP 38 [aGP a b c d e])<|gpI 8 112 [aGP a b c d e,nI 80,nI 16]<|fun f=>gd 2 6 (f≥0) (cD 1 113 [aGP a b c d e]<|fun g=>gE 4 1 (bV g))<|gE 6 1 (bV false)
abbrev aYs (a b:aA)(c d:Int)(e:aA)(f:List Typ)(g h:Int)(i:aA)(j:List Typ)(k l:Int)(m:aA)(n:List Term)(o:List Pat):AV:=.iface 179 (.agg [aD a,aD b,nI c,nI d,aD e,.ilst 4 (Typs.av f) false,nI g,nI h,aD i,.ilst 4 (Typs.av j) false,nI k,nI l,aD m,.ilst 5 (av n) false,iP o])
abbrev aYt (a:DataD):AV:=.iface 177 (.agg [aD a.name,.ilst 2 (map ConD.av a.cons) false])
abbrev aT0 (a b:Int)(c:aA)(d:List Typ):AV:=.agg [nI a,nI b,aD c,.ilst 4 (Typs.av d) false]
abbrev aT1 (a:Mod):AV:=.ilst 2 (map DataD.av a.datas) false
abbrev aQj (a:List ConD):AV:=.ilst 2 (map ConD.av a) false
abbrev aT2 (a:Mod):AV:=.ilst 15 (FunDs.av a.funs) false
abbrev aE4 (a:List Part):AV:=.ilst 1 (Parts.av a) false
abbrev aQk (a:List Typ):AV:=.ilst 4 (Typs.av a) false
def bAS(a:List Typ):TS:=bH PP 174 [aQk a,.func 175 [] []] [] 0
def aQl(a:List Typ)(b:Int):TS:=⟨tf 245 19 [(0,aQk a),(1,.func 215 [] [.ptr 0 0]),(4,nI 0),(7,nI (a.length:Int)),(8,nI b)] [kc f245 52,kl f245 52,.inBlock 0,kc f245 7],[tf 214 9 [(4,bV false),(5,aQk a),(6,.func 215 [] [.ptr 0 0])] [ko f214 6 2,kc f214 7],tf 174 9 [(4,bV false),(5,aQk a),(6,.func 215 [] [.ptr 0 0])] [ko f174 6 2,kc f174 7]],[oC 0 [.func 175 [] []]],1⟩
def bAT(a:List ConD):TS:=bH PP 172 [aQj a,.func 173 [] []] [] 0
def aQm(a:List ConD)(b:Int):TS:=⟨tf 244 19 [(0,aQj a),(1,.func 213 [] [.ptr 0 0]),(4,nI 0),(7,nI (a.length:Int)),(8,nI b)] [kc f244 52,kl f244 52,.inBlock 0,kc f244 7],[tf 212 9 [(4,bV false),(5,aQj a),(6,.func 213 [] [.ptr 0 0])] [ko f212 6 2,kc f212 7],tf 172 9 [(4,bV false),(5,aQj a),(6,.func 213 [] [.ptr 0 0])] [ko f172 6 2,kc f172 7]],[oC 0 [.func 173 [] []]],1⟩
def aYu(a:DataD):TS:=bH PP 120 [aYt a] [] 0
def aYv(a b:aA)(c d:Int)(e:aA)(f:List Typ)(g i:Int)(j:aA)(k:List Typ)(l m:Int)(n:aA)(o:List Term)(p:List Pat):TS:=bH PP 120 [aYs a b c d e f g i j k l m n o p] [] 0
def aYw(a:List Part):TS:=bH PP 119 [aE4 a,.func 120 [] []] [] 0
def aKs(a:List Part)(b:Int):TS:=⟨tf 211 19 [(0,aE4 a),(1,.func 170 [] [.ptr 0 0]),(4,nI 0),(7,nI (a.length:Int)),(8,nI b)] [kc f211 52,kl f211 52,.inBlock 0,kc f211 7],[tf 169 9 [(4,bV false),(5,aE4 a),(6,.func 170 [] [.ptr 0 0])] [ko f169 6 2,kc f169 7],tf 119 9 [(4,bV false),(5,aE4 a),(6,.func 170 [] [.ptr 0 0])] [ko f119 6 2,kc f119 7]],[oC 0 [.func 120 [] []]],1⟩
def aT3(a:List Part)(b:Int):TS:=⟨tf 211 19 [(0,aE4 a),(1,.func 170 [] [.ptr 0 0]),(4,nI 0),(7,nI (a.length:Int)),(8,nI b)] [kc f211 52,kl f211 52,.inBlock 0,kc f211 7],[tf 169 9 [(4,bV false),(5,aE4 a),(6,.func 170 [] [.ptr 0 0])] [ko f169 6 2,kc f169 7],tf 119 9 [(4,bV false),(5,aE4 a),(6,.func 170 [] [.ptr 0 0])] [ko f119 6 2,kc f119 7]],[oC 0 [.func 120 [] []]],1⟩
def aYx(a:Mod):TS:=bH PP 47 [.agg [aD a.name,aT1 a,aT2 a]] [] 0
def aKt(a:Mod)(c:Int)(b:List Part):TS:=⟨tf 47 61 [kp 1 0,(2,nI 0),(3,.gl 1 1 0 b.length false),(31,aT1 a),(32,nI (a.datas.length:Int)),(33,nI c)] [kc f47 244,kl f47 244,.inBlock 0,kc f47 31],[],[oC 0 [aD a.name,aT1 a,aT2 a],oL 1 1 (Parts.av b)],2⟩
def aKu(a:Mod)(b:List Part)(c:Int):TS:=⟨tf 47 61 [(2,nI 0),(3,.gl 0 1 0 b.length false),(45,aT2 a),(46,nI (a.funs.length:Int)),(47,nI c)] [kc f47 500,kl f47 500,.inBlock 2,kc f47 63],[],[oL 0 1 (Parts.av b)],1⟩
def aZP (a:List Typ):=(tT 0 (bAS a)<|gm 27 dU a<|.W 4 1 [0] (aQl a 0)) tv
def aT4(b:List Typ)(a:Int):=tT 0 (aQl b a)<|gd 5 9 (a< (b.length:Int)) (aL9 14 b a<|fun c d e f=>cD 11 175 [aT0 c d e f]<|fun g=>.b 6 16 (!g) (gE 17 2 (bV (!(decide (a≥0)))))<|gw 5 18 (a+1)<|.W 3 2 [0] (aQl b (a+1)))<|gE 17 1 (bV true)
def aT5(a:ConD):=tT 0 (start PP 173 [.agg [aD a.name,.ilst 4 (Typs.av a.args) false]])<|cD 9 171 [aD a.name]<|fun b=>.b 1 6 b (gm 2 dU a.args<|gd 3 12 ((a.args.length:Int) ≤3) (cD 2 174 [.ilst 4 (Typs.av a.args) false,.func 175 [] []]<|fun c=>gE 4 1 (bV c))<|gE 7 1 (bV false))<|gE 13 1 (bV false)
def aZQ (a:List ConD):=(tT 0 (bAT a)<|gl 27 ConD.av a<|.W 4 1 [0] (aQm a 0)) tv
def aT6(b:List ConD)(a:Int):=tT 0 (aQm b a)<|gd 5 9 (a< (b.length:Int)) (gX ConD.av 14 b a<|fun c=>cD 11 173 [.agg [aD c.name,.ilst 4 (Typs.av c.args) false]]<|fun d=>.b 6 16 (!d) (gE 17 2 (bV (!(decide (a≥0)))))<|gw 5 18 (a+1)<|.W 3 2 [0] (aQm b (a+1)))<|gE 17 1 (bV true)
def aQn(a:DataD):=tT 0 (aYu a)<|cD 27 171 [aD a.name]<|fun b=>.b 1 13 b (gl 3 ConD.av a.cons<|gd 3 20 ((a.cons.length:Int) ≥1) (gl 3 ConD.av a.cons<|gd 3 27 ((a.cons.length:Int) ≤5) (cD 3 172 [.ilst 2 (map ConD.av a.cons) false,.func 173 [] []]<|fun c=>gE 4 1 (bV c))<|gE 8 1 (bV false))<|gE 15 1 (bV false))<|gE 22 1 (bV false)
def aMP(a b:aA)(c d:Int)(e:aA)(f:List Typ)(g i:Int)(j:aA)(k:List Typ)(l m:Int)(n:aA)(o:List Term)(p:List Pat):=tT 0 (aYv a b c d e f g i j k l m n o p)<|cD 34 107 [aD a]<|fun q=>.b 1 40 q (cD 3 107 [aD b]<|fun r=>.b 2 46 r (cD 3 175 [aT0 c d e f]<|fun s=>.b 2 52 s (cD 3 175 [aT0 g i j k]<|fun t=>.b 2 58 t (gpI 3 176 [.agg [nI l,nI m,aD n,.ilst 5 (av o) false,iP p]]<|fun u=>gE 5 1 (bV (u==0)))<|gE 9 1 (bV false))<|gE 15 1 (bV false))<|gE 21 1 (bV false))<|gE 27 1 (bV false)
def aWP (a:List Part):=(tT 0 (aYw a)<|gm 27 qR a<|.W 4 1 [0] (aKs a 0)) tv
def aT7(b:List Part)(a:Int):=tT 0 (aKs b a)<|gd 5 9 (a< (b.length:Int)) (.y fun c:DataD=>giF qR 14 b a (Part.data c)<|cD 10 120 [aYt c]<|fun d=>.b 6 16 (!d) (gE 17 1 (bV (!(decide (a≥0)))))<|gw 5 18 (a+1)<|.W 3 1 [0] (aKs b (a+1)))<|gE 17 1 (bV true)
def aYy(b:List Part)(a:Int):=tT 0 (aT3 b a)<|gd 5 9 (a< (b.length:Int)) (.y fun c:aA=>.y fun d:aA=>.y fun e:Int=>.y fun f:Int=>.y fun g:aA=>.y fun i:List Typ=>.y fun j:Int=>.y fun k:Int=>.y fun l:aA=>.y fun m:List Typ=>.y fun n:Int=>.y fun o:Int=>.y fun p:aA=>.y fun q:List Term=>.y fun r:List Pat=>giF qR 14 b a (Part.fn (FunD.mk c d (Typ.mk e f g i) (Typ.mk j k l m) (Term.mk n o p q r)))<|cD 10 120 [aYs c d e f g i j k l m n o p q r]<|fun s=>.b 6 16 (!s) (gE 17 1 (bV (!(decide (a≥0)))))<|gw 5 18 (a+1)<|.W 3 1 [0] (aT3 b (a+1)))<|gE 17 1 (bV true)
def aMQ(a:Mod):=tT 0 (aYx a)<|cD 10 107 [aD a.name]<|fun b=>.b 2 12 (!b) (gE 24 1 (nI 2))<|gl 2 DataD.av a.datas<|gd 3 18 ((a.datas.length:Int) >4) (gE 18 1 (nI 2))<|gm 2 cN a.funs<|gd 3 24 ((a.funs.length:Int) <1) (gE 12 1 (nI 2))<|gm 2 cN a.funs<|gd 3 29 ((a.funs.length:Int) >5) (gE 6 1 (nI 2))<|gl 11 DataD.av a.datas<|.i [rn 4,.nilL 3 1] []<|gu 0 1 (Parts.av ([] :List Part))<|gs 0 3 (.gl 1 1 0 ([] :List Part).length false)<|.W 0 2 [0,1] (aKt a 0 ([] :List Part))
def aYz(a:Mod)(b:Int)(c:List Part):=tT 0 (aKt a b c)<|gd 5 34 (b< (a.datas.length:Int)) (gX DataD.av 6 a.datas b<|fun d=>gA 10 qR c [Part.data d]<|gw 5 43 (b+1)<|.W 3 5 [0,4] (aKt a (b+1) (c++ [Part.data d])))<|gm 7 cN a.funs<|.W 4 2 [1] (aKu a c 0)
def aT8(c:Mod)(a:List Part)(b:Int):=tT 0 (aKu c a b)<|gd 5 48 (b< (c.funs.length:Int)) (.y fun d:aA=>.y fun e:aA=>.y fun f:Int=>.y fun g:Int=>.y fun i:aA=>.y fun j:List Typ=>.y fun k:Int=>.y fun l:Int=>.y fun m:aA=>.y fun n:List Typ=>.y fun o:Int=>.y fun p:Int=>.y fun q:aA=>.y fun r:List Term=>.y fun s:List Pat=>giF cN 6 c.funs b (FunD.mk d e (Typ.mk f g i j) (Typ.mk k l m n) (Term.mk o p q r s))<|gA 10 qR a [Part.fn (FunD.mk d e (Typ.mk f g i j) (Typ.mk k l m n) (Term.mk o p q r s))]<|gw 5 57 (b+1)<|.W 3 4 [3] (aKu c (a++ [Part.fn (FunD.mk d e (Typ.mk f g i j) (Typ.mk k l m n) (Term.mk o p q r s))]) (b+1)))<|gZ 6 58 0 1 qR aAh a false<|cD 0 119 [aE4 a,.func 120 [] []]<|fun t=>.b 2 60 (!t) (gE 6 1 (nI 2))<|gE 7 1 (nI 0)
mutual
def tsm :Term→Bool
 | .mk _ _ s ks ps=>decide (((length s:Nat) :Int) ≤30) &&decide (((length ps:Nat) :Int) ≤8) &&ps.all mS&&aEj ks
def aEj :List Term→Bool
 | [] =>true
 |t::ts=>tsm t&&aEj ts
end
theorem rP :∀ts:List Term,ts.length≤cC ts
 | [] =>by simp
 | .mk o n s ks ps::ts=>by have:=rP ts;simp only [cC,cJ,length_cons];omega
theorem bAU (o n:Int)(s:aA)(ks:List Term)(ps:List Pat)(hl:ks.length<1000000)(ih:∀t∈ks,Pure PP 113 [Term.av t] (.bool (tsm t))) :
  ∀ (ts:List Term) (i:Nat),ks.drop i=ts→Ends PP 0 (aKr o n s ks ps (i:Int)).as (.ret (.bool (aEj ts))) (aG [] 0)
 | [],i,h=>by
  have:=aZ h;exact aOA o n s ks ps i|>.f sd tv
 | .mk o' n' s' ks' ps'::ts,i,h=>by
  obtain⟨g1,g2,g3⟩ :=aY h;have hp:=ih _ (mem_of_getElem? g1);rw [aEj];cases hb:tsm (.mk o' n' s' ks' ps')
  case true=>
   rw [hb]at hp;exact(aOA o n s ks ps i|>.t sd o' n' s' ks' ps' sd sd true hp|>.f rfl sd tv).ends (Ends.eqv (bAU o n s ks ps hl ih ts (i+1) g2) (by simp))
  rw [hb]at hp;exact Ends.eqv (aOA o n s ks ps i|>.t sd o' n' s' ks' ps' sd sd false hp|>.t rfl tv) (by simp)
theorem bAV (o n:Int)(s:aA)(ks:List Term)(ps:List Pat)(hl:ks.length<1000000)(hl2:ps.length<1000000)(ih:∀t∈ks,Pure PP 113 [Term.av t] (.bool (tsm t))) :
  ∀ (qs:List Pat) (i:Nat),ps.drop i=qs→Ends PP 0 (aKq o n s ks ps (i:Int)).as (.ret (.bool (qs.all mS&&aEj ks))) (aG [] 0)
 | [],i,h=>by
  have:=aZ h;exact(aOz o n s ks ps i|>.f sd tv).ends (Ends.eqv (bAU o n s ks ps hl ih ks 0 rfl) (by simp))
 | .mk f' n' s' ps'::qs,i,h=>by
  obtain⟨g1,g2,g3⟩ :=aY h;have hp:=aDe (.mk f' n' s' ps');cases hb:mS (.mk f' n' s' ps')
  case true=>
   rw [hb]at hp;exact(aOz o n s ks ps i|>.t sd f' n' s' ps' sd sd true hp|>.f rfl sd tv).ends (Ends.eqv (bAV o n s ks ps hl hl2 ih qs (i+1) g2) (by simp [hb]))
  rw [hb]at hp;exact Ends.eqv (aOz o n s ks ps i|>.t sd f' n' s' ps' sd sd false hp|>.t rfl tv) (by simp [hb])
mutual
theorem aMR :∀ (t:Term),cJ t<1000000→Pure PP 113 [Term.av t] (.bool (tsm t))
 | .mk o n s ks ps,hf=>by
  simp only [cJ]at hf;have:=rP ks;refine aP (by kernel_rfl) (by simp [keylessL,jX]) rfl ?_;rw [tsm];by_cases h1: ((length s:Nat) :Int) ≤30
  · by_cases h2: ((length ps:Nat) :Int) ≤8
    ·exact(aOy o n s ks ps|>.f (by simp;omega)|>.f (by simp;omega) tv).ends (Ends.eqv (bAV o n s ks ps (by omega) (by omega) (aQo ks (by omega)) ps 0 rfl) (by simp [h1,h2]))
    ·exact Ends.eqv (aOy o n s ks ps|>.f (by simp;omega)|>.t (by simp;omega) tv) (by simp [h2])
  ·exact Ends.eqv (aOy o n s ks ps|>.t (by simp;omega) tv) (by simp [h1])
theorem aQo :∀ (ts:List Term),cC ts<1000000→∀t∈ts,Pure PP 113 [Term.av t] (.bool (tsm t))
 | [],_,t,ht=>by cases ht
 | u::ts,hf,t,ht=>by
  simp only [cC]at hf;rcases List.mem_cons.1 ht with e|ht
  ·rw [e];exact aMR u (by omega)
  ·exact aQo ts (by omega) t ht
end
def xM (t:Term) :Bool:=decide (cJ t≤80) &&decide (fD t≤16) &&tsm t
theorem aT9 (t:Term) :Pure PP 38 [Term.av t] (.bool (xM t)) :=by
 have hw:=aGD t 80 16 (by omega) (by omega) (by omega) (by omega);unfold xM;unfold kT at hw;obtain⟨o,n,s,ks,ps⟩ :=t;refine aP (by kernel_rfl) (by simp [keylessL,jX]) rfl ?_;by_cases h:cJ (.mk o n s ks ps) ≤80∧fD (.mk o n s ks ps) ≤16
 · rw [if_pos (by omega)]at hw;exact Ends.eqv (aTZ o n s ks ps _ hw|>.t (by simp;omega) _ (aMR (.mk o n s ks ps) (by omega)) tv) (by simp [h.1,h.2])
 · rw [if_neg (by omega)]at hw
   exact Ends.eqv (aTZ o n s ks ps _ hw|>.f (by simp) tv) (by
    by_cases h1:cJ (.mk o n s ks ps) ≤80
    · have:¬fD (.mk o n s ks ps) ≤16:=fun h2=>h ⟨h1,h2⟩;simp [this]
    ·simp [h1])
def aDp (s:aA) :Bool:=decide (((length s:Nat) :Int) ≤30)
def aAZ (c:ConD) :Bool:=aDp c.name&&decide (((length c.args:Nat) :Int) ≤6) &&c.args.all rO
def aCm (d:DataD) :Bool:=aDp d.name&&decide (((length d.cons:Nat) :Int) ≤8) &&d.cons.all aAZ
theorem bAW (d:DataD)(nm:aA)(tys:List Typ)(j:Int)(b:Bool)(hj: -1≤j∧j≤1000)(hl:tys.length<1000000)(hk:Ends PP 0 (aGR d (j+1)).as (.ret (.bool b)) (aG [] 0)) :
  ∀ (ts:List Typ) (i:Nat),tys.drop i=ts→Ends PP 0 (aKn d nm tys (i:Int) j).as (.ret (.bool (ts.all rO&&b))) (aG [] 0)
 | [],i,h=>by
  have:=aZ h;exact(aTY d nm tys i j|>.f sd sd tv).ends (Ends.eqv hk (by simp))
 | .mk o n s ps::ts,i,h=>by
  obtain⟨g1,g2,g3⟩ :=aY h;have hp:=aGN (.mk o n s ps);cases hb:rO (.mk o n s ps)
  case true=>
   rw [hb]at hp;exact(aTY d nm tys i j|>.t sd o n s ps sd sd true hp|>.f rfl sd tv).ends (Ends.eqv (bAW d nm tys j b hj hl hk ts (i+1) g2) (by simp [hb]))
  rw [hb]at hp;exact Ends.eqv (aTY d nm tys i j|>.t sd o n s ps sd sd false hp|>.t rfl tv) (by simp [hb])
theorem bAX (d:DataD)(hl:d.cons.length≤8) :∀ (cs:List ConD) (i:Nat),d.cons.drop i=cs→Ends PP 0 (aGR d (i:Int)).as (.ret (.bool (cs.all aAZ))) (aG [] 0)
 | [],i,h=>by
  have:=aZ h;exact aQh d i|>.f sd tv
 | c ::cs,i,h=>by
  obtain⟨g1,g2,g3⟩ :=aY h;have hi:i<d.cons.length:= (List.getElem?_eq_some_iff.1 g1).1;rw [all_cons];by_cases h1: ((length c.name:Nat) :Int) ≤30
  · by_cases h2: ((length c.args:Nat) :Int) ≤6
    · have hk:=bAX d hl cs (i+1) g2;exact(aQh d i|>.t sd c sd sd|>.f (by simp;omega)|>.f (by simp;omega) tv).ends (Ends.eqv (bAW d c.name c.args i _ (by omega) (by omega) hk c.args 0 rfl) (by simp [aAZ,aDp,h1,h2]))
    ·exact Ends.eqv (aQh d i|>.t sd c sd sd|>.f (by simp;omega)|>.t (by simp;omega) tv) (by simp [aAZ,h2])
  ·exact Ends.eqv (aQh d i|>.t sd c sd sd|>.t (by simp;omega) tv) (by simp [aAZ,aDp,h1])
theorem aUa (d:DataD) :Pure PP 36 [DataD.av d] (.bool (aCm d)) :=by
 refine aP (by kernel_rfl) (by simp [keylessL,DataD.av,keyless,aD]) rfl ?_;unfold aCm;by_cases h1: ((length d.name:Nat) :Int) ≤30
 · by_cases h2: ((length d.cons:Nat) :Int) ≤8
   ·exact(aTX d|>.f (by simp;omega)|>.f (by simp;omega) tv).ends (Ends.eqv (bAX d (by omega) d.cons 0 rfl) (by simp [aDp,h1,h2]))
   ·exact Ends.eqv (aTX d|>.f (by simp;omega)|>.t (by simp;omega) tv) (by simp [h2])
 ·exact Ends.eqv (aTX d|>.t (by simp;omega) tv) (by simp [aDp,h1])
def pN :FunD→Bool
 | .mk n p f g b=>aDp n&&aDp p&&rO f&&rO g&&xM b
def mY (m:Mod) :Bool:=aDp m.name&&decide (((length m.datas:Nat) :Int) ≤6) &&decide (((length m.funs:Nat) :Int) ≤8) &&m.datas.all aCm&&m.funs.all pN
theorem bAY (m:Mod)(hl:m.funs.length≤8) :∀ (fs:List FunD) (i:Nat),m.funs.drop i=fs→Ends PP 0 (aKp m (i:Int)).as (.ret (.bool (fs.all pN))) (aG [] 0)
 | [],i,h=>by
  have:=aZ h;exact aCl m i|>.f sd tv
 | .mk n p (.mk f0 f1 f2 f3) (.mk g0 g1 g2 g3) (.mk b0 b1 b2 b3 b4) ::fs,i,h=>by
  obtain⟨g1',g2',g3'⟩ :=aY h;have hf:=aGN (.mk f0 f1 f2 f3);have hg:=aGN (.mk g0 g1 g2 g3);have hb:=aT9 (.mk b0 b1 b2 b3 b4);rw [all_cons];by_cases h1: ((length n:Nat) :Int) ≤30
  · by_cases h2: ((length p:Nat) :Int) ≤30
    · cases e1:rO (.mk f0 f1 f2 f3)
      case false=>
       rw [e1]at hf;exact Ends.eqv (aCl m i|>.t sd n p f0 f1 f2 f3 g0 g1 g2 g3 b0 b1 b2 b3 b4 sd sd|>.f (by simp;omega)|>.f (by simp;omega) false hf|>.t rfl tv) (by simp [pN,e1])
      rw [e1]at hf;cases e2:rO (.mk g0 g1 g2 g3)
      case false=>
       rw [e2]at hg;exact Ends.eqv (aCl m i|>.t sd n p f0 f1 f2 f3 g0 g1 g2 g3 b0 b1 b2 b3 b4 sd sd|>.f (by simp;omega)|>.f (by simp;omega) true hf|>.f rfl false hg|>.t rfl tv) (by simp [pN,e2])
      rw [e2]at hg;cases e3:xM (.mk b0 b1 b2 b3 b4)
      case false=>
       rw [e3]at hb;exact Ends.eqv (aCl m i|>.t sd n p f0 f1 f2 f3 g0 g1 g2 g3 b0 b1 b2 b3 b4 sd sd|>.f (by simp;omega)|>.f (by simp;omega) true hf|>.f rfl true hg|>.f rfl false hb|>.t rfl tv) (by simp [pN,e3])
      rw [e3]at hb;exact(aCl m i|>.t sd n p f0 f1 f2 f3 g0 g1 g2 g3 b0 b1 b2 b3 b4 sd sd|>.f (by simp;omega)|>.f (by simp;omega) true hf|>.f rfl true hg|>.f rfl true hb|>.f rfl sd tv).ends (Ends.eqv (bAY m hl fs (i+1) g2') (by simp [pN,aDp,h1,h2,e1,e2,e3]))
    ·exact Ends.eqv (aCl m i|>.t sd n p f0 f1 f2 f3 g0 g1 g2 g3 b0 b1 b2 b3 b4 sd sd|>.f (by simp;omega)|>.t (by simp;omega) tv) (by simp [pN,aDp,h2])
  ·exact Ends.eqv (aCl m i|>.t sd n p f0 f1 f2 f3 g0 g1 g2 g3 b0 b1 b2 b3 b4 sd sd|>.t (by simp;omega) tv) (by simp [pN,aDp,h1])
theorem bAZ (m:Mod)(hl:m.funs.length≤8)(hl2:m.datas.length≤6) :∀ (ds:List DataD) (i:Nat),m.datas.drop i=ds→Ends PP 0 (aKo m (i:Int)).as (.ret (.bool (ds.all aCm&&m.funs.all pN))) (aG [] 0)
 | [],i,h=>by
  have:=aZ h;exact(aOx m i|>.f sd tv).ends (Ends.eqv (bAY m hl m.funs 0 rfl) (by simp))
 | d::ds,i,h=>by
  obtain⟨g1,g2,g3⟩ :=aY h;have hp:=aUa d;rw [all_cons];cases hb:aCm d
  case true=>
   rw [hb]at hp;exact(aOx m i|>.t sd d sd sd true hp|>.f rfl sd tv).ends (Ends.eqv (bAZ m hl hl2 ds (i+1) g2) (by simp))
  rw [hb]at hp;exact Ends.eqv (aOx m i|>.t sd d sd sd false hp|>.t rfl tv) (by simp)
theorem aEk (m:Mod) :keyless (Mod.av m) =true:=by simp [Mod.av,keyless,keylessL,aD]
theorem aUb (m:Mod) :Pure PP 7 [Mod.av m] (.bool (mY m)) :=by
 refine aP (by kernel_rfl) (by simp [keylessL,aEk]) rfl ?_;unfold mY;by_cases h1: ((length m.name:Nat) :Int) ≤30
 · by_cases h2: ((length m.datas:Nat) :Int) ≤6
   · by_cases h3: ((length m.funs:Nat) :Int) ≤8
     ·exact(aQi m|>.f (by simp;omega)|>.f (by simp;omega)|>.f (by simp;omega) tv).ends (Ends.eqv (bAZ m (by omega) (by omega) m.datas 0 rfl) (by simp [aDp,h1,h2,h3]))
     ·exact Ends.eqv (aQi m|>.f (by simp;omega)|>.f (by simp;omega)|>.t (by simp;omega) tv) (by simp [h3])
   ·exact Ends.eqv (aQi m|>.f (by simp;omega)|>.t (by simp;omega) tv) (by simp [h2])
 ·exact Ends.eqv (aQi m|>.t (by simp;omega) tv) (by simp [aDp,h1])
def tW (c:ConD) :Bool:=cP c.name&&decide (((length c.args:Nat) :Int) ≤3) &&c.args.all aAt
def rQ (d:DataD) :Bool:=cP d.name&&bG (length d.cons) 1 5&&d.cons.all tW
def nG :FunD→Bool
 | .mk n p f g b=>eH n&&eH p&&aAt f&&aAt g&&aDi b
def aBO (m:Mod) :Bool:=eH m.name&&decide (((length m.datas:Nat) :Int) ≤4) &&bG (length m.funs) 1 5&&m.datas.all rQ&&m.funs.all nG
def rR :FunD→Prop
 | .mk _ _ f g b=>cK f<1000000∧cK g<1000000∧aCh b<1000000
def aGT (d:DataD) :Prop:=∀c∈d.cons,∀t∈c.args,cK t<1000000
theorem bA0 (d:DataD)(nm:aA)(tys:List Typ)(j:Int)(b:Bool)(hj: -1≤j∧j≤1000)(hl:tys.length<1000000)(hk:Ends PP 0 (aGQ d (j+1)).as (.ret (.bool b)) (aG [] 0)) :
  ∀ (ts:List Typ) (i:Nat),tys.drop i=ts→Ends PP 0 (aKk d nm tys (i:Int) j).as (.ret (.bool (ts.all aAt&&b))) (aG [] 0)
 | [],i,h=>by
  have:=aZ h;exact(aTV d nm tys i j|>.f sd sd tv).ends (Ends.eqv hk (by simp))
 | .mk o n s ps::ts,i,h=>by
  obtain⟨g1,g2,g3⟩ :=aY h;have hp:=aGM (.mk o n s ps);cases hb:aAt (.mk o n s ps)
  case true=>
   rw [hb]at hp;exact(aTV d nm tys i j|>.t sd o n s ps sd sd true hp|>.f rfl sd tv).ends (Ends.eqv (bA0 d nm tys j b hj hl hk ts (i+1) g2) (by simp [hb]))
  rw [hb]at hp;exact Ends.eqv (aTV d nm tys i j|>.t sd o n s ps sd sd false hp|>.t rfl tv) (by simp [hb])
theorem bA1 (d:DataD)(hl:d.cons.length≤5) :∀ (cs:List ConD) (i:Nat),d.cons.drop i=cs→Ends PP 0 (aGQ d (i:Int)).as (.ret (.bool (cs.all tW))) (aG [] 0)
 | [],i,h=>by
  have:=aZ h;exact aQf d i|>.f sd tv
 | c ::cs,i,h=>by
  obtain⟨g1,g2,g3⟩ :=aY h;have hi:i<d.cons.length:= (List.getElem?_eq_some_iff.1 g1).1;have hg:=mB c.name;rw [all_cons];cases e1:cP c.name
  case false=>
   rw [e1]at hg;exact Ends.eqv (aQf d i|>.t sd c sd sd false hg|>.t rfl tv) (by simp [tW,e1])
  rw [e1]at hg;by_cases h2: ((length c.args:Nat) :Int) ≤3
  · have hk:=bA1 d hl cs (i+1) g2;exact(aQf d i|>.t sd c sd sd true hg|>.f rfl|>.f (by simp;omega) tv).ends (Ends.eqv (bA0 d c.name c.args i _ (by omega) (by omega) hk c.args 0 rfl) (by simp [tW,e1,h2]))
  ·exact Ends.eqv (aQf d i|>.t sd c sd sd true hg|>.f rfl|>.t (by simp;omega) tv) (by simp [tW,h2])
theorem aUc (d:DataD) :Pure PP 41 [DataD.av d] (.bool (rQ d)) :=by
 refine aP (by kernel_rfl) (by simp [keylessL,DataD.av,keyless,aD]) rfl ?_;have hg:=mB d.name;have hi:=iW (length d.cons:Int) 1 5;unfold rQ;cases e1:cP d.name
 case false=>
  rw [e1]at hg;exact Ends.eqv (aTU d false hg|>.t rfl tv) (by simp)
 rw [e1]at hg;cases e2:bG (length d.cons:Int) 1 5
 case false=>
  rw [e2]at hi;exact Ends.eqv (aTU d true hg|>.f rfl false hi|>.t rfl tv) (by simp)
 rw [e2]at hi;have:=inB_iff.1 e2;exact(aTU d true hg|>.f rfl true hi|>.f rfl tv).ends (Ends.eqv (bA1 d (by omega) d.cons 0 rfl) (by simp))
theorem bA2 (m:Mod)(hl:m.funs.length≤5)(hf:∀f∈m.funs,rR f) :∀ (fs:List FunD) (i:Nat),m.funs.drop i=fs→Ends PP 0 (aKm m (i:Int)).as (.ret (.bool (fs.all nG))) (aG [] 0)
 | [],i,h=>by
  have:=aZ h;exact aGS m i|>.f sd tv
 | .mk n p (.mk f0 f1 f2 f3) (.mk g0 g1 g2 g3) (.mk b0 b1 b2 b3 b4) ::fs,i,h=>by
  obtain⟨g1',g2',g3'⟩ :=aY h;obtain⟨_,_,hb'⟩ :=hf _ (mem_of_getElem? g1');have hn:=kY n;have hp:=kY p;have hf1:=aGM (.mk f0 f1 f2 f3);have hg1:=aGM (.mk g0 g1 g2 g3);have hb1:=aTw (.mk b0 b1 b2 b3 b4) hb';have ih:=bA2 m hl hf fs (i+1) g2';rw [all_cons];cases e1:eH n
  case false=>rw [e1]at hn;exact Ends.eqv (aGS m i|>.t sd n p f0 f1 f2 f3 g0 g1 g2 g3 b0 b1 b2 b3 b4 sd sd false hn|>.t rfl tv) (by simp [nG,e1])
  rw [e1]at hn;cases e2:eH p
  case false=>rw [e2]at hp;exact Ends.eqv (aGS m i|>.t sd n p f0 f1 f2 f3 g0 g1 g2 g3 b0 b1 b2 b3 b4 sd sd true hn|>.f rfl false hp|>.t rfl tv) (by simp [nG,e2])
  rw [e2]at hp;cases e3:aAt (.mk f0 f1 f2 f3)
  case false=>rw [e3]at hf1;exact Ends.eqv (aGS m i|>.t sd n p f0 f1 f2 f3 g0 g1 g2 g3 b0 b1 b2 b3 b4 sd sd true hn|>.f rfl true hp|>.f rfl false hf1|>.t rfl tv) (by simp [nG,e3])
  rw [e3]at hf1;cases e4:aAt (.mk g0 g1 g2 g3)
  case false=>rw [e4]at hg1;exact Ends.eqv (aGS m i|>.t sd n p f0 f1 f2 f3 g0 g1 g2 g3 b0 b1 b2 b3 b4 sd sd true hn|>.f rfl true hp|>.f rfl true hf1|>.f rfl false hg1|>.t rfl tv) (by simp [nG,e4])
  rw [e4]at hg1;cases e5:aDi (.mk b0 b1 b2 b3 b4)
  case false=>rw [e5]at hb1;exact Ends.eqv (aGS m i|>.t sd n p f0 f1 f2 f3 g0 g1 g2 g3 b0 b1 b2 b3 b4 sd sd true hn|>.f rfl true hp|>.f rfl true hf1|>.f rfl true hg1|>.f rfl false hb1|>.t rfl tv) (by simp [nG,e5])
  rw [e5]at hb1;exact(aGS m i|>.t sd n p f0 f1 f2 f3 g0 g1 g2 g3 b0 b1 b2 b3 b4 sd sd true hn|>.f rfl true hp|>.f rfl true hf1|>.f rfl true hg1|>.f rfl true hb1|>.f rfl sd tv).ends (Ends.eqv ih (by simp [nG,e1,e2,e3,e4,e5]))
theorem bA3 (m:Mod)(hl:m.funs.length≤5)(hl2:m.datas.length≤4)(hf:∀f∈m.funs,rR f) :∀ (ds:List DataD) (i:Nat),m.datas.drop i=ds→Ends PP 0 (aKl m (i:Int)).as (.ret (.bool (ds.all rQ&&m.funs.all nG))) (aG [] 0)
 | [],i,h=>by
  have:=aZ h;exact(aTW m i|>.f sd tv).ends (Ends.eqv (bA2 m hl hf m.funs 0 rfl) (by simp))
 | d::ds,i,h=>by
  obtain⟨g1,g2,g3⟩ :=aY h;have hp:=aUc d;rw [all_cons];cases hb:rQ d
  case true=>
   rw [hb]at hp;exact(aTW m i|>.t sd d sd sd true hp|>.f rfl sd tv).ends (Ends.eqv (bA3 m hl hl2 hf ds (i+1) g2) (by simp))
  rw [hb]at hp;exact Ends.eqv (aTW m i|>.t sd d sd sd false hp|>.t rfl tv) (by simp)
theorem aUd (m:Mod)(hf:∀f∈m.funs,rR f) :Pure PP 8 [Mod.av m] (.bool (aBO m)) :=by
 refine aP (by kernel_rfl) (by simp [keylessL,aEk]) rfl ?_;have hn:=kY m.name;have hi:=iW (length m.funs:Int) 1 5;unfold aBO;cases e1:eH m.name
 case false=>rw [e1]at hn;exact Ends.eqv (aQg m false hn|>.t rfl tv) (by simp)
 rw [e1]at hn;by_cases h2: ((length m.datas:Nat) :Int) ≤4
 · cases e2:bG (length m.funs:Int) 1 5
   case false=>
    rw [e2]at hi;exact Ends.eqv (aQg m true hn|>.f rfl|>.f (by simp;omega) false hi|>.t rfl tv) (by simp)
   rw [e2]at hi;have:=inB_iff.1 e2;exact(aQg m true hn|>.f rfl|>.f (by simp;omega) true hi|>.f rfl tv).ends (Ends.eqv (bA3 m (by omega) (by omega) hf m.datas 0 rfl) (by simp [h2]))
 ·exact Ends.eqv (aQg m true hn|>.f rfl|>.t (by simp;omega) tv) (by simp [h2])
theorem aQp (l:List Typ)(hl:l.length<1000000)(hf:∀t∈l,cK t<1000000) :∀ (ts:List Typ) (i:Nat),l.drop i=ts→Ends PP 0 (aQl l (i:Int)).as (.ret (.bool (ts.all aAt))) (aG [] 0)
 | [],i,h=>by
  have:=aZ h;exact aT4 l i|>.f sd tv
 | .mk o n s ps::ts,i,h=>by
  obtain⟨g1,g2,g3⟩ :=aY h;have hp:=aGO (.mk o n s ps) (hf _ (mem_of_getElem? g1));cases hb:aAt (.mk o n s ps)
  case true=>
   rw [hb]at hp;exact(aT4 l i|>.t sd o n s ps sd sd true hp|>.f rfl sd tv).ends (Ends.eqv (aQp l hl hf ts (i+1) g2) (by simp [hb]))
  rw [hb]at hp;exact Ends.eqv (aT4 l i|>.t sd o n s ps sd sd false hp|>.t rfl tv) (by simp [hb])
theorem aWQ (l:List Typ)(hl:l.length<1000000)(hf:∀t∈l,cK t<1000000) :Pure PP 174 [.ilst 4 (Typs.av l) false,.func 175 [] []] (.bool (l.all aAt)) :=
 bU (s:=bAS l) (by kernel_rfl) (by kernel_rfl) (by simp [keylessL,keyless]) rfl ((aZP l).ends (aQp l hl hf l 0 rfl))
theorem aUe (c:ConD)(hf:∀t∈c.args,cK t<1000000) :Pure PP 173 [ConD.av c] (.bool (tW c)) :=by
 refine aP (by kernel_rfl) (by simp [keylessL,ConD.av,keyless,aD]) rfl ?_;have hg:=iG c.name;unfold tW;cases e1:cP c.name
 case false=>rw [e1]at hg;exact Ends.eqv (aT5 c false hg|>.f rfl tv) (by simp)
 rw [e1]at hg;by_cases h2: ((length c.args:Nat) :Int) ≤3
 ·exact Ends.eqv (aT5 c true hg|>.t rfl|>.t (by simp;omega) _ (aWQ c.args (by omega) hf) tv) (by simp [h2])
 ·exact Ends.eqv (aT5 c true hg|>.t rfl|>.f (by simp;omega) tv) (by simp [h2])
theorem aQq (l:List ConD)(hl:l.length<1000000)(hf:∀c∈l,∀t∈c.args,cK t<1000000) :∀ (ts:List ConD) (i:Nat),l.drop i=ts→Ends PP 0 (aQm l (i:Int)).as (.ret (.bool (ts.all tW))) (aG [] 0)
 | [],i,h=>by
  have:=aZ h;exact aT6 l i|>.f sd tv
 | c::ts,i,h=>by
  obtain⟨g1,g2,g3⟩ :=aY h;have hp:=aUe c (hf _ (mem_of_getElem? g1));cases hb:tW c
  case true=>
   rw [hb]at hp;exact(aT6 l i|>.t sd c sd sd true hp|>.f rfl sd tv).ends (Ends.eqv (aQq l hl hf ts (i+1) g2) (by simp [hb]))
  rw [hb]at hp;exact Ends.eqv (aT6 l i|>.t sd c sd sd false hp|>.t rfl tv) (by simp [hb])
theorem aWR (l:List ConD)(hl:l.length<1000000)(hf:∀c∈l,∀t∈c.args,cK t<1000000) :Pure PP 172 [.ilst 2 (map ConD.av l) false,.func 173 [] []] (.bool (l.all tW)) :=
 bU (s:=bAT l) (by kernel_rfl) (by kernel_rfl) (by simp [keylessL,keyless]) rfl ((aZQ l).ends (aQq l hl hf l 0 rfl))
def xN :Part→Bool
 | .data d=>rQ d
 | .fn f=>nG f
def aKv :Part→Prop
 | .data d=>aGT d
 | .fn f=>rR f
theorem aUf (d:DataD)(hf:aGT d) :Pure PP 120 [Part.av (.data d)] (.bool (rQ d)) :=by
 refine bU (s:=aYu d) (by kernel_rfl) (by kernel_rfl) (by simp [keylessL,aJY]) rfl ?_;have hg:=iG d.name;unfold rQ;cases e1:cP d.name
 case false=>rw [e1]at hg;exact Ends.eqv (aQn d false hg|>.f rfl tv) (by simp)
 rw [e1]at hg;by_cases h1: (1:Int) ≤ ((length d.cons:Nat) :Int)
 · by_cases h2: ((length d.cons:Nat) :Int) ≤5
   ·exact Ends.eqv (aQn d true hg|>.t rfl|>.t (by simp;omega)|>.t (by simp;omega) _ (aWR d.cons (by omega) hf) tv) (by simp [bG,h1,h2])
   ·exact Ends.eqv (aQn d true hg|>.t rfl|>.t (by simp;omega)|>.f (by simp;omega) tv) (by simp [bG,h2])
 ·exact Ends.eqv (aQn d true hg|>.t rfl|>.f (by simp;omega) tv) (by simp [bG,h1])
theorem aUg :∀ (f:FunD),rR f→Pure PP 120 [Part.av (.fn f)] (.bool (nG f))
 | .mk n p (.mk f0 f1 f2 f3) (.mk g0 g1 g2 g3) (.mk b0 b1 b2 b3 b4),hf=>by
  obtain⟨hf1',hg1',hb1'⟩ :=hf;refine bU (s:=aYv n p f0 f1 f2 f3 g0 g1 g2 g3 b0 b1 b2 b3 b4) (by kernel_rfl) (by kernel_rfl) (by simp [keylessL,aJY]) rfl ?_;have hn:=kC n;have hp:=kC p;have hf1:=aGO (.mk f0 f1 f2 f3) hf1';have hg1:=aGO (.mk g0 g1 g2 g3) hg1';have hb1:=aTL (.mk b0 b1 b2 b3 b4) hb1';unfold nG;cases e1:eH n
  case false=>rw [e1]at hn;exact Ends.eqv (aMP n p f0 f1 f2 f3 g0 g1 g2 g3 b0 b1 b2 b3 b4 false hn|>.f rfl tv) (by simp [e1])
  rw [e1]at hn;cases e2:eH p
  case false=>rw [e2]at hp;exact Ends.eqv (aMP n p f0 f1 f2 f3 g0 g1 g2 g3 b0 b1 b2 b3 b4 true hn|>.t rfl false hp|>.f rfl tv) (by simp [e2])
  rw [e2]at hp;cases e3:aAt (.mk f0 f1 f2 f3)
  case false=>rw [e3]at hf1;exact Ends.eqv (aMP n p f0 f1 f2 f3 g0 g1 g2 g3 b0 b1 b2 b3 b4 true hn|>.t rfl true hp|>.t rfl false hf1|>.f rfl tv) (by simp [e3])
  rw [e3]at hf1;cases e4:aAt (.mk g0 g1 g2 g3)
  case false=>rw [e4]at hg1;exact Ends.eqv (aMP n p f0 f1 f2 f3 g0 g1 g2 g3 b0 b1 b2 b3 b4 true hn|>.t rfl true hp|>.t rfl true hf1|>.t rfl false hg1|>.f rfl tv) (by simp [e4])
  rw [e4]at hg1;exact Ends.eqv (aMP n p f0 f1 f2 f3 g0 g1 g2 g3 b0 b1 b2 b3 b4 true hn|>.t rfl true hp|>.t rfl true hf1|>.t rfl true hg1|>.t rfl _ hb1 tv) (by cases e5:aDi (.mk b0 b1 b2 b3 b4) <;>simp [e1,e2,e3,e4,e5])
theorem aKw (l:List Part)(hl:l.length<1000000)(hf:∀x∈l,aKv x) :∀ (ts:List Part) (i:Nat),l.drop i=ts→Ends PP 0 (aKs l (i:Int)).as (.ret (.bool (ts.all xN))) (aG [] 0)
 | [],i,h=>by
  have:=aZ h;exact aT7 l i|>.f sd tv
 | .data d::ts,i,h=>by
  obtain⟨g1,g2,g3⟩ :=aY h;have hp:=aUf d (hf _ (mem_of_getElem? g1));rw [all_cons,xN];cases hb:rQ d
  case true=>
   rw [hb]at hp;exact(aT7 l i|>.t sd d sd sd true hp|>.f rfl sd tv).ends (Ends.eqv (aKw l hl hf ts (i+1) g2) (by simp))
  rw [hb]at hp;exact Ends.eqv (aT7 l i|>.t sd d sd sd false hp|>.t rfl tv) (by simp)
 | .fn (.mk n p (.mk f0 f1 f2 f3) (.mk g0 g1 g2 g3) (.mk b0 b1 b2 b3 b4)) ::ts,i,h=>by
  obtain⟨q1,q2,q3⟩ :=aY h;have hp:=aUg (.mk n p (.mk f0 f1 f2 f3) (.mk g0 g1 g2 g3) (.mk b0 b1 b2 b3 b4)) (hf _ (mem_of_getElem? q1));rw [all_cons,xN];cases hb:nG (.mk n p (.mk f0 f1 f2 f3) (.mk g0 g1 g2 g3) (.mk b0 b1 b2 b3 b4))
  case true=>
   rw [hb]at hp;exact(aYy l i|>.t sd n p f0 f1 f2 f3 g0 g1 g2 g3 b0 b1 b2 b3 b4 sd sd true hp|>.f rfl sd tv).ends (Ends.eqv (aKw l hl hf ts (i+1) q2) (by simp))
  rw [hb]at hp;exact Ends.eqv (aYy l i|>.t sd n p f0 f1 f2 f3 g0 g1 g2 g3 b0 b1 b2 b3 b4 sd sd false hp|>.t rfl tv) (by simp)
theorem aWS (l:List Part)(hl:l.length<1000000)(hf:∀x∈l,aKv x) :Pure PP 119 [.ilst 1 (Parts.av l) false,.func 120 [] []] (.bool (l.all xN)) :=
 bU (s:=aYw l) (by kernel_rfl) (by kernel_rfl) (by simp [keylessL,keyless]) rfl ((aWP l).ends (aKw l hl hf l 0 rfl))
theorem bA4 (m:Mod)(h5:m.funs.length≤5)(l0:List Part)(hl0:l0.length≤10)(hf0:∀x∈l0,aKv x)(hf:∀f∈m.funs,rR f) :∀ (fs:List FunD) (i:Nat) (l:List Part),m.funs.drop i=fs→l=l0++ (m.funs.take i).map Part.fn →
  Ends PP 0 (aKu m l (i:Int)).as (.ret (.int .i64 (if(l0.all xN&&m.funs.all nG) =true then 0 else 2))) (aG [] 0)
 | [],i,l,h,e=>by
  have:=aZ h;have e2:l=l0++m.funs.map Part.fn:=by rw [e,List.take_of_length_le this]
  have hp:=aWS l (by rw [e2];simp;omega) (fun x hx=>by
   rw [e2]at hx;rcases List.mem_append.1 hx with hx|hx
   ·exact hf0 x hx
   · obtain⟨f,hf',rfl⟩ :=List.mem_map.1 hx;exact hf f hf')
  have ea:l.all xN= (l0.all xN&&m.funs.all nG) :=by
   rw [e2,List.all_append,all_map];rfl
  rw [ea]at hp;cases hb: (l0.all xN&&m.funs.all nG)
  case true=>rw [hb]at hp;exact Ends.eqv (aT8 m l i|>.f sd true hp|>.f rfl tv) (by simp)
  rw [hb]at hp;exact Ends.eqv (aT8 m l i|>.f sd false hp|>.t rfl tv) (by simp)
 | .mk n p (.mk f0 f1 f2 f3) (.mk g0 g1 g2 g3) (.mk b0 b1 b2 b3 b4) ::fs,i,l,h,e=>by
  obtain⟨q1,q2,q3⟩ :=aY h;have hi:i<m.funs.length:= (List.getElem?_eq_some_iff.1 q1).1;refine(aT8 m l i|>.t sd n p f0 f1 f2 f3 g0 g1 g2 g3 b0 b1 b2 b3 b4 sd sd (by rw [e];simp;omega) sd ⟨aAh,trivial⟩).ends ?_;refine bA4 m h5 l0 hl0 hf0 hf fs (i+1) _ q2 ?_;rw [e,List.take_add_one,q1];simp
theorem bA5 (m:Mod)(h5:m.funs.length≤5)(h4:m.datas.length≤4)(hf:∀f∈m.funs,rR f)(hd:∀d∈m.datas,aGT d) :∀ (ds:List DataD) (i:Nat) (l:List Part),m.datas.drop i=ds→l= (m.datas.take i).map Part.data →
  Ends PP 0 (aKt m (i:Int) l).as (.ret (.int .i64 (if(m.datas.all rQ&&m.funs.all nG) =true then 0 else 2))) (aG [] 0)
 | [],i,l,h,e=>by
  have:=aZ h;have e2:l=m.datas.map Part.data:=by rw [e,List.take_of_length_le this]
  have E:=bA4 m h5 l (by rw [e2];simp;omega) (fun x hx=>by
   rw [e2]at hx;obtain⟨d,hd',rfl⟩ :=List.mem_map.1 hx;exact hd d hd') hf m.funs 0 l rfl (by simp)
  have ea:l.all xN=m.datas.all rQ:=by rw [e2,all_map];rfl
  rw [ea]at E;exact(aYz m i l|>.f sd ⟨aAh,trivial⟩).ends E
 | d::ds,i,l,h,e=>by
  obtain⟨g1,g2,g3⟩ :=aY h;have hi:i<m.datas.length:= (List.getElem?_eq_some_iff.1 g1).1;refine(aYz m i l|>.t sd d sd sd (by rw [e];simp;omega) sd ⟨aAh,trivial⟩).ends ?_;refine bA5 m h5 h4 hf hd ds (i+1) _ g2 ?_;rw [e,List.take_add_one,g1];simp
theorem aUh (m:Mod)(hf:∀f∈m.funs,rR f)(hd:∀d∈m.datas,aGT d) :Pure PP 47 [Mod.av m] (.int .i64 (if aBO m=true then 0 else 2)) :=by
 refine bU (s:=aYx m) (by kernel_rfl) (by kernel_rfl) (by simp [keylessL,aEk]) (by simp [keyless]) ?_;have hn:=kC m.name;unfold aBO;cases e1:eH m.name
 case false=>rw [e1]at hn;exact Ends.eqv (aMQ m false hn|>.t rfl tv) (by simp)
 rw [e1]at hn;by_cases h2: ((length m.datas:Nat) :Int) ≤4
 · by_cases h3: (1:Int) ≤ ((length m.funs:Nat) :Int)
   · by_cases h4: ((length m.funs:Nat) :Int) ≤5
     ·exact(aMQ m true hn|>.f rfl|>.f (by simp;omega)|>.f (by simp;omega)|>.f (by simp;omega) ⟨aAh,trivial⟩).ends (Ends.eqv (bA5 m (by omega) (by omega) hf hd m.datas 0 [] rfl (by simp)) (by simp [bG,h2,h3,h4]))
     ·exact Ends.eqv (aMQ m true hn|>.f rfl|>.f (by simp;omega)|>.f (by simp;omega)|>.t (by simp;omega) tv) (by simp [bG,h4])
   ·exact Ends.eqv (aMQ m true hn|>.f rfl|>.f (by simp;omega)|>.t (by simp;omega) tv) (by simp [bG,h3])
 ·exact Ends.eqv (aMQ m true hn|>.f rfl|>.t (by simp;omega) tv) (by simp [h2])
def pre (p:Prog) :Nat→Int→List Int
 |0,_=>[]
 | f+1,a=>match p.nodes[a.toNat]? with
  |some x=>a:: (x.kids.map (pre p f)).flatten
  |none=>[]
def aUi :List Int→Int→List Int→List Int
 |l,_,[] =>l
 |l,n,b::bs=>aUi (l.set b.toNat n) (n+1) bs
section
variable {p :Prog}
end
section
variable {p :Prog} {mf mc:List (Int×Int)} {F C:List Int} {to:List Int}
end
def aUj (x:Node)(i:Nat) :Nat→List Int→List Int→List Int
 |_,[],l=>l
 |j,k::ks,l=>aUj x i (j+1) ks (l.set k.toNat (l.getD i 0+aMB x j))
def aQr :Nat→List Node→List Int→List Int
 |_,[],l=>l
 |i,x::t,l=>aQr (i+1) t (aUj x i 0 x.kids l)
def aUk :List Int→List Int→List Int
 | [],l=>l
 |f::fs,l=>aUk fs (l.set f.toNat 1)
def aOB (p:Prog) :List Int:=aQr 0 p.nodes (aUk p.funs (List.replicate p.nodes.length 0))
theorem aDq {lo n:Int}:∀ {ks:List Int} {u v:List Bool},marks lo n ks u=some v→∀k∈ks,lo≤k∧k≤n-1
 | [],_,_,_,k,hk=>by cases hk
 | a ::ks,u,v,h,k,hk=>by
  simp only [marks]at h;split at h
  · rename_i g;rcases List.mem_cons.1 hk with rfl|hk
    ·exact inB_iff.1 g.1
    ·exact aDq h k hk
  ·cases h
theorem aOC {lo n k:Int}{ks:List Int}{u v:List Bool}(h:marks lo n (k::ks) u=some v) :u[k.toNat]?=some false∧marks lo n ks (u.set k.toNat true) =some v:=by
 simp only [marks]at h;split at h
 ·rename_i g;exact⟨g.2,h⟩
 ·cases h
theorem tX {p:Prog}{i:Nat}{x:Node}{t:List Node}{u v:List Bool}(h:eD p i (x::t) u=some v) :cY p x=true∧∃w,marks ((i:Int) +1) p.nodes.length x.kids u=some w∧eD p (i+1) t w=some v:=by
 simp only [eD]at h;split at h
 · rename_i g;split at h
   ·rename_i w hw;exact⟨g,w,hw,h⟩
   ·cases h
 ·cases h
theorem aDr {p:Prog}:∀ {t:List Node} {i:Nat} {u v:List Bool},eD p i t u=some v→v.length=u.length
 | [],i,u,v,h=>by simp only [eD,Option.some.injEq]at h;rw [h]
 | x::t,i,u,v,h=>by
  obtain⟨_,w,hw,h2⟩ :=tX h;rw [aDr h2,uP hw]
theorem xO {p:Prog}:∀ {t:List Node} {i:Nat} {u v:List Bool},eD p i t u=some v→∀ (j:Nat) (x:Node),t[j]?=some x→cY p x=true∧∀k∈x.kids,((i+j:Nat) :Int) <k∧k<p.nodes.length
 | [],i,u,v,h,j,x,hx=>by simp at hx
 | y::t,i,u,v,h,j,x,hx=>by
  obtain⟨g,w,hw,h2⟩ :=tX h;cases j with
  | zero=>
   simp at hx;subst hx;exact⟨g,fun k hk=>by have:=aDq hw k hk;omega⟩
  | succ j=>
   have:=xO h2 j x (by simpa using hx);exact⟨this.1,fun k hk=>by have:=this.2 k hk;omega⟩
structure Sprop (p:Prog) (S:List Int) :Prop where
 len:S.length=p.nodes.length
 root:∀f∈p.funs,S[f.toNat]?=some 1
 kid:∀ (i:Nat) (x:Node) (d:Nat) (k:Int),p.nodes[i]?=some x→x.kids[d]?=some k→∃s,S[i]?=some s∧S[k.toNat]?=some (s+aMB x d)
inductive Reach (p:Prog) :Nat→Nat→Prop where
 |refl (a:Nat) :Reach p a a
 |step {a i:Nat} {x:Node} {k:Int}:Reach p a i→p.nodes[i]?=some x→k∈x.kids→Reach p a k.toNat
theorem Reach.first {p:Prog}{a m:Nat}(h:Reach p a m) :m=a∨∃ (x:Node) (k:Int),p.nodes[a]?=some x∧k∈x.kids∧Reach p k.toNat m:=by
 induction h with
 |refl=>exact .inl rfl
 | step h hx hk ih=>
  rename_i i x k;rcases ih with rfl| ⟨y,q,h1,h2,h3⟩
  ·exact .inr ⟨x,k,hx,hk,Reach.refl _⟩
  ·exact .inr ⟨y,q,h1,h2,h3.step hx hk⟩
theorem aMS {p:Prog}(hs:aW p=true) :Pure PP 141 [Prog.av p] (.int .i64 (checkN (bP p))) :=by
 have h2:=aMx p hs;rw [aRG]at h2;exact h2
theorem aE5 {p:Prog}(hp:aW p=true)(hf:bP p=true) :FineP p:=by
 have hs:=hp;simp only [aW,and_eq_true,decide_eq_true_eq]at hs;obtain⟨⟨⟨⟨s1,s2⟩,s3⟩,_⟩,s5⟩ :=hs;simp only [bP,and_eq_true]at hf;obtain⟨_,hf⟩ :=hf;split at hf
 · rename_i u hu;unfold allT at hf;split at hf
   · rename_i v hv;refine⟨s1,s2,fun i x hx=>?_,fun f hf=>?_⟩
     · have:=xO hv i x hx;have h10:=List.all_eq_true.1 s5 x (mem_of_getElem? hx);simp only [cE,and_eq_true,decide_eq_true_eq]at h10;exact⟨aWL this.1,h10.1.1,fun k hk=>by have:=this.2 k hk;omega⟩
     ·have:=aDq hu f hf;omega
   ·cases hf
 ·cases hf
theorem aUl {n:Nat}{i:Int}(h0:0≤i)(h1:i<n) : (numsL 0 n)[i.toNat]?=some i:=by
 rw [aIt 0 (by omega)];congr 1;omega
def aMT (n:Nat)(m:List (Int×Int))(l:List Int) :Prop:=∀i:Int,0≤i→i<n→l[i.toNat]?=some (mAt m i)
theorem aQs (n:Nat) :aMT n (sM n) (numsL 0 n) :=fun i h0 h1=>by rw [aUl h0 h1,aYc h0 h1]
mutual
theorem aZR (cons:List Con){mc:List (Int×Int)}{C:List Int}(hC:aMT cons.length mc C) :∀ (q:Pat),fC cons q=true→aZJ C q=some (aKb mc q)
 | .mk f n s ps,h=>by
  rw [fC,and_eq_true]at h;have hps:=aKx cons hC ps h.2;have hN:aTg C f n=some (if f=6 then mAt mc n else n) :=by
   unfold aTg;by_cases hf:f=6
   · subst hf;have hh:=h.1;simp only [fG]at hh;simp [bG]at hh;obtain⟨⟨⟨h0,h1⟩,_⟩,_⟩ :=hh;rw [if_pos rfl,if_pos rfl,if_pos h0,hC n h0 (by omega)]
   ·rw [if_neg hf,if_neg hf]
  rw [aZJ,hN];simp only;rw [hps,aKb]
theorem aKx (cons:List Con){mc:List (Int×Int)}{C:List Int}(hC:aMT cons.length mc C) :∀ (ps:List Pat),dO cons ps=true→aEX C ps=some (uX mc ps)
 | [],_=>rfl
 | q::ps,h=>by
  rw [dO,and_eq_true]at h;rw [aEX,aZR cons hC q h.1];simp only;rw [aKx cons hC ps h.2,uX]
end
theorem aCn {cons:List Con}:∀ {ps:List Pat},(∀q∈ps,fC cons q=true) →dO cons ps=true
 | [],_=>rfl
 | q::ps,h=>by
  rw [dO,h q (mem_cons_self ..),aCn (fun x hx=>h x (mem_cons_of_mem _ hx))];rfl
theorem aII {c:Nat}:∀ {ps:List Pat},(∀q∈ps,bA q≤c) →aQ ps≤c*ps.length
 | [],_=>by simp [aQ]
 | q::ps,h=>by
  have h1:=h q (mem_cons_self ..);have h2:=aII (c:=c) (ps:=ps) (fun x hx=>h x (mem_cons_of_mem _ hx));simp only [aQ,length_cons];rw [Nat.mul_add,Nat.mul_one];omega
theorem aUm {p:Prog}{mf mc:List (Int×Int)}{F C:List Int}(hF:aMT p.funs.length mf F)(hC:aMT p.cons.length mc C)(hB:∀i:Int,0≤i→i<p.funs.length→0≤mAt mf i∧mAt mf i≤1000000)(hs:p.funs.length≤320){x:Node}(h:cY p x=true)(h10:x.pats.length≤10) :
  (aQ x.pats<1000000∧mN F C x.op x.n=some (bN mf mc x.op x.n) ∧aEX C x.pats=some (uX mc x.pats)) ∧nOk mf x:=by
 simp only [cY,and_eq_true,pC]at h;obtain⟨⟨⟨h1,_⟩,h2⟩,_⟩ :=h
 have hq:∀q∈x.pats,bA q≤12∧fC p.cons q=true:=fun q hq=>by
  have:=List.all_eq_true.1 h2 q hq;simpa [jY]using this
 have hps:aQ x.pats≤12*x.pats.length:=aII (fun q h=> (hq q h).1)
 have hr4:x.op=4→ -(p.funs.length:Int) ≤x.n∧x.n≤29:=fun e=>by
  rw [e]at h1;simp [fH,bG]at h1;omega
 have hr14:x.op=14→0≤x.n∧x.n<p.cons.length:=fun e=>by
  rw [e]at h1;simp [fH,bG]at h1;omega
 refine⟨⟨by omega,?_,aKx p.cons hC x.pats (aCn fun q h=> (hq q h).2)⟩,by omega,fun e hn=>?_⟩
 · unfold mN bN;by_cases h4:x.op=4
   · have hr:=hr4 h4;by_cases hn:x.n<0
     · have hb:=hB (-1-x.n) (by omega) (by omega);rw [if_pos ⟨h4,hn⟩,if_pos h4,if_neg (by omega),hF _ (by omega) (by omega)];simp only;rw [if_pos (by omega)]
     ·rw [if_neg (fun h=>hn h.2),if_neg (show ¬x.op=14 by omega),if_pos h4,if_pos (show 0≤x.n by omega)]
   · rw [if_neg (fun h=>h4 h.1),if_neg h4];by_cases h14:x.op=14
     · have hr:=hr14 h14;rw [if_pos h14,if_pos h14,if_pos hr.1,hC _ hr.1 hr.2]
     ·rw [if_neg h14,if_neg h14]
 · have hr:=hr4 e;have hb:=hB (-1-x.n) (by omega) (by omega);omega
theorem aRL {p:Prog}(hF:p.funs.length≤320){x:Node}(h:cY p x=true)(h10:x.pats.length≤10) :
  (aQ x.pats<1000000∧mN (numsL 0 p.funs.length) (numsL 0 p.cons.length) x.op x.n=some (bN (sM p.funs.length) (sM p.cons.length) x.op x.n) ∧aEX (numsL 0 p.cons.length) x.pats=some (uX (sM p.cons.length) x.pats)) ∧nOk (sM p.funs.length) x:=
 aUm (aQs _) (aQs _) (fun i h0 h1=>by rw [aYc h0 h1];omega) hF h h10
def hM (p:Prog)(i:Int) :List Int:=match p.nodes[i.toNat]? with
 |some x=>x.kids
 |none=>[]
section
variable {p :Prog}
theorem aCo {q:Int→List Int}(m:Int) :∀ (ks:List Int),(∀k∈ks,(q k).count m= [k].count m+ (((q k).map (hM p)).flatten).count m) →
  ((ks.map q).flatten).count m=ks.count m+ ((((ks.map q).flatten).map (hM p)).flatten).count m
 | [],_=>rfl
 | k::ks,h=>by
  have h1:=h k (mem_cons_self ..);have h2:=aCo m ks (fun x hx=>h x (mem_cons_of_mem _ hx));rw [map_cons,flatten_cons,count_append,List.map_append,List.flatten_append,count_append,h1,h2,show k::ks= [k] ++ks from rfl,count_append];omega
theorem aIJ (hp:FineP p)(m:Int) :∀ (f:Nat) (a:Int),0≤a→a<p.nodes.length→p.nodes.length-a.toNat≤f→ (pre p f a).count m= [a].count m+ (((pre p f a).map (hM p)).flatten).count m
 |0,a,ha,hn,hf=>by omega
 | f+1,a,ha,hn,hf=>by
  obtain⟨x,hx⟩ :∃x,p.nodes[a.toNat]?=some x:= ⟨_,getElem?_eq_getElem (by omega)⟩;obtain⟨_,_,hks⟩ :=hp.node _ _ hx;have e:pre p (f+1) a=a:: (x.kids.map (pre p f)).flatten:=by rw [pre,hx]
  have ek:hM p a=x.kids:=by unfold hM;rw [hx]
  have h2:=aCo (p:=p) m x.kids (fun k hk=>by
   have:=hks k hk;exact aIJ hp m f k (by omega) (by omega) (by omega))
  rw [e,map_cons,flatten_cons,count_append,ek,show a:: (x.kids.map (pre p f)).flatten= [a] ++ (x.kids.map (pre p f)).flatten from rfl,count_append,h2]
theorem aUn (hp:FineP p) :∀ (f:Nat) (a:Int),0≤a→a<p.nodes.length→∀y∈pre p f a,0≤y∧y<p.nodes.length
 |0,a,_,_,y,hy=>by cases hy
 | f +1,a,ha,hn,y,hy=>by
  obtain⟨x,hx⟩ :∃x,p.nodes[a.toNat]?=some x:= ⟨_,getElem?_eq_getElem (by omega)⟩;obtain⟨_,_,hks⟩ :=hp.node _ _ hx;have e:pre p (f+1) a=a:: (x.kids.map (pre p f)).flatten:=by rw [pre,hx]
  rw [e]at hy;rcases List.mem_cons.1 hy with rfl|hy
  ·exact⟨ha,hn⟩
  · obtain⟨l,hl,hy⟩ :=List.mem_flatten.1 hy;obtain⟨k,hk,rfl⟩ :=List.mem_map.1 hl;have:=hks k hk;exact aUn hp f k (by omega) (by omega) y hy
def aAu (u:List Bool)(m:Int) :Nat:=if u[m.toNat]?=some true then 1 else 0
theorem tG {lo n:Int}(hlo:0≤lo){m:Int}(hm:0≤m) :∀ {ks:List Int} {u v:List Bool},marks lo n ks u=some v→ks.count m+aAu u m=aAu v m
 | [],u,v,h=>by cases h;simp
 | k ::ks,u,v,h=>by
  have hk:=aDq h k (mem_cons_self ..);obtain⟨h1,h2⟩ :=aOC h;have h3:=tG hlo hm h2;rw [←h3,show k::ks= [k] ++ks from rfl,count_append];have hlt:= (List.getElem?_eq_some_iff.1 h1).1;by_cases e:k=m
  · subst e;have a1:aAu u k=0:=by unfold aAu;rw [h1];rfl
    have a2:aAu (u.set k.toNat true) k=1:=by unfold aAu;rw [List.getElem?_set_self hlt];rfl
    rw [a1,a2];simp;omega
  · have a1:aAu (u.set k.toNat true) m=aAu u m:=by unfold aAu;rw [List.getElem?_set_ne (by omega)]
    rw [a1,List.count_singleton,if_neg (by simpa using e)];omega
theorem rS {m:Int}(hm:0≤m) :∀ {t:List Node} {i:Nat} {u v:List Bool},eD p i t u=some v→ ((t.map Node.kids).flatten).count m+aAu u m=aAu v m
 | [],i,u,v,h=>by simp only [eD,Option.some.injEq]at h;subst h;simp
 | x::t,i,u,v,h=>by
  obtain⟨_,w,h1,h2⟩ :=tX h;have h3:=tG (by omega) hm h1;have h4:=rS hm h2;rw [map_cons,flatten_cons,count_append];omega
theorem aIK {m:Int}:∀ {t:List Node},((t.map Node.kids).flatten).count m≤1→∀ (i j:Nat) (x y:Node),t[i]?=some x→t[j]?=some y→m∈x.kids→m∈y.kids→i=j
 | [],_,i,j,x,y,hx,_,_,_=>by simp at hx
 | z ::t,h,i,j,x,y,hx,hy,mx,my=>by
  rw [map_cons,flatten_cons,count_append]at h;have inT:∀ {i:Nat} {x:Node},t[i]?=some x→m∈x.kids→0< ((t.map Node.kids).flatten).count m:=fun {i x} hx mx=>
   List.count_pos_iff.2 (List.mem_flatten.2 ⟨x.kids,List.mem_map.2 ⟨x,mem_of_getElem? hx,rfl⟩,mx⟩)
  cases i with
  | zero=>
   simp only [List.getElem?_cons_zero,Option.some.injEq]at hx;subst hx;cases j with
   |zero=>rfl
   | succ j=>
    simp only [getElem?_cons_succ]at hy;have:=inT hy my;have:=List.count_pos_iff.2 mx;omega
  | succ i=>
   simp only [getElem?_cons_succ]at hx;cases j with
   | zero=>
    simp only [List.getElem?_cons_zero,Option.some.injEq]at hy;subst hy;have:=inT hx mx;have:=List.count_pos_iff.2 my;omega
   | succ j=>
    simp only [getElem?_cons_succ]at hy;rw [aIK (by omega) i j x y hx hy mx my]
theorem aQt {m:Int}:∀ {t:List Node} {i:Nat} {x:Node},t[i]?=some x→x.kids.count m≤ ((t.map Node.kids).flatten).count m
 | [],i,x,hx=>by simp at hx
 | z::t,0,x,hx=>by
  simp only [List.getElem?_cons_zero,Option.some.injEq]at hx;subst hx;rw [map_cons,flatten_cons,count_append];omega
 | z::t,i+1,x,hx=>by
  simp only [getElem?_cons_succ]at hx;have:=aQt (m:=m) hx;rw [map_cons,flatten_cons,count_append];omega
theorem aQu {m i:Int}:∀ (L:List Int),(∀j∈L,m∈hM p j→j=i) → ((L.map (hM p)).flatten).count m≤L.count i* (hM p i).count m
 | [],_=>by simp
 | j ::L,h=>by
  have h1:=aQu L (fun x hx=>h x (mem_cons_of_mem _ hx));rw [map_cons,flatten_cons,count_append,show j::L= [j] ++L from rfl,count_append,Nat.add_mul];by_cases hm:m∈hM p j
  · have:=h j (mem_cons_self ..) hm;subst this;simp;exact h1
  · rw [List.count_eq_zero.2 hm];exact Nat.le_trans (by simpa using h1) (Nat.le_add_left ..)
theorem bCL (hp:FineP p)(hK:∀m:Int,0≤m→p.funs.count m+ ((p.nodes.map Node.kids).flatten).count m≤1){L:List Int}(hin:∀x∈L,0≤x∧x<p.nodes.length)(hL:∀m:Int,L.count m=p.funs.count m+ ((L.map (hM p)).flatten).count m) :∀ (b m:Nat),m≤b→L.count (m:Int) ≤1:=by
 intro b
 induction b with
 | zero=>
  intro m hmb;have hm:m=0:=by omega
  subst hm;have e:=hL ((0:Nat) :Int);have z: ((L.map (hM p)).flatten).count ((0:Nat) :Int) =0:=by
   refine List.count_eq_zero.2 (fun h=>?_);obtain⟨l,hl,hy⟩ :=List.mem_flatten.1 h;obtain⟨j,hj,rfl⟩ :=List.mem_map.1 hl;unfold hM at hy;split at hy
   · rename_i x hx;have:= (hp.node _ _ hx).2.2 _ hy;omega
   ·cases hy
  have:=hK ((0:Nat) :Int) (by omega);omega
 | succ b ih=>
  intro m hmb;have e:=hL (m:Int);have hk:=hK (m:Int) (by omega);by_cases hz: ((L.map (hM p)).flatten).count (m:Int) =0
  ·omega
  · have hpos:=List.count_pos_iff.1 (Nat.pos_of_ne_zero hz);obtain⟨l,hl,hy⟩ :=List.mem_flatten.1 hpos;obtain⟨i,hi,rfl⟩ :=List.mem_map.1 hl;have hir:=hin i hi;obtain⟨x,hx⟩ :∃x,p.nodes[i.toNat]?=some x:= ⟨_,getElem?_eq_getElem (by omega)⟩;have ei:hM p i=x.kids:=by unfold hM;rw [hx]
    rw [ei]at hy;have him:= (hp.node _ _ hx).2.2 _ hy;have hci:L.count i≤1:=by
     have:=ih i.toNat (by omega);rwa [show((i.toNat:Nat) :Int) =i by omega]at this
    have hle:=aQu (p:=p) (m:= (m:Int)) (i:=i) L (fun j hj hmj=>by
     have hjr:=hin j hj;obtain⟨y,hy'⟩ :∃y,p.nodes[j.toNat]?=some y:= ⟨_,getElem?_eq_getElem (by omega)⟩;have ej:hM p j=y.kids:=by unfold hM;rw [hy']
     rw [ej]at hmj;have:=aIK (by omega) _ _ y x hy' hx hmj hy;omega)
    rw [ei]at hle;have hkl:=aQt (m:= (m:Int)) hx;have:L.count i*x.kids.count (m:Int) ≤1*x.kids.count (m:Int) :=Nat.mul_le_mul_right _ hci;omega
theorem aA0 :∀ (n:Nat) (l:List Nat),l.Nodup→ (∀x∈l,x<n) →l.length≤n
 |0,[],_,_=>by simp
 |0,x::l,_,h=>by have:=h x (mem_cons_self ..);omega
 | n+1,l,hd,h=>by
  by_cases hm:n∈l
  · have h1:=aA0 n (l.erase n) (hd.erase n) (fun x hx=>by
     have:=h x (List.mem_of_mem_erase hx)
     have hne:x≠n:=fun e=>by
      subst e;exact hd.not_mem_erase hx
     omega)
    rw [List.length_erase_of_mem hm]at h1;omega
  · have:=aA0 n l hd (fun x hx=>by
     have:=h x hx;have hne:x≠n:=fun e=>hm (e ▸ hx);omega)
    omega
end
theorem aGU {L:List Int}(h:∀a,L.count a≤1) :L.Nodup:=List.nodup_iff_count.2 h
theorem aQv :∀ (n:Nat) (l:List Int),(∀i:Nat,i<n→ (i:Int) ∈l) →n≤l.length
 |0,l,_=>Nat.zero_le _
 | n+1,l,h=>by
  have h0:=h n (Nat.lt_succ_self n);have h1:=aQv n (l.erase (n:Int)) (fun i hi=> (List.mem_erase_of_ne (by omega)).2 (h i (by omega)));rw [List.length_erase_of_mem h0]at h1;have:=List.length_pos_of_mem h0;omega
theorem all_in {p:Prog}(hp:FineP p)(hK:∀m:Nat,m<p.nodes.length→p.funs.count (m:Int) + ((p.nodes.map Node.kids).flatten).count (m:Int) =1){L:List Int}(hL:∀m:Int,L.count m=p.funs.count m+ ((L.map (hM p)).flatten).count m) :∀ (b m:Nat),m≤b→m<p.nodes.length→ (m:Int) ∈L:=by
 intro b
 induction b with
 | zero=>
  intro m hmb hm;have e:=hL (m:Int);have hk:=hK m hm;by_cases hz: ((p.nodes.map Node.kids).flatten).count (m:Int) =0
  ·exact List.count_pos_iff.1 (by omega)
  · obtain⟨l,hl,hy⟩ :=List.mem_flatten.1 (List.count_pos_iff.1 (Nat.pos_of_ne_zero hz));obtain⟨x,hx,rfl⟩ :=List.mem_map.1 hl;obtain⟨i,hi⟩ :=List.mem_iff_getElem?.1 hx;have:= (hp.node _ _ hi).2.2 _ hy;omega
 | succ b ih=>
  intro m hmb hm;have e:=hL (m:Int);have hk:=hK m hm;by_cases hz: ((p.nodes.map Node.kids).flatten).count (m:Int) =0
  ·exact List.count_pos_iff.1 (by omega)
  · obtain⟨l,hl,hy⟩ :=List.mem_flatten.1 (List.count_pos_iff.1 (Nat.pos_of_ne_zero hz));obtain⟨x,hx,rfl⟩ :=List.mem_map.1 hl;obtain⟨i,hi⟩ :=List.mem_iff_getElem?.1 hx;have him:= (hp.node _ _ hi).2.2 _ hy;have hiL:=ih i (by omega) (by omega);have: (m:Int) ∈ (L.map (hM p)).flatten:=List.mem_flatten.2 ⟨x.kids,List.mem_map.2 ⟨(i:Int),hiL,by unfold hM;rw [Int.toNat_natCast,hi]⟩,hy⟩;have:=List.count_pos_iff.2 this;exact List.count_pos_iff.1 (by omega)
theorem aOD {p:Prog}(hs:aW p=true)(hf:bP p=true) : ((p.funs.map (pre p p.nodes.length)).flatten).Nodup∧ ((p.funs.map (pre p p.nodes.length)).flatten).length=p.nodes.length∧ (∀x∈ (p.funs.map (pre p p.nodes.length)).flatten,0≤x∧x<p.nodes.length) ∧
  (∀ (i:Nat) (x:Node),p.nodes[i]?=some x→cY p x=true) :=by
 have hp:=aE5 hs hf;simp only [bP,and_eq_true]at hf;obtain⟨_,hf⟩ :=hf;split at hf
 · rename_i u hu;unfold allT at hf;split at hf
   · rename_i v hv
     have hK:∀m:Int,0≤m→p.funs.count m+ ((p.nodes.map Node.kids).flatten).count m≤1:=fun m hm=>by
      have h1:=tG (by omega) hm hu;have h2:=rS hm hv;have h3:aAu v m≤1:=by unfold aAu;split<;>omega
      omega
     have hin:∀x∈ (p.funs.map (pre p p.nodes.length)).flatten,0≤x∧x<p.nodes.length:=fun x hx=>by
      obtain⟨l,hl,hy⟩ :=List.mem_flatten.1 hx;obtain⟨k,hk,rfl⟩ :=List.mem_map.1 hl;have:=hp.funs k hk;exact aUn hp _ k this.1 this.2 x hy
     have hL:∀m:Int,((p.funs.map (pre p p.nodes.length)).flatten).count m=p.funs.count m+ ((((p.funs.map (pre p p.nodes.length)).flatten).map (hM p)).flatten).count m:=fun m=>aCo m p.funs (fun k hk=>by
      have:=hp.funs k hk;exact aIJ hp m _ k this.1 this.2 (by omega))
     have hd: ((p.funs.map (pre p p.nodes.length)).flatten).Nodup:=aGU (fun a=>by
      by_cases ha:a∈ (p.funs.map (pre p p.nodes.length)).flatten
      · have hr:=hin a ha;have:=bCL hp hK hin hL a.toNat a.toNat (Nat.le_refl _);rwa [show((a.toNat:Nat) :Int) =a by omega]at this
      ·rw [List.count_eq_zero.2 ha];omega)
     refine⟨hd,?_,hin,fun i x hx=> (xO hv i x hx).1⟩;have hd2: (((p.funs.map (pre p p.nodes.length)).flatten).map Int.toNat).Nodup:=by
      rw [List.nodup_iff_pairwise_ne]at hd ⊢;refine List.pairwise_map.2 (hd.imp_of_mem (fun {a b} ha hb hne e=>?_));have:=hin a ha;have:=hin b hb;exact hne (by omega)
     have:=aA0 p.nodes.length _ hd2 (fun x hx=>by
      obtain⟨y,hy,rfl⟩ :=List.mem_map.1 hx;have:=hin y hy;omega)
     rw [List.length_map]at this;refine Nat.le_antisymm this (aQv _ _ (fun i hi=>all_in hp (fun m hm=>?_) hL i i (Nat.le_refl _) hi));have h1:=tG (m:= (m:Int)) (by omega) (by omega) hu;have h2:=rS (m:= (m:Int)) (by omega) hv;have hl1:=uP hu;have hl2:=aDr hv;rw [List.length_replicate]at hl1;have h3:aAu (List.replicate p.nodes.length false) (m:Int) =0:=by
      unfold aAu;rw [Int.toNat_natCast,List.getElem?_replicate,if_pos hm];rfl
     have h4:aAu v (m:Int) =1:=by
      unfold aAu;have hlt:m<v.length:=by omega
      have:=List.all_eq_true.1 hf _ (List.getElem_mem hlt);rw [Int.toNat_natCast,getElem?_eq_getElem hlt,this];rfl
     omega
   ·cases hf
 ·cases hf
def dX (s:aA) :List Con→Int→Int
 | [],_=> -1
 |c::t,i=>if c.name=s then i else dX s t (i+1)
theorem aE6 (s:aA) :∀ (l:List Con) (i:Int),0≤i→dX s l i= -1∨ (i≤dX s l i∧dX s l i<i+l.length∧∃d,l[(dX s l i-i).toNat]?=some d∧d.name=s)
 | [],i,h=>.inl rfl
 | c ::t,i,h=>by
  simp only [dX];split
  · rename_i e;exact .inr ⟨by omega,by simp;omega,c,by simp,e⟩
  · rcases aE6 s t (i+1) (by omega)with g| ⟨g1,g2,d,g3,g4⟩
    ·exact .inl g
    · refine .inr ⟨by omega,by rw [length_cons];omega,d,?_,g4⟩;rw [show(dX s t (i+1) -i).toNat= (dX s t (i+1) - (i+1)).toNat+1 by omega,getElem?_cons_succ];exact g3
abbrev aQw (a:Nat)(b:Prog):=oC a [iN b.nodes,iI b.funs,nI b.main,iC b.cons]
abbrev aIL (a b:Int)(c:aA)(d:List Pat):AV:=.agg [nI a,nI b,aD c,iP d]
def aKy(a:List Int)(b:Int):TS:=⟨tf 74 26 [(0,iI a),(1,iI a),(4,bV false),(5,nI b)] [kc f74 116,kl f74 116,.inBlock 0,kc f74 15],[],[],0⟩
def aKz(a b:Int)(c:aA)(d:List Pat)(e:Int):TS:=⟨tf 137 53 [kp 2 0,kp 3 1,(4,bV false),(5,nI e)] [kc f137 116,kl f137 116,.inBlock 0,kc f137 15],[],[oC 0 [nI a,nI b,aD c,iP d],oC 1 [nI a,nI b,aD c,iP d]],2⟩
def aKA(a:Node)(b:Int):TS:=⟨tf 75 54 [kp 2 0,kp 3 1,(4,bV false),(5,nI b)] [kc f75 116,kl f75 116,.inBlock 0,kc f75 15],[],[oC 0 [nI a.op,nI a.n,iI a.kids,iP a.pats],oC 1 [nI a.op,nI a.n,iI a.kids,iP a.pats]],2⟩
def aKB(a:Prog)(b:Int):TS:=⟨tf 13 75 [kp 2 0,kp 3 1,(4,bV false),(5,nI b)] [kc f13 116,kl f13 116,.inBlock 0,kc f13 15],[],[aQw 0 a,aQw 1 a],2⟩
def aKC(a:Prog)(b:Int):TS:=⟨tf 13 75 [kp 2 0,kp 3 1,(4,bV false),(6,nI b)] [kc f13 244,kl f13 244,.inBlock 2,kc f13 31],[],[aQw 0 a,aQw 1 a],2⟩
def aWT (a:List Int):=fun b=>(tT 0 (start PP 74 [iI a,iI a])<|gl 8 bM a<|gl 1 bM a<|.b 2 10 ((a.length:Int) != (a.length:Int)) .x<|.W 9 0 [] (aKy a 0))|>.f b tv
def aYA(b:List Int)(a:Int):=tT 0 (aKy b a)<|gl 5 bM b<|gd 2 14 (a< (b.length:Int)) (.y fun c:Int=>.i [rn 5,.reg (.d::.d::.ans (.idx (bM c))::rd 3 [.ans (.idx (bM c)),.d,.d])] [hA (0≤a),.a (((b)[a.toNat]?) =some c) (fF (f:=bM)),hA (0≤a),.a (((b)[a.toNat]?) =some c) (fF (f:=bM))]<|.b 0 25 (c != c) .x<|gw 6 16 (a+1)<|.W 3 0 [] (aKy b (a+1)))<|gE 7 0 (bV true)
def aWU (c d:Int)(a:aA)(b:List Pat):=fun e f g i=>(tT 0 (start PP 137 [aIL c d a b,aIL c d a b])<|.b 15 11 (c != c) .x<|.b 7 18 (d != d) .x<|.b 7 25 (!(bB a.length (aC a) a.length (aC a))) .x<|gm 2 aF b<|gm 2 aF b<|.b 3 33 ((b.length:Int) != (b.length:Int)) .x<|.W 9 2 [0,1] (aKz c d a b 0))|>.f e|>.f f|>.f g|>.f i tv
def aYB(i j:Int)(k:aA)(b:List Pat)(a:Int):=tT 0 (aKz i j k b a)<|gm 6 aF b<|gd 2 38 (a< (b.length:Int)) (.y fun c:Int=>.y fun d:Int=>.y fun e:aA=>.y fun f:List Pat=>.y fun g:Bool=>.i [rn 5,.reg (rd 3 (.ans (.idx (Pat.av (Pat.mk c d e f)))::rd 4 [.ans (.idx (Pat.av (Pat.mk c d e f))),.d,.pure (bV g),.d]))] [hA (0≤a),.a (((b)[a.toNat]?) =some (Pat.mk c d e f)) (fQ aF),hA (0≤a),.a (((b)[a.toNat]?) =some (Pat.mk c d e f)) (fQ aF),hA (Pure PP 137 [aIL c d e f,aIL c d e f] (bV g))]<|.b 0 52 (!g) .x<|gw 6 40 (a+1)<|.W 3 2 [0,1] (aKz i j k b (a+1)))<|gE 7 2 (bV true)
def aWV (a:Node):=fun b c d e f g=>(tT 0 (start PP 75 [Node.av a,Node.av a])<|.b 15 11 (a.op != a.op) .x<|.b 7 18 (a.n != a.n) .x<|cD 4 74 [iI a.kids,iI a.kids]<|fun b=>.b 3 26 (!b) .x<|gm 2 aF a.pats<|gm 2 aF a.pats<|.b 3 34 ((a.pats.length:Int) != (a.pats.length:Int)) .x<|.W 9 2 [0,1] (aKA a 0))|>.f c|>.f d b e|>.f f|>.f g tv
def aYC(b:Node)(a:Int):=tT 0 (aKA b a)<|gm 6 aF b.pats<|gd 2 39 (a< (b.pats.length:Int)) (.y fun c:Int=>.y fun d:Int=>.y fun e:aA=>.y fun f:List Pat=>.y fun g:Bool=>.i [rn 5,.reg (rd 3 (.ans (.idx (Pat.av (Pat.mk c d e f)))::rd 4 [.ans (.idx (Pat.av (Pat.mk c d e f))),.d,.pure (bV g),.d]))] [hA (0≤a),.a (((b.pats)[a.toNat]?) =some (Pat.mk c d e f)) (fQ aF),hA (0≤a),.a (((b.pats)[a.toNat]?) =some (Pat.mk c d e f)) (fQ aF),hA (Pure PP 137 [aIL c d e f,aIL c d e f] (bV g))]<|.b 0 53 (!g) .x<|gw 6 41 (a+1)<|.W 3 2 [0,1] (aKA b (a+1)))<|gE 7 2 (bV true)
def aWW (a:Prog):=fun b c d e f g=>(tT 0 (start PP 13 [Prog.av a,Prog.av a])<|gl 11 Node.av a.nodes<|gl 2 Node.av a.nodes<|.b 2 14 ((a.nodes.length:Int) != (a.nodes.length:Int)) .x<|cD 4 74 [iI a.funs,iI a.funs]<|fun b=>.b 3 22 (!b) .x<|.b 7 29 (a.main != a.main) .x<|gl 2 Con.av a.cons<|gl 2 Con.av a.cons<|.b 3 37 ((a.cons.length:Int) != (a.cons.length:Int)) .x<|.W 9 2 [0,1] (aKB a 0))|>.f c b d|>.f e|>.f f|>.f g tv
def aYD(c:Prog)(b:Int):=tT 0 (aKB c b)<|gl 6 Con.av c.cons<|gd 2 42 (b< (c.cons.length:Int)) (.y fun a:Con=>.i [rn 5,.reg (rd 3 (.ans (.idx (Con.av a))::rd 4 [.ans (.idx (Con.av a)),.d,.d]))] [hA (0≤b),.a (((c.cons)[b.toNat]?) =some a) (fF (f:=Con.av)),hA (0≤b),.a (((c.cons)[b.toNat]?) =some a) (fF (f:=Con.av))]<|.b 0 55 (!((bB a.name.length (aC a.name) a.name.length (aC a.name)) && ((a.args==a.args) &&true))) .x<|gw 6 44 (b+1)<|.W 3 2 [0,1] (aKB c (b+1)))<|.W 9 2 [0,1] (aKC c 0)
def aYE(b:Prog)(a:Int):=tT 0 (aKC b a)<|gl 6 Node.av b.nodes<|gd 2 60 (a< (b.nodes.length:Int)) (.y fun c:Node=>.y fun d:Bool=>.i [rn 5,.reg (rd 3 (.ans (.idx (Node.av c))::rd 4 [.ans (.idx (Node.av c)),.d,.pure (bV d),.d]))] [hA (0≤a),.a (((b.nodes)[a.toNat]?) =some c) (fF (f:=Node.av)),hA (0≤a),.a (((b.nodes)[a.toNat]?) =some c) (fF (f:=Node.av)),hA (Pure PP 75 [Node.av c,Node.av c] (bV d))]<|.b 0 74 (!d) .x<|gw 6 62 (a+1)<|.W 3 2 [0,1] (aKC b (a+1)))<|gE 7 2 (bV true)
theorem rT (s:aA) :bB (length s) (aC s) (length s) (aC s) =true:=by rw [fR];simp
theorem aMU (a:List Int)(ha:a.length<1000000) :∀ (t:List Int) (i:Nat),a.drop i=t→Ends PP 0 (aKy a (i:Int)).as (.ret (.bool true)) (aG [] 0)
 | [],i,h=>by
  have:=aZ h;exact aYA a i|>.f sd tv
 | y::t,i,h=>by
  obtain⟨g1,g2,g3⟩ :=aY h;have h1:=aYA a i|>.t sd y sd sd sd sd|>.f (by simp) sd tv;exact h1.ends (aMU a ha t (i+1) g2)
theorem aMV (a:List Int)(ha:a.length<1000000) :Pure PP 74 [.ilst 1 (map bM a) false,.ilst 1 (map bM a) false] (.bool true) :=
 aP (by kernel_rfl) rfl rfl ((aWT a (by simp)).ends (aMU a ha a 0 rfl))
theorem aMW (f n:Int)(s:aA)(ps:List Pat)(hl:ps.length<1000000)(ih:∀p∈ps,Pure PP 137 [Pat.av p,Pat.av p] (.bool true)) :∀ (t:List Pat) (i:Nat),ps.drop i=t→Ends PP 0 (aKz f n s ps (i:Int)).as (.ret (.bool true)) (aG [] 0)
 | [],i,h=>by
  have:=aZ h;exact aYB f n s ps i|>.f sd tv
 | .mk f1 n1 s1 ps1::t,i,h=>by
  obtain⟨g1,g2,g3⟩ :=aY h;have h1:=aYB f n s ps i|>.t sd f1 n1 s1 ps1 true sd sd sd sd (ih (.mk f1 n1 s1 ps1) (mem_of_getElem? g1))|>.f rfl sd tv;exact h1.ends (aMW f n s ps hl ih t (i+1) g2)
mutual
theorem aUo :∀ (q:Pat),bA q<1000000→Pure PP 137 [Pat.av q,Pat.av q] (.bool true)
 | .mk f n s ps,h=>by
  simp only [bA]at h;have:=dN ps;exact aP (by kernel_rfl) (by simp [keylessL,lO]) rfl ((aWU f n s ps (by simp) (by simp) (by rw [rT];rfl) (by simp)).ends (aMW f n s ps (by omega) (aKD ps (by omega)) ps 0 rfl))
theorem aKD :∀ (ps:List Pat),aQ ps<1000000→∀p∈ps,Pure PP 137 [Pat.av p,Pat.av p] (.bool true)
 | [],_,p,hp=>by cases hp
 | q::ps,h,p,hp=>by
  simp only [aQ]at h;rcases List.mem_cons.1 hp with e|hp
  ·rw [e];exact aUo q (by omega)
  ·exact aKD ps (by omega) p hp
end
theorem aMX (x:Node)(hl:x.pats.length<1000000)(ih:∀p∈x.pats,Pure PP 137 [Pat.av p,Pat.av p] (.bool true)) :∀ (t:List Pat) (i:Nat),x.pats.drop i=t→Ends PP 0 (aKA x (i:Int)).as (.ret (.bool true)) (aG [] 0)
 | [],i,h=>by
  have:=aZ h;exact aYC x i|>.f sd tv
 | .mk f1 n1 s1 ps1::t,i,h=>by
  obtain⟨g1,g2,g3⟩ :=aY h;have h1:=aYC x i|>.t sd f1 n1 s1 ps1 true sd sd sd sd (ih (.mk f1 n1 s1 ps1) (mem_of_getElem? g1))|>.f rfl sd tv;exact h1.ends (aMX x hl ih t (i+1) g2)
def aRM (x:Node) :Prop:=x.kids.length<1000000∧aQ x.pats<1000000
structure FitP (q:Prog) :Prop where
 nodes:q.nodes.length≤1000000
 funs:q.funs.length<1000000
 cons:q.cons.length<1000000
 node:∀x∈q.nodes,aRM x
theorem aUp (x:Node)(h:aRM x) :Pure PP 75 [Node.av x,Node.av x] (.bool true) :=by
 have:=dN x.pats;have h1:=h.1;have h2:=h.2;exact aP (by kernel_rfl) (by simp [keylessL,Node.av,keyless]) rfl ((aWV x true (by simp) (by simp) (aMV x.kids h.1) rfl (by simp)).ends (aMX x (by omega) (aKD x.pats h.2) x.pats 0 rfl))
theorem aYF (p:Prog)(hp:FitP p) :∀ (t:List Node) (i:Nat),p.nodes.drop i=t→Ends PP 0 (aKC p (i:Int)).as (.ret (.bool true)) (aG [] 0)
 | [],i,h=>by
  have:=aZ h;exact aYE p i|>.f sd tv
 | x::t,i,h=>by
  obtain⟨g1,g2,g3⟩ :=aY h;have hn:=hp.nodes;have h1:=aYE p i|>.t sd x true sd sd sd sd (aUp x (hp.node x (mem_of_getElem? g1)))|>.f rfl sd tv;exact h1.ends (aYF p hp t (i+1) g2)
theorem aYG (p:Prog)(hp:FitP p) :∀ (t:List Con) (i:Nat),p.cons.drop i=t→Ends PP 0 (aKB p (i:Int)).as (.ret (.bool true)) (aG [] 0)
 | [],i,h=>by
  have:=aZ h;exact(aYD p i|>.f sd tv).ends (aYF p hp p.nodes 0 rfl)
 | c::t,i,h=>by
  obtain⟨g1,g2,g3⟩ :=aY h;have hn:=hp.cons;have h1:=aYD p i|>.t sd c sd sd sd sd|>.f (by rw [rT];simp) sd tv;exact h1.ends (aYG p hp t (i+1) g2)
theorem aOE (p:Prog)(hp:FitP p) :Pure PP 13 [Prog.av p,Prog.av p] (.bool true) :=
 aP (by kernel_rfl) (by simp [keylessL,Prog.av,keyless]) rfl ((aWW p true (by simp) (aMV p.funs hp.funs) rfl (by simp) (by simp)).ends (aYG p hp p.cons 0 rfl))
theorem aRN {f:Nat}{args:List AV}{v v':AV}(h:Pure PP f args v)(hv:∀ (E:Emb) (cv:Value),VR E v cv→VR E v' cv) :Pure PP f args v':=fun hh=>by
 obtain⟨g,hg,he⟩ :=h hh;exact⟨g,hg,aEi he hv⟩
end
end Go.Hb
