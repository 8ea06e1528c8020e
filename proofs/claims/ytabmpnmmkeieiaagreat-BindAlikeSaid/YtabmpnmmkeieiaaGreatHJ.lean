/- A machine on abstract values, its soundness, ways, plain laws. -/
import Derived.Test.YtabmpnmmkeieiaaGreatHF
import Derived.Test.YtabmpnmmkeieiaaGreatHG
import Derived.Test.YtabmpnmmkeieiaaGreatHH
import Derived.Test.YtabmpnmmkeieiaaGreatHI
set_option linter.defProp false
set_option linter.unusedVariables false
set_option linter.unusedSimpArgs false
set_option linter.unusedSectionVars false
set_option maxRecDepth 100000
set_option maxHeartbeats 8000000
namespace Go.Hb
open AV (keyless keylessL)
open Bool (and_eq_true decide_and)
open List (length map mem_of_getElem?)
open Go.Proofs Tryz
noncomputable section
theorem aAU {α β:Type}[DecidableEq α](k k':α)(v:β) :∀ (l:List (α×β)),cQ k (eJ k' v l) =if k=k' then some v else cQ k l
 | [] =>by simp [eJ,cQ]
 | e ::l=>by
  simp only [eJ];split
  · rename_i h;subst h;simp only [cQ];split<;>rfl
  · rename_i h;simp only [cQ,aAU k k' v l];by_cases h1:k=e.1
    · subst h1;rw [if_pos rfl,if_pos rfl,if_neg (fun e=>h e.symm)]
    ·rw [if_neg h1,if_neg h1]
theorem aN8 {P:Program}{m:Nat}{s:AS}{v v':AV}{h':Hp}(h:Ends P m s (.ret v) h')(hv:∀ (E:Emb) (cv:Value),VR E v cv→VR E v' cv) :Ends P m s (.ret v') h':=fun hm E fr ccs w f fs r cl base=>by
 obtain⟨cl',w',E',s1,⟨cv,rfl,g2⟩,r2,x2⟩ :=h hm E fr ccs w f fs r cl base;exact⟨_,w',E',s1,⟨cv,rfl,hv E' cv g2⟩,r2,x2⟩
theorem aAV {E:Emb}{e:Nat}{xs:List AV}{cv:Value}(h:VR E (.ilst e xs true) cv) :VR E (.ilst e xs false) cv:=by
 simp only [VR]at h ⊢;obtain⟨vs,h1,h2,h3⟩ :=h;refine⟨vs,h1,h2,?_⟩;rcases h3 with⟨rfl,a,cap,rfl,g,_⟩ | ⟨k,a,cap,C,g1,g2,g3,_,g5⟩
 ·exact .inl ⟨rfl,a,cap,rfl,g,fun hh=>by cases hh⟩
 ·exact .inr ⟨k,a,cap,C,g1,g2,g3,(fun hh=>by cases hh),g5⟩
section
variable {p :Prog}
end
abbrev FL :List (AV×Bool) :=[((.iface 299 (.agg [])),false)]
abbrev kV (b:Bool) :Res:=bif b then .ret (.tup [])else .pan FL
theorem fE :∀b,yF (kV b)
 |true=>rfl
 | false=>by
  intro x hx;rw [List.mem_singleton.1 hx];rfl
abbrev GC (a b:Int) :AObj:=.cells (putCells .leaf 0 [.int .i64 a,.int .i64 b]) 2 [] false
def pS (n:Nat)(a:Int) :Bool:=decide ((n:Int) ≤a)
def dL (n:Nat)(a:Int) :Int:=if(n:Int) ≤a then a-n else -1
def aI2 (p:Pat)(a b:Int) :Prop:=Spec PP (.enter 269 [.ptr 0 0,Pat.av p]) (aG [(0,GC a b,false)] 1) (kV (pS (aV p) a)) (aG [(0,GC (dL (aV p) a) b,false)] 1)
theorem aMs (a b f n:Int)(s:aB)(ps:List Pat)(hl:ps.length<1000000)(ih:∀p∈ps,∀a,0≤a→a≤1000→aI2 p a b) :∀ (t:List Pat) (i:Nat) (c:Int),ps.drop i=t→0≤c→c≤1000 →
  Ends PP 1 (aMm a b f n s ps (i:Int) c).as (kV (pS (aM t) c)) (aG [(0,GC (dL (aM t) c) b,false)] 1)
 | [],i,c,h,h0,h1=>by
  have:=bL h;have e1:pS (aM []) c=true:=by simp [pS,aM,h0]
  have e2:dL (aM []) c=c:=by simp [dL,aM,h0]
  rw [e1,e2];exact bFu a b f n s ps i c sd
 | .mk f' n' s' ps'::t,i,c,h,h0,h1=>by
  obtain⟨g1,g2,g3⟩ :=bH h;have hs:=ih _ (mem_of_getElem? g1) c h0 h1;unfold aI2 at hs;by_cases hc: (aV (.mk f' n' s' ps') :Int) ≤c
  · have e1:pS (aV (.mk f' n' s' ps')) c=true:=by simp [pS,hc]
    have e2:dL (aV (.mk f' n' s' ps')) c=c-aV (.mk f' n' s' ps') :=by simp [dL,hc]
    rw [e1,e2]at hs;have r1:pS (aM (.mk f' n' s' ps'::t)) c=pS (aM t) (c-aV (.mk f' n' s' ps')) :=by
     unfold pS;rw [aM];congr 1;apply propext;omega
    have r2:dL (aM (.mk f' n' s' ps'::t)) c=dL (aM t) (c-aV (.mk f' n' s' ps')) :=by
     unfold dL;rw [aM];split<;>split<;>omega
    rw [r1,r2];refine(bFt a b f n s ps i c f' n' s' ps' (c-aV (.mk f' n' s' ps')) sd sd sd (dP (ks:=[0]) hs (by kernel_rfl) (fE true) (by kernel_rfl) (by kernel_rfl) trivial (by kernel_rfl) trivial) sd).ends ?_;exact aMs a b f n s ps hl ih t (i+1) _ g2 (by omega) (by omega)
  · have e1:pS (aV (.mk f' n' s' ps')) c=false:=by simp [pS];omega
    have e2:dL (aV (.mk f' n' s' ps')) c= -1:=by simp [dL];omega
    rw [e1,e2]at hs;have r1:pS (aM (.mk f' n' s' ps'::t)) c=false:=by simp only [pS,aM];exact decide_eq_false (by omega)
    have r2:dL (aM (.mk f' n' s' ps'::t)) c= -1:=by unfold dL;rw [aM,if_neg (by omega)]
    rw [r1,r2];exact bFs a b f n s ps i c f' n' s' ps' (-1) sd sd sd (dP (ks:=[0]) hs (by kernel_rfl) (fE false) (by kernel_rfl) (by kernel_rfl) trivial (by kernel_rfl) trivial)
mutual
theorem aMt (b:Int)(hb:0≤b) :∀ (p:Pat) (a:Int),0≤a→a≤1000→aV p<1000000→aI2 p a b
 | .mk f n s ps,a,h0,h1,hp=>by
  simp only [aV]at hp;have:=cP ps;refine⟨(bFp a b f n s ps).as.fr,by kernel_rfl,?_⟩;have E:Ends PP 1 (bFp a b f n s ps).as (kV (pS (aV (.mk f n s ps)) a)) (aG [(0,GC (dL (aV (.mk f n s ps)) a) b,false)] 1) :=by
   by_cases ha:1≤a
   · have r1:pS (aV (.mk f n s ps)) a=pS (aM ps) (a-1) :=by
      unfold pS;rw [aV];congr 1;apply propext;omega
     have r2:dL (aV (.mk f n s ps)) a=dL (aM ps) (a-1) :=by
      unfold dL;rw [aV];split<;>split<;>omega
     rw [r1,r2];exact(bFq a b f n s ps sd (by simp;omega) (by simp;omega)).ends (aMs a b f n s ps (by omega) (fun p hp a h0 h1=>aRk b hb ps (by omega) p hp a h0 h1) ps 0 (a-1) rfl (by omega) (by omega))
   · obtain rfl:a=0:=by omega
     have r1:pS (aV (.mk f n s ps)) 0=false:=by simp only [pS,aV];exact decide_eq_false (by omega)
     have r2:dL (aV (.mk f n s ps)) 0=0-1:=by unfold dL;rw [aV,if_neg (by omega)];rfl
     rw [r1,r2];exact bFr 0 b f n s ps sd (by simp)
  exact Eq.mp (by kernel_rfl) E
theorem aRk (b:Int)(hb:0≤b) :∀ (ps:List Pat),aM ps<1000000→∀p∈ps,∀a,0≤a→a≤1000→aI2 p a b
 | [],_,p,hp=>by cases hp
 | q::ps,h,p,hp=>by
  simp only [aM]at h;rcases List.mem_cons.1 hp with e|hp
  ·rw [e];exact fun a h0 h1=>aMt b hb q a h0 h1 (by omega)
  ·exact aRk b hb ps (by omega) p hp
end
theorem xF (n:Int) :Pure PP 251 [.int .i64 n] (.bool (cF n (-1000000000) 1000000000)) :=by
 refine bC (by kernel_rfl) rfl rfl ?_;by_cases h:n≥ -1000000000
 · have e:cF n (-1000000000) 1000000000=decide (n≤1000000000) :=by unfold cF;rw [decide_eq_true (show(-1000000000:Int) ≤n from h),Bool.true_and]
   rw [e];exact aWi n (by simpa using h)
 · have e:cF n (-1000000000) 1000000000=false:=by unfold cF;rw [decide_eq_false (show ¬ (-1000000000:Int) ≤n from h),Bool.false_and]
   rw [e];exact aWj n (by simpa using h)
def cR (t:aB)(ml:List (aB×Bool)) :Bool:= (cQ t ml).getD false
def qK (f n:Int)(t:aB)(ps:List Pat)(ml:List (aB×Bool)) :Bool:=bK f n t ps&& !(decide (f=2) &&cR t ml)
mutual
def pmF :Pat→List (aB×Bool) →Bool×List (aB×Bool)
 | .mk f n t ps,ml=>if qK f n t ps ml=true then aCL ps (if f=2 then eJ t true ml else ml)else(false,ml)
def aCL :List Pat→List (aB×Bool) →Bool×List (aB×Bool)
 | [],ml=> (true,ml)
 |p::ps,ml=>if(pmF p ml).1=true then aCL ps (pmF p ml).2 else(false,(pmF p ml).2)
end
abbrev MS (ml:List (aB×Bool)) :AObj:=.map (aC aA pG 0 ml) (length ml)
theorem aCq (ml:List (aB×Bool)) : (MS ml).kl:=aI (fun _=>rfl) (fun _=>rfl) _ _ _
def aI3 (p:Pat)(ml:List (aB×Bool)) :Prop:=Spec PP (.enter 270 [Pat.av p,.map 0]) (aG [(0,MS ml,true)] 1) (kV (pmF p ml).1) (aG [(0,MS (pmF p ml).2,true)] 1)
theorem bGQ (ml:List (aB×Bool))(q_form q_n:Int)(q_text:aB)(q_parts:List Pat)(b:Bool)(mo:List (aB×Bool))(hno:qK q_form q_n q_text q_parts ml=false→b=false∧mo=ml)
  (hk:∀mi,qK q_form q_n q_text q_parts ml=true→mi= (if q_form=2 then eJ q_text true ml else ml) →Ends PP 1 (nV ml q_form q_n q_text q_parts mi 0).as (kV b) (aG [(0,MS mo,true)] 1)) :
  Ends PP 1 (aMn ml q_form q_n q_text q_parts).as (kV b) (aG [(0,MS mo,true)] 1) :=by
 cases hb1: (q_form== (1:Int))with
 | true=>
  cases hb2: (((length q_parts:Nat) :Int) == (0:Int))with
  | true=>
   cases hb3: (q_n== (0:Int))with
   | true=>
    cases hb4: (!(bA (length q_text) (aD q_text) 0 0))with
    | true=>
     obtain⟨e1,e2⟩ :=hno (by clear hk hno;simp_all [qK,cR,bK,aE,aQ,cF] <;>intros<;>omega);rw [e1,e2];exact aV2 ml q_form q_n q_text q_parts   hb1 hb2 hb3 hb4
    | false=>
     exact LeadsM.ends (aV3 ml q_form q_n q_text q_parts   hb1 hb2 hb3 hb4) (hk _ (by clear hk hno;simp_all [qK,cR,bK,aE,aQ,cF] <;>intros<;>omega) (by clear hk hno;simp_all [qK,cR,bK,aE,aQ,cF] <;>intros<;>omega))
   | false=>
    obtain⟨e1,e2⟩ :=hno (by clear hk hno;simp_all [qK,cR,bK,aE,aQ,cF] <;>intros<;>omega);rw [e1,e2];exact aV4 ml q_form q_n q_text q_parts   hb1 hb2 hb3
  | false=>
   obtain⟨e1,e2⟩ :=hno (by clear hk hno;simp_all [qK,cR,bK,aE,aQ,cF] <;>intros<;>omega);rw [e1,e2];exact aV5 ml q_form q_n q_text q_parts   hb1 hb2
 | false =>
  cases hb5: (q_form== (5:Int))with
  | true=>
   cases hb6: (((length q_parts:Nat) :Int) == (0:Int))with
   | true=>
    cases hb7: (q_n== (0:Int))with
    | true=>
     cases hb8: (!(bA (length q_text) (aD q_text) 0 0))with
     | true=>
      obtain⟨e1,e2⟩ :=hno (by clear hk hno;simp_all [qK,cR,bK,aE,aQ,cF] <;>intros<;>omega);rw [e1,e2];exact aV6 ml q_form q_n q_text q_parts   hb1 hb5 hb6 hb7 hb8
     | false=>
      exact LeadsM.ends (aV7 ml q_form q_n q_text q_parts   hb1 hb5 hb6 hb7 hb8) (hk _ (by clear hk hno;simp_all [qK,cR,bK,aE,aQ,cF] <;>intros<;>omega) (by clear hk hno;simp_all [qK,cR,bK,aE,aQ,cF] <;>intros<;>omega))
    | false=>
     obtain⟨e1,e2⟩ :=hno (by clear hk hno;simp_all [qK,cR,bK,aE,aQ,cF] <;>intros<;>omega);rw [e1,e2];exact aV8 ml q_form q_n q_text q_parts   hb1 hb5 hb6 hb7
   | false=>
    obtain⟨e1,e2⟩ :=hno (by clear hk hno;simp_all [qK,cR,bK,aE,aQ,cF] <;>intros<;>omega);rw [e1,e2];exact aV9 ml q_form q_n q_text q_parts   hb1 hb5 hb6
  | false =>
   cases hb9: (q_form== (2:Int))with
   | true =>
    cases hb10: (((length q_parts:Nat) :Int) == (0:Int))with
    | true=>
     cases hb11: (q_n== (0:Int))with
     | true=>
      cases hb12: (dK q_text)with
      | true=>
       cases hq13:cQ q_text ml with
       | none=>
        exact LeadsM.ends (aPZ ml q_form q_n q_text q_parts  (dK q_text) hb1 hb5 hb9 hb10 hb11 (lJ q_text) hb12 hq13) (hk _ (by clear hk hno;simp_all [qK,cR,bK,aE,aQ,cF] <;>intros<;>omega) (by clear hk hno;simp_all [qK,cR,bK,aE,aQ,cF] <;>intros<;>omega))
       | some y1=>
        cases hb14: (!(!y1))with
        | true=>
         obtain⟨e1,e2⟩ :=hno (by clear hk hno;simp_all [qK,cR,bK,aE,aQ,cF] <;>intros<;>omega);rw [e1,e2];exact aWa ml q_form q_n q_text q_parts  (dK q_text) y1 hb1 hb5 hb9 hb10 hb11 (lJ q_text) hb12 hq13 hb14
        | false=>
         exact LeadsM.ends (aWb ml q_form q_n q_text q_parts  (dK q_text) y1 hb1 hb5 hb9 hb10 hb11 (lJ q_text) hb12 hq13 hb14) (hk _ (by clear hk hno;simp_all [qK,cR,bK,aE,aQ,cF] <;>intros<;>omega) (by clear hk hno;simp_all [qK,cR,bK,aE,aQ,cF] <;>intros<;>omega))
      | false=>
       obtain⟨e1,e2⟩ :=hno (by clear hk hno;simp_all [qK,cR,bK,aE,aQ,cF] <;>intros<;>omega);rw [e1,e2];exact aP0 ml q_form q_n q_text q_parts  (dK q_text) hb1 hb5 hb9 hb10 hb11 (lJ q_text) hb12
     | false=>
      obtain⟨e1,e2⟩ :=hno (by clear hk hno;simp_all [qK,cR,bK,aE,aQ,cF] <;>intros<;>omega);rw [e1,e2];exact aP1 ml q_form q_n q_text q_parts   hb1 hb5 hb9 hb10 hb11
    | false=>
     obtain⟨e1,e2⟩ :=hno (by clear hk hno;simp_all [qK,cR,bK,aE,aQ,cF] <;>intros<;>omega);rw [e1,e2];exact aP2 ml q_form q_n q_text q_parts   hb1 hb5 hb9 hb10
   | false =>
    cases hb15: (q_form== (3:Int))with
    | true=>
     cases hb16: (((length q_parts:Nat) :Int) == (0:Int))with
     | true=>
      cases hb17: (bA (length q_text) (aD q_text) 0 0)with
      | true=>
       cases hb18: (!(cF q_n (-1000000000) 1000000000))with
       | true=>
        obtain⟨e1,e2⟩ :=hno (by clear hk hno;simp_all [qK,cR,bK,aE,aQ,cF] <;>intros<;>omega);rw [e1,e2];exact aP3 ml q_form q_n q_text q_parts  (cF q_n (-1000000000) 1000000000) hb1 hb5 hb9 hb15 hb16 hb17 (xF q_n) hb18
       | false=>
        exact LeadsM.ends (aP4 ml q_form q_n q_text q_parts  (cF q_n (-1000000000) 1000000000) hb1 hb5 hb9 hb15 hb16 hb17 (xF q_n) hb18) (hk _ (by clear hk hno;simp_all [qK,cR,bK,aE,aQ,cF] <;>intros<;>omega) (by clear hk hno;simp_all [qK,cR,bK,aE,aQ,cF] <;>intros<;>omega))
      | false=>
       obtain⟨e1,e2⟩ :=hno (by clear hk hno;simp_all [qK,cR,bK,aE,aQ,cF] <;>intros<;>omega);rw [e1,e2];exact aP5 ml q_form q_n q_text q_parts   hb1 hb5 hb9 hb15 hb16 hb17
     | false=>
      obtain⟨e1,e2⟩ :=hno (by clear hk hno;simp_all [qK,cR,bK,aE,aQ,cF] <;>intros<;>omega);rw [e1,e2];exact aP6 ml q_form q_n q_text q_parts   hb1 hb5 hb9 hb15 hb16
    | false=>
     cases hb19: (q_form== (4:Int))with
     | true=>
      cases hb20: (((length q_parts:Nat) :Int) == (0:Int))with
      | true=>
       cases hb21: (bA (length q_text) (aD q_text) 0 0)with
       | true=>
        cases hb22: (q_n== (0:Int))with
        | true=>
         exact LeadsM.ends (aP7 ml q_form q_n q_text q_parts   hb1 hb5 hb9 hb15 hb19 hb20 hb21 hb22) (hk _ (by clear hk hno;simp_all [qK,cR,bK,aE,aQ,cF] <;>intros<;>omega) (by clear hk hno;simp_all [qK,cR,bK,aE,aQ,cF] <;>intros<;>omega))
        | false=>
         cases hb23: (!(q_n== (1:Int)))with
         | true=>
          obtain⟨e1,e2⟩ :=hno (by clear hk hno;simp_all [qK,cR,bK,aE,aQ,cF] <;>intros<;>omega);rw [e1,e2];exact aP8 ml q_form q_n q_text q_parts   hb1 hb5 hb9 hb15 hb19 hb20 hb21 hb22 hb23
         | false=>
          exact LeadsM.ends (aP9 ml q_form q_n q_text q_parts   hb1 hb5 hb9 hb15 hb19 hb20 hb21 hb22 hb23) (hk _ (by clear hk hno;simp_all [qK,cR,bK,aE,aQ,cF] <;>intros<;>omega) (by clear hk hno;simp_all [qK,cR,bK,aE,aQ,cF] <;>intros<;>omega))
       | false=>
        obtain⟨e1,e2⟩ :=hno (by clear hk hno;simp_all [qK,cR,bK,aE,aQ,cF] <;>intros<;>omega);rw [e1,e2];exact aQa ml q_form q_n q_text q_parts   hb1 hb5 hb9 hb15 hb19 hb20 hb21
      | false=>
       obtain⟨e1,e2⟩ :=hno (by clear hk hno;simp_all [qK,cR,bK,aE,aQ,cF] <;>intros<;>omega);rw [e1,e2];exact aQb ml q_form q_n q_text q_parts   hb1 hb5 hb9 hb15 hb19 hb20
     | false=>
      cases hb24: (q_form== (6:Int))with
      | true=>
       cases hb25: (decide (((length q_parts:Nat) :Int) ≤ (3:Int)))with
       | true=>
        cases hb26: (q_n== (0:Int))with
        | true=>
         cases hb27: (!(cD q_text))with
         | true=>
          obtain⟨e1,e2⟩ :=hno (by clear hk hno;simp_all [qK,cR,bK,aE,aQ,cF] <;>intros<;>omega);rw [e1,e2];exact aQc ml q_form q_n q_text q_parts  (cD q_text) hb1 hb5 hb9 hb15 hb19 hb24 hb25 hb26 (hO q_text) hb27
         | false=>
          exact LeadsM.ends (aQd ml q_form q_n q_text q_parts  (cD q_text) hb1 hb5 hb9 hb15 hb19 hb24 hb25 hb26 (hO q_text) hb27) (hk _ (by clear hk hno;simp_all [qK,cR,bK,aE,aQ,cF] <;>intros<;>omega) (by clear hk hno;simp_all [qK,cR,bK,aE,aQ,cF] <;>intros<;>omega))
        | false=>
         obtain⟨e1,e2⟩ :=hno (by clear hk hno;simp_all [qK,cR,bK,aE,aQ,cF] <;>intros<;>omega);rw [e1,e2];exact aQe ml q_form q_n q_text q_parts   hb1 hb5 hb9 hb15 hb19 hb24 hb25 hb26
       | false=>
        obtain⟨e1,e2⟩ :=hno (by clear hk hno;simp_all [qK,cR,bK,aE,aQ,cF] <;>intros<;>omega);rw [e1,e2];exact aQf ml q_form q_n q_text q_parts   hb1 hb5 hb9 hb15 hb19 hb24 hb25
      | false=>
       obtain⟨e1,e2⟩ :=hno (by clear hk hno;simp_all [qK,cR,bK,aE,aQ,cF] <;>intros<;>omega);rw [e1,e2];exact aQg ml q_form q_n q_text q_parts   hb1 hb5 hb9 hb15 hb19 hb24
theorem aI4 (ml:List (aB×Bool))(f n:Int)(s:aB)(ps:List Pat)(hl:ps.length<1000000)(ih:∀p∈ps,∀ml,aI3 p ml) :∀ (t:List Pat) (i:Nat) (mi:List (aB×Bool)),ps.drop i=t →
  Ends PP 1 (nV ml f n s ps mi (i:Int)).as (kV (aCL t mi).1) (aG [(0,MS (aCL t mi).2,true)] 1)
 | [],i,mi,h=>by
  have:=bL h;rw [aCL];exact aWe ml f n s ps mi i sd
 | .mk f' n' s' ps'::t,i,mi,h=>by
  obtain⟨g1,g2,g3⟩ :=bH h;have hs:=ih _ (mem_of_getElem? g1) mi;unfold aI3 at hs;rw [aCL];generalize pmF (.mk f' n' s' ps') mi=r at hs ⊢;obtain⟨b,m'⟩ :=r;cases b with
  | true=>
   rw [if_pos rfl];refine(aWd ml f n s ps mi i f' n' s' ps' m' sd sd sd (dP (ks:=[0]) hs (by kernel_rfl) (fE true) (by kernel_rfl) (by kernel_rfl) ⟨aCq _,trivial⟩ (by kernel_rfl) ⟨aCq _,trivial⟩) sd).ends ?_;exact aI4 ml f n s ps hl ih t (i+1) m' g2
  | false=>
   rw [if_neg (by simp)];exact aWc ml f n s ps mi i f' n' s' ps' m' sd sd sd (dP (ks:=[0]) hs (by kernel_rfl) (fE false) (by kernel_rfl) (by kernel_rfl) ⟨aCq _,trivial⟩ (by kernel_rfl) ⟨aCq _,trivial⟩)
mutual
theorem aI5 :∀ (p:Pat) (ml:List (aB×Bool)),aV p<1000000→aI3 p ml
 | .mk f n s ps,ml,hp=>by
  simp only [aV]at hp;have:=cP ps;refine⟨(aMn ml f n s ps).as.fr,by kernel_rfl,?_⟩;have E:Ends PP 1 (aMn ml f n s ps).as (kV (pmF (.mk f n s ps) ml).1) (aG [(0,MS (pmF (.mk f n s ps) ml).2,true)] 1) :=by
   refine bGQ ml f n s ps _ _ (fun h=>?_) (fun mi h e=>?_)
   · rw [pmF,if_neg (by simp [h])];exact⟨rfl,rfl⟩
   · rw [pmF,if_pos h,←e];exact aI4 ml f n s ps (by omega) (aMu ps (by omega)) ps 0 mi rfl
  exact Eq.mp (by kernel_rfl) E
theorem aMu :∀ (ps:List Pat),aM ps<1000000→∀p∈ps,∀ml,aI3 p ml
 | [],_,p,hp=>by cases hp
 | q::ps,h,p,hp=>by
  simp only [aM]at h;rcases List.mem_cons.1 hp with e|hp
  ·rw [e];exact fun ml=>aI5 q ml (by omega)
  ·exact aMu ps (by omega) p hp
end
def lM :List aB→List (aB×Bool) →Bool×List (aB×Bool)
 | [],ml=> (true,ml)
 |x::t,ml=>if cR x ml=true then(false,ml)else lM t (eJ x true ml)
theorem aFK :∀ (a b:List aB) (ml:List (aB×Bool)),lM (a++b) ml=if(lM a ml).1=true then lM b (lM a ml).2 else lM a ml
 | [],b,ml=>by simp [lM]
 | x::a,b,ml=>by
  rw [List.cons_append,lM,lM];split
  ·simp
  ·exact aFK a b _
theorem aWV {f n:Int}{t:aB}{ps:List Pat}(h:bK f n t ps=true)(hf:f=2) :ps= [] :=by
 subst hf;simp [bK]at h;exact h.1.1
mutual
theorem aMv :∀ (p:Pat) (ml:List (aB×Bool)),((pmF p ml).1=true↔uC p=true∧ (lM (aO p) ml).1=true) ∧ ((pmF p ml).1=true→ (pmF p ml).2= (lM (aO p) ml).2)
 | .mk f n t ps,ml=>by
  rw [pmF,uC,aO];by_cases hf:f=2
  · subst hf;by_cases hh:bK 2 n t ps=true
    · have hps:=aWV hh rfl;subst hps;by_cases hm:cR t ml=true
      ·simp [qK,hh,hm,lM,lL]
      · have hm':cR t ml=false:=by simpa using hm
        rw [if_pos (by simp [qK,hh,hm'])];simp [hh,hm',lM,lL,aCL]
    · have hh':bK 2 n t ps=false:=by simpa using hh
      rw [if_neg (by simp [qK,hh'])];simp [hh']
  · have i:=aI6 ps ml;by_cases hh:bK f n t ps=true
    · rw [if_pos (by simp [qK,hh,hf]),if_neg hf,if_neg hf,hh,Bool.true_and];exact i
    · have hh':bK f n t ps=false:=by simpa using hh
      rw [if_neg (by simp [qK,hh'])];simp [hh']
theorem aI6 :∀ (ps:List Pat) (ml:List (aB×Bool)),((aCL ps ml).1=true↔lL ps=true∧ (lM (bY ps) ml).1=true) ∧ ((aCL ps ml).1=true→ (aCL ps ml).2= (lM (bY ps) ml).2)
 | [],ml=>by simp [aCL,lL,bY,lM]
 | p ::ps,ml=>by
  obtain⟨i1,i2⟩ :=aMv p ml;rw [aCL,lL,bY,aFK];by_cases hp: (pmF p ml).1=true
  · obtain⟨j1,j2⟩ :=aI6 ps (pmF p ml).2;obtain⟨k1,k2⟩ :=i1.1 hp;rw [if_pos hp,if_pos k2,←i2 hp,k1,Bool.true_and];exact⟨j1,j2⟩
  · rw [if_neg hp];refine⟨⟨fun h=>by simp at h,fun⟨h1,h2⟩ =>?_⟩,fun h=>by simp at h⟩;exfalso;rw [and_eq_true]at h1;split at h2
    ·rename_i k;exact hp (i1.2 ⟨h1.1,k⟩)
    ·rename_i k;exact k h2
end
theorem aN9 (x y:aB)(ml:List (aB×Bool)) :cR y (eJ x true ml) = (decide (x=y) ||cR y ml) :=by
 unfold cR;rw [aAU];by_cases h:y=x
 ·subst h;simp
 · have:¬x=y:=fun e=>h e.symm;rw [if_neg h];simp [this]
theorem aAW :∀ (l pre:List aB) (ml:List (aB×Bool)),(∀y,cR y ml=dA pre y) → (lM l ml).1=bI pre l
 | [],pre,ml,h=>rfl
 | x::t,pre,ml,h=>by
  rw [lM,bI,←h x];cases hm:cR x ml with
  |true=>simp
  | false=>
   simp only [Bool.false_eq_true,if_false,Bool.not_false,Bool.true_and];refine aAW t (pre++ [x]) _ (fun y=>?_);rw [aN9,h y];simp [dA,Bool.or_comm]
theorem aRl (p:Pat) : (pmF p []).1= (uC p&&fS (aO p)) :=by
 have h:= (aMv p []).1;have e: (lM (aO p) []).1=fS (aO p) :=aAW _ [] [] (fun y=>by simp [cR,cQ,dA]);rw [e]at h;rw [Bool.eq_iff_iff,h,and_eq_true]
theorem aI7 (p:Pat)(hp:aV p<1000000) :Pure PP 234 [Pat.av p] (.int .i64 (if sB p=true then 0 else 2)) :=by
 have hg:=aMt 0 (by omega) p 12 (by omega) (by omega) hp;have hm:=aI5 p [] hp;have e:=aRl p;unfold aI2 at hg;unfold aI3 at hm;unfold sB;obtain⟨f,n,s,ps⟩ :=p;refine cB (s:=bDH f n s ps) (by kernel_rfl) (by kernel_rfl) (by simp [keylessL,kB]) (by simp [keyless]) ?_;by_cases h12:aV (.mk f n s ps) ≤12
 · have e1:pS (aV (.mk f n s ps)) 12=true:=by simp [pS];omega
   rw [e1]at hg;generalize dL (aV (.mk f n s ps)) 12=ga at hg;rw [decide_eq_true h12,Bool.true_and,←e];generalize pmF (.mk f n s ps) [] =r at hm ⊢;obtain⟨b,m'⟩ :=r;have hg':=dP (ks:=[2]) (lc:=[(0,.cells (putCells .leaf 0 [.int .i64 f,.int .i64 n,aA s,.ilst 4 (Pats.av ps) false]) 4 [] false,false),(1,.cells (putCells .leaf 0 [.bool false]) 1 [] false,false),(2,GC 12 0,false)]) (lc':=[(0,.cells (putCells .leaf 0 [.int .i64 f,.int .i64 n,aA s,.ilst 4 (Pats.av ps) false]) 4 [] false,false),(1,.cells (putCells .leaf 0 [.bool false]) 1 [] false,false),(2,GC ga 0,false)]) (n2:=3) (args':=[.ptr 2 0,Pat.av (.mk f n s ps)]) hg (by kernel_rfl) (fE true) (by kernel_rfl) (by kernel_rfl) trivial (by kernel_rfl) trivial;cases b with
   | true=>
    exact aWh f n s ps ga m' hg' (dP (ks:=[3]) hm (by kernel_rfl) (fE true) (by kernel_rfl) (by kernel_rfl) ⟨aCq _,trivial⟩ (by kernel_rfl) ⟨aCq _,trivial⟩)
   | false=>
    exact aWg f n s ps ga m' hg' (dP (ks:=[3]) hm (by kernel_rfl) (fE false) (by kernel_rfl) (by kernel_rfl) ⟨aCq _,trivial⟩ (by kernel_rfl) ⟨aCq _,trivial⟩)
 · have e1:pS (aV (.mk f n s ps)) 12=false:=by simp [pS];omega
   rw [e1]at hg;generalize dL (aV (.mk f n s ps)) 12=ga at hg;rw [decide_eq_false h12,Bool.false_and,Bool.false_and];exact aWf f n s ps ga (dP (ks:=[2]) hg (by kernel_rfl) (fE false) (by kernel_rfl) (by kernel_rfl) trivial (by kernel_rfl) trivial)
def bFv(a b c d:Int)(e:aB)(f:List Term)(g:List Pat)(i:Int):TS:=bQ PP 146 [(.ptr 0 0),(.agg [(nI c),(nI d),(aA e),(.ilst 5 (Terms.av f) false),(iP g)]),(nI i)] [oC 0 [(nI a),(nI b)]] 1
def aMw(f b g i:Int)(j:aB)(a:List Term)(k:List Pat)(c d e:Int):TS:=⟨(tf 146 24 [kp 0 0,(2,(nI c)),(12,(.ilst 5 (Terms.av a) false)),(13,(nI (a.length:Int))),(14,(nI d))] [kc f146 60,kl f146 60,.inBlock 0]),[],[oC 0 [(nI e),(nI b)]],1⟩
def bDM(a b:Int)(c:aB)(d:List Term)(e:List Pat):TS:=bQ PP 147 [(.agg [(nI a),(nI b),(aA c),(.ilst 5 (Terms.av d) false),(iP e)])] [] 0
def aHf(c d:Int)(e:aB)(a:List Term)(f:List Pat)(b:Int):TS:=⟨(tf 147 16 [(7,(.ilst 5 (Terms.av a) false)),(8,(nI (a.length:Int))),(9,(nI b))] [kc f147 60,kl f147 60,.inBlock 0]),[],[],0⟩
def bDN(a b:Int)(c:aB)(d:List Term)(e:List Pat):TS:=bQ PP 80 [(.agg [(nI a),(nI b),(aA c),(.ilst 5 (Terms.av d) false),(iP e)])] [] 0
def aRm(a b e f:Int)(g:aB)(c:List Term)(i:List Pat)(d:Int):=tT 1 (bFv a b e f g c i d)<|gw 16 8 (a-1)<|gd 11 16 ((a-1) ≥0) (.b 13 3 (!(decide (d≤b))) (.P 7 2 [] [((.iface 299 (.agg [])),false)] [oC 0 [(nI (a-1)),(nI b)]] 1)<|gm 12 aU c<|.W 4 2 [] (aMw a b e f g c i d 0 (a-1)))<|.P 20 2 [] [((.iface 299 (.agg [])),false)] [oC 0 [(nI (a-1)),(nI b)]] 1
def bFw:=fun a b c d e f g i j k l=>aRm a b c d e f g i j|>.t k|>.t l tv
def bFx:=fun a b c d e f g i j k l=>aRm a b c d e f g i j|>.t k|>.f l tv
def bFy:=fun a b c d e f g i j k=>aRm a b c d e f g i j|>.f k tv
def aRn(m a n o:Int)(p:aB)(k:List Term)(q:List Pat)(g i l:Int):=tT 1 (aMw m a n o p k q g i l)<|gd 5 15 (i< (k.length:Int)) (aAP 6 k i<|fun b c d e f=>gw 9 21 (g+1)<|.o (.y fun j:Int=>gK 0 (.enter 146 [(.ptr 0 0),(.agg [(nI b),(nI c),(aA d),(.ilst 5 (Terms.av e) false),(iP f)]),(nI (g+1))]) [oC 0 [(nI l),(nI a)],oC 1 [(nI b),(nI c),(aA d),(.ilst 5 (Terms.av e) false),(iP f)]] 2 [((.iface 299 (.agg [])),false)] [oC 0 [(nI j),(nI a)],oC 1 [(nI b),(nI c),(aA d),(.ilst 5 (Terms.av e) false),(iP f)]] 2<|.P 0 2 [] [((.iface 299 (.agg [])),false)] [oC 0 [(nI j),(nI a)]] 1)<|.y fun j:Int=>gk 0 (.enter 146 [(.ptr 0 0),(.agg [(nI b),(nI c),(aA d),(.ilst 5 (Terms.av e) false),(iP f)]),(nI (g+1))]) [oC 0 [(nI l),(nI a)],oC 1 [(nI b),(nI c),(aA d),(.ilst 5 (Terms.av e) false),(iP f)]] 2 (.tup []) [oC 0 [(nI j),(nI a)],oC 1 [(nI b),(nI c),(aA d),(.ilst 5 (Terms.av e) false),(iP f)]] 2<|gw 4 23 (i+1)<|.W 3 2 [] (aMw m a n o p k q g (i+1) j))<|.E 3 1 [] (.tup []) [oC 0 [(nI l),(nI a)]] 1
def bFz:=fun a b c d e f g i j k l m n o p q r s t u v=>aRn a b c d e f g i j k|>.t r l m n o p s t u|>.1 q v tv
def bFA:=fun a b c d e f g i j k l m n o p q r s t u v w=>aRn a b c d e f g i j k|>.t r l m n o p s t u|>.2 q v w tv
def bFB:=fun a b c d e f g i j k l=>aRn a b c d e f g i j k|>.f l tv
def bDO(b c:Int)(d:aB)(a:List Term)(e:List Pat):=tT 0 (bDM b c d a e)<|.o (.i [rn 7,.throws [((.iface 299 (.agg [])),false)]] [hA (vM PP 199 [(.agg [(nI b),(nI c),(aA d),(.ilst 5 (Terms.av a) false),(iP e)])] [((.iface 299 (.agg [])),false)])]<|gQ 0 1 [((.iface 299 (.agg [])),false)])<|gp 7 199 [(.agg [(nI b),(nI c),(aA d),(.ilst 5 (Terms.av a) false),(iP e)])] (.tup [])<|gm 5 aU a<|.W 4 1 [] (aHf b c d a e 0)
def aWW:=fun a b c d e f=>bDO a b c d e|>.1 f tv
def aWX:=fun a b c d e f=>bDO a b c d e|>.2 f tv
def aRo(c d:Int)(e:aB)(b:List Term)(f:List Pat)(a:Int):=tT 0 (aHf c d e b f a)<|gd 5 10 (a< (b.length:Int)) (aAP 6 b a<|fun g i j k l=>.o (.i [rn 6,.throws [((.iface 299 (.agg [])),false)]] [hA (vM PP 147 [(.agg [(nI g),(nI i),(aA j),(.ilst 5 (Terms.av k) false),(iP l)])] [((.iface 299 (.agg [])),false)])]<|gQ 0 1 [((.iface 299 (.agg [])),false)])<|gp 6 147 [(.agg [(nI g),(nI i),(aA j),(.ilst 5 (Terms.av k) false),(iP l)])] (.tup [])<|gw 4 15 (a+1)<|.W 3 1 [] (aHf c d e b f (a+1)))<|gE 3 0 (.tup [])
def aWY:=fun a b c d e f g i j k l m n o p=>aRo a b c d e f|>.t m g i j k l n o|>.1 p tv
def aWZ:=fun a b c d e f g i j k l m n o p q=>aRo a b c d e f|>.t m g i j k l n o|>.2 p q tv
def aW0:=fun a b c d e f g=>aRo a b c d e f|>.f g tv
def aRp(a b:Int)(c:aB)(d:List Term)(e:List Pat):=tT 0 (bDN a b c d e)<|.o (.y fun f:Int=>gK 36 (.enter 146 [(.ptr 2 0),(.agg [(nI a),(nI b),(aA c),(.ilst 5 (Terms.av d) false),(iP e)]),(nI 1)]) [oC 0 [(nI a),(nI b),(aA c),(.ilst 5 (Terms.av d) false),(iP e)],oC 1 [(bV false)],oC 2 [(nI 60),(nI 14)]] 3 [((.iface 299 (.agg [])),false)] [oC 0 [(nI a),(nI b),(aA c),(.ilst 5 (Terms.av d) false),(iP e)],oC 1 [(bV false)],oC 2 [(nI f),(nI 14)]] 3<|gE 50 4 (nI 2))<|.y fun f:Int=>gk 36 (.enter 146 [(.ptr 2 0),(.agg [(nI a),(nI b),(aA c),(.ilst 5 (Terms.av d) false),(iP e)]),(nI 1)]) [oC 0 [(nI a),(nI b),(aA c),(.ilst 5 (Terms.av d) false),(iP e)],oC 1 [(bV false)],oC 2 [(nI 60),(nI 14)]] 3 (.tup []) [oC 0 [(nI a),(nI b),(aA c),(.ilst 5 (Terms.av d) false),(iP e)],oC 1 [(bV false)],oC 2 [(nI f),(nI 14)]] 3<|.o (.i [rn 3,.throws [((.iface 299 (.agg [])),false)]] [hA (vM PP 147 [(.agg [(nI a),(nI b),(aA c),(.ilst 5 (Terms.av d) false),(iP e)])] [((.iface 299 (.agg [])),false)])]<|gE 50 4 (nI 2))<|gp 3 147 [(.agg [(nI a),(nI b),(aA c),(.ilst 5 (Terms.av d) false),(iP e)])] (.tup [])<|gE 38 3 (nI 0)
def aW1:=fun a b c d e f g=>aRp a b c d e|>.1 f g tv
def aW2:=fun a b c d e f g i=>aRp a b c d e|>.2 f g|>.1 i tv
def aW3:=fun a b c d e f g i=>aRp a b c d e|>.2 f g|>.2 i tv
def aRq(a b:Int)(c:aB)(d:List Term)(e:List Pat):TS:=bQ PP 199 [(.agg [(nI a),(nI b),(aA c),(.ilst 5 (Terms.av d) false),(iP e)])] [] 0
def pI(a b:Int)(c:aB)(d:List Term)(e:List Pat)(f g i:Bool)(j:Int):TS:=⟨(tf 199 121 [kp 1 0,kp 2 1] [kc f199 15]),[],[oC 0 [(nI a),(nI b),(aA c),(.ilst 5 (Terms.av d) false),(iP e)],oC 1 [(bV f),(bV g),(bV i),(nI j)]],2⟩
def pJ(a b:Int)(c:aB)(d:List Term)(e:List Pat)(f g i:Bool)(j:Int):TS:=⟨(tf 199 121 [kp 1 0,kp 2 1] [kc f199 31]),[],[oC 0 [(nI a),(nI b),(aA c),(.ilst 5 (Terms.av d) false),(iP e)],oC 1 [(bV f),(bV g),(bV i),(nI j)]],2⟩
def aDY(b c:Int)(d:aB)(e:List Term)(a:List Pat)(f g i:Bool)(j k:Int):TS:=⟨(tf 199 121 [kp 1 0,kp 2 1,(99,(iP a)),(100,(nI (a.length:Int))),(101,(nI k))] [kc f199 2015212,kl f199 2015212,.inBlock 1,.inBlock 0,kc f199 31]),[],[oC 0 [(nI b),(nI c),(aA d),(.ilst 5 (Terms.av e) false),(iP a)],oC 1 [(bV f),(bV g),(bV i),(nI j)]],2⟩
def fX(a d:Int)(e:aB)(b:List Term)(c:List Pat):=tT 0 (start PP 250 [(.agg [(nI a),(nI d),(aA e),(.ilst 5 (Terms.av b) false),(iP c)])])<|.b 19 6 (a==1) (gE 10 2 (.tup [(.agg [(bV true),(bV false),(bV false),(nI 0)]),(bV true)]))<|.b 5 6 (a==2) (gE 8 2 (.tup [(.agg [(bV true),(bV false),(bV false),(nI 0)]),(bV true)]))<|.b 7 10 (a==3) (gE 10 2 (.tup [(.agg [(bV false),(bV false),(bV false),(nI 0)]),(bV true)]))<|.b 6 10 (a==21) (gE 10 2 (.tup [(.agg [(bV false),(bV false),(bV false),(nI 0)]),(bV true)]))<|.b 6 10 (a==25) (gE 10 2 (.tup [(.agg [(bV false),(bV false),(bV false),(nI 0)]),(bV true)]))<|.b 5 10 (a==28) (gE 8 2 (.tup [(.agg [(bV false),(bV false),(bV false),(nI 0)]),(bV true)]))<|.b 6 16 (a==4) (gE 8 2 (.tup [(.agg [(bV false),(bV true),(bV false),(nI 0)]),(bV true)]))<|.b 7 19 (a==5) (gE 10 2 (.tup [(.agg [(bV false),(bV true),(bV false),(nI 1)]),(bV true)]))<|.b 5 19 (a==27) (gE 8 2 (.tup [(.agg [(bV false),(bV true),(bV false),(nI 1)]),(bV true)]))<|.b 6 23 (a==7) (gE 8 2 (.tup [(.agg [(bV false),(bV true),(bV false),(nI 2)]),(bV true)]))<|.b 6 26 (a==8) (gE 8 2 (.tup [(.agg [(bV false),(bV false),(bV false),(nI 3)]),(bV true)]))<|.b 6 29 (a==14) (gm 5 aU b<|gE 6 2 (.tup [(.agg [(bV false),(bV true),(bV false),(nI (if 3< (b.length:Int)then 3 else(b.length:Int)))]),(bV true)]))<|.b 6 36 (a==15) (gm 5 aJ c<|gw 1 41 (1+ (c.length:Int))<|gE 5 2 (.tup [(.agg [(bV false),(bV false),(bV true),(nI (1+ (c.length:Int)))]),(bV true)]))<|.b 7 43 (a==16) (gE 10 2 (.tup [(.agg [(bV false),(bV false),(bV false),(nI 1)]),(bV true)]))<|.b 6 43 (a==17) (gE 10 2 (.tup [(.agg [(bV false),(bV false),(bV false),(nI 1)]),(bV true)]))<|.b 6 43 (a==19) (gE 10 2 (.tup [(.agg [(bV false),(bV false),(bV false),(nI 1)]),(bV true)]))<|.b 6 43 (a==20) (gE 10 2 (.tup [(.agg [(bV false),(bV false),(bV false),(nI 1)]),(bV true)]))<|.b 6 43 (a==23) (gE 10 2 (.tup [(.agg [(bV false),(bV false),(bV false),(nI 1)]),(bV true)]))<|.b 5 43 (a==26) (gE 8 2 (.tup [(.agg [(bV false),(bV false),(bV false),(nI 1)]),(bV true)]))<|.b 6 51 (a==24) (gE 8 2 (.tup [(.agg [(bV true),(bV false),(bV false),(nI 1)]),(bV true)]))<|.b 7 54 (a==6) (gE 10 2 (.tup [(.agg [(bV false),(bV false),(bV false),(nI 2)]),(bV true)]))<|.b 6 54 (a==9) (gE 10 2 (.tup [(.agg [(bV false),(bV false),(bV false),(nI 2)]),(bV true)]))<|.b 6 54 (a==10) (gE 10 2 (.tup [(.agg [(bV false),(bV false),(bV false),(nI 2)]),(bV true)]))<|.b 6 54 (a==11) (gE 10 2 (.tup [(.agg [(bV false),(bV false),(bV false),(nI 2)]),(bV true)]))<|.b 6 54 (a==12) (gE 10 2 (.tup [(.agg [(bV false),(bV false),(bV false),(nI 2)]),(bV true)]))<|.b 6 54 (a==13) (gE 10 2 (.tup [(.agg [(bV false),(bV false),(bV false),(nI 2)]),(bV true)]))<|.b 6 54 (a==18) (gE 10 2 (.tup [(.agg [(bV false),(bV false),(bV false),(nI 2)]),(bV true)]))<|.b 5 54 (a==22) (gE 8 2 (.tup [(.agg [(bV false),(bV false),(bV false),(nI 2)]),(bV true)]))<|gE 10 2 (.tup [(.agg [(bV false),(bV false),(bV false),(nI 0)]),(bV false)])
def aW4:=fun a b c d e f=>fX a b c d e|>.t f tv
def aW5:=fun a b c d e f g=>fX a b c d e|>.f f|>.t g tv
def aW6:=fun a b c d e f g i=>fX a b c d e|>.f f|>.f g|>.t i tv
def aW7:=fun a b c d e f g i j=>fX a b c d e|>.f f|>.f g|>.f i|>.t j tv
def aW8:=fun a b c d e f g i j k=>fX a b c d e|>.f f|>.f g|>.f i|>.f j|>.t k tv
def aW9:=fun a b c d e f g i j k l=>fX a b c d e|>.f f|>.f g|>.f i|>.f j|>.f k|>.t l tv
def aXa:=fun a b c d e f g i j k l m=>fX a b c d e|>.f f|>.f g|>.f i|>.f j|>.f k|>.f l|>.t m tv
def aXb:=fun a b c d e f g i j k l m n=>fX a b c d e|>.f f|>.f g|>.f i|>.f j|>.f k|>.f l|>.f m|>.t n tv
def aXc:=fun a b c d e f g i j k l m n o=>fX a b c d e|>.f f|>.f g|>.f i|>.f j|>.f k|>.f l|>.f m|>.f n|>.t o tv
def aXd:=fun a b c d e f g i j k l m n o p=>fX a b c d e|>.f f|>.f g|>.f i|>.f j|>.f k|>.f l|>.f m|>.f n|>.f o|>.t p tv
def aRr:=fun a b c d e f g i j k l m n o p q=>fX a b c d e|>.f f|>.f g|>.f i|>.f j|>.f k|>.f l|>.f m|>.f n|>.f o|>.f p|>.t q tv
def aRs:=fun a b c d e f g i j k l m n o p q r=>fX a b c d e|>.f f|>.f g|>.f i|>.f j|>.f k|>.f l|>.f m|>.f n|>.f o|>.f p|>.f q|>.t r tv
def aRt:=fun a b c d e f g i j k l m n o p q r s t=>fX a b c d e|>.f f|>.f g|>.f i|>.f j|>.f k|>.f l|>.f m|>.f n|>.f o|>.f p|>.f q|>.f r|>.t s t tv
def aRu:=fun a b c d e f g i j k l m n o p q r s t=>fX a b c d e|>.f f|>.f g|>.f i|>.f j|>.f k|>.f l|>.f m|>.f n|>.f o|>.f p|>.f q|>.f r|>.f s|>.t t tv
def aRv:=fun a b c d e f g i j k l m n o p q r s t u=>fX a b c d e|>.f f|>.f g|>.f i|>.f j|>.f k|>.f l|>.f m|>.f n|>.f o|>.f p|>.f q|>.f r|>.f s|>.f t|>.t u tv
def aRw:=fun a b c d e f g i j k l m n o p q r s t u v=>fX a b c d e|>.f f|>.f g|>.f i|>.f j|>.f k|>.f l|>.f m|>.f n|>.f o|>.f p|>.f q|>.f r|>.f s|>.f t|>.f u|>.t v tv
def aRx:=fun a b c d e f g i j k l m n o p q r s t u v w=>fX a b c d e|>.f f|>.f g|>.f i|>.f j|>.f k|>.f l|>.f m|>.f n|>.f o|>.f p|>.f q|>.f r|>.f s|>.f t|>.f u|>.f v|>.t w tv
def aRy:=fun a b c d e f g i j k l m n o p q r s t u v w x=>fX a b c d e|>.f f|>.f g|>.f i|>.f j|>.f k|>.f l|>.f m|>.f n|>.f o|>.f p|>.f q|>.f r|>.f s|>.f t|>.f u|>.f v|>.f w|>.t x tv
def aRz:=fun a b c d e f g i j k l m n o p q r s t u v w x y=>fX a b c d e|>.f f|>.f g|>.f i|>.f j|>.f k|>.f l|>.f m|>.f n|>.f o|>.f p|>.f q|>.f r|>.f s|>.f t|>.f u|>.f v|>.f w|>.f x|>.t y tv
def aRA:=fun a b c d e f g i j k l m n o p q r s t u v w x y z=>fX a b c d e|>.f f|>.f g|>.f i|>.f j|>.f k|>.f l|>.f m|>.f n|>.f o|>.f p|>.f q|>.f r|>.f s|>.f t|>.f u|>.f v|>.f w|>.f x|>.f y|>.t z tv
def aRB:=fun a b c d e f g i j k l m n o p q r s t u v w x y z A=>fX a b c d e|>.f f|>.f g|>.f i|>.f j|>.f k|>.f l|>.f m|>.f n|>.f o|>.f p|>.f q|>.f r|>.f s|>.f t|>.f u|>.f v|>.f w|>.f x|>.f y|>.f z|>.t A tv
def aRC:=fun a b c d e f g i j k l m n o p q r s t u v w x y z A B=>fX a b c d e|>.f f|>.f g|>.f i|>.f j|>.f k|>.f l|>.f m|>.f n|>.f o|>.f p|>.f q|>.f r|>.f s|>.f t|>.f u|>.f v|>.f w|>.f x|>.f y|>.f z|>.f A|>.t B tv
def aRD:=fun a b c d e f g i j k l m n o p q r s t u v w x y z A B C=>fX a b c d e|>.f f|>.f g|>.f i|>.f j|>.f k|>.f l|>.f m|>.f n|>.f o|>.f p|>.f q|>.f r|>.f s|>.f t|>.f u|>.f v|>.f w|>.f x|>.f y|>.f z|>.f A|>.f B|>.t C tv
def aRE:=fun a b c d e f g i j k l m n o p q r s t u v w x y z A B C D=>fX a b c d e|>.f f|>.f g|>.f i|>.f j|>.f k|>.f l|>.f m|>.f n|>.f o|>.f p|>.f q|>.f r|>.f s|>.f t|>.f u|>.f v|>.f w|>.f x|>.f y|>.f z|>.f A|>.f B|>.f C|>.t D tv
def aRF:=fun a b c d e f g i j k l m n o p q r s t u v w x y z A B C D F=>fX a b c d e|>.f f|>.f g|>.f i|>.f j|>.f k|>.f l|>.f m|>.f n|>.f o|>.f p|>.f q|>.f r|>.f s|>.f t|>.f u|>.f v|>.f w|>.f x|>.f y|>.f z|>.f A|>.f B|>.f C|>.f D|>.t F tv
def aRG:=fun a b c d e f g i j k l m n o p q r s t u v w x y z A B C D F G=>fX a b c d e|>.f f|>.f g|>.f i|>.f j|>.f k|>.f l|>.f m|>.f n|>.f o|>.f p|>.f q|>.f r|>.f s|>.f t|>.f u|>.f v|>.f w|>.f x|>.f y|>.f z|>.f A|>.f B|>.f C|>.f D|>.f F|>.t G tv
def aRH:=fun a b c d e f g i j k l m n o p q r s t u v w x y z A B C D F G H=>fX a b c d e|>.f f|>.f g|>.f i|>.f j|>.f k|>.f l|>.f m|>.f n|>.f o|>.f p|>.f q|>.f r|>.f s|>.f t|>.f u|>.f v|>.f w|>.f x|>.f y|>.f z|>.f A|>.f B|>.f C|>.f D|>.f F|>.f G|>.t H tv
def aRI:=fun a b c d e f g i j k l m n o p q r s t u v w x y z A B C D F G H I=>fX a b c d e|>.f f|>.f g|>.f i|>.f j|>.f k|>.f l|>.f m|>.f n|>.f o|>.f p|>.f q|>.f r|>.f s|>.f t|>.f u|>.f v|>.f w|>.f x|>.f y|>.f z|>.f A|>.f B|>.f C|>.f D|>.f F|>.f G|>.f H|>.t I tv
def aRJ:=fun a b c d e f g i j k l m n o p q r s t u v w x y z A B C D F G H I=>fX a b c d e|>.f f|>.f g|>.f i|>.f j|>.f k|>.f l|>.f m|>.f n|>.f o|>.f p|>.f q|>.f r|>.f s|>.f t|>.f u|>.f v|>.f w|>.f x|>.f y|>.f z|>.f A|>.f B|>.f C|>.f D|>.f F|>.f G|>.f H|>.f I tv
def nK(g e:Int)(b:aB)(d:List Term)(a:List Pat):=tT 0 (aRq g e b d a)<|.y fun i:Bool=>.y fun f:Bool=>.y fun c:Bool=>.y fun j:Int=>.y fun k:Bool=>gp 7 250 [(.agg [(nI g),(nI e),(aA b),(.ilst 5 (Terms.av d) false),(iP a)])] (.tup [(.agg [(bV i),(bV f),(bV c),(nI j)]),(bV k)])<|.b 11 12 k (gm 2 aU d<|.b 5 20 ((d.length:Int) ==j) (.b 3 23 i (.b 9 32 f (.b 9 41 c (.W 17 2 [0,1] (pI g e b d a i f c j))<|gm 2 aJ a<|.b 9 3 (!((a.length:Int) ==0)) (gQ 6 2 [((.iface 299 (.agg [])),false)])<|.W 5 2 [0,1] (pI g e b d a i f c j))<|.b 6 38 (bA b.length (aD b) 0 0) (.b 3 41 c (.W 17 2 [0,1] (pI g e b d a i f c j))<|gm 2 aJ a<|.b 9 3 (!((a.length:Int) ==0)) (gQ 6 2 [((.iface 299 (.agg [])),false)])<|.W 5 2 [0,1] (pI g e b d a i f c j))<|gQ 21 2 [((.iface 299 (.agg [])),false)])<|.b 6 29 (e==0) (.b 3 32 f (.b 9 41 c (.W 17 2 [0,1] (pI g e b d a i f c j))<|gm 2 aJ a<|.b 9 3 (!((a.length:Int) ==0)) (gQ 6 2 [((.iface 299 (.agg [])),false)])<|.W 5 2 [0,1] (pI g e b d a i f c j))<|.b 6 38 (bA b.length (aD b) 0 0) (.b 3 41 c (.W 17 2 [0,1] (pI g e b d a i f c j))<|gm 2 aJ a<|.b 9 3 (!((a.length:Int) ==0)) (gQ 6 2 [((.iface 299 (.agg [])),false)])<|.W 5 2 [0,1] (pI g e b d a i f c j))<|gQ 21 2 [((.iface 299 (.agg [])),false)])<|gQ 30 2 [((.iface 299 (.agg [])),false)])<|gQ 39 2 [((.iface 299 (.agg [])),false)])<|gQ 47 2 [((.iface 299 (.agg [])),false)]
def aXe:=fun a b c d e f g i j k l m n o p q=>nK a b c d e f g i j k l|>.t m|>.t n|>.t o|>.t p|>.t q tv
def aXf:=fun a b c d e f g i j k l m n o p q r=>nK a b c d e f g i j k l|>.t m|>.t n|>.t o|>.t p|>.f q|>.t r tv
def aXg:=fun a b c d e f g i j k l m n o p q r=>nK a b c d e f g i j k l|>.t m|>.t n|>.t o|>.t p|>.f q|>.f r tv
def aXh:=fun a b c d e f g i j k l m n o p q r=>nK a b c d e f g i j k l|>.t m|>.t n|>.t o|>.f p|>.t q|>.t r tv
def aXi:=fun a b c d e f g i j k l m n o p q r s=>nK a b c d e f g i j k l|>.t m|>.t n|>.t o|>.f p|>.t q|>.f r|>.t s tv
def aXj:=fun a b c d e f g i j k l m n o p q r s=>nK a b c d e f g i j k l|>.t m|>.t n|>.t o|>.f p|>.t q|>.f r|>.f s tv
def aXk:=fun a b c d e f g i j k l m n o p q=>nK a b c d e f g i j k l|>.t m|>.t n|>.t o|>.f p|>.f q tv
def aXl:=fun a b c d e f g i j k l m n o p q r=>nK a b c d e f g i j k l|>.t m|>.t n|>.f o|>.t p|>.t q|>.t r tv
def aXm:=fun a b c d e f g i j k l m n o p q r s=>nK a b c d e f g i j k l|>.t m|>.t n|>.f o|>.t p|>.t q|>.f r|>.t s tv
def aXn:=fun a b c d e f g i j k l m n o p q r s=>nK a b c d e f g i j k l|>.t m|>.t n|>.f o|>.t p|>.t q|>.f r|>.f s tv
def aRK:=fun a b c d e f g i j k l m n o p q r s=>nK a b c d e f g i j k l|>.t m|>.t n|>.f o|>.t p|>.f q|>.t r|>.t s tv
def aRL:=fun a b c d e f g i j k l m n o p q r s t=>nK a b c d e f g i j k l|>.t m|>.t n|>.f o|>.t p|>.f q|>.t r|>.f s|>.t t tv
def aRM:=fun a b c d e f g i j k l m n o p q r s t=>nK a b c d e f g i j k l|>.t m|>.t n|>.f o|>.t p|>.f q|>.t r|>.f s|>.f t tv
def aRN:=fun a b c d e f g i j k l m n o p q r=>nK a b c d e f g i j k l|>.t m|>.t n|>.f o|>.t p|>.f q|>.f r tv
def aRO:=fun a b c d e f g i j k l m n o p=>nK a b c d e f g i j k l|>.t m|>.t n|>.f o|>.f p tv
def aRP:=fun a b c d e f g i j k l m n=>nK a b c d e f g i j k l|>.t m|>.f n tv
def aRQ:=fun a b c d e f g i j k l m=>nK a b c d e f g i j k l|>.f m tv
def qL(a b:Int)(d:aB)(e:List Term)(c:List Pat)(f g i:Bool)(j:Int):=tT 0 (pI a b d e c f g i j)<|.b 12 51 (a==1) (dR 4 251 [(nI b)]<|fun k=>.b 6 3 (!k) (gQ 6 2 [((.iface 299 (.agg [])),false)])<|.W 6 2 [0,1] (pJ a b d e c f g i j))<|.b 6 57 (a==2) (.b 6 62 (b==0) (.W 16 2 [0,1] (pJ a b d e c f g i j))<|.b 10 3 (!(b==1)) (gQ 6 2 [((.iface 299 (.agg [])),false)])<|.W 6 2 [0,1] (pJ a b d e c f g i j))<|.b 6 68 (a==24) (gd 6 73 (b≥0) (.b 10 3 (!(decide (b<4))) (gQ 6 2 [((.iface 299 (.agg [])),false)])<|.W 6 2 [0,1] (pJ a b d e c f g i j))<|gQ 16 2 [((.iface 299 (.agg [])),false)])<|.b 6 79 (a==14) (dR 4 179 [(aA d)]<|fun k=>.b 6 3 (!k) (gQ 6 2 [((.iface 299 (.agg [])),false)])<|.W 6 2 [0,1] (pJ a b d e c f g i j))<|.b 6 85 (a==15) (gm 5 aJ c<|gd 2 91 ((c.length:Int) ≥1) (gm 2 aJ c<|.b 8 3 (!(decide ((c.length:Int) ≤5))) (gQ 6 2 [((.iface 299 (.agg [])),false)])<|gm 9 aJ c<|.W 4 2 [0,1] (aDY a b d e c f g i j 0))<|gQ 17 2 [((.iface 299 (.agg [])),false)])<|.W 3 2 [0,1] (pJ a b d e c f g i j)
def aXo:=fun a b c d e f g i j k l m n=>qL a b c d e f g i j|>.t l k m|>.t n tv
def aXp:=fun a b c d e f g i j k l m n=>qL a b c d e f g i j|>.t l k m|>.f n tv
def aXq:=fun a b c d e f g i j k l m=>qL a b c d e f g i j|>.f k|>.t l|>.t m tv
def aXr:=fun a b c d e f g i j k l m n=>qL a b c d e f g i j|>.f k|>.t l|>.f m|>.t n tv
def aXs:=fun a b c d e f g i j k l m n=>qL a b c d e f g i j|>.f k|>.t l|>.f m|>.f n tv
def aXt:=fun a b c d e f g i j k l m n o=>qL a b c d e f g i j|>.f k|>.f l|>.t m|>.t n|>.t o tv
def aXu:=fun a b c d e f g i j k l m n o=>qL a b c d e f g i j|>.f k|>.f l|>.t m|>.t n|>.f o tv
def aXv:=fun a b c d e f g i j k l m n=>qL a b c d e f g i j|>.f k|>.f l|>.t m|>.f n tv
def aXw:=fun a b c d e f g i j k l m n o p q=>qL a b c d e f g i j|>.f l|>.f m|>.f n|>.t o k p|>.t q tv
def aXx:=fun a b c d e f g i j k l m n o p q=>qL a b c d e f g i j|>.f l|>.f m|>.f n|>.t o k p|>.f q tv
def aRR:=fun a b c d e f g i j k l m n o p q=>qL a b c d e f g i j|>.f k|>.f l|>.f m|>.f n|>.t o|>.t p|>.t q tv
def aRS:=fun a b c d e f g i j k l m n o p q=>qL a b c d e f g i j|>.f k|>.f l|>.f m|>.f n|>.t o|>.t p|>.f q tv
def aRT:=fun a b c d e f g i j k l m n o p=>qL a b c d e f g i j|>.f k|>.f l|>.f m|>.f n|>.t o|>.f p tv
def aRU:=fun a b c d e f g i j k l m n o=>qL a b c d e f g i j|>.f k|>.f l|>.f m|>.f n|>.f o tv
def aMx(a d:Int)(b:aB)(e:List Term)(f:List Pat)(g c i:Bool)(j:Int):=tT 0 (pJ a d b e f g c i j)<|.b 5 112 c (.b 5 116 (a != 14) (dR 4 103 [(aA b)]<|fun k=>.b 6 3 (!k) (gQ 6 2 [((.iface 299 (.agg [])),false)])<|gE 6 2 (.tup []))<|gE 3 2 (.tup []))<|gE 8 2 (.tup [])
def aXy:=fun a b c d e f g i j k l m n o=>aMx a b c d e f g i j|>.t l|>.t m k n|>.t o tv
def aXz:=fun a b c d e f g i j k l m n o=>aMx a b c d e f g i j|>.t l|>.t m k n|>.f o tv
def aXA:=fun a b c d e f g i j k l=>aMx a b c d e f g i j|>.t k|>.f l tv
def aXB:=fun a b c d e f g i j k=>aMx a b c d e f g i j|>.f k tv
def aRV(c d:Int)(e:aB)(f:List Term)(a:List Pat)(g i j:Bool)(k b:Int):=tT 0 (aDY c d e f a g i j k b)<|gd 5 102 (b< (a.length:Int)) (xM 6 a b<|fun l m n o=>gpI 6 234 [(.agg [(nI l),(nI m),(aA n),(iP o)])]<|fun p=>.b 7 3 (!(p==0)) (gQ 6 3 [((.iface 299 (.agg [])),false)])<|gw 8 109 (b+1)<|.W 3 3 [0,1] (aDY c d e f a g i j k (b+1)))<|.W 3 2 [0,1] (pJ c d e f a g i j k)
def aXC:=fun a b c d e f g i j k l m n o p q r s t u=>aRV a b c d e f g i j k|>.t q l m n o r s p t|>.t u tv
def aXD:=fun a b c d e f g i j k l m n o p q r s t u v=>aRV a b c d e f g i j k|>.t q l m n o r s p t|>.f u v tv
def aXE:=fun a b c d e f g i j k l=>aRV a b c d e f g i j k|>.f l tv
def kD (op:Int) :Bool:=decide (op=1∨op=2∨op=24)
def jS (op:Int) :Bool:=decide (op=4∨op=5∨op=27∨op=7∨op=14)
def jT (op:Int) :Bool:=decide (op=15)
def kE (op k m:Int) :Int:=
 if op=5∨op=27 then 1 else if op=7 then 2 else if op=8 then 3 else if op=14 then(if 3<k then 3 else k)else if op=15 then 1+m
 else if op=16∨op=17∨op=19∨op=20∨op=23∨op=26∨op=24 then 1
 else if op=6∨op=9∨op=10∨op=11∨op=12∨op=13∨op=18∨op=22 then 2 else 0
def hiT (op:Int) :Bool:=decide (op=1∨op=2∨op=3∨op=21∨op=25∨op=28∨op=4∨op=5∨op=27∨op=7∨op=8∨op=14∨op=15∨op=16∨op=17∨op=19∨op=20∨op=23∨op=26∨op=24∨op=6∨op=9∨op=10∨op=11∨op=12∨op=13∨op=18∨op=22)
theorem bSh_E (t_op t_n : Int)(t_text:aB)(t_kids:List Term)(t_pats:List Pat)(hks:t_kids.length<1000000)(hps:t_pats.length<1000000) :
  Ends PP 0 (start PP 250 [Term.av (.mk t_op t_n t_text t_kids t_pats)]).as (.ret (.tup [.agg [.bool (kD t_op),.bool (jS t_op),.bool (jT t_op),.int .i64 (kE t_op (length t_kids) (length t_pats))],.bool (hiT t_op)])) (aG [] 0) :=by
 cases hb1: (t_op== (1:Int))with
 | true=>
  exact Ends.eqv (aW4 t_op t_n t_text t_kids t_pats   hb1) (by simp_all [kD,jS,jT,kE,hiT])
 | false =>
  cases hb2: (t_op== (2:Int))with
  | true=>
   exact Ends.eqv (aW5 t_op t_n t_text t_kids t_pats   hb1 hb2) (by simp_all [kD,jS,jT,kE,hiT])
  | false =>
   cases hb3: (t_op== (3:Int))with
   | true=>
    exact Ends.eqv (aW6 t_op t_n t_text t_kids t_pats   hb1 hb2 hb3) (by simp_all [kD,jS,jT,kE,hiT])
   | false =>
    cases hb4: (t_op== (21:Int))with
    | true=>
     exact Ends.eqv (aW7 t_op t_n t_text t_kids t_pats   hb1 hb2 hb3 hb4) (by simp_all [kD,jS,jT,kE,hiT])
    | false =>
     cases hb5: (t_op== (25:Int))with
     | true=>
      exact Ends.eqv (aW8 t_op t_n t_text t_kids t_pats   hb1 hb2 hb3 hb4 hb5) (by simp_all [kD,jS,jT,kE,hiT])
     | false =>
      cases hb6: (t_op== (28:Int))with
      | true=>
       exact Ends.eqv (aW9 t_op t_n t_text t_kids t_pats   hb1 hb2 hb3 hb4 hb5 hb6) (by simp_all [kD,jS,jT,kE,hiT])
      | false =>
       cases hb7: (t_op== (4:Int))with
       | true=>
        exact Ends.eqv (aXa t_op t_n t_text t_kids t_pats   hb1 hb2 hb3 hb4 hb5 hb6 hb7) (by simp_all [kD,jS,jT,kE,hiT])
       | false =>
        cases hb8: (t_op== (5:Int))with
        | true=>
         exact Ends.eqv (aXb t_op t_n t_text t_kids t_pats   hb1 hb2 hb3 hb4 hb5 hb6 hb7 hb8) (by simp_all [kD,jS,jT,kE,hiT])
        | false =>
         cases hb9: (t_op== (27:Int))with
         | true=>
          exact Ends.eqv (aXc t_op t_n t_text t_kids t_pats   hb1 hb2 hb3 hb4 hb5 hb6 hb7 hb8 hb9) (by simp_all [kD,jS,jT,kE,hiT])
         | false =>
          cases hb10: (t_op== (7:Int))with
          | true=>
           exact Ends.eqv (aXd t_op t_n t_text t_kids t_pats   hb1 hb2 hb3 hb4 hb5 hb6 hb7 hb8 hb9 hb10) (by simp_all [kD,jS,jT,kE,hiT])
          | false =>
           cases hb11: (t_op== (8:Int))with
           | true=>
            exact Ends.eqv (aRr t_op t_n t_text t_kids t_pats   hb1 hb2 hb3 hb4 hb5 hb6 hb7 hb8 hb9 hb10 hb11) (by simp_all [kD,jS,jT,kE,hiT])
           | false =>
            cases hb12: (t_op== (14:Int))with
            | true=>
             exact Ends.eqv (aRs t_op t_n t_text t_kids t_pats   hb1 hb2 hb3 hb4 hb5 hb6 hb7 hb8 hb9 hb10 hb11 hb12) (by simp_all [kD,jS,jT,kE,hiT])
            | false =>
             cases hb13: (t_op== (15:Int))with
             | true=>
              exact Ends.eqv (aRt t_op t_n t_text t_kids t_pats   hb1 hb2 hb3 hb4 hb5 hb6 hb7 hb8 hb9 hb10 hb11 hb12 hb13 sdI) (by simp_all [kD,jS,jT,kE,hiT])
             | false =>
              cases hb14: (t_op== (16:Int))with
              | true=>
               exact Ends.eqv (aRu t_op t_n t_text t_kids t_pats   hb1 hb2 hb3 hb4 hb5 hb6 hb7 hb8 hb9 hb10 hb11 hb12 hb13 hb14) (by simp_all [kD,jS,jT,kE,hiT])
              | false =>
               cases hb15: (t_op== (17:Int))with
               | true=>
                exact Ends.eqv (aRv t_op t_n t_text t_kids t_pats   hb1 hb2 hb3 hb4 hb5 hb6 hb7 hb8 hb9 hb10 hb11 hb12 hb13 hb14 hb15) (by simp_all [kD,jS,jT,kE,hiT])
               | false =>
                cases hb16: (t_op== (19:Int))with
                | true=>
                 exact Ends.eqv (aRw t_op t_n t_text t_kids t_pats   hb1 hb2 hb3 hb4 hb5 hb6 hb7 hb8 hb9 hb10 hb11 hb12 hb13 hb14 hb15 hb16) (by simp_all [kD,jS,jT,kE,hiT])
                | false =>
                 cases hb17: (t_op== (20:Int))with
                 | true=>
                  exact Ends.eqv (aRx t_op t_n t_text t_kids t_pats   hb1 hb2 hb3 hb4 hb5 hb6 hb7 hb8 hb9 hb10 hb11 hb12 hb13 hb14 hb15 hb16 hb17) (by simp_all [kD,jS,jT,kE,hiT])
                 | false =>
                  cases hb18: (t_op== (23:Int))with
                  | true=>
                   exact Ends.eqv (aRy t_op t_n t_text t_kids t_pats   hb1 hb2 hb3 hb4 hb5 hb6 hb7 hb8 hb9 hb10 hb11 hb12 hb13 hb14 hb15 hb16 hb17 hb18) (by simp_all [kD,jS,jT,kE,hiT])
                  | false =>
                   cases hb19: (t_op== (26:Int))with
                   | true=>
                    exact Ends.eqv (aRz t_op t_n t_text t_kids t_pats   hb1 hb2 hb3 hb4 hb5 hb6 hb7 hb8 hb9 hb10 hb11 hb12 hb13 hb14 hb15 hb16 hb17 hb18 hb19) (by simp_all [kD,jS,jT,kE,hiT])
                   | false =>
                    cases hb20: (t_op== (24:Int))with
                    | true=>
                     exact Ends.eqv (aRA t_op t_n t_text t_kids t_pats   hb1 hb2 hb3 hb4 hb5 hb6 hb7 hb8 hb9 hb10 hb11 hb12 hb13 hb14 hb15 hb16 hb17 hb18 hb19 hb20) (by simp_all [kD,jS,jT,kE,hiT])
                    | false =>
                     cases hb21: (t_op== (6:Int))with
                     | true=>
                      exact Ends.eqv (aRB t_op t_n t_text t_kids t_pats   hb1 hb2 hb3 hb4 hb5 hb6 hb7 hb8 hb9 hb10 hb11 hb12 hb13 hb14 hb15 hb16 hb17 hb18 hb19 hb20 hb21) (by simp_all [kD,jS,jT,kE,hiT])
                     | false =>
                      cases hb22: (t_op== (9:Int))with
                      | true=>
                       exact Ends.eqv (aRC t_op t_n t_text t_kids t_pats   hb1 hb2 hb3 hb4 hb5 hb6 hb7 hb8 hb9 hb10 hb11 hb12 hb13 hb14 hb15 hb16 hb17 hb18 hb19 hb20 hb21 hb22) (by simp_all [kD,jS,jT,kE,hiT])
                      | false =>
                       cases hb23: (t_op== (10:Int))with
                       | true=>
                        exact Ends.eqv (aRD t_op t_n t_text t_kids t_pats   hb1 hb2 hb3 hb4 hb5 hb6 hb7 hb8 hb9 hb10 hb11 hb12 hb13 hb14 hb15 hb16 hb17 hb18 hb19 hb20 hb21 hb22 hb23) (by simp_all [kD,jS,jT,kE,hiT])
                       | false=>
                        cases hb24: (t_op== (11:Int))with
                        | true=>
                         exact Ends.eqv (aRE t_op t_n t_text t_kids t_pats   hb1 hb2 hb3 hb4 hb5 hb6 hb7 hb8 hb9 hb10 hb11 hb12 hb13 hb14 hb15 hb16 hb17 hb18 hb19 hb20 hb21 hb22 hb23 hb24) (by simp_all [kD,jS,jT,kE,hiT])
                        | false=>
                         cases hb25: (t_op== (12:Int))with
                         | true=>
                          exact Ends.eqv (aRF t_op t_n t_text t_kids t_pats   hb1 hb2 hb3 hb4 hb5 hb6 hb7 hb8 hb9 hb10 hb11 hb12 hb13 hb14 hb15 hb16 hb17 hb18 hb19 hb20 hb21 hb22 hb23 hb24 hb25) (by simp_all [kD,jS,jT,kE,hiT])
                         | false=>
                          cases hb26: (t_op== (13:Int))with
                          | true=>
                           exact Ends.eqv (aRG t_op t_n t_text t_kids t_pats   hb1 hb2 hb3 hb4 hb5 hb6 hb7 hb8 hb9 hb10 hb11 hb12 hb13 hb14 hb15 hb16 hb17 hb18 hb19 hb20 hb21 hb22 hb23 hb24 hb25 hb26) (by simp_all [kD,jS,jT,kE,hiT])
                          | false=>
                           cases hb27: (t_op== (18:Int))with
                           | true=>
                            exact Ends.eqv (aRH t_op t_n t_text t_kids t_pats   hb1 hb2 hb3 hb4 hb5 hb6 hb7 hb8 hb9 hb10 hb11 hb12 hb13 hb14 hb15 hb16 hb17 hb18 hb19 hb20 hb21 hb22 hb23 hb24 hb25 hb26 hb27) (by simp_all [kD,jS,jT,kE,hiT])
                           | false=>
                            cases hb28: (t_op== (22:Int))with
                            | true=>
                             exact Ends.eqv (aRI t_op t_n t_text t_kids t_pats   hb1 hb2 hb3 hb4 hb5 hb6 hb7 hb8 hb9 hb10 hb11 hb12 hb13 hb14 hb15 hb16 hb17 hb18 hb19 hb20 hb21 hb22 hb23 hb24 hb25 hb26 hb27 hb28) (by simp_all [kD,jS,jT,kE,hiT])
                            | false=>
                             exact Ends.eqv (aRJ t_op t_n t_text t_kids t_pats   hb1 hb2 hb3 hb4 hb5 hb6 hb7 hb8 hb9 hb10 hb11 hb12 hb13 hb14 hb15 hb16 hb17 hb18 hb19 hb20 hb21 hb22 hb23 hb24 hb25 hb26 hb27 hb28) (by simp_all [kD,jS,jT,kE,hiT])
theorem aRW (o n:Int)(s:aB)(ks:List Term)(ps:List Pat)(hks:ks.length<1000000)(hps:ps.length<1000000) :Pure PP 250 [Term.av (.mk o n s ks ps)] (.tup [.agg [.bool (kD o),.bool (jS o),.bool (jT o),.int .i64 (kE o (length ks) (length ps))],.bool (hiT o)]) :=
 bC (by kernel_rfl) (by simp [keylessL,dF]) rfl (bSh_E o n s ks ps hks hps)
def aX (hi hn ht hp:Bool)(K n:Int)(s:aB)(k m:Int) :Bool:=hi&&decide (k=K) && (hn||decide (n=0)) && (ht||decide (s= [])) && (hp||decide (m=0))
def aT (op n:Int)(s:aB)(k m:Int) :Bool:=aX (hiT op) (kD op) (jS op) (jT op) (kE op k m) n s k m
def bT (op n:Int)(s:aB)(m:Int) :Bool:=
 if op=1 then cF n (-1000000000) 1000000000 else if op=2 then cF n 0 1 else if op=24 then cF n 0 3 else if op=14 then cD s else if op=15 then cF m 1 5 else true
def dT (op:Int)(s:aB) :Bool:=if jS op=true∧op≠14 then dK s else true
theorem aRX (op n:Int)(s:aB)(k m:Int) :aL op n s k m= (aT op n s k m&&bT op n s m&&dT op s) :=by
 by_cases h1:op=1
 · subst h1;simp [aL,aT,aX,bT,dT,hiT,kE,kD,jS,jT,aK,Bool.and_assoc,Bool.and_comm,Bool.and_left_comm]
 by_cases h2:op=2
 · subst h2;simp [aL,aT,aX,bT,dT,hiT,kE,kD,jS,jT,aK,Bool.and_assoc,Bool.and_comm,Bool.and_left_comm]
 by_cases h3:op=3
 · subst h3;simp [aL,aT,aX,bT,dT,hiT,kE,kD,jS,jT,aK,Bool.and_assoc,Bool.and_comm,Bool.and_left_comm]
 by_cases h21:op=21
 · subst h21;simp [aL,aT,aX,bT,dT,hiT,kE,kD,jS,jT,aK,Bool.and_assoc,Bool.and_comm,Bool.and_left_comm]
 by_cases h25:op=25
 · subst h25;simp [aL,aT,aX,bT,dT,hiT,kE,kD,jS,jT,aK,Bool.and_assoc,Bool.and_comm,Bool.and_left_comm]
 by_cases h28:op=28
 · subst h28;simp [aL,aT,aX,bT,dT,hiT,kE,kD,jS,jT,aK,Bool.and_assoc,Bool.and_comm,Bool.and_left_comm]
 by_cases h4:op=4
 · subst h4;simp [aL,aT,aX,bT,dT,hiT,kE,kD,jS,jT,aK,Bool.and_assoc,Bool.and_comm,Bool.and_left_comm]
 by_cases h5:op=5
 · subst h5;simp [aL,aT,aX,bT,dT,hiT,kE,kD,jS,jT,aK,Bool.and_assoc,Bool.and_comm,Bool.and_left_comm]
 by_cases h27:op=27
 · subst h27;simp [aL,aT,aX,bT,dT,hiT,kE,kD,jS,jT,aK,Bool.and_assoc,Bool.and_comm,Bool.and_left_comm]
 by_cases h7:op=7
 · subst h7;simp [aL,aT,aX,bT,dT,hiT,kE,kD,jS,jT,aK,Bool.and_assoc,Bool.and_comm,Bool.and_left_comm]
 by_cases h8:op=8
 · subst h8;simp [aL,aT,aX,bT,dT,hiT,kE,kD,jS,jT,aK,Bool.and_assoc,Bool.and_comm,Bool.and_left_comm]
 by_cases h15:op=15
 · subst h15;simp [aL,aT,aX,bT,dT,hiT,kE,kD,jS,jT,aK,Bool.and_assoc,Bool.and_comm,Bool.and_left_comm]
 by_cases h16:op=16
 · subst h16;simp [aL,aT,aX,bT,dT,hiT,kE,kD,jS,jT,aK,Bool.and_assoc,Bool.and_comm,Bool.and_left_comm]
 by_cases h17:op=17
 · subst h17;simp [aL,aT,aX,bT,dT,hiT,kE,kD,jS,jT,aK,Bool.and_assoc,Bool.and_comm,Bool.and_left_comm]
 by_cases h19:op=19
 · subst h19;simp [aL,aT,aX,bT,dT,hiT,kE,kD,jS,jT,aK,Bool.and_assoc,Bool.and_comm,Bool.and_left_comm]
 by_cases h20:op=20
 · subst h20;simp [aL,aT,aX,bT,dT,hiT,kE,kD,jS,jT,aK,Bool.and_assoc,Bool.and_comm,Bool.and_left_comm]
 by_cases h23:op=23
 · subst h23;simp [aL,aT,aX,bT,dT,hiT,kE,kD,jS,jT,aK,Bool.and_assoc,Bool.and_comm,Bool.and_left_comm]
 by_cases h26:op=26
 · subst h26;simp [aL,aT,aX,bT,dT,hiT,kE,kD,jS,jT,aK,Bool.and_assoc,Bool.and_comm,Bool.and_left_comm]
 by_cases h24:op=24
 · subst h24;simp [aL,aT,aX,bT,dT,hiT,kE,kD,jS,jT,aK,Bool.and_assoc,Bool.and_comm,Bool.and_left_comm]
 by_cases h6:op=6
 · subst h6;simp [aL,aT,aX,bT,dT,hiT,kE,kD,jS,jT,aK,Bool.and_assoc,Bool.and_comm,Bool.and_left_comm]
 by_cases h9:op=9
 · subst h9;simp [aL,aT,aX,bT,dT,hiT,kE,kD,jS,jT,aK,Bool.and_assoc,Bool.and_comm,Bool.and_left_comm]
 by_cases h10:op=10
 · subst h10;simp [aL,aT,aX,bT,dT,hiT,kE,kD,jS,jT,aK,Bool.and_assoc,Bool.and_comm,Bool.and_left_comm]
 by_cases h11:op=11
 · subst h11;simp [aL,aT,aX,bT,dT,hiT,kE,kD,jS,jT,aK,Bool.and_assoc,Bool.and_comm,Bool.and_left_comm]
 by_cases h12:op=12
 · subst h12;simp [aL,aT,aX,bT,dT,hiT,kE,kD,jS,jT,aK,Bool.and_assoc,Bool.and_comm,Bool.and_left_comm]
 by_cases h13:op=13
 · subst h13;simp [aL,aT,aX,bT,dT,hiT,kE,kD,jS,jT,aK,Bool.and_assoc,Bool.and_comm,Bool.and_left_comm]
 by_cases h18:op=18
 · subst h18;simp [aL,aT,aX,bT,dT,hiT,kE,kD,jS,jT,aK,Bool.and_assoc,Bool.and_comm,Bool.and_left_comm]
 by_cases h22:op=22
 · subst h22;simp [aL,aT,aX,bT,dT,hiT,kE,kD,jS,jT,aK,Bool.and_assoc,Bool.and_comm,Bool.and_left_comm]
 by_cases h14:op=14
 · subst h14;have e: (!decide (3<k) ||decide (k=3)) =decide (k≤3) :=by by_cases h:3<k<;>simp [h] <;>omega
   simp [aL,aT,aX,bT,dT,hiT,kE,kD,jS,jT,aK,e,Bool.and_assoc,Bool.and_comm,Bool.and_left_comm]
 have hf:aL op n s k m=false:=by simp [aL,h1,h2,h3,h21,h25,h28,h4,h5,h27,h7,h8,h15,h16,h17,h19,h20,h23,h26,h24,h6,h9,h10,h11,h12,h13,h18,h22,h14]
 have hi:hiT op=false:=by simp [hiT,h1,h2,h3,h21,h25,h28,h4,h5,h27,h7,h8,h15,h16,h17,h19,h20,h23,h26,h24,h6,h9,h10,h11,h12,h13,h18,h22,h14]
 rw [hf];simp [aT,aX,hi]
theorem bGR (t_op t_n:Int)(t_text:aB)(t_kids:List Term)(t_pats:List Pat)(hn0 ht1 hp2:Bool)(hk3:Int)(hht:ht1=jS t_op) :
  Ends PP 0 (pJ t_op t_n t_text t_kids t_pats hn0 ht1 hp2 hk3).as (kV (dT t_op t_text)) (aG [] 0) :=by
 cases ht1 with
 | true=>
  cases hb1: (t_op != (14:Int))with
  | true=>
   cases hb2: (!(dK t_text))with
   | true=>
    rw [show dT t_op t_text=false by simp_all [dT]];exact aXy t_op t_n t_text t_kids t_pats hn0 true hp2 hk3 (dK t_text) rfl hb1 (lJ t_text) hb2
   | false=>
    rw [show dT t_op t_text=true by simp_all [dT]];exact aXz t_op t_n t_text t_kids t_pats hn0 true hp2 hk3 (dK t_text) rfl hb1 (lJ t_text) hb2
  | false=>
   rw [show dT t_op t_text=true by simp_all [dT]];exact aXA t_op t_n t_text t_kids t_pats hn0 true hp2 hk3  rfl hb1
 | false=>
  rw [show dT t_op t_text=true by simp_all [dT]];exact aXB t_op t_n t_text t_kids t_pats hn0 false hp2 hk3  rfl
theorem bGS (t_op t_n:Int)(t_text:aB)(t_kids:List Term)(t_pats:List Pat)(hn0 ht1 hp2:Bool)(hk3:Int)(b:Bool)(hno:bT t_op t_n t_text (length t_pats) =false→b=false)
  (h1:bT t_op t_n t_text (length t_pats) =true→t_op≠15→Ends PP 0 (pJ t_op t_n t_text t_kids t_pats hn0 ht1 hp2 hk3).as (kV b) (aG [] 0))
  (h2:bT t_op t_n t_text (length t_pats) =true→t_op=15→Ends PP 0 (aDY t_op t_n t_text t_kids t_pats hn0 ht1 hp2 hk3 0).as (kV b) (aG [] 0)) :
  Ends PP 0 (pI t_op t_n t_text t_kids t_pats hn0 ht1 hp2 hk3).as (kV b) (aG [] 0) :=by
 cases hb1: (t_op== (1:Int))with
 | true=>
  cases hb2: (!(cF t_n (-1000000000) 1000000000))with
  | true=>
   rw [hno (by clear h1 h2 hno;simp_all [bT,cF] <;>omega)];exact aXo t_op t_n t_text t_kids t_pats hn0 ht1 hp2 hk3 (cF t_n (-1000000000) 1000000000) hb1 (xF t_n) hb2
  | false=>
   exact LeadsM.ends (aXp t_op t_n t_text t_kids t_pats hn0 ht1 hp2 hk3 (cF t_n (-1000000000) 1000000000) hb1 (xF t_n) hb2) (h1 (by clear h1 h2 hno;simp_all [bT,cF] <;>omega) (by clear h1 h2 hno;simp_all [bT,cF] <;>omega))
 | false =>
  cases hb3: (t_op== (2:Int))with
  | true=>
   cases hb4: (t_n== (0:Int))with
   | true=>
    exact LeadsM.ends (aXq t_op t_n t_text t_kids t_pats hn0 ht1 hp2 hk3  hb1 hb3 hb4) (h1 (by clear h1 h2 hno;simp_all [bT,cF] <;>omega) (by clear h1 h2 hno;simp_all [bT,cF] <;>omega))
   | false=>
    cases hb5: (!(t_n== (1:Int)))with
    | true=>
     rw [hno (by clear h1 h2 hno;simp_all [bT,cF] <;>omega)];exact aXr t_op t_n t_text t_kids t_pats hn0 ht1 hp2 hk3  hb1 hb3 hb4 hb5
    | false=>
     exact LeadsM.ends (aXs t_op t_n t_text t_kids t_pats hn0 ht1 hp2 hk3  hb1 hb3 hb4 hb5) (h1 (by clear h1 h2 hno;simp_all [bT,cF] <;>omega) (by clear h1 h2 hno;simp_all [bT,cF] <;>omega))
  | false=>
   cases hb6: (t_op== (24:Int))with
   | true=>
    cases hb7: (decide (t_n≥ (0:Int)))with
    | true=>
     cases hb8: (!(decide (t_n< (4:Int))))with
     | true=>
      rw [hno (by clear h1 h2 hno;simp_all [bT,cF] <;>omega)];exact aXt t_op t_n t_text t_kids t_pats hn0 ht1 hp2 hk3  hb1 hb3 hb6 hb7 hb8
     | false=>
      exact LeadsM.ends (aXu t_op t_n t_text t_kids t_pats hn0 ht1 hp2 hk3  hb1 hb3 hb6 hb7 hb8) (h1 (by clear h1 h2 hno;simp_all [bT,cF] <;>omega) (by clear h1 h2 hno;simp_all [bT,cF] <;>omega))
    | false=>
     rw [hno (by clear h1 h2 hno;simp_all [bT,cF] <;>omega)];exact aXv t_op t_n t_text t_kids t_pats hn0 ht1 hp2 hk3  hb1 hb3 hb6 hb7
   | false=>
    cases hb9: (t_op== (14:Int))with
    | true=>
     cases hb10: (!(cD t_text))with
     | true=>
      rw [hno (by clear h1 h2 hno;simp_all [bT,cF] <;>omega)];exact aXw t_op t_n t_text t_kids t_pats hn0 ht1 hp2 hk3 (cD t_text) hb1 hb3 hb6 hb9 (hO t_text) hb10
     | false=>
      exact LeadsM.ends (aXx t_op t_n t_text t_kids t_pats hn0 ht1 hp2 hk3 (cD t_text) hb1 hb3 hb6 hb9 (hO t_text) hb10) (h1 (by clear h1 h2 hno;simp_all [bT,cF] <;>omega) (by clear h1 h2 hno;simp_all [bT,cF] <;>omega))
    | false=>
     cases hb11: (t_op== (15:Int))with
     | true=>
      cases hb12: (decide (((length t_pats:Nat) :Int) ≥ (1:Int)))with
      | true=>
       cases hb13: (!(decide (((length t_pats:Nat) :Int) ≤ (5:Int))))with
       | true=>
        rw [hno (by clear h1 h2 hno;simp_all [bT,cF] <;>omega)];exact aRR t_op t_n t_text t_kids t_pats hn0 ht1 hp2 hk3  hb1 hb3 hb6 hb9 hb11 hb12 hb13
       | false=>
        exact LeadsM.ends (aRS t_op t_n t_text t_kids t_pats hn0 ht1 hp2 hk3  hb1 hb3 hb6 hb9 hb11 hb12 hb13) (h2 (by clear h1 h2 hno;simp_all [bT,cF] <;>omega) (by clear h1 h2 hno;simp_all [bT,cF] <;>omega))
      | false=>
       rw [hno (by clear h1 h2 hno;simp_all [bT,cF] <;>omega)];exact aRT t_op t_n t_text t_kids t_pats hn0 ht1 hp2 hk3  hb1 hb3 hb6 hb9 hb11 hb12
     | false=>
      exact LeadsM.ends (aRU t_op t_n t_text t_kids t_pats hn0 ht1 hp2 hk3  hb1 hb3 hb6 hb9 hb11) (h1 (by clear h1 h2 hno;simp_all [bT,cF] <;>omega) (by clear h1 h2 hno;simp_all [bT,cF] <;>omega))
theorem bGT (t_op t_n:Int)(t_text:aB)(t_kids:List Term)(t_pats:List Pat)(hi hn ht hp:Bool)(K:Int)(hsh:Pure PP 250 [Term.av (.mk t_op t_n t_text t_kids t_pats)] (.tup [.agg [.bool hn,.bool ht,.bool hp,.int .i64 K],.bool hi]))(b:Bool)(hno:aX hi hn ht hp K t_n t_text (length t_kids) (length t_pats) =false→b=false)
  (hk:aX hi hn ht hp K t_n t_text (length t_kids) (length t_pats) =true→Ends PP 0 (pI t_op t_n t_text t_kids t_pats hn ht hp K).as (kV b) (aG [] 0)) :
  Ends PP 0 (aRq t_op t_n t_text t_kids t_pats).as (kV b) (aG [] 0) :=by
 cases hb1:hi with
 | true =>
  cases hb2: (((length t_kids:Nat) :Int) ==K)with
  | true =>
   cases hb3:hn with
   | true=>
    cases hb4:ht with
    | true=>
     cases hb5:hp with
     | true=>
      exact LeadsM.ends (aXe t_op t_n t_text t_kids t_pats  hn ht hp K hi hsh hb1 hb2 hb3 hb4 hb5) (hk (by clear hno hk hsh;simp_all [aX,aE,aF]))
     | false=>
      cases hb6: (!(((length t_pats:Nat) :Int) == (0:Int)))with
      | true=>
       rw [hno (by clear hno hk hsh;simp_all [aX,aE,aF])];exact aXf t_op t_n t_text t_kids t_pats  hn ht hp K hi hsh hb1 hb2 hb3 hb4 hb5 hb6
      | false=>
       exact LeadsM.ends (aXg t_op t_n t_text t_kids t_pats  hn ht hp K hi hsh hb1 hb2 hb3 hb4 hb5 hb6) (hk (by clear hno hk hsh;simp_all [aX,aE,aF]))
    | false=>
     cases hb7: (bA (length t_text) (aD t_text) 0 0)with
     | true=>
      cases hb8:hp with
      | true=>
       exact LeadsM.ends (aXh t_op t_n t_text t_kids t_pats  hn ht hp K hi hsh hb1 hb2 hb3 hb4 hb7 hb8) (hk (by clear hno hk hsh;simp_all [aX,aE,aF]))
      | false=>
       cases hb9: (!(((length t_pats:Nat) :Int) == (0:Int)))with
       | true=>
        rw [hno (by clear hno hk hsh;simp_all [aX,aE,aF])];exact aXi t_op t_n t_text t_kids t_pats  hn ht hp K hi hsh hb1 hb2 hb3 hb4 hb7 hb8 hb9
       | false=>
        exact LeadsM.ends (aXj t_op t_n t_text t_kids t_pats  hn ht hp K hi hsh hb1 hb2 hb3 hb4 hb7 hb8 hb9) (hk (by clear hno hk hsh;simp_all [aX,aE,aF]))
     | false=>
      rw [hno (by clear hno hk hsh;simp_all [aX,aE,aF])];exact aXk t_op t_n t_text t_kids t_pats  hn ht hp K hi hsh hb1 hb2 hb3 hb4 hb7
   | false=>
    cases hb10: (t_n== (0:Int))with
    | true=>
     cases hb11:ht with
     | true=>
      cases hb12:hp with
      | true=>
       exact LeadsM.ends (aXl t_op t_n t_text t_kids t_pats  hn ht hp K hi hsh hb1 hb2 hb3 hb10 hb11 hb12) (hk (by clear hno hk hsh;simp_all [aX,aE,aF]))
      | false=>
       cases hb13: (!(((length t_pats:Nat) :Int) == (0:Int)))with
       | true=>
        rw [hno (by clear hno hk hsh;simp_all [aX,aE,aF])];exact aXm t_op t_n t_text t_kids t_pats  hn ht hp K hi hsh hb1 hb2 hb3 hb10 hb11 hb12 hb13
       | false=>
        exact LeadsM.ends (aXn t_op t_n t_text t_kids t_pats  hn ht hp K hi hsh hb1 hb2 hb3 hb10 hb11 hb12 hb13) (hk (by clear hno hk hsh;simp_all [aX,aE,aF]))
     | false=>
      cases hb14: (bA (length t_text) (aD t_text) 0 0)with
      | true=>
       cases hb15:hp with
       | true=>
        exact LeadsM.ends (aRK t_op t_n t_text t_kids t_pats  hn ht hp K hi hsh hb1 hb2 hb3 hb10 hb11 hb14 hb15) (hk (by clear hno hk hsh;simp_all [aX,aE,aF]))
       | false=>
        cases hb16: (!(((length t_pats:Nat) :Int) == (0:Int)))with
        | true=>
         rw [hno (by clear hno hk hsh;simp_all [aX,aE,aF])];exact aRL t_op t_n t_text t_kids t_pats  hn ht hp K hi hsh hb1 hb2 hb3 hb10 hb11 hb14 hb15 hb16
        | false=>
         exact LeadsM.ends (aRM t_op t_n t_text t_kids t_pats  hn ht hp K hi hsh hb1 hb2 hb3 hb10 hb11 hb14 hb15 hb16) (hk (by clear hno hk hsh;simp_all [aX,aE,aF]))
      | false=>
       rw [hno (by clear hno hk hsh;simp_all [aX,aE,aF])];exact aRN t_op t_n t_text t_kids t_pats  hn ht hp K hi hsh hb1 hb2 hb3 hb10 hb11 hb14
    | false=>
     rw [hno (by clear hno hk hsh;simp_all [aX,aE,aF])];exact aRO t_op t_n t_text t_kids t_pats  hn ht hp K hi hsh hb1 hb2 hb3 hb10
  | false=>
   rw [hno (by clear hno hk hsh;simp_all [aX,aE,aF])];exact aRP t_op t_n t_text t_kids t_pats  hn ht hp K hi hsh hb1 hb2
 | false=>
  rw [hno (by clear hno hk hsh;simp_all [aX,aE,aF])];exact aRQ t_op t_n t_text t_kids t_pats  hn ht hp K hi hsh hb1
def POT (f:Nat)(args:List AV)(b:Bool) :Prop:=bif b then Pure PP f args (.tup [])else vM PP f args FL
theorem aLv {f:Nat}{args:List AV}{s:TS}{b:Bool}(e: (start PP f args).as=s.as)(hb:nA PP f=true)(hk:keylessL args=true)(he:Ends PP 0 s.as (kV b) (aG [] 0)) :POT f args b:=by
 cases b with
 |true=>exact cB e hb hk rfl he
 |false=>exact throws_at hb hk (fE false) (by rw [e];exact he)
theorem bDQ (o n:Int)(s:aB)(ks:List Term)(ps:List Pat)(hn ht hp:Bool)(K:Int)(b:Bool)(hl:ps.length<1000000)(hfit:∀q∈ps,aV q<1000000)(h1:Ends PP 0 (pJ o n s ks ps hn ht hp K).as (kV b) (aG [] 0)) :
  ∀ (qs:List Pat) (i:Nat),ps.drop i=qs→Ends PP 0 (aDY o n s ks ps hn ht hp K (i:Int)).as (kV (qs.all sB&&b)) (aG [] 0)
 | [],i,h=>by
  have:=bL h;exact(aXE o n s ks ps hn ht hp K i sd).ends h1
 | .mk f' n' s' ps'::qs,i,h=>by
  obtain⟨g1,g2,g3⟩ :=bH h;have hc:=aI7 (.mk f' n' s' ps') (hfit _ (mem_of_getElem? g1));rw [List.all_cons];cases hq:sB (.mk f' n' s' ps')with
  | true=>
   rw [hq,if_pos rfl]at hc;rw [Bool.true_and];exact(aXD o n s ks ps hn ht hp K i f' n' s' ps' 0 sd sd sd hc (by simp) sd).ends (bDQ o n s ks ps hn ht hp K b hl hfit h1 qs (i+1) g2)
  | false=>
   rw [hq,if_neg (by simp)]at hc;rw [Bool.false_and,Bool.false_and];exact aXC o n s ks ps hn ht hp K i f' n' s' ps' 2 sd sd sd hc (by simp)
theorem aXF (o n:Int)(s:aB)(ks:List Term)(ps:List Pat)(hks:ks.length<1000000)(hps:ps.length<1000000)(hfit:∀q∈ps,aV q<1000000) :POT 199 [Term.av (.mk o n s ks ps)] (aL o n s (length ks) (length ps) &&ps.all sB) :=by
 refine aLv (s:=aRq o n s ks ps) (by kernel_rfl) (by kernel_rfl) (by simp [keylessL,dF]) ?_;have hD:=bGR o n s ks ps (kD o) (jS o) (jT o) (kE o (length ks) (length ps)) rfl;rw [aRX];unfold aT;refine bGT o n s ks ps (hiT o) (kD o) (jS o) (jT o) (kE o (length ks) (length ps)) (aRW o n s ks ps hks hps) _ (fun h=>by rw [h];simp) (fun ha=>?_);rw [ha];refine bGS o n s ks ps _ _ _ _ _ (fun h=>by rw [h];simp) (fun hb h15=>?_) (fun hb h15=>?_)
 · have hm:ps= [] :=by
    have hp:jT o=false:=by simp [jT,h15]
    rw [hp]at ha;simp only [aX,and_eq_true,Bool.false_or,decide_eq_true_eq]at ha;exact List.length_eq_zero_iff.1 (by have:=ha.2;omega)
   subst hm;rw [hb];simpa using hD
 · have hC:=bDQ o n s ks ps (kD o) (jS o) (jT o) (kE o (length ks) (length ps)) _ hps hfit hD ps 0 rfl;rw [hb,Bool.true_and,Bool.true_and,Bool.and_comm];exact hC
theorem aOa {ks:List Term}{ps:List Pat}(h:cZ ks+aM ps+1<1000000) :∀q∈ps,aV q<1000000:=fun q hq=>by
 have:∀ (ps:List Pat),q∈ps→aV q≤aM ps:=by
  intro ps
  induction ps with
  |nil=>intro h;cases h
  | cons p ps ih=>
   intro h;simp only [aM];rcases List.mem_cons.1 h with e|h
   ·rw [e];omega
   ·have:=ih h;omega
 have:=this ps hq;omega
theorem aI8 (o n:Int)(s:aB)(ks:List Term)(ps:List Pat)(hl:ks.length<1000000)(ih:∀t∈ks,POT 147 [Term.av t] (fH t)) :
  ∀ (ts:List Term) (i:Nat),ks.drop i=ts→Ends PP 0 (aHf o n s ks ps (i:Int)).as (kV (jK ts)) (aG [] 0)
 | [],i,h=>by
  have:=bL h;exact aW0 o n s ks ps i sd
 | .mk o' n' s' ks' ps'::ts,i,h=>by
  obtain⟨g1,g2,g3⟩ :=bH h;have hp:=ih _ (mem_of_getElem? g1);rw [jK];cases hb:fH (.mk o' n' s' ks' ps')with
  | true=>
   rw [hb]at hp;rw [Bool.true_and];exact(aWZ o n s ks ps i o' n' s' ks' ps' sd sd sd hp sd).ends (aI8 o n s ks ps hl ih ts (i+1) g2)
  | false=>
   rw [hb]at hp;rw [Bool.false_and];exact aWY o n s ks ps i o' n' s' ks' ps' sd sd sd hp
mutual
theorem aMy :∀ (t:Term),fA t<1000000→POT 147 [Term.av t] (fH t)
 | .mk o n s ks ps,hf=>by
  simp only [fA]at hf;have:=sC ks;have:=cP ps;refine aLv (s:=bDM o n s ks ps) (by kernel_rfl) (by kernel_rfl) (by simp [keylessL,dF]) ?_;have hn:=aXF o n s ks ps (by omega) (by omega) (aOa hf);rw [fH];cases hb: (aL o n s (length ks) (length ps) &&ps.all sB)with
  | true=>
   rw [hb]at hn;rw [Bool.true_and];exact(aWX o n s ks ps hn).ends (aI8 o n s ks ps (by omega) (aMz ks (by omega)) ks 0 rfl)
  | false=>
   rw [hb]at hn;rw [Bool.false_and];exact aWW o n s ks ps hn
theorem aMz :∀ (ts:List Term),cZ ts<1000000→∀t∈ts,POT 147 [Term.av t] (fH t)
 | [],_,t,ht=>by cases ht
 | u::ts,hf,t,ht=>by
  simp only [cZ]at hf;rcases List.mem_cons.1 ht with e|ht
  ·rw [e];exact aMy u (by omega)
  ·exact aMz ts (by omega) t ht
end
def wE (t:Term)(a b d:Int) :Bool:=decide ((bD t:Int) ≤a) &&decide (d+fK t-1≤b)
def GTS (t:Term)(a b d:Int)(r:Bool)(z:Int) :Prop:=Spec PP (.enter 146 [.ptr 0 0,Term.av t,.int .i64 d]) (aG [(0,GC a b,false)] 1) (kV r) (aG [(0,GC z b,false)] 1)
def GT (t:Term)(a b d:Int) :Prop:=∃z,GTS t a b d (wE t a b d) z∧ (wE t a b d=true→z=a-bD t)
def aAX (ts:List Term)(c b d:Int) :Bool:=decide ((aY ts:Int) ≤c) &&decide (d+fW ts≤b)
theorem aOb (t:Term)(ts:List Term){c b d:Int}(hdb:d≤b) :aAX (t::ts) c b d= (wE t c b (d+1) &&aAX ts (c-bD t) b d) :=by
 have hp:=sD t;unfold aAX wE;rw [aY,fW,←decide_and,←decide_and,←decide_and,←decide_and];congr 1;apply propext;omega
theorem aMA (a b:Int)(o n:Int)(s:aB)(ks:List Term)(ps:List Pat)(d:Int)(hd:0≤d)(hd2:d≤1000)(hdb:d≤b)(hl:ks.length<1000000)(ih:∀t∈ks,∀c,0≤c→c≤1000→GT t c b (d+1)) :
  ∀ (ts:List Term) (i:Nat) (c:Int),ks.drop i=ts→0≤c→c≤1000→∃z,Ends PP 1 (aMw a b o n s ks ps d (i:Int) c).as (kV (aAX ts c b d)) (aG [(0,GC z b,false)] 1) ∧ (aAX ts c b d=true→z=c-aY ts)
 | [],i,c,h,h0,h1=>by
  have:=bL h;have e:aAX [] c b d=true:=by simp [aAX,aY,fW,h0,hdb]
  rw [e];exact⟨c,bFB a b o n s ks ps d i c sd,fun _=>by simp [aY]⟩
 | .mk o' n' s' ks' ps'::ts,i,c,h,h0,h1=>by
  obtain⟨g1,g2,g3⟩ :=bH h;obtain⟨z,hz,hzz⟩ :=ih _ (mem_of_getElem? g1) c h0 h1;have hp:=sD (.mk o' n' s' ks' ps');rw [aOb _ _ hdb];unfold GTS at hz;cases hb:wE (.mk o' n' s' ks' ps') c b (d+1)with
  | true=>
   have hz1:=hzz hb;rw [hb]at hz;have hle: (bD (.mk o' n' s' ks' ps') :Int) ≤c:=by
    unfold wE at hb;simp only [and_eq_true,decide_eq_true_eq]at hb;exact hb.1
   rw [←hz1,Bool.true_and];obtain⟨z2,hE,hz2⟩ :=aMA a b o n s ks ps d hd hd2 hdb hl ih ts (i+1) z g2 (by omega) (by omega);refine⟨z2,(bFA a b o n s ks ps d i c o' n' s' ks' ps' z sd sd sd sd (dP (ks:=[0]) hz (by kernel_rfl) (fE true) (by kernel_rfl) (by kernel_rfl) trivial (by kernel_rfl) trivial) sd).ends hE,fun h=>?_⟩;rw [hz2 h,aY];omega
  | false=>
   rw [hb]at hz;rw [Bool.false_and];exact⟨z,bFz a b o n s ks ps d i c o' n' s' ks' ps' z sd sd sd sd (dP (ks:=[0]) hz (by kernel_rfl) (fE false) (by kernel_rfl) (by kernel_rfl) trivial (by kernel_rfl) trivial),fun h=>by cases h⟩
mutual
theorem aMB (b:Int)(hb:0≤b)(hb2:b≤900) :∀ (t:Term) (a d:Int),0≤a→a≤1000→0≤d→d≤b+1→fA t<1000000→GT t a b d
 | .mk o n s ks ps,a,d,h0,h1,h2,h3,hf=>by
  simp only [fA]at hf;have:=sC ks;have e1:bD (.mk o n s ks ps) =aY ks+1:=by rw [bD]
  have e2:fK (.mk o n s ks ps) =fW ks+1:=by rw [fK]
  have E :∃z,Ends PP 1 (bFv a b o n s ks ps d).as (kV (wE (.mk o n s ks ps) a b d)) (aG [(0,GC z b,false)] 1) ∧ (wE (.mk o n s ks ps) a b d=true→z=a-bD (.mk o n s ks ps)) :=by
   by_cases ha:1≤a
   · by_cases hdb:d≤b
     · have r:wE (.mk o n s ks ps) a b d=aAX ks (a-1) b d:=by
        unfold wE aAX;rw [←decide_and,←decide_and];congr 1;apply propext;omega
       rw [r];obtain⟨z,hE,hz⟩ :=aMA a b o n s ks ps d h2 (by omega) hdb (by omega) (fun t ht c h0 h1=>aRY b hb hb2 ks (by omega) t ht c (d+1) h0 h1 (by omega) (by omega)) ks 0 (a-1) rfl (by omega) (by omega);exact⟨z,(bFx a b o n s ks ps d sd (by simp;omega) (by simp;omega)).ends hE,fun h=>by rw [hz h];omega⟩
     · have r:wE (.mk o n s ks ps) a b d=false:=by
        unfold wE;rw [←decide_and];exact decide_eq_false (by omega)
       rw [r];exact⟨a-1,bFw a b o n s ks ps d sd (by simp;omega) (by simp;omega),fun h=>by cases h⟩
   · have r:wE (.mk o n s ks ps) a b d=false:=by
      unfold wE;rw [←decide_and];exact decide_eq_false (by omega)
     rw [r];exact⟨a-1,bFy a b o n s ks ps d sd (by simp;omega),fun h=>by cases h⟩
  obtain⟨z,hE,hz⟩ :=E;exact⟨z,⟨(bFv a b o n s ks ps d).as.fr,by kernel_rfl,Eq.mp (by kernel_rfl) hE⟩,hz⟩
theorem aRY (b:Int)(hb:0≤b)(hb2:b≤900) :∀ (ts:List Term),cZ ts<1000000→∀t∈ts,∀a d,0≤a→a≤1000→0≤d→d≤b+1→GT t a b d
 | [],_,t,ht=>by cases ht
 | u::ts,hf,t,ht=>by
  simp only [cZ]at hf;rcases List.mem_cons.1 ht with e|ht
  ·rw [e];exact fun a d p q r s=>aMB b hb hb2 u a d p q r s (by omega)
  ·exact aRY b hb hb2 ts (by omega) t ht
end
theorem aRZ (t:Term)(hf:fA t<1000000) :Pure PP 80 [Term.av t] (.int .i64 (if wC t=true then 0 else 2)) :=by
 obtain⟨z,hg,_⟩ :=aMB 14 (by omega) (by omega) t 60 1 (by omega) (by omega) (by omega) (by omega) hf;have hn:=aMy t hf;have e:wC t= (wE t 60 14 1&&fH t) :=by
  unfold wC wE;congr 1;rw [←decide_and,←decide_and];congr 1;apply propext;omega
 rw [e];unfold GTS at hg;obtain⟨o,n,s,ks,ps⟩ :=t;refine cB (s:=bDN o n s ks ps) (by kernel_rfl) (by kernel_rfl) (by simp [keylessL,dF]) (by simp [keyless]) ?_;cases hb:wE (.mk o n s ks ps) 60 14 1 with
 | false=>
  rw [hb]at hg;rw [Bool.false_and];exact aW1 o n s ks ps z (dP (ks:=[2]) hg (by kernel_rfl) (fE false) (by kernel_rfl) (by kernel_rfl) trivial (by kernel_rfl) trivial)
 | true=>
  rw [hb]at hg;have hg':=dP (ks:=[2]) (n2:=3) (args':=[.ptr 2 0,Term.av (.mk o n s ks ps),.int .i64 1]) (lc:=[(0,.cells (putCells .leaf 0 [.int .i64 o,.int .i64 n,aA s,.ilst 5 (Terms.av ks) false,.ilst 4 (Pats.av ps) false]) 5 [] false,false),(1,.cells (putCells .leaf 0 [.bool false]) 1 [] false,false),(2,GC 60 14,false)]) (lc':=[(0,.cells (putCells .leaf 0 [.int .i64 o,.int .i64 n,aA s,.ilst 5 (Terms.av ks) false,.ilst 4 (Pats.av ps) false]) 5 [] false,false),(1,.cells (putCells .leaf 0 [.bool false]) 1 [] false,false),(2,GC z 14,false)]) hg (by kernel_rfl) (fE true) (by kernel_rfl) (by kernel_rfl) trivial (by kernel_rfl) trivial;rw [Bool.true_and];cases hF:fH (.mk o n s ks ps)with
  | true=>
   rw [hF]at hn;exact aW3 o n s ks ps z hg' hn
  | false=>
   rw [hF]at hn;exact aW2 o n s ks ps z hg' hn
def aHg(a b:Int)(c:aB)(d:List Typ)(g e f:Int):TS:=⟨(tf 97 29 [(1,(nI e)),kp 2 0,(4,(nI 0)),(5,(nI f))] [kc f97 244,kl f97 244,.inBlock 0,kc f97 31]),[],[oC 0 [(nI a),(nI b),(aA c),(.ilst 4 (Typs.av d) false)]],1⟩
def cV(b c:Int)(d:aB)(a:List Typ)(e f:Bool)(g:Int):TS:=⟨(tf 121 106 [(1,(bV e)),kp 2 0,(4,(bV false)),(5,(nI (a.length:Int))),(6,(bV f)),(7,(nI g))] [kc f121 500,kl f121 500,.inBlock 1,kc f121 63]),[],[oC 0 [(nI b),(nI c),(aA d),(.ilst 4 (Typs.av a) false)]],1⟩
def aHh(a b:Int)(c:aB)(d:List Typ)(e:Int):TS:=⟨(tf 98 22 [kp 1 0,(2,(bV false)),(3,(nI e))] [kc f98 52,kl f98 52,.inBlock 0,kc f98 7]),[],[oC 0 [(nI a),(nI b),(aA c),(.ilst 4 (Typs.av d) false)]],1⟩
def bDR(b c:Int)(d:aB)(e:List Typ)(a:Int):=tT 0 (start PP 97 [(.agg [(nI b),(nI c),(aA d),(.ilst 4 (Typs.av e) false)]),(nI a)])<|gd 11 7 (a<1) (gE 6 1 (nI (-1)))<|gw 6 9 (a-1)<|.W 9 1 [0] (aHg b c d e a (a-1) 0)
def aXG:=fun a b c d e f=>bDR a b c d e|>.t f tv
def aXH:=fun a b c d e f g=>bDR a b c d e|>.f f g tv
def aR0(d e:Int)(f:aB)(a:List Typ)(g b c:Int):=tT 0 (aHg d e f a g b c)<|gm 6 dD a<|gd 2 15 (c< (a.length:Int)) (gd 4 18 (b≥0) (aIP 8 a c<|fun i j k l=>gpI 2 97 [(.agg [(nI i),(nI j),(aA k),(.ilst 4 (Typs.av l) false)]),(nI b)]<|fun m=>gw 6 20 (c+1)<|.W 3 1 [0] (aHg d e f a g m (c+1)))<|gE 8 1 (nI b))<|gE 12 1 (nI b)
def aXI:=fun a b c d e f g i j k l m n o p q r s=>aR0 a b c d e f g|>.t n|>.t o i j k l p q m r s tv
def aXJ:=fun a b c d e f g i j=>aR0 a b c d e f g|>.t i|>.f j tv
def aXK:=fun a b c d e f g i=>aR0 a b c d e f g|>.f i tv
def fZ(c d:Int)(a:aB)(b:List Typ)(e:Bool):=tT 0 (start PP 121 [(.agg [(nI c),(nI d),(aA a),(.ilst 4 (Typs.av b) false)]),(bV e)])<|gm 9 dD b<|.b 19 13 (c==1) (.b 7 19 ((b.length:Int) ==0) (.b 5 24 (d==0) (.W 14 1 [0] (cV c d a b e (bA a.length (aD a) 0 0) 0))<|.W 14 1 [0] (cV c d a b e false 0))<|.W 19 1 [0] (cV c d a b e false 0))<|.b 6 13 (c==2) (.b 7 19 ((b.length:Int) ==0) (.b 5 24 (d==0) (.W 14 1 [0] (cV c d a b e (bA a.length (aD a) 0 0) 0))<|.W 14 1 [0] (cV c d a b e false 0))<|.W 19 1 [0] (cV c d a b e false 0))<|.b 5 13 (c==3) (.b 5 19 ((b.length:Int) ==0) (.b 5 24 (d==0) (.W 14 1 [0] (cV c d a b e (bA a.length (aD a) 0 0) 0))<|.W 14 1 [0] (cV c d a b e false 0))<|.W 19 1 [0] (cV c d a b e false 0))<|.b 6 29 (c==4) (.b 5 33 ((b.length:Int) ==2) (.b 5 38 (d==0) (.W 14 1 [0] (cV c d a b e (bA a.length (aD a) 0 0) 0))<|.W 14 1 [0] (cV c d a b e false 0))<|.W 19 1 [0] (cV c d a b e false 0))<|.b 7 43 (c==5) (.b 7 49 ((b.length:Int) ==1) (.b 5 54 (d==0) (.W 14 1 [0] (cV c d a b e (bA a.length (aD a) 0 0) 0))<|.W 14 1 [0] (cV c d a b e false 0))<|.W 19 1 [0] (cV c d a b e false 0))<|.b 6 43 (c==6) (.b 7 49 ((b.length:Int) ==1) (.b 5 54 (d==0) (.W 14 1 [0] (cV c d a b e (bA a.length (aD a) 0 0) 0))<|.W 14 1 [0] (cV c d a b e false 0))<|.W 19 1 [0] (cV c d a b e false 0))<|.b 5 43 (c==7) (.b 5 49 ((b.length:Int) ==1) (.b 5 54 (d==0) (.W 14 1 [0] (cV c d a b e (bA a.length (aD a) 0 0) 0))<|.W 14 1 [0] (cV c d a b e false 0))<|.W 19 1 [0] (cV c d a b e false 0))<|.b 6 59 (c==8) (.b 5 63 ((b.length:Int) ==0) (.b 5 68 (d==0) (dR 2 120 [(aA a)]<|fun f=>.W 11 1 [0] (cV c d a b e f 0))<|.W 14 1 [0] (cV c d a b e false 0))<|.W 19 1 [0] (cV c d a b e false 0))<|.b 6 73 (c==9) (.b 4 76 e (.b 4 80 ((b.length:Int) ==0) (.b 5 85 (bA a.length (aD a) 0 0) (dR 2 60 [(nI d),(nI 0),(nI 99)]<|fun f=>.W 11 1 [0] (cV c d a b e f 0))<|.W 14 1 [0] (cV c d a b e false 0))<|.W 19 1 [0] (cV c d a b e false 0))<|.W 23 1 [0] (cV c d a b e false 0))<|.W 10 1 [0] (cV c d a b e false 0)
def aXL:=fun a b c d e f g i=>fZ a b c d e|>.t f|>.t g|>.t i tv
def aXM:=fun a b c d e f g i=>fZ a b c d e|>.t f|>.t g|>.f i tv
def aXN:=fun a b c d e f g=>fZ a b c d e|>.t f|>.f g tv
def aXO:=fun a b c d e f g i j=>fZ a b c d e|>.f f|>.t g|>.t i|>.t j tv
def aXP:=fun a b c d e f g i j=>fZ a b c d e|>.f f|>.t g|>.t i|>.f j tv
def aXQ:=fun a b c d e f g i=>fZ a b c d e|>.f f|>.t g|>.f i tv
def aXR:=fun a b c d e f g i j k=>fZ a b c d e|>.f f|>.f g|>.t i|>.t j|>.t k tv
def aXS:=fun a b c d e f g i j k=>fZ a b c d e|>.f f|>.f g|>.t i|>.t j|>.f k tv
def aXT:=fun a b c d e f g i j=>fZ a b c d e|>.f f|>.f g|>.t i|>.f j tv
def aXU:=fun a b c d e f g i j k l=>fZ a b c d e|>.f f|>.f g|>.f i|>.t j|>.t k|>.t l tv
def aR1:=fun a b c d e f g i j k l=>fZ a b c d e|>.f f|>.f g|>.f i|>.t j|>.t k|>.f l tv
def aR2:=fun a b c d e f g i j k=>fZ a b c d e|>.f f|>.f g|>.f i|>.t j|>.f k tv
def aR3:=fun a b c d e f g i j k l m=>fZ a b c d e|>.f f|>.f g|>.f i|>.f j|>.t k|>.t l|>.t m tv
def aR4:=fun a b c d e f g i j k l m=>fZ a b c d e|>.f f|>.f g|>.f i|>.f j|>.t k|>.t l|>.f m tv
def aR5:=fun a b c d e f g i j k l=>fZ a b c d e|>.f f|>.f g|>.f i|>.f j|>.t k|>.f l tv
def aR6:=fun a b c d e f g i j k l m n=>fZ a b c d e|>.f f|>.f g|>.f i|>.f j|>.f k|>.t l|>.t m|>.t n tv
def aR7:=fun a b c d e f g i j k l m n=>fZ a b c d e|>.f f|>.f g|>.f i|>.f j|>.f k|>.t l|>.t m|>.f n tv
def aR8:=fun a b c d e f g i j k l m=>fZ a b c d e|>.f f|>.f g|>.f i|>.f j|>.f k|>.t l|>.f m tv
def aR9:=fun a b c d e f g i j k l m n o=>fZ a b c d e|>.f f|>.f g|>.f i|>.f j|>.f k|>.f l|>.t m|>.t n|>.t o tv
def aSa:=fun a b c d e f g i j k l m n o=>fZ a b c d e|>.f f|>.f g|>.f i|>.f j|>.f k|>.f l|>.t m|>.t n|>.f o tv
def aSb:=fun a b c d e f g i j k l m n=>fZ a b c d e|>.f f|>.f g|>.f i|>.f j|>.f k|>.f l|>.t m|>.f n tv
def aSc:=fun a b c d e f g i j k l m n o p q r=>fZ a b c d e|>.f g|>.f i|>.f j|>.f k|>.f l|>.f m|>.f n|>.t o|>.t p|>.t q f r tv
def aSd:=fun a b c d e f g i j k l m n o p=>fZ a b c d e|>.f f|>.f g|>.f i|>.f j|>.f k|>.f l|>.f m|>.t n|>.t o|>.f p tv
def aSe:=fun a b c d e f g i j k l m n o=>fZ a b c d e|>.f f|>.f g|>.f i|>.f j|>.f k|>.f l|>.f m|>.t n|>.f o tv
def aSf:=fun a b c d e f g i j k l m n o p q r s t=>fZ a b c d e|>.f g|>.f i|>.f j|>.f k|>.f l|>.f m|>.f n|>.f o|>.t p|>.t q|>.t r|>.t s f t tv
def aSg:=fun a b c d e f g i j k l m n o p q r=>fZ a b c d e|>.f f|>.f g|>.f i|>.f j|>.f k|>.f l|>.f m|>.f n|>.t o|>.t p|>.t q|>.f r tv
def aSh:=fun a b c d e f g i j k l m n o p q=>fZ a b c d e|>.f f|>.f g|>.f i|>.f j|>.f k|>.f l|>.f m|>.f n|>.t o|>.t p|>.f q tv
def aSi:=fun a b c d e f g i j k l m n o p=>fZ a b c d e|>.f f|>.f g|>.f i|>.f j|>.f k|>.f l|>.f m|>.f n|>.t o|>.f p tv
def aSj:=fun a b c d e f g i j k l m n o=>fZ a b c d e|>.f f|>.f g|>.f i|>.f j|>.f k|>.f l|>.f m|>.f n|>.f o tv
def aSk(e f:Int)(g:aB)(b:List Typ)(d c:Bool)(a:Int):=tT 0 (cV e f g b d c a)<|gd 7 93 (a< (b.length:Int)) (.b 3 95 c (aIP 8 b a<|fun i j k l=>dR 2 121 [(.agg [(nI i),(nI j),(aA k),(.ilst 4 (Typs.av l) false)]),(bV d)]<|fun m=>gw 6 97 (a+1)<|.W 3 1 [0] (cV e f g b d m (a+1)))<|gE 8 1 (bV c))<|gE 11 1 (bV c)
def aXV:=fun a b c d e f g i j k l m n o p q r s=>aSk a b c d e f g|>.t n|>.t o i j k l p q m r s tv
def aXW:=fun a b c d e f g i j=>aSk a b c d e f g|>.t i|>.f j tv
def aXX:=fun a b c d e f g i=>aSk a b c d e f g|>.f i tv
def bDS(a b:Int)(c:aB)(d:List Typ):=tT 0 (start PP 62 [(.agg [(nI a),(nI b),(aA c),(.ilst 4 (Typs.av d) false)])])<|gpI 8 97 [(.agg [(nI a),(nI b),(aA c),(.ilst 4 (Typs.av d) false)]),(nI 12)]<|fun e=>gd 2 6 (e≥0) (dR 1 121 [(.agg [(nI a),(nI b),(aA c),(.ilst 4 (Typs.av d) false)]),(bV false)]<|fun f=>gE 4 1 (bV f))<|gE 6 1 (bV false)
def aXY:=fun a b c d e f g i j=>bDS a b c d e g|>.t i f j tv
def aXZ:=fun a b c d e f g=>bDS a b c d e f|>.f g tv
def aX0 (a b:Int)(c:aB)(d:List Typ):=(tT 0 (start PP 98 [(.agg [(nI a),(nI b),(aA c),(.ilst 4 (Typs.av d) false)])])<|.W 12 1 [0] (aHh a b c d 0)) tv
def aSl(d e:Int)(c:aB)(a:List Typ)(b:Int):=tT 0 (aHh d e c a b)<|gm 6 dD a<|gd 2 8 (b< (a.length:Int)) (aIP 9 a b<|fun f g i j=>dR 1 98 [(.agg [(nI f),(nI g),(aA i),(.ilst 4 (Typs.av j) false)])]<|fun k=>.b 2 17 (!k) (gE 6 1 (bV false))<|gw 6 10 (b+1)<|.W 3 1 [0] (aHh d e c a (b+1)))<|gE 11 1 (bV (decide ((c.length:Int) ≤30)))
def aX1:=fun a b c d e f g i j k l m n o p=>aSl a b c d e|>.t l f g i j m n k o|>.t p tv
def aX2:=fun a b c d e f g i j k l m n o p q=>aSl a b c d e|>.t l f g i j m n k o|>.f p q tv
def aX3:=fun a b c d e f=>aSl a b c d e|>.f f tv
def bDT(a b:Int)(c:aB)(d:List Typ):=tT 0 (start PP 35 [(.agg [(nI a),(nI b),(aA c),(.ilst 4 (Typs.av d) false)])])<|gpI 8 97 [(.agg [(nI a),(nI b),(aA c),(.ilst 4 (Typs.av d) false)]),(nI 16)]<|fun e=>gd 2 6 (e≥0) (dR 1 98 [(.agg [(nI a),(nI b),(aA c),(.ilst 4 (Typs.av d) false)])]<|fun f=>gE 4 1 (bV f))<|gE 6 1 (bV false)
def aX4:=fun a b c d e f g i j=>bDT a b c d e g|>.t i f j tv
def aX5:=fun a b c d e f g=>bDT a b c d e f|>.f g tv
def bFC(a b c d:Int)(e:aB)(f:List Typ):TS:=bQ PP 266 [(.ptr 0 0),(.agg [(nI c),(nI d),(aA e),(.ilst 4 (Typs.av f) false)])] [oC 0 [(nI a),(nI b)]] 1
def aMC(e b f g:Int)(i:aB)(a:List Typ)(c d:Int):TS:=⟨(tf 266 19 [kp 0 0,(9,(.ilst 4 (Typs.av a) false)),(10,(nI (a.length:Int))),(11,(nI c))] [kc f266 60,kl f266 60,.inBlock 0]),[],[oC 0 [(nI d),(nI b)]],1⟩
def aSm(a b:Int)(c:aB)(d:List Typ)(e:Bool):TS:=bQ PP 267 [(.agg [(nI a),(nI b),(aA c),(.ilst 4 (Typs.av d) false)]),(bV e)] [] 0
def nW(a b:Int)(c:aB)(d:List Typ)(e:Bool)(f:Int):TS:=⟨(tf 267 77 [(1,(bV e)),kp 2 0,(4,(nI f))] [kc f267 15]),[],[oC 0 [(nI a),(nI b),(aA c),(.ilst 4 (Typs.av d) false)]],1⟩
def wF(d e:Int)(f:aB)(a:List Typ)(b:Bool)(c:Int):TS:=⟨(tf 267 77 [(1,(bV b)),(67,(.ilst 4 (Typs.av a) false)),(68,(nI (a.length:Int))),(69,(nI c))] [kc f267 252,kl f267 252,.inBlock 1]),[],[],0⟩
def bDU(a b:Int)(c:aB)(d:List Typ):TS:=bQ PP 183 [(.agg [(nI a),(nI b),(aA c),(.ilst 4 (Typs.av d) false)])] [] 0
def bDV(a b d e:Int)(f:aB)(c:List Typ):=tT 1 (bFC a b d e f c)<|gw 15 8 (a-1)<|gd 11 16 ((a-1) ≥0) (.b 13 3 (!(decide (0≤b))) (.P 7 2 [] [((.iface 299 (.agg [])),false)] [oC 0 [(nI (a-1)),(nI b)]] 1)<|gm 12 dD c<|.W 4 2 [] (aMC a b d e f c 0 (a-1)))<|.P 20 2 [] [((.iface 299 (.agg [])),false)] [oC 0 [(nI (a-1)),(nI b)]] 1
def bFD:=fun a b c d e f g i j=>bDV a b c d e f g|>.t i|>.f j tv
def bFE:=fun a b c d e f g i=>bDV a b c d e f g|>.f i tv
def aSn(k a l m:Int)(n:aB)(i:List Typ)(f j:Int):=tT 1 (aMC k a l m n i f j)<|gd 5 12 (f< (i.length:Int)) (aIP 6 i f<|fun b c d e=>.o (.y fun g:Int=>gK 7 (.enter 266 [(.ptr 0 0),(.agg [(nI b),(nI c),(aA d),(.ilst 4 (Typs.av e) false)])]) [oC 0 [(nI j),(nI a)],oC 1 [(nI b),(nI c),(aA d),(.ilst 4 (Typs.av e) false)]] 2 [((.iface 299 (.agg [])),false)] [oC 0 [(nI g),(nI a)],oC 1 [(nI b),(nI c),(aA d),(.ilst 4 (Typs.av e) false)]] 2<|.P 0 2 [] [((.iface 299 (.agg [])),false)] [oC 0 [(nI g),(nI a)]] 1)<|.y fun g:Int=>gk 7 (.enter 266 [(.ptr 0 0),(.agg [(nI b),(nI c),(aA d),(.ilst 4 (Typs.av e) false)])]) [oC 0 [(nI j),(nI a)],oC 1 [(nI b),(nI c),(aA d),(.ilst 4 (Typs.av e) false)]] 2 (.tup []) [oC 0 [(nI g),(nI a)],oC 1 [(nI b),(nI c),(aA d),(.ilst 4 (Typs.av e) false)]] 2<|gw 4 18 (f+1)<|.W 3 2 [] (aMC k a l m n i (f+1) g))<|.E 3 1 [] (.tup []) [oC 0 [(nI j),(nI a)]] 1
def bFF:=fun a b c d e f g i j k l m n o p q r=>aSn a b c d e f g i|>.t o j k l m p q|>.1 n r tv
def bFG:=fun a b c d e f g i j k l m n o p q r s=>aSn a b c d e f g i|>.t o j k l m p q|>.2 n r s tv
def bFH:=fun a b c d e f g i j=>aSn a b c d e f g i|>.f j tv
def qM(a b:Int)(c:aB)(e:List Typ)(d:Bool):=tT 0 (aSm a b c e d)<|.b 21 10 (a==1) (.W 5 1 [0] (nW a b c e d 0))<|.b 6 10 (a==2) (.W 5 1 [0] (nW a b c e d 0))<|.b 5 10 (a==3) (.W 3 1 [0] (nW a b c e d 0))<|.b 6 14 (a==4) (.W 5 1 [0] (nW a b c e d 2))<|.b 7 16 (a==5) (.W 7 1 [0] (nW a b c e d 1))<|.b 6 16 (a==6) (.W 7 1 [0] (nW a b c e d 1))<|.b 5 16 (a==7) (.W 5 1 [0] (nW a b c e d 1))<|.b 6 20 (a==8) (dR 4 179 [(aA c)]<|fun f=>.b 6 3 (!f) (gQ 6 1 [((.iface 299 (.agg [])),false)])<|.W 6 1 [0] (nW a b c e d 0))<|.b 6 26 (a==9) (.b 4 29 d (gd 5 34 (b≥0) (.b 10 3 (!(decide (b≤99))) (gQ 6 1 [((.iface 299 (.agg [])),false)])<|.W 6 1 [0] (nW a b c e d 0))<|gQ 16 1 [((.iface 299 (.agg [])),false)])<|gQ 21 1 [((.iface 299 (.agg [])),false)])<|gQ 14 1 [((.iface 299 (.agg [])),false)]
def aX6:=fun a b c d e f=>qM a b c d e|>.t f tv
def aX7:=fun a b c d e f g=>qM a b c d e|>.f f|>.t g tv
def aX8:=fun a b c d e f g i=>qM a b c d e|>.f f|>.f g|>.t i tv
def aX9:=fun a b c d e f g i j=>qM a b c d e|>.f f|>.f g|>.f i|>.t j tv
def aYa:=fun a b c d e f g i j k=>qM a b c d e|>.f f|>.f g|>.f i|>.f j|>.t k tv
def aYb:=fun a b c d e f g i j k l=>qM a b c d e|>.f f|>.f g|>.f i|>.f j|>.f k|>.t l tv
def aYc:=fun a b c d e f g i j k l m=>qM a b c d e|>.f f|>.f g|>.f i|>.f j|>.f k|>.f l|>.t m tv
def aYd:=fun a b c d e f g i j k l m n o p q=>qM a b c d e|>.f g|>.f i|>.f j|>.f k|>.f l|>.f m|>.f n|>.t o f p|>.t q tv
def aYe:=fun a b c d e f g i j k l m n o p q=>qM a b c d e|>.f g|>.f i|>.f j|>.f k|>.f l|>.f m|>.f n|>.t o f p|>.f q tv
def aYf:=fun a b c d e f g i j k l m n o p q r=>qM a b c d e|>.f f|>.f g|>.f i|>.f j|>.f k|>.f l|>.f m|>.f n|>.t o|>.t p|>.t q|>.t r tv
def aSo:=fun a b c d e f g i j k l m n o p q r=>qM a b c d e|>.f f|>.f g|>.f i|>.f j|>.f k|>.f l|>.f m|>.f n|>.t o|>.t p|>.t q|>.f r tv
def aSp:=fun a b c d e f g i j k l m n o p q=>qM a b c d e|>.f f|>.f g|>.f i|>.f j|>.f k|>.f l|>.f m|>.f n|>.t o|>.t p|>.f q tv
def aSq:=fun a b c d e f g i j k l m n o p=>qM a b c d e|>.f f|>.f g|>.f i|>.f j|>.f k|>.f l|>.f m|>.f n|>.t o|>.f p tv
def aSr:=fun a b c d e f g i j k l m n o=>qM a b c d e|>.f f|>.f g|>.f i|>.f j|>.f k|>.f l|>.f m|>.f n|>.f o tv
def aCr(c d:Int)(b:aB)(a:List Typ)(e:Bool)(f:Int):=tT 0 (nW c d b a e f)<|gm 4 dD a<|.b 3 45 ((a.length:Int) ==f) (.b 4 49 (c==9) (.b 10 59 (c==8) (gm 20 dD a<|.W 4 1 [] (wF c d b a e 0))<|.b 11 3 (!(bA b.length (aD b) 0 0)) (gQ 6 1 [((.iface 299 (.agg [])),false)])<|gm 9 dD a<|.W 4 1 [] (wF c d b a e 0))<|.b 6 55 (d==0) (.b 4 59 (c==8) (gm 20 dD a<|.W 4 1 [] (wF c d b a e 0))<|.b 11 3 (!(bA b.length (aD b) 0 0)) (gQ 6 1 [((.iface 299 (.agg [])),false)])<|gm 9 dD a<|.W 4 1 [] (wF c d b a e 0))<|gQ 21 1 [((.iface 299 (.agg [])),false)])<|gQ 31 1 [((.iface 299 (.agg [])),false)]
def aYg:=fun a b c d e f g i j=>aCr a b c d e f|>.t g|>.t i|>.t j tv
def aYh:=fun a b c d e f g i j k=>aCr a b c d e f|>.t g|>.t i|>.f j|>.t k tv
def aYi:=fun a b c d e f g i j k=>aCr a b c d e f|>.t g|>.t i|>.f j|>.f k tv
def aYj:=fun a b c d e f g i j k=>aCr a b c d e f|>.t g|>.f i|>.t j|>.t k tv
def aYk:=fun a b c d e f g i j k l=>aCr a b c d e f|>.t g|>.f i|>.t j|>.f k|>.t l tv
def aYl:=fun a b c d e f g i j k l=>aCr a b c d e f|>.t g|>.f i|>.t j|>.f k|>.f l tv
def aYm:=fun a b c d e f g i j=>aCr a b c d e f|>.t g|>.f i|>.f j tv
def aYn:=fun a b c d e f g=>aCr a b c d e f|>.f g tv
def aSs(d e:Int)(f:aB)(b:List Typ)(c:Bool)(a:Int):=tT 0 (wF d e f b c a)<|gd 5 70 (a< (b.length:Int)) (aIP 6 b a<|fun g i j k=>.o (.i [rn 7,.throws [((.iface 299 (.agg [])),false)]] [hA (vM PP 267 [(.agg [(nI g),(nI i),(aA j),(.ilst 4 (Typs.av k) false)]),(bV c)] [((.iface 299 (.agg [])),false)])]<|gQ 0 1 [((.iface 299 (.agg [])),false)])<|gp 7 267 [(.agg [(nI g),(nI i),(aA j),(.ilst 4 (Typs.av k) false)]),(bV c)] (.tup [])<|gw 4 76 (a+1)<|.W 3 1 [] (wF d e f b c (a+1)))<|gE 3 0 (.tup [])
def aYo:=fun a b c d e f g i j k l m n o=>aSs a b c d e f|>.t l g i j k m n|>.1 o tv
def aYp:=fun a b c d e f g i j k l m n o p=>aSs a b c d e f|>.t l g i j k m n|>.2 o p tv
def aYq:=fun a b c d e f g=>aSs a b c d e f|>.f g tv
def aSt(a b:Int)(c:aB)(d:List Typ):=tT 0 (bDU a b c d)<|.o (.y fun e:Int=>gK 46 (.enter 266 [(.ptr 4 0),(.agg [(nI a),(nI b),(aA c),(.ilst 4 (Typs.av d) false)])]) [oC 0 [(nI a),(nI b),(aA c),(.ilst 4 (Typs.av d) false)],oC 1 [(nI a),(nI b),(aA c),(.ilst 4 (Typs.av d) false)],oC 2 [(bV false)],oC 3 [(bV false)],oC 4 [(nI 12),(nI 0)]] 5 [((.iface 299 (.agg [])),false)] [oC 0 [(nI a),(nI b),(aA c),(.ilst 4 (Typs.av d) false)],oC 1 [(nI a),(nI b),(aA c),(.ilst 4 (Typs.av d) false)],oC 2 [(bV false)],oC 3 [(bV false)],oC 4 [(nI e),(nI 0)]] 5<|gE 55 6 (bV false))<|.y fun e:Int=>gk 46 (.enter 266 [(.ptr 4 0),(.agg [(nI a),(nI b),(aA c),(.ilst 4 (Typs.av d) false)])]) [oC 0 [(nI a),(nI b),(aA c),(.ilst 4 (Typs.av d) false)],oC 1 [(nI a),(nI b),(aA c),(.ilst 4 (Typs.av d) false)],oC 2 [(bV false)],oC 3 [(bV false)],oC 4 [(nI 12),(nI 0)]] 5 (.tup []) [oC 0 [(nI a),(nI b),(aA c),(.ilst 4 (Typs.av d) false)],oC 1 [(nI a),(nI b),(aA c),(.ilst 4 (Typs.av d) false)],oC 2 [(bV false)],oC 3 [(bV false)],oC 4 [(nI e),(nI 0)]] 5<|.o (.i [rn 4,.throws [((.iface 299 (.agg [])),false)]] [hA (vM PP 267 [(.agg [(nI a),(nI b),(aA c),(.ilst 4 (Typs.av d) false)]),(bV false)] [((.iface 299 (.agg [])),false)])]<|gE 55 6 (bV false))<|gp 4 267 [(.agg [(nI a),(nI b),(aA c),(.ilst 4 (Typs.av d) false)]),(bV false)] (.tup [])<|gE 43 5 (bV true)
def aYr:=fun a b c d e f=>aSt a b c d|>.1 e f tv
def aYs:=fun a b c d e f g=>aSt a b c d|>.2 e f|>.1 g tv
def aYt:=fun a b c d e f g=>aSt a b c d|>.2 e f|>.2 g tv
def dG (so n:Int)(s:aB)(k:Int)(ho:Bool) :Bool:=
 if so=1∨so=2∨so=3 then decide (k=0) &&decide (n=0) &&decide (s= [])
 else if so=4 then decide (k=2) &&decide (n=0) &&decide (s= [])
 else if so=5∨so=6∨so=7 then decide (k=1) &&decide (n=0) &&decide (s= [])
 else if so=8 then decide (k=0) &&decide (n=0) &&cD s
 else if so=9 then ho&&decide (k=0) &&decide (s= []) &&cF n 0 99
 else false
mutual
def aAY (ho:Bool) :Typ→Bool
 | .mk o n s ps=>dG o n s (length ps) ho&&aDZ ho ps
def aDZ (ho:Bool) :List Typ→Bool
 | [] =>true
 |t::ts=>aAY ho t&&aDZ ho ts
end
mutual
def cC :Typ→Nat
 | .mk _ _ _ ps=>cI ps+1
def cI :List Typ→Nat
 | [] =>0
 |t::ts=>cC t+cI ts
end
theorem pK :∀ts:List Typ,ts.length≤cI ts
 | [] =>by simp
 | .mk o n s ps::ts=>by have:=pK ts;simp only [cI,cC,List.length_cons];omega
theorem aFL :∀t:Typ,1≤cC t
 | .mk _ _ _ ps=>by simp only [cC];omega
def lN (t:Typ)(left:Int) :Int:=if(cC t:Int) ≤left then left-cC t else -1
def nC (ts:List Typ)(left:Int) :Int:=if left<0 then left else if(cI ts:Int) ≤left then left-cI ts else -1
theorem aHi (t:Typ)(ts:List Typ){left:Int}(h0:0≤left) :nC (t::ts) left=nC ts (lN t left) :=by
 have hp:=aFL t;unfold nC lN;rw [cI];by_cases h1: (cC t:Int) ≤left
 · rw [if_pos h1,if_neg (show ¬left<0 by omega),if_neg (show ¬left- (cC t:Int) <0 by omega)];by_cases h2: (cI ts:Int) ≤left-cC t
   · rw [if_pos h2,if_pos (by omega)];omega
   ·rw [if_neg h2,if_neg (by omega)]
 ·rw [if_neg h1,if_pos (show(-1:Int) <0 by omega),if_neg (show ¬left<0 by omega),if_neg (by omega)]
theorem aI9 (o n:Int)(s:aB)(ps:List Typ)(l0:Int)(ih:∀t∈ps,∀left:Int,0≤left→left≤1000→Pure PP 97 [Typ.av t,.int .i64 left] (.int .i64 (lN t left))) :
  ∀ (ts:List Typ) (i:Nat) (left:Int),ps.drop i=ts→ -1≤left→ (i:Int) +left≤1000→Ends PP 0 (aHg o n s ps l0 left (i:Int)).as (.ret (.int .i64 (nC ts left))) (aG [] 0)
 | [],i,left,h,h1,h2=>by
  have:=bL h;have e:nC [] left=left:=by
   unfold nC;by_cases hn:left<0
   ·rw [if_pos hn]
   · rw [if_neg hn,if_pos (by simp only [cI];omega)];simp only [cI];omega
  rw [e];exact aXK o n s ps l0 left i sd
 | .mk o' n' s' ps'::ts,i,left,h,h1,h2=>by
  obtain⟨g1,g2,g3⟩ :=bH h;by_cases h0:0≤left
  · have hp:=aFL (.mk o' n' s' ps');rw [aHi _ _ h0];refine(aXI o n s ps l0 left i o' n' s' ps' (lN (.mk o' n' s' ps') left) sd (by simp;omega) sd sd (ih _ (mem_of_getElem? g1) left h0 (by omega)) sd).ends ?_;exact aI9 o n s ps l0 ih ts (i+1) _ g2 (by unfold lN;split<;>omega) (by unfold lN;split<;>omega)
  · have e:∀us,nC us left=left:=fun us=>by unfold nC;rw [if_pos (by omega)]
    rw [e];exact aXJ o n s ps l0 left i sd (by simp;omega)
mutual
theorem aD0 :∀ (t:Typ) (left:Int),-1≤left→left≤1000→Pure PP 97 [Typ.av t,.int .i64 left] (.int .i64 (lN t left))
 | .mk o n s ps,left,h1,h2=>by
  have e1:cC (.mk o n s ps) =cI ps+1:=by rw [cC]
  refine bC (by kernel_rfl) (by simp [keylessL,vV,keyless]) rfl ?_;by_cases ha:left<1
  · have e:lN (.mk o n s ps) left= -1:=by unfold lN;rw [if_neg (by omega)]
    rw [e];exact aXG o n s ps left (by simp [ha])
  · have e:lN (.mk o n s ps) left=nC ps (left-1) :=by
     unfold lN nC;rw [if_neg (show ¬left-1<0 by omega)];by_cases hc: (cI ps:Int) ≤left-1
     ·rw [if_pos hc,if_pos (by omega)];omega
     ·rw [if_neg hc,if_neg (by omega)]
    rw [e];refine(aXH o n s ps left (by simp;omega) sd).ends ?_;exact aI9 o n s ps left (fun t ht l a b=>aMD ps t ht l (by omega) b) ps 0 (left-1) rfl (by omega) (by omega)
theorem aMD :∀ (ts:List Typ),∀t∈ts,∀left:Int,-1≤left→left≤1000→Pure PP 97 [Typ.av t,.int .i64 left] (.int .i64 (lN t left))
 | [],t,ht=>by cases ht
 | u::ts,t,ht=>by
  rcases List.mem_cons.1 ht with e|ht
  ·rw [e];exact fun left a b=>aD0 u left a b
  ·exact aMD ts t ht
end
theorem bGU (t_sort t_n:Int)(t_text:aB)(t_parts:List Typ)(ho:Bool)(hl:t_parts.length<1000000)(b:Bool)(hk:∀i:Bool,i=dG t_sort t_n t_text (length t_parts) ho→Ends PP 0 (cV t_sort t_n t_text t_parts ho i 0).as (.ret (.bool b)) (aG [] 0)) :
  Ends PP 0 (start PP 121 [Typ.av (.mk t_sort t_n t_text t_parts),.bool ho]).as (.ret (.bool b)) (aG [] 0) :=by
 cases hb1: (t_sort== (1:Int))with
 | true=>
  cases hb2: (((length t_parts:Nat) :Int) == (0:Int))with
  | true=>
   cases hb3: (t_n== (0:Int))with
   | true=>
    exact LeadsM.ends (aXL t_sort t_n t_text t_parts ho   hb1 hb2 hb3) (hk _ (by clear hk;simp_all [dG,aE,aF]))
   | false=>
    exact LeadsM.ends (aXM t_sort t_n t_text t_parts ho   hb1 hb2 hb3) (hk _ (by clear hk;simp_all [dG,aE,aF]))
  | false=>
   exact LeadsM.ends (aXN t_sort t_n t_text t_parts ho   hb1 hb2) (hk _ (by clear hk;simp_all [dG,aE,aF]))
 | false =>
  cases hb4: (t_sort== (2:Int))with
  | true=>
   cases hb5: (((length t_parts:Nat) :Int) == (0:Int))with
   | true=>
    cases hb6: (t_n== (0:Int))with
    | true=>
     exact LeadsM.ends (aXO t_sort t_n t_text t_parts ho   hb1 hb4 hb5 hb6) (hk _ (by clear hk;simp_all [dG,aE,aF]))
    | false=>
     exact LeadsM.ends (aXP t_sort t_n t_text t_parts ho   hb1 hb4 hb5 hb6) (hk _ (by clear hk;simp_all [dG,aE,aF]))
   | false=>
    exact LeadsM.ends (aXQ t_sort t_n t_text t_parts ho   hb1 hb4 hb5) (hk _ (by clear hk;simp_all [dG,aE,aF]))
  | false =>
   cases hb7: (t_sort== (3:Int))with
   | true=>
    cases hb8: (((length t_parts:Nat) :Int) == (0:Int))with
    | true=>
     cases hb9: (t_n== (0:Int))with
     | true=>
      exact LeadsM.ends (aXR t_sort t_n t_text t_parts ho   hb1 hb4 hb7 hb8 hb9) (hk _ (by clear hk;simp_all [dG,aE,aF]))
     | false=>
      exact LeadsM.ends (aXS t_sort t_n t_text t_parts ho   hb1 hb4 hb7 hb8 hb9) (hk _ (by clear hk;simp_all [dG,aE,aF]))
    | false=>
     exact LeadsM.ends (aXT t_sort t_n t_text t_parts ho   hb1 hb4 hb7 hb8) (hk _ (by clear hk;simp_all [dG,aE,aF]))
   | false =>
    cases hb10: (t_sort== (4:Int))with
    | true=>
     cases hb11: (((length t_parts:Nat) :Int) == (2:Int))with
     | true=>
      cases hb12: (t_n== (0:Int))with
      | true=>
       exact LeadsM.ends (aXU t_sort t_n t_text t_parts ho   hb1 hb4 hb7 hb10 hb11 hb12) (hk _ (by clear hk;simp_all [dG,aE,aF]))
      | false=>
       exact LeadsM.ends (aR1 t_sort t_n t_text t_parts ho   hb1 hb4 hb7 hb10 hb11 hb12) (hk _ (by clear hk;simp_all [dG,aE,aF]))
     | false=>
      exact LeadsM.ends (aR2 t_sort t_n t_text t_parts ho   hb1 hb4 hb7 hb10 hb11) (hk _ (by clear hk;simp_all [dG,aE,aF]))
    | false =>
     cases hb13: (t_sort== (5:Int))with
     | true=>
      cases hb14: (((length t_parts:Nat) :Int) == (1:Int))with
      | true=>
       cases hb15: (t_n== (0:Int))with
       | true=>
        exact LeadsM.ends (aR3 t_sort t_n t_text t_parts ho   hb1 hb4 hb7 hb10 hb13 hb14 hb15) (hk _ (by clear hk;simp_all [dG,aE,aF]))
       | false=>
        exact LeadsM.ends (aR4 t_sort t_n t_text t_parts ho   hb1 hb4 hb7 hb10 hb13 hb14 hb15) (hk _ (by clear hk;simp_all [dG,aE,aF]))
      | false=>
       exact LeadsM.ends (aR5 t_sort t_n t_text t_parts ho   hb1 hb4 hb7 hb10 hb13 hb14) (hk _ (by clear hk;simp_all [dG,aE,aF]))
     | false =>
      cases hb16: (t_sort== (6:Int))with
      | true=>
       cases hb17: (((length t_parts:Nat) :Int) == (1:Int))with
       | true=>
        cases hb18: (t_n== (0:Int))with
        | true=>
         exact LeadsM.ends (aR6 t_sort t_n t_text t_parts ho   hb1 hb4 hb7 hb10 hb13 hb16 hb17 hb18) (hk _ (by clear hk;simp_all [dG,aE,aF]))
        | false=>
         exact LeadsM.ends (aR7 t_sort t_n t_text t_parts ho   hb1 hb4 hb7 hb10 hb13 hb16 hb17 hb18) (hk _ (by clear hk;simp_all [dG,aE,aF]))
       | false=>
        exact LeadsM.ends (aR8 t_sort t_n t_text t_parts ho   hb1 hb4 hb7 hb10 hb13 hb16 hb17) (hk _ (by clear hk;simp_all [dG,aE,aF]))
      | false =>
       cases hb19: (t_sort== (7:Int))with
       | true=>
        cases hb20: (((length t_parts:Nat) :Int) == (1:Int))with
        | true=>
         cases hb21: (t_n== (0:Int))with
         | true=>
          exact LeadsM.ends (aR9 t_sort t_n t_text t_parts ho   hb1 hb4 hb7 hb10 hb13 hb16 hb19 hb20 hb21) (hk _ (by clear hk;simp_all [dG,aE,aF]))
         | false=>
          exact LeadsM.ends (aSa t_sort t_n t_text t_parts ho   hb1 hb4 hb7 hb10 hb13 hb16 hb19 hb20 hb21) (hk _ (by clear hk;simp_all [dG,aE,aF]))
        | false=>
         exact LeadsM.ends (aSb t_sort t_n t_text t_parts ho   hb1 hb4 hb7 hb10 hb13 hb16 hb19 hb20) (hk _ (by clear hk;simp_all [dG,aE,aF]))
       | false=>
        cases hb22: (t_sort== (8:Int))with
        | true=>
         cases hb23: (((length t_parts:Nat) :Int) == (0:Int))with
         | true=>
          cases hb24: (t_n== (0:Int))with
          | true=>
           exact LeadsM.ends (aSc t_sort t_n t_text t_parts ho  (cD t_text) hb1 hb4 hb7 hb10 hb13 hb16 hb19 hb22 hb23 hb24 (nG t_text)) (hk _ (by clear hk;simp_all [dG,aE,aF]))
          | false=>
           exact LeadsM.ends (aSd t_sort t_n t_text t_parts ho   hb1 hb4 hb7 hb10 hb13 hb16 hb19 hb22 hb23 hb24) (hk _ (by clear hk;simp_all [dG,aE,aF]))
         | false=>
          exact LeadsM.ends (aSe t_sort t_n t_text t_parts ho   hb1 hb4 hb7 hb10 hb13 hb16 hb19 hb22 hb23) (hk _ (by clear hk;simp_all [dG,aE,aF]))
        | false=>
         cases hb25: (t_sort== (9:Int))with
         | true=>
          cases ho with
          | true=>
           cases hb26: (((length t_parts:Nat) :Int) == (0:Int))with
           | true=>
            cases hb27: (bA (length t_text) (aD t_text) 0 0)with
            | true=>
             exact LeadsM.ends (aSf t_sort t_n t_text t_parts true  (cF t_n 0 99) hb1 hb4 hb7 hb10 hb13 hb16 hb19 hb22 hb25 rfl hb26 hb27 (hI t_n 0 99)) (hk _ (by clear hk;simp_all [dG,aE,aF]))
            | false=>
             exact LeadsM.ends (aSg t_sort t_n t_text t_parts true   hb1 hb4 hb7 hb10 hb13 hb16 hb19 hb22 hb25 rfl hb26 hb27) (hk _ (by clear hk;simp_all [dG,aE,aF]))
           | false=>
            exact LeadsM.ends (aSh t_sort t_n t_text t_parts true   hb1 hb4 hb7 hb10 hb13 hb16 hb19 hb22 hb25 rfl hb26) (hk _ (by clear hk;simp_all [dG,aE,aF]))
          | false=>
           exact LeadsM.ends (aSi t_sort t_n t_text t_parts false   hb1 hb4 hb7 hb10 hb13 hb16 hb19 hb22 hb25 rfl) (hk _ (by clear hk;simp_all [dG,aE,aF]))
         | false=>
          exact LeadsM.ends (aSj t_sort t_n t_text t_parts ho   hb1 hb4 hb7 hb10 hb13 hb16 hb19 hb22 hb25) (hk _ (by clear hk;simp_all [dG,aE,aF]))
theorem aJa (o n:Int)(s:aB)(ps:List Typ)(ho:Bool)(hl:ps.length<1000000)(ih:∀t∈ps,Pure PP 121 [Typ.av t,.bool ho] (.bool (aAY ho t))) :
  ∀ (ts:List Typ) (i:Nat) (b:Bool),ps.drop i=ts→Ends PP 0 (cV o n s ps ho b (i:Int)).as (.ret (.bool (b&&aDZ ho ts))) (aG [] 0)
 | [],i,b,h=>by
  have:=bL h;exact Ends.eqv (aXX o n s ps ho b i sd) (by simp [aDZ])
 | .mk o' n' s' ps'::ts,i,b,h=>by
  obtain⟨g1,g2,g3⟩ :=bH h;cases b with
  |false=>exact Ends.eqv (aXW o n s ps ho false i sd rfl) (by simp)
  | true=>
   refine(aXV o n s ps ho true i o' n' s' ps' (aAY ho (.mk o' n' s' ps')) sd rfl sd sd (ih _ (mem_of_getElem? g1)) sd).ends ?_;exact Ends.eqv (aJa o n s ps ho hl ih ts (i+1) _ g2) (by simp [aDZ])
mutual
theorem aJb (ho:Bool) :∀ (t:Typ),cC t<1000000→Pure PP 121 [Typ.av t,.bool ho] (.bool (aAY ho t))
 | .mk o n s ps,hf=>by
  refine bC (by kernel_rfl) (by simp [keylessL,vV,keyless]) rfl ?_;simp only [cC]at hf;have:=pK ps;refine bGU o n s ps ho (by omega) _ (fun i hi=>?_);rw [hi,aAY];exact aJa o n s ps ho (by omega) (aME ho ps (by omega)) ps 0 _ rfl
theorem aME (ho:Bool) :∀ (ts:List Typ),cI ts<1000000→∀t∈ts,Pure PP 121 [Typ.av t,.bool ho] (.bool (aAY ho t))
 | [],_,t,ht=>by cases ht
 | u::ts,hf,t,ht=>by
  simp only [cI]at hf;rcases List.mem_cons.1 ht with e|ht
  ·rw [e];exact aJb ho u (by omega)
  ·exact aME ho ts (by omega) t ht
end
def wG (t:Typ) :Bool:=decide (cC t≤12) &&aAY false t
theorem aD1 (t:Typ) :Pure PP 62 [Typ.av t] (.bool (wG t)) :=by
 have hw:=aD0 t 12 (by omega) (by omega);unfold wG;unfold lN at hw;obtain⟨o,n,s,ps⟩ :=t;refine bC (by kernel_rfl) (by simp [keylessL,vV]) rfl ?_;by_cases h:cC (.mk o n s ps) ≤12
 · rw [if_pos (by omega)]at hw;exact Ends.eqv (aXY o n s ps _ _ hw (by simp;omega) (aJb false (.mk o n s ps) (by omega))) (by simp [h])
 · rw [if_neg (by omega)]at hw;exact Ends.eqv (aXZ o n s ps _ hw (by simp)) (by simp [h])
mutual
def zI :Typ→Bool
 | .mk _ _ s ps=>aAZ ps&&decide (((length s:Nat) :Int) ≤30)
def aAZ :List Typ→Bool
 | [] =>true
 |t::ts=>zI t&&aAZ ts
end
theorem aJc (o n:Int)(s:aB)(ps:List Typ)(hl:ps.length<1000000)(ih:∀t∈ps,Pure PP 98 [Typ.av t] (.bool (zI t))) :
  ∀ (ts:List Typ) (i:Nat),ps.drop i=ts→Ends PP 0 (aHh o n s ps (i:Int)).as (.ret (.bool (aAZ ts&&decide (((length s:Nat) :Int) ≤30)))) (aG [] 0)
 | [],i,h=>by
  have:=bL h;exact Ends.eqv (aX3 o n s ps i sd) (by simp [aAZ])
 | .mk o' n' s' ps'::ts,i,h=>by
  obtain⟨g1,g2,g3⟩ :=bH h;have hp:=ih _ (mem_of_getElem? g1);rw [aAZ];cases hb:zI (.mk o' n' s' ps')with
  | true=>
   rw [hb]at hp;exact(aX2 o n s ps i o' n' s' ps' true sd sd sd hp rfl sd).ends (Ends.eqv (aJc o n s ps hl ih ts (i+1) g2) (by simp))
  | false=>
   rw [hb]at hp;exact Ends.eqv (aX1 o n s ps i o' n' s' ps' false sd sd sd hp rfl) (by simp)
mutual
theorem aJd :∀ (t:Typ),cC t<1000000→Pure PP 98 [Typ.av t] (.bool (zI t))
 | .mk o n s ps,hf=>by
  refine bC (by kernel_rfl) (by simp [keylessL,vV]) rfl ?_;simp only [cC]at hf;have:=pK ps;rw [zI];exact(aX0 o n s ps).ends (aJc o n s ps (by omega) (aMF ps (by omega)) ps 0 rfl)
theorem aMF :∀ (ts:List Typ),cI ts<1000000→∀t∈ts,Pure PP 98 [Typ.av t] (.bool (zI t))
 | [],_,t,ht=>by cases ht
 | u::ts,hf,t,ht=>by
  simp only [cI]at hf;rcases List.mem_cons.1 ht with e|ht
  ·rw [e];exact aJd u (by omega)
  ·exact aMF ts (by omega) t ht
end
def pL (t:Typ) :Bool:=decide (cC t≤16) &&zI t
def pY (so:Int) :Int:=if so=4 then 2 else if so=5∨so=6∨so=7 then 1 else 0
def eY (so n:Int)(s:aB)(ho:Bool) :Bool:=
 if so=1∨so=2∨so=3∨so=4∨so=5∨so=6∨so=7 then true else if so=8 then cD s else if so=9 then ho&&cF n 0 99 else false
def fY (pv so n:Int)(s:aB)(k:Int) :Bool:=decide (k=pv) && (decide (so=9) ||decide (n=0)) && (decide (so=8) ||decide (s= []))
theorem aOc (so n:Int)(s:aB)(k:Int)(ho:Bool) :dG so n s k ho= (eY so n s ho&&fY (pY so) so n s k) :=by
 by_cases h1:so=1
 · subst h1;simp [dG,eY,fY,pY,Bool.and_assoc,Bool.and_comm,Bool.and_left_comm]
 by_cases h2:so=2
 · subst h2;simp [dG,eY,fY,pY,Bool.and_assoc,Bool.and_comm,Bool.and_left_comm]
 by_cases h3:so=3
 · subst h3;simp [dG,eY,fY,pY,Bool.and_assoc,Bool.and_comm,Bool.and_left_comm]
 by_cases h4:so=4
 · subst h4;simp [dG,eY,fY,pY,Bool.and_assoc,Bool.and_comm,Bool.and_left_comm]
 by_cases h5:so=5
 · subst h5;simp [dG,eY,fY,pY,Bool.and_assoc,Bool.and_comm,Bool.and_left_comm]
 by_cases h6:so=6
 · subst h6;simp [dG,eY,fY,pY,Bool.and_assoc,Bool.and_comm,Bool.and_left_comm]
 by_cases h7:so=7
 · subst h7;simp [dG,eY,fY,pY,Bool.and_assoc,Bool.and_comm,Bool.and_left_comm]
 by_cases h8:so=8
 · subst h8;simp [dG,eY,fY,pY,Bool.and_assoc,Bool.and_comm,Bool.and_left_comm]
 by_cases h9:so=9
 · subst h9;simp [dG,eY,fY,pY,Bool.and_assoc,Bool.and_comm,Bool.and_left_comm]
 simp [dG,eY,h1,h2,h3,h4,h5,h6,h7,h8,h9]
theorem bFI (t_sort t_n:Int)(t_text:aB)(t_parts:List Typ)(ho:Bool)(b:Bool)(hno:eY t_sort t_n t_text ho=false→b=false)(hk:∀pv,eY t_sort t_n t_text ho=true→pv=pY t_sort→Ends PP 0 (nW t_sort t_n t_text t_parts ho pv).as (kV b) (aG [] 0)) :
  Ends PP 0 (aSm t_sort t_n t_text t_parts ho).as (kV b) (aG [] 0) :=by
 cases hb1: (t_sort== (1:Int))with
 | true=>
  exact LeadsM.ends (aX6 t_sort t_n t_text t_parts ho   hb1) (hk _ (by clear hno hk;simp_all [eY,pY,cF] <;>omega) (by clear hno hk;simp_all [eY,pY,cF] <;>omega))
 | false =>
  cases hb2: (t_sort== (2:Int))with
  | true=>
   exact LeadsM.ends (aX7 t_sort t_n t_text t_parts ho   hb1 hb2) (hk _ (by clear hno hk;simp_all [eY,pY,cF] <;>omega) (by clear hno hk;simp_all [eY,pY,cF] <;>omega))
  | false =>
   cases hb3: (t_sort== (3:Int))with
   | true=>
    exact LeadsM.ends (aX8 t_sort t_n t_text t_parts ho   hb1 hb2 hb3) (hk _ (by clear hno hk;simp_all [eY,pY,cF] <;>omega) (by clear hno hk;simp_all [eY,pY,cF] <;>omega))
   | false =>
    cases hb4: (t_sort== (4:Int))with
    | true=>
     exact LeadsM.ends (aX9 t_sort t_n t_text t_parts ho   hb1 hb2 hb3 hb4) (hk _ (by clear hno hk;simp_all [eY,pY,cF] <;>omega) (by clear hno hk;simp_all [eY,pY,cF] <;>omega))
    | false =>
     cases hb5: (t_sort== (5:Int))with
     | true=>
      exact LeadsM.ends (aYa t_sort t_n t_text t_parts ho   hb1 hb2 hb3 hb4 hb5) (hk _ (by clear hno hk;simp_all [eY,pY,cF] <;>omega) (by clear hno hk;simp_all [eY,pY,cF] <;>omega))
     | false =>
      cases hb6: (t_sort== (6:Int))with
      | true=>
       exact LeadsM.ends (aYb t_sort t_n t_text t_parts ho   hb1 hb2 hb3 hb4 hb5 hb6) (hk _ (by clear hno hk;simp_all [eY,pY,cF] <;>omega) (by clear hno hk;simp_all [eY,pY,cF] <;>omega))
      | false =>
       cases hb7: (t_sort== (7:Int))with
       | true=>
        exact LeadsM.ends (aYc t_sort t_n t_text t_parts ho   hb1 hb2 hb3 hb4 hb5 hb6 hb7) (hk _ (by clear hno hk;simp_all [eY,pY,cF] <;>omega) (by clear hno hk;simp_all [eY,pY,cF] <;>omega))
       | false=>
        cases hb8: (t_sort== (8:Int))with
        | true=>
         cases hb9: (!(cD t_text))with
         | true=>
          rw [hno (by clear hno hk;simp_all [eY,pY,cF] <;>omega)];exact aYd t_sort t_n t_text t_parts ho  (cD t_text) hb1 hb2 hb3 hb4 hb5 hb6 hb7 hb8 (hO t_text) hb9
         | false=>
          exact LeadsM.ends (aYe t_sort t_n t_text t_parts ho  (cD t_text) hb1 hb2 hb3 hb4 hb5 hb6 hb7 hb8 (hO t_text) hb9) (hk _ (by clear hno hk;simp_all [eY,pY,cF] <;>omega) (by clear hno hk;simp_all [eY,pY,cF] <;>omega))
        | false=>
         cases hb10: (t_sort== (9:Int))with
         | true=>
          cases ho with
          | true=>
           cases hb11: (decide (t_n≥ (0:Int)))with
           | true=>
            cases hb12: (!(decide (t_n≤ (99:Int))))with
            | true=>
             rw [hno (by clear hno hk;simp_all [eY,pY,cF] <;>omega)];exact aYf t_sort t_n t_text t_parts true   hb1 hb2 hb3 hb4 hb5 hb6 hb7 hb8 hb10 rfl hb11 hb12
            | false=>
             exact LeadsM.ends (aSo t_sort t_n t_text t_parts true   hb1 hb2 hb3 hb4 hb5 hb6 hb7 hb8 hb10 rfl hb11 hb12) (hk _ (by clear hno hk;simp_all [eY,pY,cF] <;>omega) (by clear hno hk;simp_all [eY,pY,cF] <;>omega))
           | false=>
            rw [hno (by clear hno hk;simp_all [eY,pY,cF] <;>omega)];exact aSp t_sort t_n t_text t_parts true   hb1 hb2 hb3 hb4 hb5 hb6 hb7 hb8 hb10 rfl hb11
          | false=>
           rw [hno (by clear hno hk;simp_all [eY,pY,cF] <;>omega)];exact aSq t_sort t_n t_text t_parts false   hb1 hb2 hb3 hb4 hb5 hb6 hb7 hb8 hb10 rfl
         | false=>
          rw [hno (by clear hno hk;simp_all [eY,pY,cF] <;>omega)];exact aSr t_sort t_n t_text t_parts ho   hb1 hb2 hb3 hb4 hb5 hb6 hb7 hb8 hb10
theorem bGV (t_sort t_n:Int)(t_text:aB)(t_parts:List Typ)(ho:Bool)(parts4:Int)(b:Bool)(hno:fY parts4 t_sort t_n t_text (length t_parts) =false→b=false)(hk:fY parts4 t_sort t_n t_text (length t_parts) =true→Ends PP 0 (wF t_sort t_n t_text t_parts ho 0).as (kV b) (aG [] 0)) :
  Ends PP 0 (nW t_sort t_n t_text t_parts ho parts4).as (kV b) (aG [] 0) :=by
 cases hb1: (((length t_parts:Nat) :Int) ==parts4)with
 | true=>
  cases hb2: (t_sort== (9:Int))with
  | true=>
   cases hb3: (t_sort== (8:Int))with
   | true=>
    exact LeadsM.ends (aYg t_sort t_n t_text t_parts ho parts4  hb1 hb2 hb3) (hk (by clear hno hk;simp_all [fY,aE,aF]))
   | false=>
    cases hb4: (!(bA (length t_text) (aD t_text) 0 0))with
    | true=>
     rw [hno (by clear hno hk;simp_all [fY,aE,aF])];exact aYh t_sort t_n t_text t_parts ho parts4  hb1 hb2 hb3 hb4
    | false=>
     exact LeadsM.ends (aYi t_sort t_n t_text t_parts ho parts4  hb1 hb2 hb3 hb4) (hk (by clear hno hk;simp_all [fY,aE,aF]))
  | false=>
   cases hb5: (t_n== (0:Int))with
   | true=>
    cases hb6: (t_sort== (8:Int))with
    | true=>
     exact LeadsM.ends (aYj t_sort t_n t_text t_parts ho parts4  hb1 hb2 hb5 hb6) (hk (by clear hno hk;simp_all [fY,aE,aF]))
    | false=>
     cases hb7: (!(bA (length t_text) (aD t_text) 0 0))with
     | true=>
      rw [hno (by clear hno hk;simp_all [fY,aE,aF])];exact aYk t_sort t_n t_text t_parts ho parts4  hb1 hb2 hb5 hb6 hb7
     | false=>
      exact LeadsM.ends (aYl t_sort t_n t_text t_parts ho parts4  hb1 hb2 hb5 hb6 hb7) (hk (by clear hno hk;simp_all [fY,aE,aF]))
   | false=>
    rw [hno (by clear hno hk;simp_all [fY,aE,aF])];exact aYm t_sort t_n t_text t_parts ho parts4  hb1 hb2 hb5
 | false=>
  rw [hno (by clear hno hk;simp_all [fY,aE,aF])];exact aYn t_sort t_n t_text t_parts ho parts4  hb1
theorem aD2 (t:Typ) :Pure PP 35 [Typ.av t] (.bool (pL t)) :=by
 have hw:=aD0 t 16 (by omega) (by omega);unfold pL;unfold lN at hw;obtain⟨o,n,s,ps⟩ :=t;refine bC (by kernel_rfl) (by simp [keylessL,vV]) rfl ?_;by_cases h:cC (.mk o n s ps) ≤16
 · rw [if_pos (by omega)]at hw;exact Ends.eqv (aX4 o n s ps _ _ hw (by simp;omega) (aJd (.mk o n s ps) (by omega))) (by simp [h])
 · rw [if_neg (by omega)]at hw;exact Ends.eqv (aX5 o n s ps _ hw (by simp)) (by simp [h])
theorem aJe (o n:Int)(s:aB)(ps:List Typ)(ho:Bool)(hl:ps.length<1000000)(ih:∀t∈ps,POT 267 [Typ.av t,.bool ho] (aAY ho t)) :
  ∀ (ts:List Typ) (i:Nat),ps.drop i=ts→Ends PP 0 (wF o n s ps ho (i:Int)).as (kV (aDZ ho ts)) (aG [] 0)
 | [],i,h=>by
  have:=bL h;exact aYq o n s ps ho i sd
 | .mk o' n' s' ps'::ts,i,h=>by
  obtain⟨g1,g2,g3⟩ :=bH h;have hp:=ih _ (mem_of_getElem? g1);rw [aDZ];cases hb:aAY ho (.mk o' n' s' ps')with
  | true=>
   rw [hb]at hp;rw [Bool.true_and];exact(aYp o n s ps ho i o' n' s' ps' sd sd sd hp sd).ends (aJe o n s ps ho hl ih ts (i+1) g2)
  | false=>
   rw [hb]at hp;rw [Bool.false_and];exact aYo o n s ps ho i o' n' s' ps' sd sd sd hp
mutual
theorem aMG (ho:Bool) :∀ (t:Typ),cC t<1000000→POT 267 [Typ.av t,.bool ho] (aAY ho t)
 | .mk o n s ps,hf=>by
  simp only [cC]at hf;have:=pK ps;refine aLv (s:=aSm o n s ps ho) (by kernel_rfl) (by kernel_rfl) (by simp [keylessL,vV,keyless]) ?_;rw [aAY,aOc];refine bFI o n s ps ho _ (fun h=>by rw [h];simp) (fun pv he hp=>?_);subst hp;rw [he];refine bGV o n s ps ho _ _ (fun h=>by rw [h];simp) (fun h=>?_);rw [h,Bool.true_and,Bool.true_and];exact aJe o n s ps ho (by omega) (aMH ho ps (by omega)) ps 0 rfl
theorem aMH (ho:Bool) :∀ (ts:List Typ),cI ts<1000000→∀t∈ts,POT 267 [Typ.av t,.bool ho] (aAY ho t)
 | [],_,t,ht=>by cases ht
 | u::ts,hf,t,ht=>by
  simp only [cI]at hf;rcases List.mem_cons.1 ht with e|ht
  ·rw [e];exact aMG ho u (by omega)
  ·exact aMH ho ts (by omega) t ht
end
def GKS (p:Typ)(a b:Int) :Prop:=Spec PP (.enter 266 [.ptr 0 0,Typ.av p]) (aG [(0,GC a b,false)] 1) (kV (pS (cC p) a)) (aG [(0,GC (dL (cC p) a) b,false)] 1)
theorem aMI (a b f n:Int)(s:aB)(ps:List Typ)(hl:ps.length<1000000)(ih:∀p∈ps,∀a,0≤a→a≤1000→GKS p a b) :∀ (t:List Typ) (i:Nat) (c:Int),ps.drop i=t→0≤c→c≤1000 →
  Ends PP 1 (aMC a b f n s ps (i:Int) c).as (kV (pS (cI t) c)) (aG [(0,GC (dL (cI t) c) b,false)] 1)
 | [],i,c,h,h0,h1=>by
  have:=bL h;have e1:pS (cI []) c=true:=by simp [pS,cI,h0]
  have e2:dL (cI []) c=c:=by simp [dL,cI,h0]
  rw [e1,e2];exact bFH a b f n s ps i c sd
 | .mk f' n' s' ps'::t,i,c,h,h0,h1=>by
  obtain⟨g1,g2,g3⟩ :=bH h;have hs:=ih _ (mem_of_getElem? g1) c h0 h1;unfold GKS at hs;by_cases hc: (cC (.mk f' n' s' ps') :Int) ≤c
  · have e1:pS (cC (.mk f' n' s' ps')) c=true:=by simp [pS,hc]
    have e2:dL (cC (.mk f' n' s' ps')) c=c-cC (.mk f' n' s' ps') :=by simp [dL,hc]
    rw [e1,e2]at hs;have r1:pS (cI (.mk f' n' s' ps'::t)) c=pS (cI t) (c-cC (.mk f' n' s' ps')) :=by
     unfold pS;rw [cI];congr 1;apply propext;omega
    have r2:dL (cI (.mk f' n' s' ps'::t)) c=dL (cI t) (c-cC (.mk f' n' s' ps')) :=by
     unfold dL;rw [cI];split<;>split<;>omega
    rw [r1,r2];refine(bFG a b f n s ps i c f' n' s' ps' (c-cC (.mk f' n' s' ps')) sd sd sd (dP (ks:=[0]) hs (by kernel_rfl) (fE true) (by kernel_rfl) (by kernel_rfl) trivial (by kernel_rfl) trivial) sd).ends ?_;exact aMI a b f n s ps hl ih t (i+1) _ g2 (by omega) (by omega)
  · have e1:pS (cC (.mk f' n' s' ps')) c=false:=by simp only [pS];exact decide_eq_false hc
    have e2:dL (cC (.mk f' n' s' ps')) c= -1:=by unfold dL;rw [if_neg hc]
    rw [e1,e2]at hs;have r1:pS (cI (.mk f' n' s' ps'::t)) c=false:=by simp only [pS,cI];exact decide_eq_false (by omega)
    have r2:dL (cI (.mk f' n' s' ps'::t)) c= -1:=by unfold dL;rw [cI,if_neg (by omega)]
    rw [r1,r2];exact bFF a b f n s ps i c f' n' s' ps' (-1) sd sd sd (dP (ks:=[0]) hs (by kernel_rfl) (fE false) (by kernel_rfl) (by kernel_rfl) trivial (by kernel_rfl) trivial)
mutual
theorem aMJ (b:Int)(hb:0≤b) :∀ (p:Typ) (a:Int),0≤a→a≤1000→cC p<1000000→GKS p a b
 | .mk f n s ps,a,h0,h1,hp=>by
  simp only [cC]at hp;have:=pK ps;refine⟨(bFC a b f n s ps).as.fr,by kernel_rfl,?_⟩;have E:Ends PP 1 (bFC a b f n s ps).as (kV (pS (cC (.mk f n s ps)) a)) (aG [(0,GC (dL (cC (.mk f n s ps)) a) b,false)] 1) :=by
   by_cases ha:1≤a
   · have r1:pS (cC (.mk f n s ps)) a=pS (cI ps) (a-1) :=by
      unfold pS;rw [cC];congr 1;apply propext;omega
     have r2:dL (cC (.mk f n s ps)) a=dL (cI ps) (a-1) :=by
      unfold dL;rw [cC];split<;>split<;>omega
     rw [r1,r2];exact(bFD a b f n s ps sd (by simp;omega) (by simp;omega)).ends (aMI a b f n s ps (by omega) (fun p hp a h0 h1=>aSu b hb ps (by omega) p hp a h0 h1) ps 0 (a-1) rfl (by omega) (by omega))
   · obtain rfl:a=0:=by omega
     have r1:pS (cC (.mk f n s ps)) 0=false:=by simp only [pS,cC];exact decide_eq_false (by omega)
     have r2:dL (cC (.mk f n s ps)) 0=0-1:=by unfold dL;rw [cC,if_neg (by omega)];rfl
     rw [r1,r2];exact bFE 0 b f n s ps sd (by simp)
  exact Eq.mp (by kernel_rfl) E
theorem aSu (b:Int)(hb:0≤b) :∀ (ps:List Typ),cI ps<1000000→∀p∈ps,∀a,0≤a→a≤1000→GKS p a b
 | [],_,p,hp=>by cases hp
 | q::ps,h,p,hp=>by
  simp only [cI]at h;rcases List.mem_cons.1 hp with e|hp
  ·rw [e];exact fun a h0 h1=>aMJ b hb q a h0 h1 (by omega)
  ·exact aSu b hb ps (by omega) p hp
end
theorem aD3 (t:Typ)(hf:cC t<1000000) :Pure PP 183 [Typ.av t] (.bool (wG t)) :=by
 have hg:=aMJ 0 (by omega) t 12 (by omega) (by omega) hf;have hs:=aMG false t hf;unfold GKS at hg;have e:wG t= (pS (cC t) 12&&aAY false t) :=by
  unfold wG pS;congr 2;apply propext;omega
 rw [e];obtain⟨o,n,s,ps⟩ :=t;refine cB (s:=bDU o n s ps) (by kernel_rfl) (by kernel_rfl) (by simp [keylessL,vV]) (by simp [keyless]) ?_;generalize dL (cC (.mk o n s ps)) 12=z at hg;cases hb:pS (cC (.mk o n s ps)) 12 with
 | false=>
  rw [hb]at hg;rw [Bool.false_and];exact aYr o n s ps z (dP (ks:=[4]) hg (by kernel_rfl) (fE false) (by kernel_rfl) (by kernel_rfl) trivial (by kernel_rfl) trivial)
 | true=>
  rw [hb]at hg;rw [Bool.true_and];cases hF:aAY false (.mk o n s ps)with
  | true=>
   rw [hF]at hs;exact aYt o n s ps z (dP (ks:=[4]) hg (by kernel_rfl) (fE true) (by kernel_rfl) (by kernel_rfl) trivial (by kernel_rfl) trivial) hs
  | false=>
   rw [hF]at hs;exact aYs o n s ps z (dP (ks:=[4]) hg (by kernel_rfl) (fE true) (by kernel_rfl) (by kernel_rfl) trivial (by kernel_rfl) trivial) hs
structure ConD where
 name:aB
 args:List Typ
def ConD.av (c:ConD) :AV:=.agg [aA c.name,.ilst 4 (Typs.av c.args) false]
structure DataD where
 name:aB
 cons:List ConD
def DataD.av (d:DataD) :AV:=.agg [aA d.name,.ilst 2 (map ConD.av d.cons) false]
inductive FunD where
 |mk (name param:aB) (frm to:Typ) (body:Term)
def FunD.av :FunD→AV
 | .mk n p (.mk f0 f1 f2 f3) (.mk g0 g1 g2 g3) (.mk b0 b1 b2 b3 b4) =>.agg [aA n,aA p,.int .i64 f0,.int .i64 f1,aA f2,.ilst 4 (Typs.av f3) false,.int .i64 g0,.int .i64 g1,aA g2,.ilst 4 (Typs.av g3) false,.int .i64 b0,.int .i64 b1,aA b2,.ilst 5 (Terms.av b3) false,.ilst 4 (Pats.av b4) false]
def FunDs.av (l:List FunD) :List AV:=map FunD.av l
theorem cJ :∀l,FunDs.av l=map FunD.av l:=fun _=>rfl
theorem aMK :∀f,keyless (FunD.av f) =true
 | .mk n p (.mk f0 f1 f2 f3) (.mk g0 g1 g2 g3) (.mk b0 b1 b2 b3 b4) =>by simp [FunD.av,keyless,keylessL,aA]
theorem aSv {l:List FunD}:keylessL (FunDs.av l) =true:=bE _ aMK _
structure Mod where
 name:aB
 datas:List DataD
 funs:List FunD
def Mod.av (m:Mod) :AV:=.agg [aA m.name,.ilst 2 (map DataD.av m.datas) false,.ilst 15 (FunDs.av m.funs) false]
inductive Part where
 |data (d:DataD)
 |fn (f:FunD)
def Part.av :Part→AV
 | .data d=>.iface 177 (DataD.av d)
 | .fn f=>.iface 179 (FunD.av f)
def Parts.av (l:List Part) :List AV:=map Part.av l
theorem oO :∀l,Parts.av l=map Part.av l:=fun _=>rfl
theorem aHj :∀x,keyless (Part.av x) =true
 | .data d=>by simp [Part.av,DataD.av,keyless,keylessL,aA]
 | .fn f=>by simp only [Part.av,keyless];exact aMK f
theorem wH {l:List Part}:keylessL (Parts.av l) =true:=bE _ aHj _
end
end Go.Hb
