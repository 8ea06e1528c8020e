/-
  OWN WORK (H13, V39, V104, H34, H35, V107, V108, H36, H37, V109, V110): a machine on abstract values, its soundness, ways through the text (the ways WRITTEN BY A PROGRAM), plain laws.
-/
import Derived.Test.YtabmpnmmkeieiaaGreatHF
import Derived.Test.YtabmpnmmkeieiaaGreatHG
import Derived.Test.YtabmpnmmkeieiaaGreatHH
import Derived.Test.YtabmpnmmkeieiaaGreatHI
set_option linter.defProp false
set_option linter.unusedVariables false
set_option linter.unusedSimpArgs false
set_option linter.unusedSectionVars false
set_option maxRecDepth 100000
namespace Go.Hb
open Go.Proofs
noncomputable section
open Go.Proofs Tryz
end
end Go.Hb
namespace Go.Hb
open Go.Proofs
set_option maxHeartbeats 2000000
noncomputable section
theorem aAe {α β:Type}[DecidableEq α](k k':α)(v:β) :∀ (l:List (α×β)),cJ k (eF k' v l) =if k=k' then some v else cJ k l
 | [] =>by simp [eF,cJ]
 | e ::l=>by
  simp only [eF];split
  · rename_i h;subst h;simp only [cJ];split<;>rfl
  · rename_i h;simp only [cJ,aAe k k' v l];by_cases h1:k=e.1
    · subst h1;rw [if_pos rfl,if_pos rfl,if_neg (fun e=>h e.symm)]
    ·rw [if_neg h1,if_neg h1]
theorem aML {P:Program}{m:Nat}{s:AS}{v v':AV}{h':Hp}(h:Ends P m s (.ret v) h')(hv:∀ (E:Emb) (cv:Value),VR E v cv→VR E v' cv) :Ends P m s (.ret v') h':=fun hm E fr ccs w f fs r cl base=>by
 obtain⟨cl',w',E',s1,⟨cv,rfl,g2⟩,r2,x2⟩ :=h hm E fr ccs w f fs r cl base;exact⟨_,w',E',s1,⟨cv,rfl,hv E' cv g2⟩,r2,x2⟩
theorem aAf {E:Emb}{e:Nat}{xs:List AV}{cv:Value}(h:VR E (.ilst e xs true) cv) :VR E (.ilst e xs false) cv:=by
 simp only [VR]at h ⊢;obtain⟨vs,h1,h2,h3⟩ :=h;refine⟨vs,h1,h2,?_⟩;rcases h3 with⟨rfl,a,cap,rfl,g,_⟩ | ⟨k,a,cap,C,g1,g2,g3,_,g5⟩
 ·exact .inl ⟨rfl,a,cap,rfl,g,fun hh=>by cases hh⟩
 ·exact .inr ⟨k,a,cap,C,g1,g2,g3,(fun hh=>by cases hh),g5⟩
section
variable {p :Prog}
end
end
end Go.Hb
namespace Go.Hb
open Go.Proofs
set_option maxHeartbeats 4000000
noncomputable section
abbrev FL :List (AV×Bool) :=[((.iface 299 (.agg [])),false)]
abbrev kE (b:Bool) :Res:=bif b then .ret (.tup [])else .pan FL
theorem eW :∀b,sP (kE b)
 |true=>rfl
 | false=>by
  intro x hx;rw [List.mem_singleton.1 hx];rfl
abbrev GC (a b:Int) :AObj:=.cells (putCells .leaf 0 [.int .i64 a,.int .i64 b]) 2 [] false
def oV (n:Nat)(a:Int) :Bool:=decide ((n:Int) ≤a)
def dF (n:Nat)(a:Int) :Int:=if(n:Int) ≤a then a-n else -1
def aHJ (p:Pat)(a b:Int) :Prop:=Spec PP (.enter 269 [.ptr 0 0,Pat.av p]) (aG [(0,GC a b,false)] 1) (kE (oV (aQ p) a)) (aG [(0,GC (dF (aQ p) a) b,false)] 1)
theorem aKS (a b f n:Int)(s:aC)(ps:List Pat)(hl:ps.length<1000000)(ih:∀p∈ps,∀a,0≤a→a≤1000→aHJ p a b) :∀ (t:List Pat) (i:Nat) (c:Int),ps.drop i=t→0≤c→c≤1000 →
  Ends PP 1 (aKL a b f n s ps (i:Int) c).as (kE (oV (aM t) c)) (aG [(0,GC (dF (aM t) c) b,false)] 1)
 | [],i,c,h,h0,h1=>by
  have:=bA h;have e1:oV (aM []) c=true:=by simp [oV,aM,h0]
  have e2:dF (aM []) c=c:=by simp [dF,aM,h0]
  rw [e1,e2];exact bDV a b f n s ps i c sd
 | .mk f' n' s' ps'::t,i,c,h,h0,h1=>by
  obtain⟨g1,g2,g3⟩ :=aZ h;have hs:=ih _ (List.mem_of_getElem? g1) c h0 h1;unfold aHJ at hs;by_cases hc: (aQ (.mk f' n' s' ps') :Int) ≤c
  · have e1:oV (aQ (.mk f' n' s' ps')) c=true:=by simp [oV,hc]
    have e2:dF (aQ (.mk f' n' s' ps')) c=c-aQ (.mk f' n' s' ps') :=by simp [dF,hc]
    rw [e1,e2]at hs;have r1:oV (aM (.mk f' n' s' ps'::t)) c=oV (aM t) (c-aQ (.mk f' n' s' ps')) :=by
     unfold oV;rw [aM];congr 1;apply propext;omega
    have r2:dF (aM (.mk f' n' s' ps'::t)) c=dF (aM t) (c-aQ (.mk f' n' s' ps')) :=by
     unfold dF;rw [aM];split<;>split<;>omega
    rw [r1,r2];refine(bDU a b f n s ps i c f' n' s' ps' (c-aQ (.mk f' n' s' ps')) sd sd sd (cI (ks:=[0]) hs (by kernel_rfl) (eW true) (by kernel_rfl) (by kernel_rfl) trivial (by kernel_rfl) trivial (by kernel_rfl) (by kernel_rfl) (by kernel_rfl) (by kernel_rfl) (by kernel_rfl) (by kernel_rfl) (by kernel_rfl) (by kernel_rfl)) sd).ends ?_;exact aKS a b f n s ps hl ih t (i+1) _ g2 (by omega) (by omega)
  · have e1:oV (aQ (.mk f' n' s' ps')) c=false:=by simp [oV];omega
    have e2:dF (aQ (.mk f' n' s' ps')) c= -1:=by simp [dF];omega
    rw [e1,e2]at hs;have r1:oV (aM (.mk f' n' s' ps'::t)) c=false:=by simp only [oV,aM];exact decide_eq_false (by omega)
    have r2:dF (aM (.mk f' n' s' ps'::t)) c= -1:=by unfold dF;rw [aM,if_neg (by omega)]
    rw [r1,r2];exact bDT a b f n s ps i c f' n' s' ps' (-1) sd sd sd (cI (ks:=[0]) hs (by kernel_rfl) (eW false) (by kernel_rfl) (by kernel_rfl) trivial (by kernel_rfl) trivial (by kernel_rfl) (by kernel_rfl) (by kernel_rfl) (by kernel_rfl) (by kernel_rfl) (by kernel_rfl) (by kernel_rfl) (by kernel_rfl))
mutual
theorem aKT (b:Int)(hb:0≤b) :∀ (p:Pat) (a:Int),0≤a→a≤1000→aQ p<1000000→aHJ p a b
 | .mk f n s ps,a,h0,h1,hp=>by
  simp only [aQ]at hp;have:=bK ps;refine⟨(bDQ a b f n s ps).as.fr,by kernel_rfl,?_⟩;have E:Ends PP 1 (bDQ a b f n s ps).as (kE (oV (aQ (.mk f n s ps)) a)) (aG [(0,GC (dF (aQ (.mk f n s ps)) a) b,false)] 1) :=by
   by_cases ha:1≤a
   · have r1:oV (aQ (.mk f n s ps)) a=oV (aM ps) (a-1) :=by
      unfold oV;rw [aQ];congr 1;apply propext;omega
     have r2:dF (aQ (.mk f n s ps)) a=dF (aM ps) (a-1) :=by
      unfold dF;rw [aQ];split<;>split<;>omega
     rw [r1,r2];exact(bDR a b f n s ps sd (by simp;omega) (by simp;omega)).ends (aKS a b f n s ps (by omega) (fun p hp a h0 h1=>aQw b hb ps (by omega) p hp a h0 h1) ps 0 (a-1) rfl (by omega) (by omega))
   · obtain rfl:a=0:=by omega
     have r1:oV (aQ (.mk f n s ps)) 0=false:=by simp only [oV,aQ];exact decide_eq_false (by omega)
     have r2:dF (aQ (.mk f n s ps)) 0=0-1:=by unfold dF;rw [aQ,if_neg (by omega)];rfl
     rw [r1,r2];exact bDS 0 b f n s ps sd (by simp)
  exact Eq.mp (by kernel_rfl) E
theorem aQw (b:Int)(hb:0≤b) :∀ (ps:List Pat),aM ps<1000000→∀p∈ps,∀a,0≤a→a≤1000→aHJ p a b
 | [],_,p,hp=>by cases hp
 | q::ps,h,p,hp=>by
  simp only [aM]at h;rcases List.mem_cons.1 hp with e|hp
  ·rw [e];exact fun a h0 h1=>aKT b hb q a h0 h1 (by omega)
  ·exact aQw b hb ps (by omega) p hp
end
theorem vU (n:Int) :Pure PP 251 [.int .i64 n] (.bool (bR n (-1000000000) 1000000000)) :=by
 refine aV (by kernel_rfl) rfl rfl ?_;by_cases h:n≥ -1000000000
 · have e:bR n (-1000000000) 1000000000=decide (n≤1000000000) :=by unfold bR;rw [decide_eq_true (show(-1000000000:Int) ≤n from h),Bool.true_and]
   rw [e];exact aUV n (by simpa using h)
 · have e:bR n (-1000000000) 1000000000=false:=by unfold bR;rw [decide_eq_false (show ¬ (-1000000000:Int) ≤n from h),Bool.false_and]
   rw [e];exact aUW n (by simpa using h)
def cO (t:aC)(ml:List (aC×Bool)) :Bool:= (cJ t ml).getD false
def pM (f n:Int)(t:aC)(ps:List Pat)(ml:List (aC×Bool)) :Bool:=bL f n t ps&& !(decide (f=2) &&cO t ml)
mutual
def pmF :Pat→List (aC×Bool) →Bool×List (aC×Bool)
 | .mk f n t ps,ml=>if pM f n t ps ml=true then aBQ ps (if f=2 then eF t true ml else ml)else(false,ml)
def aBQ :List Pat→List (aC×Bool) →Bool×List (aC×Bool)
 | [],ml=> (true,ml)
 |p::ps,ml=>if(pmF p ml).1=true then aBQ ps (pmF p ml).2 else(false,(pmF p ml).2)
end
abbrev MS (ml:List (aC×Bool)) :AObj:=.map (aB aA oD 0 ml) (List.length ml)
theorem aBz (ml:List (aC×Bool)) : (MS ml).kl:=aI (fun _=>rfl) (fun _=>rfl) _ _ _
def aHK (p:Pat)(ml:List (aC×Bool)) :Prop:=Spec PP (.enter 270 [Pat.av p,.map 0]) (aG [(0,MS ml,true)] 1) (kE (pmF p ml).1) (aG [(0,MS (pmF p ml).2,true)] 1)
theorem bFg (ml:List (aC×Bool))(q_form q_n:Int)(q_text:aC)(q_parts:List Pat)(b:Bool)(mo:List (aC×Bool))(hno:pM q_form q_n q_text q_parts ml=false→b=false∧mo=ml)
  (hk:∀mi,pM q_form q_n q_text q_parts ml=true→mi= (if q_form=2 then eF q_text true ml else ml) →Ends PP 1 (mW ml q_form q_n q_text q_parts mi 0).as (kE b) (aG [(0,MS mo,true)] 1)) :
  Ends PP 1 (aKM ml q_form q_n q_text q_parts).as (kE b) (aG [(0,MS mo,true)] 1) :=by
 cases hb1: (q_form== (1:Int))with
 | true=>
  cases hb2: (((List.length q_parts:Nat) :Int) == (0:Int))with
  | true=>
   cases hb3: (q_n== (0:Int))with
   | true=>
    cases hb4: (!(aU (List.length q_text) (aE q_text) 0 0))with
    | true=>
     obtain⟨e1,e2⟩ :=hno (by clear hk hno;simp_all [pM,cO,bL,aD,aR,bR] <;>intros<;>omega);rw [e1,e2];exact aUF ml q_form q_n q_text q_parts   hb1 hb2 hb3 hb4
    | false=>
     exact LeadsM.ends (aUG ml q_form q_n q_text q_parts   hb1 hb2 hb3 hb4) (hk _ (by clear hk hno;simp_all [pM,cO,bL,aD,aR,bR] <;>intros<;>omega) (by clear hk hno;simp_all [pM,cO,bL,aD,aR,bR] <;>intros<;>omega))
   | false=>
    obtain⟨e1,e2⟩ :=hno (by clear hk hno;simp_all [pM,cO,bL,aD,aR,bR] <;>intros<;>omega);rw [e1,e2];exact aUH ml q_form q_n q_text q_parts   hb1 hb2 hb3
  | false=>
   obtain⟨e1,e2⟩ :=hno (by clear hk hno;simp_all [pM,cO,bL,aD,aR,bR] <;>intros<;>omega);rw [e1,e2];exact aUI ml q_form q_n q_text q_parts   hb1 hb2
 | false =>
  cases hb5: (q_form== (5:Int))with
  | true=>
   cases hb6: (((List.length q_parts:Nat) :Int) == (0:Int))with
   | true=>
    cases hb7: (q_n== (0:Int))with
    | true=>
     cases hb8: (!(aU (List.length q_text) (aE q_text) 0 0))with
     | true=>
      obtain⟨e1,e2⟩ :=hno (by clear hk hno;simp_all [pM,cO,bL,aD,aR,bR] <;>intros<;>omega);rw [e1,e2];exact aUJ ml q_form q_n q_text q_parts   hb1 hb5 hb6 hb7 hb8
     | false=>
      exact LeadsM.ends (aUK ml q_form q_n q_text q_parts   hb1 hb5 hb6 hb7 hb8) (hk _ (by clear hk hno;simp_all [pM,cO,bL,aD,aR,bR] <;>intros<;>omega) (by clear hk hno;simp_all [pM,cO,bL,aD,aR,bR] <;>intros<;>omega))
    | false=>
     obtain⟨e1,e2⟩ :=hno (by clear hk hno;simp_all [pM,cO,bL,aD,aR,bR] <;>intros<;>omega);rw [e1,e2];exact aUL ml q_form q_n q_text q_parts   hb1 hb5 hb6 hb7
   | false=>
    obtain⟨e1,e2⟩ :=hno (by clear hk hno;simp_all [pM,cO,bL,aD,aR,bR] <;>intros<;>omega);rw [e1,e2];exact aUM ml q_form q_n q_text q_parts   hb1 hb5 hb6
  | false =>
   cases hb9: (q_form== (2:Int))with
   | true =>
    cases hb10: (((List.length q_parts:Nat) :Int) == (0:Int))with
    | true=>
     cases hb11: (q_n== (0:Int))with
     | true=>
      cases hb12: (eT q_text)with
      | true=>
       cases hq13:cJ q_text ml with
       | none=>
        exact LeadsM.ends (aO3 ml q_form q_n q_text q_parts  (eT q_text) hb1 hb5 hb9 hb10 hb11 (kR q_text) hb12 hq13) (hk _ (by clear hk hno;simp_all [pM,cO,bL,aD,aR,bR] <;>intros<;>omega) (by clear hk hno;simp_all [pM,cO,bL,aD,aR,bR] <;>intros<;>omega))
       | some y1=>
        cases hb14: (!(!y1))with
        | true=>
         obtain⟨e1,e2⟩ :=hno (by clear hk hno;simp_all [pM,cO,bL,aD,aR,bR] <;>intros<;>omega);rw [e1,e2];exact aUN ml q_form q_n q_text q_parts  (eT q_text) y1 hb1 hb5 hb9 hb10 hb11 (kR q_text) hb12 hq13 hb14
        | false=>
         exact LeadsM.ends (aUO ml q_form q_n q_text q_parts  (eT q_text) y1 hb1 hb5 hb9 hb10 hb11 (kR q_text) hb12 hq13 hb14) (hk _ (by clear hk hno;simp_all [pM,cO,bL,aD,aR,bR] <;>intros<;>omega) (by clear hk hno;simp_all [pM,cO,bL,aD,aR,bR] <;>intros<;>omega))
      | false=>
       obtain⟨e1,e2⟩ :=hno (by clear hk hno;simp_all [pM,cO,bL,aD,aR,bR] <;>intros<;>omega);rw [e1,e2];exact aO4 ml q_form q_n q_text q_parts  (eT q_text) hb1 hb5 hb9 hb10 hb11 (kR q_text) hb12
     | false=>
      obtain⟨e1,e2⟩ :=hno (by clear hk hno;simp_all [pM,cO,bL,aD,aR,bR] <;>intros<;>omega);rw [e1,e2];exact aO5 ml q_form q_n q_text q_parts   hb1 hb5 hb9 hb10 hb11
    | false=>
     obtain⟨e1,e2⟩ :=hno (by clear hk hno;simp_all [pM,cO,bL,aD,aR,bR] <;>intros<;>omega);rw [e1,e2];exact aO6 ml q_form q_n q_text q_parts   hb1 hb5 hb9 hb10
   | false =>
    cases hb15: (q_form== (3:Int))with
    | true=>
     cases hb16: (((List.length q_parts:Nat) :Int) == (0:Int))with
     | true=>
      cases hb17: (aU (List.length q_text) (aE q_text) 0 0)with
      | true=>
       cases hb18: (!(bR q_n (-1000000000) 1000000000))with
       | true=>
        obtain⟨e1,e2⟩ :=hno (by clear hk hno;simp_all [pM,cO,bL,aD,aR,bR] <;>intros<;>omega);rw [e1,e2];exact aO7 ml q_form q_n q_text q_parts  (bR q_n (-1000000000) 1000000000) hb1 hb5 hb9 hb15 hb16 hb17 (vU q_n) hb18
       | false=>
        exact LeadsM.ends (aO8 ml q_form q_n q_text q_parts  (bR q_n (-1000000000) 1000000000) hb1 hb5 hb9 hb15 hb16 hb17 (vU q_n) hb18) (hk _ (by clear hk hno;simp_all [pM,cO,bL,aD,aR,bR] <;>intros<;>omega) (by clear hk hno;simp_all [pM,cO,bL,aD,aR,bR] <;>intros<;>omega))
      | false=>
       obtain⟨e1,e2⟩ :=hno (by clear hk hno;simp_all [pM,cO,bL,aD,aR,bR] <;>intros<;>omega);rw [e1,e2];exact aO9 ml q_form q_n q_text q_parts   hb1 hb5 hb9 hb15 hb16 hb17
     | false=>
      obtain⟨e1,e2⟩ :=hno (by clear hk hno;simp_all [pM,cO,bL,aD,aR,bR] <;>intros<;>omega);rw [e1,e2];exact aPa ml q_form q_n q_text q_parts   hb1 hb5 hb9 hb15 hb16
    | false=>
     cases hb19: (q_form== (4:Int))with
     | true=>
      cases hb20: (((List.length q_parts:Nat) :Int) == (0:Int))with
      | true=>
       cases hb21: (aU (List.length q_text) (aE q_text) 0 0)with
       | true=>
        cases hb22: (q_n== (0:Int))with
        | true=>
         exact LeadsM.ends (aPb ml q_form q_n q_text q_parts   hb1 hb5 hb9 hb15 hb19 hb20 hb21 hb22) (hk _ (by clear hk hno;simp_all [pM,cO,bL,aD,aR,bR] <;>intros<;>omega) (by clear hk hno;simp_all [pM,cO,bL,aD,aR,bR] <;>intros<;>omega))
        | false=>
         cases hb23: (!(q_n== (1:Int)))with
         | true=>
          obtain⟨e1,e2⟩ :=hno (by clear hk hno;simp_all [pM,cO,bL,aD,aR,bR] <;>intros<;>omega);rw [e1,e2];exact aPc ml q_form q_n q_text q_parts   hb1 hb5 hb9 hb15 hb19 hb20 hb21 hb22 hb23
         | false=>
          exact LeadsM.ends (aPd ml q_form q_n q_text q_parts   hb1 hb5 hb9 hb15 hb19 hb20 hb21 hb22 hb23) (hk _ (by clear hk hno;simp_all [pM,cO,bL,aD,aR,bR] <;>intros<;>omega) (by clear hk hno;simp_all [pM,cO,bL,aD,aR,bR] <;>intros<;>omega))
       | false=>
        obtain⟨e1,e2⟩ :=hno (by clear hk hno;simp_all [pM,cO,bL,aD,aR,bR] <;>intros<;>omega);rw [e1,e2];exact aPe ml q_form q_n q_text q_parts   hb1 hb5 hb9 hb15 hb19 hb20 hb21
      | false=>
       obtain⟨e1,e2⟩ :=hno (by clear hk hno;simp_all [pM,cO,bL,aD,aR,bR] <;>intros<;>omega);rw [e1,e2];exact aPf ml q_form q_n q_text q_parts   hb1 hb5 hb9 hb15 hb19 hb20
     | false=>
      cases hb24: (q_form== (6:Int))with
      | true=>
       cases hb25: (decide (((List.length q_parts:Nat) :Int) ≤ (3:Int)))with
       | true=>
        cases hb26: (q_n== (0:Int))with
        | true=>
         cases hb27: (!(cG q_text))with
         | true=>
          obtain⟨e1,e2⟩ :=hno (by clear hk hno;simp_all [pM,cO,bL,aD,aR,bR] <;>intros<;>omega);rw [e1,e2];exact aPg ml q_form q_n q_text q_parts  (cG q_text) hb1 hb5 hb9 hb15 hb19 hb24 hb25 hb26 (gC q_text) hb27
         | false=>
          exact LeadsM.ends (aPh ml q_form q_n q_text q_parts  (cG q_text) hb1 hb5 hb9 hb15 hb19 hb24 hb25 hb26 (gC q_text) hb27) (hk _ (by clear hk hno;simp_all [pM,cO,bL,aD,aR,bR] <;>intros<;>omega) (by clear hk hno;simp_all [pM,cO,bL,aD,aR,bR] <;>intros<;>omega))
        | false=>
         obtain⟨e1,e2⟩ :=hno (by clear hk hno;simp_all [pM,cO,bL,aD,aR,bR] <;>intros<;>omega);rw [e1,e2];exact aPi ml q_form q_n q_text q_parts   hb1 hb5 hb9 hb15 hb19 hb24 hb25 hb26
       | false=>
        obtain⟨e1,e2⟩ :=hno (by clear hk hno;simp_all [pM,cO,bL,aD,aR,bR] <;>intros<;>omega);rw [e1,e2];exact aPj ml q_form q_n q_text q_parts   hb1 hb5 hb9 hb15 hb19 hb24 hb25
      | false=>
       obtain⟨e1,e2⟩ :=hno (by clear hk hno;simp_all [pM,cO,bL,aD,aR,bR] <;>intros<;>omega);rw [e1,e2];exact aPk ml q_form q_n q_text q_parts   hb1 hb5 hb9 hb15 hb19 hb24
theorem aHL (ml:List (aC×Bool))(f n:Int)(s:aC)(ps:List Pat)(hl:ps.length<1000000)(ih:∀p∈ps,∀ml,aHK p ml) :∀ (t:List Pat) (i:Nat) (mi:List (aC×Bool)),ps.drop i=t →
  Ends PP 1 (mW ml f n s ps mi (i:Int)).as (kE (aBQ t mi).1) (aG [(0,MS (aBQ t mi).2,true)] 1)
 | [],i,mi,h=>by
  have:=bA h;rw [aBQ];exact aUR ml f n s ps mi i sd
 | .mk f' n' s' ps'::t,i,mi,h=>by
  obtain⟨g1,g2,g3⟩ :=aZ h;have hs:=ih _ (List.mem_of_getElem? g1) mi;unfold aHK at hs;rw [aBQ];generalize pmF (.mk f' n' s' ps') mi=r at hs ⊢;obtain⟨b,m'⟩ :=r;cases b with
  | true=>
   rw [if_pos rfl];refine(aUQ ml f n s ps mi i f' n' s' ps' m' sd sd sd (cI (ks:=[0]) hs (by kernel_rfl) (eW true) (by kernel_rfl) (by kernel_rfl) ⟨aBz _,trivial⟩ (by kernel_rfl) ⟨aBz _,trivial⟩ (by kernel_rfl) (by kernel_rfl) (by kernel_rfl) (by kernel_rfl) (by kernel_rfl) (by kernel_rfl) (by kernel_rfl) (by kernel_rfl)) sd).ends ?_;exact aHL ml f n s ps hl ih t (i+1) m' g2
  | false=>
   rw [if_neg (by simp)];exact aUP ml f n s ps mi i f' n' s' ps' m' sd sd sd (cI (ks:=[0]) hs (by kernel_rfl) (eW false) (by kernel_rfl) (by kernel_rfl) ⟨aBz _,trivial⟩ (by kernel_rfl) ⟨aBz _,trivial⟩ (by kernel_rfl) (by kernel_rfl) (by kernel_rfl) (by kernel_rfl) (by kernel_rfl) (by kernel_rfl) (by kernel_rfl) (by kernel_rfl))
mutual
theorem aHM :∀ (p:Pat) (ml:List (aC×Bool)),aQ p<1000000→aHK p ml
 | .mk f n s ps,ml,hp=>by
  simp only [aQ]at hp;have:=bK ps;refine⟨(aKM ml f n s ps).as.fr,by kernel_rfl,?_⟩;have E:Ends PP 1 (aKM ml f n s ps).as (kE (pmF (.mk f n s ps) ml).1) (aG [(0,MS (pmF (.mk f n s ps) ml).2,true)] 1) :=by
   refine bFg ml f n s ps _ _ (fun h=>?_) (fun mi h e=>?_)
   · rw [pmF,if_neg (by simp [h])];exact⟨rfl,rfl⟩
   · rw [pmF,if_pos h,←e];exact aHL ml f n s ps (by omega) (aKU ps (by omega)) ps 0 mi rfl
  exact Eq.mp (by kernel_rfl) E
theorem aKU :∀ (ps:List Pat),aM ps<1000000→∀p∈ps,∀ml,aHK p ml
 | [],_,p,hp=>by cases hp
 | q::ps,h,p,hp=>by
  simp only [aM]at h;rcases List.mem_cons.1 hp with e|hp
  ·rw [e];exact fun ml=>aHM q ml (by omega)
  ·exact aKU ps (by omega) p hp
end
def kT :List aC→List (aC×Bool) →Bool×List (aC×Bool)
 | [],ml=> (true,ml)
 |x::t,ml=>if cO x ml=true then(false,ml)else kT t (eF x true ml)
theorem aEE :∀ (a b:List aC) (ml:List (aC×Bool)),kT (a++b) ml=if(kT a ml).1=true then kT b (kT a ml).2 else kT a ml
 | [],b,ml=>by simp [kT]
 | x::a,b,ml=>by
  rw [List.cons_append,kT,kT];split
  ·simp
  ·exact aEE a b _
theorem aVG {f n:Int}{t:aC}{ps:List Pat}(h:bL f n t ps=true)(hf:f=2) :ps= [] :=by
 subst hf;simp [bL]at h;exact h.1.1
mutual
theorem aKV :∀ (p:Pat) (ml:List (aC×Bool)),((pmF p ml).1=true↔aAX p=true∧ (kT (hI p) ml).1=true) ∧ ((pmF p ml).1=true→ (pmF p ml).2= (kT (hI p) ml).2)
 | .mk f n t ps,ml=>by
  rw [pmF,aAX,hI];by_cases hf:f=2
  · subst hf;by_cases hh:bL 2 n t ps=true
    · have hps:=aVG hh rfl;subst hps;by_cases hm:cO t ml=true
      ·simp [pM,hh,hm,kT,sR]
      · have hm':cO t ml=false:=by simpa using hm
        rw [if_pos (by simp [pM,hh,hm'])];simp [hh,hm',kT,sR,aBQ]
    · have hh':bL 2 n t ps=false:=by simpa using hh
      rw [if_neg (by simp [pM,hh'])];simp [hh']
  · have i:=aHN ps ml;by_cases hh:bL f n t ps=true
    · rw [if_pos (by simp [pM,hh,hf]),if_neg hf,if_neg hf,hh,Bool.true_and];exact i
    · have hh':bL f n t ps=false:=by simpa using hh
      rw [if_neg (by simp [pM,hh'])];simp [hh']
theorem aHN :∀ (ps:List Pat) (ml:List (aC×Bool)),((aBQ ps ml).1=true↔sR ps=true∧ (kT (fV ps) ml).1=true) ∧ ((aBQ ps ml).1=true→ (aBQ ps ml).2= (kT (fV ps) ml).2)
 | [],ml=>by simp [aBQ,sR,fV,kT]
 | p ::ps,ml=>by
  obtain⟨i1,i2⟩ :=aKV p ml;rw [aBQ,sR,fV,aEE];by_cases hp: (pmF p ml).1=true
  · obtain⟨j1,j2⟩ :=aHN ps (pmF p ml).2;obtain⟨k1,k2⟩ :=i1.1 hp;rw [if_pos hp,if_pos k2,←i2 hp,k1,Bool.true_and];exact⟨j1,j2⟩
  · rw [if_neg hp];refine⟨⟨fun h=>by simp at h,fun⟨h1,h2⟩ =>?_⟩,fun h=>by simp at h⟩;exfalso;rw [Bool.and_eq_true]at h1;split at h2
    ·rename_i k;exact hp (i1.2 ⟨h1.1,k⟩)
    ·rename_i k;exact k h2
end
theorem aMM (x y:aC)(ml:List (aC×Bool)) :cO y (eF x true ml) = (decide (x=y) ||cO y ml) :=by
 unfold cO;rw [aAe];by_cases h:y=x
 ·subst h;simp
 · have:¬x=y:=fun e=>h e.symm;rw [if_neg h];simp [this]
theorem aAg :∀ (l pre:List aC) (ml:List (aC×Bool)),(∀y,cO y ml=eZ pre y) → (kT l ml).1=bC pre l
 | [],pre,ml,h=>rfl
 | x::t,pre,ml,h=>by
  rw [kT,bC,←h x];cases hm:cO x ml with
  |true=>simp
  | false=>
   simp only [Bool.false_eq_true,if_false,Bool.not_false,Bool.true_and];refine aAg t (pre++ [x]) _ (fun y=>?_);rw [aMM,h y];simp [eZ,Bool.or_comm]
theorem aQx (p:Pat) : (pmF p []).1= (aAX p&&eK (hI p)) :=by
 have h:= (aKV p []).1;have e: (kT (hI p) []).1=eK (hI p) :=aAg _ [] [] (fun y=>by simp [cO,cJ,eZ]);rw [e]at h;rw [Bool.eq_iff_iff,h,Bool.and_eq_true]
theorem aHO (p:Pat)(hp:aQ p<1000000) :Pure PP 234 [Pat.av p] (.int .i64 (if wA p=true then 0 else 2)) :=by
 have hg:=aKT 0 (by omega) p 12 (by omega) (by omega) hp;have hm:=aHM p [] hp;have e:=aQx p;unfold aHJ at hg;unfold aHK at hm;unfold wA;obtain⟨f,n,s,ps⟩ :=p;refine cB (s:=bB6 f n s ps) (by kernel_rfl) (by kernel_rfl) (by simp [AV.keylessL,eE]) (by simp [AV.keyless]) ?_;by_cases h12:aQ (.mk f n s ps) ≤12
 · have e1:oV (aQ (.mk f n s ps)) 12=true:=by simp [oV];omega
   rw [e1]at hg;generalize dF (aQ (.mk f n s ps)) 12=ga at hg;rw [decide_eq_true h12,Bool.true_and,←e];generalize pmF (.mk f n s ps) [] =r at hm ⊢;obtain⟨b,m'⟩ :=r;have hg':=cI (ks:=[2]) (lc:=[(0,.cells (putCells .leaf 0 [.int .i64 f,.int .i64 n,aA s,.ilst 4 (Pats.av ps) false]) 4 [] false,false),(1,.cells (putCells .leaf 0 [.bool false]) 1 [] false,false),(2,GC 12 0,false)]) (lc':=[(0,.cells (putCells .leaf 0 [.int .i64 f,.int .i64 n,aA s,.ilst 4 (Pats.av ps) false]) 4 [] false,false),(1,.cells (putCells .leaf 0 [.bool false]) 1 [] false,false),(2,GC ga 0,false)]) (n2:=3) (args':=[.ptr 2 0,Pat.av (.mk f n s ps)]) hg (by kernel_rfl) (eW true) (by kernel_rfl) (by kernel_rfl) trivial (by kernel_rfl) trivial (by kernel_rfl) (by kernel_rfl) (by kernel_rfl) (by kernel_rfl) (by kernel_rfl) (by kernel_rfl) (by kernel_rfl) (by kernel_rfl);cases b with
   | true=>
    exact aUU f n s ps ga m' hg' (cI (ks:=[3]) hm (by kernel_rfl) (eW true) (by kernel_rfl) (by kernel_rfl) ⟨aBz _,trivial⟩ (by kernel_rfl) ⟨aBz _,trivial⟩ (by kernel_rfl) (by kernel_rfl) (by kernel_rfl) (by kernel_rfl) (by kernel_rfl) (by kernel_rfl) (by kernel_rfl) (by kernel_rfl))
   | false=>
    exact aUT f n s ps ga m' hg' (cI (ks:=[3]) hm (by kernel_rfl) (eW false) (by kernel_rfl) (by kernel_rfl) ⟨aBz _,trivial⟩ (by kernel_rfl) ⟨aBz _,trivial⟩ (by kernel_rfl) (by kernel_rfl) (by kernel_rfl) (by kernel_rfl) (by kernel_rfl) (by kernel_rfl) (by kernel_rfl) (by kernel_rfl))
 · have e1:oV (aQ (.mk f n s ps)) 12=false:=by simp [oV];omega
   rw [e1]at hg;generalize dF (aQ (.mk f n s ps)) 12=ga at hg;rw [decide_eq_false h12,Bool.false_and,Bool.false_and];exact aUS f n s ps ga (cI (ks:=[2]) hg (by kernel_rfl) (eW false) (by kernel_rfl) (by kernel_rfl) trivial (by kernel_rfl) trivial (by kernel_rfl) (by kernel_rfl) (by kernel_rfl) (by kernel_rfl) (by kernel_rfl) (by kernel_rfl) (by kernel_rfl) (by kernel_rfl))
end
end Go.Hb
namespace Go.Hb
open Go.Proofs
noncomputable section
open Go.Proofs Tryz
def bDX(a b c d:Int)(e:aC)(f:List Term)(g:List Pat)(i:Int):TS:=bF PP 146 [(.ptr 0 0),(.agg [(nI c),(nI d),(aA e),(.ilst 5 (Terms.av f) false),(iP g)]),(nI i)] [oC 0 [(nI a),(nI b)]] 1
def aKW(f b g i:Int)(j:aC)(a:List Term)(k:List Pat)(c d e:Int):TS:=⟨(tf 146 24 [kp 0 0,(2,(nI c)),(12,(.ilst 5 (Terms.av a) false)),(13,(nI (a.length:Int))),(14,(nI d))] [kc f146 60,kl f146 60,.inBlock 0]),[],[oC 0 [(nI e),(nI b)]],1⟩
def bCd(a b:Int)(c:aC)(d:List Term)(e:List Pat):TS:=bF PP 147 [(.agg [(nI a),(nI b),(aA c),(.ilst 5 (Terms.av d) false),(iP e)])] [] 0
def aFV(c d:Int)(e:aC)(a:List Term)(f:List Pat)(b:Int):TS:=⟨(tf 147 16 [(7,(.ilst 5 (Terms.av a) false)),(8,(nI (a.length:Int))),(9,(nI b))] [kc f147 60,kl f147 60,.inBlock 0]),[],[],0⟩
def bCe(a b:Int)(c:aC)(d:List Term)(e:List Pat):TS:=bF PP 80 [(.agg [(nI a),(nI b),(aA c),(.ilst 5 (Terms.av d) false),(iP e)])] [] 0
def aQy(a b e f:Int)(g:aC)(c:List Term)(i:List Pat)(d:Int):=tT 1 (bDX a b e f g c i d)<|gw 16 8 (a-1)<|gd 11 16 ((a-1) ≥0) (.b 13 3 (!(decide (d≤b))) (.P 7 2 [] [((.iface 299 (.agg [])),false)] [oC 0 [(nI (a-1)),(nI b)]] 1)<|gm 12 bG c<|.W 4 2 [] (aKW a b e f g c i d 0 (a-1)))<|.P 20 2 [] [((.iface 299 (.agg [])),false)] [oC 0 [(nI (a-1)),(nI b)]] 1
def bDY:=fun a b c d e f g i j k l=>aQy a b c d e f g i j|>.t k|>.t l tv
def bDZ:=fun a b c d e f g i j k l=>aQy a b c d e f g i j|>.t k|>.f l tv
def bD0:=fun a b c d e f g i j k=>aQy a b c d e f g i j|>.f k tv
def aQz(m a n o:Int)(p:aC)(k:List Term)(q:List Pat)(g i l:Int):=tT 1 (aKW m a n o p k q g i l)<|gd 5 15 (i< (k.length:Int)) (aCR 6 k i<|fun b c d e f=>gw 9 21 (g+1)<|.o (.y fun j:Int=>gK 0 (.enter 146 [(.ptr 0 0),(.agg [(nI b),(nI c),(aA d),(.ilst 5 (Terms.av e) false),(iP f)]),(nI (g+1))]) [oC 0 [(nI l),(nI a)],oC 1 [(nI b),(nI c),(aA d),(.ilst 5 (Terms.av e) false),(iP f)]] 2 [((.iface 299 (.agg [])),false)] [oC 0 [(nI j),(nI a)],oC 1 [(nI b),(nI c),(aA d),(.ilst 5 (Terms.av e) false),(iP f)]] 2<|.P 0 2 [] [((.iface 299 (.agg [])),false)] [oC 0 [(nI j),(nI a)]] 1)<|.y fun j:Int=>gk 0 (.enter 146 [(.ptr 0 0),(.agg [(nI b),(nI c),(aA d),(.ilst 5 (Terms.av e) false),(iP f)]),(nI (g+1))]) [oC 0 [(nI l),(nI a)],oC 1 [(nI b),(nI c),(aA d),(.ilst 5 (Terms.av e) false),(iP f)]] 2 (.tup []) [oC 0 [(nI j),(nI a)],oC 1 [(nI b),(nI c),(aA d),(.ilst 5 (Terms.av e) false),(iP f)]] 2<|gw 4 23 (i+1)<|.W 3 2 [] (aKW m a n o p k q g (i+1) j))<|.E 3 1 [] (.tup []) [oC 0 [(nI l),(nI a)]] 1
def bD1:=fun a b c d e f g i j k l m n o p q r s t u v=>aQz a b c d e f g i j k|>.t r l m n o p s t u|>.1 q v tv
def bD2:=fun a b c d e f g i j k l m n o p q r s t u v w=>aQz a b c d e f g i j k|>.t r l m n o p s t u|>.2 q v w tv
def bD3:=fun a b c d e f g i j k l=>aQz a b c d e f g i j k|>.f l tv
def bCf(b c:Int)(d:aC)(a:List Term)(e:List Pat):=tT 0 (bCd b c d a e)<|.o (.i [rn 7,.throws [((.iface 299 (.agg [])),false)]] [hA (uJ PP 199 [(.agg [(nI b),(nI c),(aA d),(.ilst 5 (Terms.av a) false),(iP e)])] [((.iface 299 (.agg [])),false)])]<|gQ 0 1 [((.iface 299 (.agg [])),false)])<|gp 7 199 [(.agg [(nI b),(nI c),(aA d),(.ilst 5 (Terms.av a) false),(iP e)])] (.tup [])<|gm 5 bG a<|.W 4 1 [] (aFV b c d a e 0)
def aVH:=fun a b c d e f=>bCf a b c d e|>.1 f tv
def aVI:=fun a b c d e f=>bCf a b c d e|>.2 f tv
def aQA(c d:Int)(e:aC)(b:List Term)(f:List Pat)(a:Int):=tT 0 (aFV c d e b f a)<|gd 5 10 (a< (b.length:Int)) (aCR 6 b a<|fun g i j k l=>.o (.i [rn 6,.throws [((.iface 299 (.agg [])),false)]] [hA (uJ PP 147 [(.agg [(nI g),(nI i),(aA j),(.ilst 5 (Terms.av k) false),(iP l)])] [((.iface 299 (.agg [])),false)])]<|gQ 0 1 [((.iface 299 (.agg [])),false)])<|gp 6 147 [(.agg [(nI g),(nI i),(aA j),(.ilst 5 (Terms.av k) false),(iP l)])] (.tup [])<|gw 4 15 (a+1)<|.W 3 1 [] (aFV c d e b f (a+1)))<|gE 3 0 (.tup [])
def aVJ:=fun a b c d e f g i j k l m n o p=>aQA a b c d e f|>.t m g i j k l n o|>.1 p tv
def aVK:=fun a b c d e f g i j k l m n o p q=>aQA a b c d e f|>.t m g i j k l n o|>.2 p q tv
def aVL:=fun a b c d e f g=>aQA a b c d e f|>.f g tv
def aQB(a b:Int)(c:aC)(d:List Term)(e:List Pat):=tT 0 (bCe a b c d e)<|.o (.y fun f:Int=>gK 36 (.enter 146 [(.ptr 2 0),(.agg [(nI a),(nI b),(aA c),(.ilst 5 (Terms.av d) false),(iP e)]),(nI 1)]) [oC 0 [(nI a),(nI b),(aA c),(.ilst 5 (Terms.av d) false),(iP e)],oC 1 [(bV false)],oC 2 [(nI 60),(nI 14)]] 3 [((.iface 299 (.agg [])),false)] [oC 0 [(nI a),(nI b),(aA c),(.ilst 5 (Terms.av d) false),(iP e)],oC 1 [(bV false)],oC 2 [(nI f),(nI 14)]] 3<|gE 50 4 (nI 2))<|.y fun f:Int=>gk 36 (.enter 146 [(.ptr 2 0),(.agg [(nI a),(nI b),(aA c),(.ilst 5 (Terms.av d) false),(iP e)]),(nI 1)]) [oC 0 [(nI a),(nI b),(aA c),(.ilst 5 (Terms.av d) false),(iP e)],oC 1 [(bV false)],oC 2 [(nI 60),(nI 14)]] 3 (.tup []) [oC 0 [(nI a),(nI b),(aA c),(.ilst 5 (Terms.av d) false),(iP e)],oC 1 [(bV false)],oC 2 [(nI f),(nI 14)]] 3<|.o (.i [rn 3,.throws [((.iface 299 (.agg [])),false)]] [hA (uJ PP 147 [(.agg [(nI a),(nI b),(aA c),(.ilst 5 (Terms.av d) false),(iP e)])] [((.iface 299 (.agg [])),false)])]<|gE 50 4 (nI 2))<|gp 3 147 [(.agg [(nI a),(nI b),(aA c),(.ilst 5 (Terms.av d) false),(iP e)])] (.tup [])<|gE 38 3 (nI 0)
def aVM:=fun a b c d e f g=>aQB a b c d e|>.1 f g tv
def aVN:=fun a b c d e f g i=>aQB a b c d e|>.2 f g|>.1 i tv
def aVO:=fun a b c d e f g i=>aQB a b c d e|>.2 f g|>.2 i tv
end
end Go.Hb
namespace Go.Hb
open Go.Proofs
noncomputable section
open Go.Proofs Tryz
def aQC(a b:Int)(c:aC)(d:List Term)(e:List Pat):TS:=bF PP 199 [(.agg [(nI a),(nI b),(aA c),(.ilst 5 (Terms.av d) false),(iP e)])] [] 0
def oN(a b:Int)(c:aC)(d:List Term)(e:List Pat)(f g i:Bool)(j:Int):TS:=⟨(tf 199 121 [kp 1 0,kp 2 1] [kc f199 15]),[],[oC 0 [(nI a),(nI b),(aA c),(.ilst 5 (Terms.av d) false),(iP e)],oC 1 [(bV f),(bV g),(bV i),(nI j)]],2⟩
def oO(a b:Int)(c:aC)(d:List Term)(e:List Pat)(f g i:Bool)(j:Int):TS:=⟨(tf 199 121 [kp 1 0,kp 2 1] [kc f199 31]),[],[oC 0 [(nI a),(nI b),(aA c),(.ilst 5 (Terms.av d) false),(iP e)],oC 1 [(bV f),(bV g),(bV i),(nI j)]],2⟩
def aC2(b c:Int)(d:aC)(e:List Term)(a:List Pat)(f g i:Bool)(j k:Int):TS:=⟨(tf 199 121 [kp 1 0,kp 2 1,(99,(iP a)),(100,(nI (a.length:Int))),(101,(nI k))] [kc f199 2015212,kl f199 2015212,.inBlock 1,.inBlock 0,kc f199 31]),[],[oC 0 [(nI b),(nI c),(aA d),(.ilst 5 (Terms.av e) false),(iP a)],oC 1 [(bV f),(bV g),(bV i),(nI j)]],2⟩
def fO(a d:Int)(e:aC)(b:List Term)(c:List Pat):=tT 0 (start PP 250 [(.agg [(nI a),(nI d),(aA e),(.ilst 5 (Terms.av b) false),(iP c)])])<|.b 19 6 (a==1) (gE 10 2 (.tup [(.agg [(bV true),(bV false),(bV false),(nI 0)]),(bV true)]))<|.b 5 6 (a==2) (gE 8 2 (.tup [(.agg [(bV true),(bV false),(bV false),(nI 0)]),(bV true)]))<|.b 7 10 (a==3) (gE 10 2 (.tup [(.agg [(bV false),(bV false),(bV false),(nI 0)]),(bV true)]))<|.b 6 10 (a==21) (gE 10 2 (.tup [(.agg [(bV false),(bV false),(bV false),(nI 0)]),(bV true)]))<|.b 6 10 (a==25) (gE 10 2 (.tup [(.agg [(bV false),(bV false),(bV false),(nI 0)]),(bV true)]))<|.b 5 10 (a==28) (gE 8 2 (.tup [(.agg [(bV false),(bV false),(bV false),(nI 0)]),(bV true)]))<|.b 6 16 (a==4) (gE 8 2 (.tup [(.agg [(bV false),(bV true),(bV false),(nI 0)]),(bV true)]))<|.b 7 19 (a==5) (gE 10 2 (.tup [(.agg [(bV false),(bV true),(bV false),(nI 1)]),(bV true)]))<|.b 5 19 (a==27) (gE 8 2 (.tup [(.agg [(bV false),(bV true),(bV false),(nI 1)]),(bV true)]))<|.b 6 23 (a==7) (gE 8 2 (.tup [(.agg [(bV false),(bV true),(bV false),(nI 2)]),(bV true)]))<|.b 6 26 (a==8) (gE 8 2 (.tup [(.agg [(bV false),(bV false),(bV false),(nI 3)]),(bV true)]))<|.b 6 29 (a==14) (gm 5 bG b<|gE 6 2 (.tup [(.agg [(bV false),(bV true),(bV false),(nI (if 3< (b.length:Int)then 3 else(b.length:Int)))]),(bV true)]))<|.b 6 36 (a==15) (gm 5 aH c<|gw 1 41 (1+ (c.length:Int))<|gE 5 2 (.tup [(.agg [(bV false),(bV false),(bV true),(nI (1+ (c.length:Int)))]),(bV true)]))<|.b 7 43 (a==16) (gE 10 2 (.tup [(.agg [(bV false),(bV false),(bV false),(nI 1)]),(bV true)]))<|.b 6 43 (a==17) (gE 10 2 (.tup [(.agg [(bV false),(bV false),(bV false),(nI 1)]),(bV true)]))<|.b 6 43 (a==19) (gE 10 2 (.tup [(.agg [(bV false),(bV false),(bV false),(nI 1)]),(bV true)]))<|.b 6 43 (a==20) (gE 10 2 (.tup [(.agg [(bV false),(bV false),(bV false),(nI 1)]),(bV true)]))<|.b 6 43 (a==23) (gE 10 2 (.tup [(.agg [(bV false),(bV false),(bV false),(nI 1)]),(bV true)]))<|.b 5 43 (a==26) (gE 8 2 (.tup [(.agg [(bV false),(bV false),(bV false),(nI 1)]),(bV true)]))<|.b 6 51 (a==24) (gE 8 2 (.tup [(.agg [(bV true),(bV false),(bV false),(nI 1)]),(bV true)]))<|.b 7 54 (a==6) (gE 10 2 (.tup [(.agg [(bV false),(bV false),(bV false),(nI 2)]),(bV true)]))<|.b 6 54 (a==9) (gE 10 2 (.tup [(.agg [(bV false),(bV false),(bV false),(nI 2)]),(bV true)]))<|.b 6 54 (a==10) (gE 10 2 (.tup [(.agg [(bV false),(bV false),(bV false),(nI 2)]),(bV true)]))<|.b 6 54 (a==11) (gE 10 2 (.tup [(.agg [(bV false),(bV false),(bV false),(nI 2)]),(bV true)]))<|.b 6 54 (a==12) (gE 10 2 (.tup [(.agg [(bV false),(bV false),(bV false),(nI 2)]),(bV true)]))<|.b 6 54 (a==13) (gE 10 2 (.tup [(.agg [(bV false),(bV false),(bV false),(nI 2)]),(bV true)]))<|.b 6 54 (a==18) (gE 10 2 (.tup [(.agg [(bV false),(bV false),(bV false),(nI 2)]),(bV true)]))<|.b 5 54 (a==22) (gE 8 2 (.tup [(.agg [(bV false),(bV false),(bV false),(nI 2)]),(bV true)]))<|gE 10 2 (.tup [(.agg [(bV false),(bV false),(bV false),(nI 0)]),(bV false)])
def aVP:=fun a b c d e f=>fO a b c d e|>.t f tv
def aVQ:=fun a b c d e f g=>fO a b c d e|>.f f|>.t g tv
def aVR:=fun a b c d e f g i=>fO a b c d e|>.f f|>.f g|>.t i tv
def aVS:=fun a b c d e f g i j=>fO a b c d e|>.f f|>.f g|>.f i|>.t j tv
def aVT:=fun a b c d e f g i j k=>fO a b c d e|>.f f|>.f g|>.f i|>.f j|>.t k tv
def aVU:=fun a b c d e f g i j k l=>fO a b c d e|>.f f|>.f g|>.f i|>.f j|>.f k|>.t l tv
def aVV:=fun a b c d e f g i j k l m=>fO a b c d e|>.f f|>.f g|>.f i|>.f j|>.f k|>.f l|>.t m tv
def aVW:=fun a b c d e f g i j k l m n=>fO a b c d e|>.f f|>.f g|>.f i|>.f j|>.f k|>.f l|>.f m|>.t n tv
def aVX:=fun a b c d e f g i j k l m n o=>fO a b c d e|>.f f|>.f g|>.f i|>.f j|>.f k|>.f l|>.f m|>.f n|>.t o tv
def aVY:=fun a b c d e f g i j k l m n o p=>fO a b c d e|>.f f|>.f g|>.f i|>.f j|>.f k|>.f l|>.f m|>.f n|>.f o|>.t p tv
def aQD:=fun a b c d e f g i j k l m n o p q=>fO a b c d e|>.f f|>.f g|>.f i|>.f j|>.f k|>.f l|>.f m|>.f n|>.f o|>.f p|>.t q tv
def aQE:=fun a b c d e f g i j k l m n o p q r=>fO a b c d e|>.f f|>.f g|>.f i|>.f j|>.f k|>.f l|>.f m|>.f n|>.f o|>.f p|>.f q|>.t r tv
def aQF:=fun a b c d e f g i j k l m n o p q r s t=>fO a b c d e|>.f f|>.f g|>.f i|>.f j|>.f k|>.f l|>.f m|>.f n|>.f o|>.f p|>.f q|>.f r|>.t s t tv
def aQG:=fun a b c d e f g i j k l m n o p q r s t=>fO a b c d e|>.f f|>.f g|>.f i|>.f j|>.f k|>.f l|>.f m|>.f n|>.f o|>.f p|>.f q|>.f r|>.f s|>.t t tv
def aQH:=fun a b c d e f g i j k l m n o p q r s t u=>fO a b c d e|>.f f|>.f g|>.f i|>.f j|>.f k|>.f l|>.f m|>.f n|>.f o|>.f p|>.f q|>.f r|>.f s|>.f t|>.t u tv
def aQI:=fun a b c d e f g i j k l m n o p q r s t u v=>fO a b c d e|>.f f|>.f g|>.f i|>.f j|>.f k|>.f l|>.f m|>.f n|>.f o|>.f p|>.f q|>.f r|>.f s|>.f t|>.f u|>.t v tv
def aQJ:=fun a b c d e f g i j k l m n o p q r s t u v w=>fO a b c d e|>.f f|>.f g|>.f i|>.f j|>.f k|>.f l|>.f m|>.f n|>.f o|>.f p|>.f q|>.f r|>.f s|>.f t|>.f u|>.f v|>.t w tv
def aQK:=fun a b c d e f g i j k l m n o p q r s t u v w x=>fO a b c d e|>.f f|>.f g|>.f i|>.f j|>.f k|>.f l|>.f m|>.f n|>.f o|>.f p|>.f q|>.f r|>.f s|>.f t|>.f u|>.f v|>.f w|>.t x tv
def aQL:=fun a b c d e f g i j k l m n o p q r s t u v w x y=>fO a b c d e|>.f f|>.f g|>.f i|>.f j|>.f k|>.f l|>.f m|>.f n|>.f o|>.f p|>.f q|>.f r|>.f s|>.f t|>.f u|>.f v|>.f w|>.f x|>.t y tv
def aQM:=fun a b c d e f g i j k l m n o p q r s t u v w x y z=>fO a b c d e|>.f f|>.f g|>.f i|>.f j|>.f k|>.f l|>.f m|>.f n|>.f o|>.f p|>.f q|>.f r|>.f s|>.f t|>.f u|>.f v|>.f w|>.f x|>.f y|>.t z tv
def aQN:=fun a b c d e f g i j k l m n o p q r s t u v w x y z A=>fO a b c d e|>.f f|>.f g|>.f i|>.f j|>.f k|>.f l|>.f m|>.f n|>.f o|>.f p|>.f q|>.f r|>.f s|>.f t|>.f u|>.f v|>.f w|>.f x|>.f y|>.f z|>.t A tv
def aQO:=fun a b c d e f g i j k l m n o p q r s t u v w x y z A B=>fO a b c d e|>.f f|>.f g|>.f i|>.f j|>.f k|>.f l|>.f m|>.f n|>.f o|>.f p|>.f q|>.f r|>.f s|>.f t|>.f u|>.f v|>.f w|>.f x|>.f y|>.f z|>.f A|>.t B tv
def aQP:=fun a b c d e f g i j k l m n o p q r s t u v w x y z A B C=>fO a b c d e|>.f f|>.f g|>.f i|>.f j|>.f k|>.f l|>.f m|>.f n|>.f o|>.f p|>.f q|>.f r|>.f s|>.f t|>.f u|>.f v|>.f w|>.f x|>.f y|>.f z|>.f A|>.f B|>.t C tv
def aQQ:=fun a b c d e f g i j k l m n o p q r s t u v w x y z A B C D=>fO a b c d e|>.f f|>.f g|>.f i|>.f j|>.f k|>.f l|>.f m|>.f n|>.f o|>.f p|>.f q|>.f r|>.f s|>.f t|>.f u|>.f v|>.f w|>.f x|>.f y|>.f z|>.f A|>.f B|>.f C|>.t D tv
def aQR:=fun a b c d e f g i j k l m n o p q r s t u v w x y z A B C D F=>fO a b c d e|>.f f|>.f g|>.f i|>.f j|>.f k|>.f l|>.f m|>.f n|>.f o|>.f p|>.f q|>.f r|>.f s|>.f t|>.f u|>.f v|>.f w|>.f x|>.f y|>.f z|>.f A|>.f B|>.f C|>.f D|>.t F tv
def aQS:=fun a b c d e f g i j k l m n o p q r s t u v w x y z A B C D F G=>fO a b c d e|>.f f|>.f g|>.f i|>.f j|>.f k|>.f l|>.f m|>.f n|>.f o|>.f p|>.f q|>.f r|>.f s|>.f t|>.f u|>.f v|>.f w|>.f x|>.f y|>.f z|>.f A|>.f B|>.f C|>.f D|>.f F|>.t G tv
def aQT:=fun a b c d e f g i j k l m n o p q r s t u v w x y z A B C D F G H=>fO a b c d e|>.f f|>.f g|>.f i|>.f j|>.f k|>.f l|>.f m|>.f n|>.f o|>.f p|>.f q|>.f r|>.f s|>.f t|>.f u|>.f v|>.f w|>.f x|>.f y|>.f z|>.f A|>.f B|>.f C|>.f D|>.f F|>.f G|>.t H tv
def aQU:=fun a b c d e f g i j k l m n o p q r s t u v w x y z A B C D F G H I=>fO a b c d e|>.f f|>.f g|>.f i|>.f j|>.f k|>.f l|>.f m|>.f n|>.f o|>.f p|>.f q|>.f r|>.f s|>.f t|>.f u|>.f v|>.f w|>.f x|>.f y|>.f z|>.f A|>.f B|>.f C|>.f D|>.f F|>.f G|>.f H|>.t I tv
def aQV:=fun a b c d e f g i j k l m n o p q r s t u v w x y z A B C D F G H I=>fO a b c d e|>.f f|>.f g|>.f i|>.f j|>.f k|>.f l|>.f m|>.f n|>.f o|>.f p|>.f q|>.f r|>.f s|>.f t|>.f u|>.f v|>.f w|>.f x|>.f y|>.f z|>.f A|>.f B|>.f C|>.f D|>.f F|>.f G|>.f H|>.f I tv
def mI(g e:Int)(b:aC)(d:List Term)(a:List Pat):=tT 0 (aQC g e b d a)<|.y fun i:Bool=>.y fun f:Bool=>.y fun c:Bool=>.y fun j:Int=>.y fun k:Bool=>gp 7 250 [(.agg [(nI g),(nI e),(aA b),(.ilst 5 (Terms.av d) false),(iP a)])] (.tup [(.agg [(bV i),(bV f),(bV c),(nI j)]),(bV k)])<|.b 11 12 k (gm 2 bG d<|.b 5 20 ((d.length:Int) ==j) (.b 3 23 i (.b 9 32 f (.b 9 41 c (.W 17 2 [0,1] (oN g e b d a i f c j))<|gm 2 aH a<|.b 9 3 (!((a.length:Int) ==0)) (gQ 6 2 [((.iface 299 (.agg [])),false)])<|.W 5 2 [0,1] (oN g e b d a i f c j))<|.b 6 38 (aU b.length (aE b) 0 0) (.b 3 41 c (.W 17 2 [0,1] (oN g e b d a i f c j))<|gm 2 aH a<|.b 9 3 (!((a.length:Int) ==0)) (gQ 6 2 [((.iface 299 (.agg [])),false)])<|.W 5 2 [0,1] (oN g e b d a i f c j))<|gQ 21 2 [((.iface 299 (.agg [])),false)])<|.b 6 29 (e==0) (.b 3 32 f (.b 9 41 c (.W 17 2 [0,1] (oN g e b d a i f c j))<|gm 2 aH a<|.b 9 3 (!((a.length:Int) ==0)) (gQ 6 2 [((.iface 299 (.agg [])),false)])<|.W 5 2 [0,1] (oN g e b d a i f c j))<|.b 6 38 (aU b.length (aE b) 0 0) (.b 3 41 c (.W 17 2 [0,1] (oN g e b d a i f c j))<|gm 2 aH a<|.b 9 3 (!((a.length:Int) ==0)) (gQ 6 2 [((.iface 299 (.agg [])),false)])<|.W 5 2 [0,1] (oN g e b d a i f c j))<|gQ 21 2 [((.iface 299 (.agg [])),false)])<|gQ 30 2 [((.iface 299 (.agg [])),false)])<|gQ 39 2 [((.iface 299 (.agg [])),false)])<|gQ 47 2 [((.iface 299 (.agg [])),false)]
def aVZ:=fun a b c d e f g i j k l m n o p q=>mI a b c d e f g i j k l|>.t m|>.t n|>.t o|>.t p|>.t q tv
def aV0:=fun a b c d e f g i j k l m n o p q r=>mI a b c d e f g i j k l|>.t m|>.t n|>.t o|>.t p|>.f q|>.t r tv
def aV1:=fun a b c d e f g i j k l m n o p q r=>mI a b c d e f g i j k l|>.t m|>.t n|>.t o|>.t p|>.f q|>.f r tv
def aV2:=fun a b c d e f g i j k l m n o p q r=>mI a b c d e f g i j k l|>.t m|>.t n|>.t o|>.f p|>.t q|>.t r tv
def aV3:=fun a b c d e f g i j k l m n o p q r s=>mI a b c d e f g i j k l|>.t m|>.t n|>.t o|>.f p|>.t q|>.f r|>.t s tv
def aV4:=fun a b c d e f g i j k l m n o p q r s=>mI a b c d e f g i j k l|>.t m|>.t n|>.t o|>.f p|>.t q|>.f r|>.f s tv
def aV5:=fun a b c d e f g i j k l m n o p q=>mI a b c d e f g i j k l|>.t m|>.t n|>.t o|>.f p|>.f q tv
def aV6:=fun a b c d e f g i j k l m n o p q r=>mI a b c d e f g i j k l|>.t m|>.t n|>.f o|>.t p|>.t q|>.t r tv
def aV7:=fun a b c d e f g i j k l m n o p q r s=>mI a b c d e f g i j k l|>.t m|>.t n|>.f o|>.t p|>.t q|>.f r|>.t s tv
def aV8:=fun a b c d e f g i j k l m n o p q r s=>mI a b c d e f g i j k l|>.t m|>.t n|>.f o|>.t p|>.t q|>.f r|>.f s tv
def aQW:=fun a b c d e f g i j k l m n o p q r s=>mI a b c d e f g i j k l|>.t m|>.t n|>.f o|>.t p|>.f q|>.t r|>.t s tv
def aQX:=fun a b c d e f g i j k l m n o p q r s t=>mI a b c d e f g i j k l|>.t m|>.t n|>.f o|>.t p|>.f q|>.t r|>.f s|>.t t tv
def aQY:=fun a b c d e f g i j k l m n o p q r s t=>mI a b c d e f g i j k l|>.t m|>.t n|>.f o|>.t p|>.f q|>.t r|>.f s|>.f t tv
def aQZ:=fun a b c d e f g i j k l m n o p q r=>mI a b c d e f g i j k l|>.t m|>.t n|>.f o|>.t p|>.f q|>.f r tv
def aQ0:=fun a b c d e f g i j k l m n o p=>mI a b c d e f g i j k l|>.t m|>.t n|>.f o|>.f p tv
def aQ1:=fun a b c d e f g i j k l m n=>mI a b c d e f g i j k l|>.t m|>.f n tv
def aQ2:=fun a b c d e f g i j k l m=>mI a b c d e f g i j k l|>.f m tv
def pN(a b:Int)(d:aC)(e:List Term)(c:List Pat)(f g i:Bool)(j:Int):=tT 0 (oN a b d e c f g i j)<|.b 12 51 (a==1) (dG 4 251 [(nI b)]<|fun k=>.b 6 3 (!k) (gQ 6 2 [((.iface 299 (.agg [])),false)])<|.W 6 2 [0,1] (oO a b d e c f g i j))<|.b 6 57 (a==2) (.b 6 62 (b==0) (.W 16 2 [0,1] (oO a b d e c f g i j))<|.b 10 3 (!(b==1)) (gQ 6 2 [((.iface 299 (.agg [])),false)])<|.W 6 2 [0,1] (oO a b d e c f g i j))<|.b 6 68 (a==24) (gd 6 73 (b≥0) (.b 10 3 (!(decide (b<4))) (gQ 6 2 [((.iface 299 (.agg [])),false)])<|.W 6 2 [0,1] (oO a b d e c f g i j))<|gQ 16 2 [((.iface 299 (.agg [])),false)])<|.b 6 79 (a==14) (dG 4 179 [(aA d)]<|fun k=>.b 6 3 (!k) (gQ 6 2 [((.iface 299 (.agg [])),false)])<|.W 6 2 [0,1] (oO a b d e c f g i j))<|.b 6 85 (a==15) (gm 5 aH c<|gd 2 91 ((c.length:Int) ≥1) (gm 2 aH c<|.b 8 3 (!(decide ((c.length:Int) ≤5))) (gQ 6 2 [((.iface 299 (.agg [])),false)])<|gm 9 aH c<|.W 4 2 [0,1] (aC2 a b d e c f g i j 0))<|gQ 17 2 [((.iface 299 (.agg [])),false)])<|.W 3 2 [0,1] (oO a b d e c f g i j)
def aV9:=fun a b c d e f g i j k l m n=>pN a b c d e f g i j|>.t l k m|>.t n tv
def aWa:=fun a b c d e f g i j k l m n=>pN a b c d e f g i j|>.t l k m|>.f n tv
def aWb:=fun a b c d e f g i j k l m=>pN a b c d e f g i j|>.f k|>.t l|>.t m tv
def aWc:=fun a b c d e f g i j k l m n=>pN a b c d e f g i j|>.f k|>.t l|>.f m|>.t n tv
def aWd:=fun a b c d e f g i j k l m n=>pN a b c d e f g i j|>.f k|>.t l|>.f m|>.f n tv
def aWe:=fun a b c d e f g i j k l m n o=>pN a b c d e f g i j|>.f k|>.f l|>.t m|>.t n|>.t o tv
def aWf:=fun a b c d e f g i j k l m n o=>pN a b c d e f g i j|>.f k|>.f l|>.t m|>.t n|>.f o tv
def aWg:=fun a b c d e f g i j k l m n=>pN a b c d e f g i j|>.f k|>.f l|>.t m|>.f n tv
def aWh:=fun a b c d e f g i j k l m n o p q=>pN a b c d e f g i j|>.f l|>.f m|>.f n|>.t o k p|>.t q tv
def aWi:=fun a b c d e f g i j k l m n o p q=>pN a b c d e f g i j|>.f l|>.f m|>.f n|>.t o k p|>.f q tv
def aQ3:=fun a b c d e f g i j k l m n o p q=>pN a b c d e f g i j|>.f k|>.f l|>.f m|>.f n|>.t o|>.t p|>.t q tv
def aQ4:=fun a b c d e f g i j k l m n o p q=>pN a b c d e f g i j|>.f k|>.f l|>.f m|>.f n|>.t o|>.t p|>.f q tv
def aQ5:=fun a b c d e f g i j k l m n o p=>pN a b c d e f g i j|>.f k|>.f l|>.f m|>.f n|>.t o|>.f p tv
def aQ6:=fun a b c d e f g i j k l m n o=>pN a b c d e f g i j|>.f k|>.f l|>.f m|>.f n|>.f o tv
def aKX(a d:Int)(b:aC)(e:List Term)(f:List Pat)(g c i:Bool)(j:Int):=tT 0 (oO a d b e f g c i j)<|.b 5 112 c (.b 5 116 (a != 14) (dG 4 103 [(aA b)]<|fun k=>.b 6 3 (!k) (gQ 6 2 [((.iface 299 (.agg [])),false)])<|gE 6 2 (.tup []))<|gE 3 2 (.tup []))<|gE 8 2 (.tup [])
def aWj:=fun a b c d e f g i j k l m n o=>aKX a b c d e f g i j|>.t l|>.t m k n|>.t o tv
def aWk:=fun a b c d e f g i j k l m n o=>aKX a b c d e f g i j|>.t l|>.t m k n|>.f o tv
def aWl:=fun a b c d e f g i j k l=>aKX a b c d e f g i j|>.t k|>.f l tv
def aWm:=fun a b c d e f g i j k=>aKX a b c d e f g i j|>.f k tv
def aQ7(c d:Int)(e:aC)(f:List Term)(a:List Pat)(g i j:Bool)(k b:Int):=tT 0 (aC2 c d e f a g i j k b)<|gd 5 102 (b< (a.length:Int)) (mU 6 a b<|fun l m n o=>gpI 6 234 [(.agg [(nI l),(nI m),(aA n),(iP o)])]<|fun p=>.b 7 3 (!(p==0)) (gQ 6 3 [((.iface 299 (.agg [])),false)])<|gw 8 109 (b+1)<|.W 3 3 [0,1] (aC2 c d e f a g i j k (b+1)))<|.W 3 2 [0,1] (oO c d e f a g i j k)
def aWn:=fun a b c d e f g i j k l m n o p q r s t u=>aQ7 a b c d e f g i j k|>.t q l m n o r s p t|>.t u tv
def aWo:=fun a b c d e f g i j k l m n o p q r s t u v=>aQ7 a b c d e f g i j k|>.t q l m n o r s p t|>.f u v tv
def aWp:=fun a b c d e f g i j k l=>aQ7 a b c d e f g i j k|>.f l tv
end
end Go.Hb
namespace Go.Hb
open Go.Proofs
set_option maxHeartbeats 8000000
noncomputable section
def jO (op:Int) :Bool:=decide (op=1∨op=2∨op=24)
def jA (op:Int) :Bool:=decide (op=4∨op=5∨op=27∨op=7∨op=14)
def jB (op:Int) :Bool:=decide (op=15)
def jP (op k m:Int) :Int:=
 if op=5∨op=27 then 1 else if op=7 then 2 else if op=8 then 3 else if op=14 then(if 3<k then 3 else k)else if op=15 then 1+m
 else if op=16∨op=17∨op=19∨op=20∨op=23∨op=26∨op=24 then 1
 else if op=6∨op=9∨op=10∨op=11∨op=12∨op=13∨op=18∨op=22 then 2 else 0
def hiT (op:Int) :Bool:=decide (op=1∨op=2∨op=3∨op=21∨op=25∨op=28∨op=4∨op=5∨op=27∨op=7∨op=8∨op=14∨op=15∨op=16∨op=17∨op=19∨op=20∨op=23∨op=26∨op=24∨op=6∨op=9∨op=10∨op=11∨op=12∨op=13∨op=18∨op=22)
theorem bSh_E (t_op t_n : Int)(t_text:aC)(t_kids:List Term)(t_pats:List Pat)(hks:t_kids.length<1000000)(hps:t_pats.length<1000000) :
  Ends PP 0 (start PP 250 [Term.av (.mk t_op t_n t_text t_kids t_pats)]).as (.ret (.tup [.agg [.bool (jO t_op),.bool (jA t_op),.bool (jB t_op),.int .i64 (jP t_op (List.length t_kids) (List.length t_pats))],.bool (hiT t_op)])) (aG [] 0) :=by
 cases hb1: (t_op== (1:Int))with
 | true=>
  exact Ends.eqv (aVP t_op t_n t_text t_kids t_pats   hb1) (by simp_all [jO,jA,jB,jP,hiT])
 | false =>
  cases hb2: (t_op== (2:Int))with
  | true=>
   exact Ends.eqv (aVQ t_op t_n t_text t_kids t_pats   hb1 hb2) (by simp_all [jO,jA,jB,jP,hiT])
  | false =>
   cases hb3: (t_op== (3:Int))with
   | true=>
    exact Ends.eqv (aVR t_op t_n t_text t_kids t_pats   hb1 hb2 hb3) (by simp_all [jO,jA,jB,jP,hiT])
   | false =>
    cases hb4: (t_op== (21:Int))with
    | true=>
     exact Ends.eqv (aVS t_op t_n t_text t_kids t_pats   hb1 hb2 hb3 hb4) (by simp_all [jO,jA,jB,jP,hiT])
    | false =>
     cases hb5: (t_op== (25:Int))with
     | true=>
      exact Ends.eqv (aVT t_op t_n t_text t_kids t_pats   hb1 hb2 hb3 hb4 hb5) (by simp_all [jO,jA,jB,jP,hiT])
     | false =>
      cases hb6: (t_op== (28:Int))with
      | true=>
       exact Ends.eqv (aVU t_op t_n t_text t_kids t_pats   hb1 hb2 hb3 hb4 hb5 hb6) (by simp_all [jO,jA,jB,jP,hiT])
      | false =>
       cases hb7: (t_op== (4:Int))with
       | true=>
        exact Ends.eqv (aVV t_op t_n t_text t_kids t_pats   hb1 hb2 hb3 hb4 hb5 hb6 hb7) (by simp_all [jO,jA,jB,jP,hiT])
       | false =>
        cases hb8: (t_op== (5:Int))with
        | true=>
         exact Ends.eqv (aVW t_op t_n t_text t_kids t_pats   hb1 hb2 hb3 hb4 hb5 hb6 hb7 hb8) (by simp_all [jO,jA,jB,jP,hiT])
        | false =>
         cases hb9: (t_op== (27:Int))with
         | true=>
          exact Ends.eqv (aVX t_op t_n t_text t_kids t_pats   hb1 hb2 hb3 hb4 hb5 hb6 hb7 hb8 hb9) (by simp_all [jO,jA,jB,jP,hiT])
         | false =>
          cases hb10: (t_op== (7:Int))with
          | true=>
           exact Ends.eqv (aVY t_op t_n t_text t_kids t_pats   hb1 hb2 hb3 hb4 hb5 hb6 hb7 hb8 hb9 hb10) (by simp_all [jO,jA,jB,jP,hiT])
          | false =>
           cases hb11: (t_op== (8:Int))with
           | true=>
            exact Ends.eqv (aQD t_op t_n t_text t_kids t_pats   hb1 hb2 hb3 hb4 hb5 hb6 hb7 hb8 hb9 hb10 hb11) (by simp_all [jO,jA,jB,jP,hiT])
           | false =>
            cases hb12: (t_op== (14:Int))with
            | true=>
             exact Ends.eqv (aQE t_op t_n t_text t_kids t_pats   hb1 hb2 hb3 hb4 hb5 hb6 hb7 hb8 hb9 hb10 hb11 hb12) (by simp_all [jO,jA,jB,jP,hiT])
            | false =>
             cases hb13: (t_op== (15:Int))with
             | true=>
              exact Ends.eqv (aQF t_op t_n t_text t_kids t_pats   hb1 hb2 hb3 hb4 hb5 hb6 hb7 hb8 hb9 hb10 hb11 hb12 hb13 sdI) (by simp_all [jO,jA,jB,jP,hiT])
             | false =>
              cases hb14: (t_op== (16:Int))with
              | true=>
               exact Ends.eqv (aQG t_op t_n t_text t_kids t_pats   hb1 hb2 hb3 hb4 hb5 hb6 hb7 hb8 hb9 hb10 hb11 hb12 hb13 hb14) (by simp_all [jO,jA,jB,jP,hiT])
              | false =>
               cases hb15: (t_op== (17:Int))with
               | true=>
                exact Ends.eqv (aQH t_op t_n t_text t_kids t_pats   hb1 hb2 hb3 hb4 hb5 hb6 hb7 hb8 hb9 hb10 hb11 hb12 hb13 hb14 hb15) (by simp_all [jO,jA,jB,jP,hiT])
               | false =>
                cases hb16: (t_op== (19:Int))with
                | true=>
                 exact Ends.eqv (aQI t_op t_n t_text t_kids t_pats   hb1 hb2 hb3 hb4 hb5 hb6 hb7 hb8 hb9 hb10 hb11 hb12 hb13 hb14 hb15 hb16) (by simp_all [jO,jA,jB,jP,hiT])
                | false =>
                 cases hb17: (t_op== (20:Int))with
                 | true=>
                  exact Ends.eqv (aQJ t_op t_n t_text t_kids t_pats   hb1 hb2 hb3 hb4 hb5 hb6 hb7 hb8 hb9 hb10 hb11 hb12 hb13 hb14 hb15 hb16 hb17) (by simp_all [jO,jA,jB,jP,hiT])
                 | false =>
                  cases hb18: (t_op== (23:Int))with
                  | true=>
                   exact Ends.eqv (aQK t_op t_n t_text t_kids t_pats   hb1 hb2 hb3 hb4 hb5 hb6 hb7 hb8 hb9 hb10 hb11 hb12 hb13 hb14 hb15 hb16 hb17 hb18) (by simp_all [jO,jA,jB,jP,hiT])
                  | false =>
                   cases hb19: (t_op== (26:Int))with
                   | true=>
                    exact Ends.eqv (aQL t_op t_n t_text t_kids t_pats   hb1 hb2 hb3 hb4 hb5 hb6 hb7 hb8 hb9 hb10 hb11 hb12 hb13 hb14 hb15 hb16 hb17 hb18 hb19) (by simp_all [jO,jA,jB,jP,hiT])
                   | false =>
                    cases hb20: (t_op== (24:Int))with
                    | true=>
                     exact Ends.eqv (aQM t_op t_n t_text t_kids t_pats   hb1 hb2 hb3 hb4 hb5 hb6 hb7 hb8 hb9 hb10 hb11 hb12 hb13 hb14 hb15 hb16 hb17 hb18 hb19 hb20) (by simp_all [jO,jA,jB,jP,hiT])
                    | false =>
                     cases hb21: (t_op== (6:Int))with
                     | true=>
                      exact Ends.eqv (aQN t_op t_n t_text t_kids t_pats   hb1 hb2 hb3 hb4 hb5 hb6 hb7 hb8 hb9 hb10 hb11 hb12 hb13 hb14 hb15 hb16 hb17 hb18 hb19 hb20 hb21) (by simp_all [jO,jA,jB,jP,hiT])
                     | false =>
                      cases hb22: (t_op== (9:Int))with
                      | true=>
                       exact Ends.eqv (aQO t_op t_n t_text t_kids t_pats   hb1 hb2 hb3 hb4 hb5 hb6 hb7 hb8 hb9 hb10 hb11 hb12 hb13 hb14 hb15 hb16 hb17 hb18 hb19 hb20 hb21 hb22) (by simp_all [jO,jA,jB,jP,hiT])
                      | false =>
                       cases hb23: (t_op== (10:Int))with
                       | true=>
                        exact Ends.eqv (aQP t_op t_n t_text t_kids t_pats   hb1 hb2 hb3 hb4 hb5 hb6 hb7 hb8 hb9 hb10 hb11 hb12 hb13 hb14 hb15 hb16 hb17 hb18 hb19 hb20 hb21 hb22 hb23) (by simp_all [jO,jA,jB,jP,hiT])
                       | false=>
                        cases hb24: (t_op== (11:Int))with
                        | true=>
                         exact Ends.eqv (aQQ t_op t_n t_text t_kids t_pats   hb1 hb2 hb3 hb4 hb5 hb6 hb7 hb8 hb9 hb10 hb11 hb12 hb13 hb14 hb15 hb16 hb17 hb18 hb19 hb20 hb21 hb22 hb23 hb24) (by simp_all [jO,jA,jB,jP,hiT])
                        | false=>
                         cases hb25: (t_op== (12:Int))with
                         | true=>
                          exact Ends.eqv (aQR t_op t_n t_text t_kids t_pats   hb1 hb2 hb3 hb4 hb5 hb6 hb7 hb8 hb9 hb10 hb11 hb12 hb13 hb14 hb15 hb16 hb17 hb18 hb19 hb20 hb21 hb22 hb23 hb24 hb25) (by simp_all [jO,jA,jB,jP,hiT])
                         | false=>
                          cases hb26: (t_op== (13:Int))with
                          | true=>
                           exact Ends.eqv (aQS t_op t_n t_text t_kids t_pats   hb1 hb2 hb3 hb4 hb5 hb6 hb7 hb8 hb9 hb10 hb11 hb12 hb13 hb14 hb15 hb16 hb17 hb18 hb19 hb20 hb21 hb22 hb23 hb24 hb25 hb26) (by simp_all [jO,jA,jB,jP,hiT])
                          | false=>
                           cases hb27: (t_op== (18:Int))with
                           | true=>
                            exact Ends.eqv (aQT t_op t_n t_text t_kids t_pats   hb1 hb2 hb3 hb4 hb5 hb6 hb7 hb8 hb9 hb10 hb11 hb12 hb13 hb14 hb15 hb16 hb17 hb18 hb19 hb20 hb21 hb22 hb23 hb24 hb25 hb26 hb27) (by simp_all [jO,jA,jB,jP,hiT])
                           | false=>
                            cases hb28: (t_op== (22:Int))with
                            | true=>
                             exact Ends.eqv (aQU t_op t_n t_text t_kids t_pats   hb1 hb2 hb3 hb4 hb5 hb6 hb7 hb8 hb9 hb10 hb11 hb12 hb13 hb14 hb15 hb16 hb17 hb18 hb19 hb20 hb21 hb22 hb23 hb24 hb25 hb26 hb27 hb28) (by simp_all [jO,jA,jB,jP,hiT])
                            | false=>
                             exact Ends.eqv (aQV t_op t_n t_text t_kids t_pats   hb1 hb2 hb3 hb4 hb5 hb6 hb7 hb8 hb9 hb10 hb11 hb12 hb13 hb14 hb15 hb16 hb17 hb18 hb19 hb20 hb21 hb22 hb23 hb24 hb25 hb26 hb27 hb28) (by simp_all [jO,jA,jB,jP,hiT])
theorem aQ8 (o n:Int)(s:aC)(ks:List Term)(ps:List Pat)(hks:ks.length<1000000)(hps:ps.length<1000000) :Pure PP 250 [Term.av (.mk o n s ks ps)] (.tup [.agg [.bool (jO o),.bool (jA o),.bool (jB o),.int .i64 (jP o (List.length ks) (List.length ps))],.bool (hiT o)]) :=
 aV (by kernel_rfl) (by simp [AV.keylessL,gV]) rfl (bSh_E o n s ks ps hks hps)
def aX (hi hn ht hp:Bool)(K n:Int)(s:aC)(k m:Int) :Bool:=hi&&decide (k=K) && (hn||decide (n=0)) && (ht||decide (s= [])) && (hp||decide (m=0))
def aT (op n:Int)(s:aC)(k m:Int) :Bool:=aX (hiT op) (jO op) (jA op) (jB op) (jP op k m) n s k m
def bT (op n:Int)(s:aC)(m:Int) :Bool:=
 if op=1 then bR n (-1000000000) 1000000000 else if op=2 then bR n 0 1 else if op=24 then bR n 0 3 else if op=14 then cG s else if op=15 then bR m 1 5 else true
def dT (op:Int)(s:aC) :Bool:=if jA op=true∧op≠14 then eT s else true
theorem aQ9 (op n:Int)(s:aC)(k m:Int) :aK op n s k m= (aT op n s k m&&bT op n s m&&dT op s) :=by
 by_cases h1:op=1
 · subst h1;simp [aK,aT,aX,bT,dT,hiT,jP,jO,jA,jB,aN,Bool.and_assoc,Bool.and_comm,Bool.and_left_comm]
 by_cases h2:op=2
 · subst h2;simp [aK,aT,aX,bT,dT,hiT,jP,jO,jA,jB,aN,Bool.and_assoc,Bool.and_comm,Bool.and_left_comm]
 by_cases h3:op=3
 · subst h3;simp [aK,aT,aX,bT,dT,hiT,jP,jO,jA,jB,aN,Bool.and_assoc,Bool.and_comm,Bool.and_left_comm]
 by_cases h21:op=21
 · subst h21;simp [aK,aT,aX,bT,dT,hiT,jP,jO,jA,jB,aN,Bool.and_assoc,Bool.and_comm,Bool.and_left_comm]
 by_cases h25:op=25
 · subst h25;simp [aK,aT,aX,bT,dT,hiT,jP,jO,jA,jB,aN,Bool.and_assoc,Bool.and_comm,Bool.and_left_comm]
 by_cases h28:op=28
 · subst h28;simp [aK,aT,aX,bT,dT,hiT,jP,jO,jA,jB,aN,Bool.and_assoc,Bool.and_comm,Bool.and_left_comm]
 by_cases h4:op=4
 · subst h4;simp [aK,aT,aX,bT,dT,hiT,jP,jO,jA,jB,aN,Bool.and_assoc,Bool.and_comm,Bool.and_left_comm]
 by_cases h5:op=5
 · subst h5;simp [aK,aT,aX,bT,dT,hiT,jP,jO,jA,jB,aN,Bool.and_assoc,Bool.and_comm,Bool.and_left_comm]
 by_cases h27:op=27
 · subst h27;simp [aK,aT,aX,bT,dT,hiT,jP,jO,jA,jB,aN,Bool.and_assoc,Bool.and_comm,Bool.and_left_comm]
 by_cases h7:op=7
 · subst h7;simp [aK,aT,aX,bT,dT,hiT,jP,jO,jA,jB,aN,Bool.and_assoc,Bool.and_comm,Bool.and_left_comm]
 by_cases h8:op=8
 · subst h8;simp [aK,aT,aX,bT,dT,hiT,jP,jO,jA,jB,aN,Bool.and_assoc,Bool.and_comm,Bool.and_left_comm]
 by_cases h15:op=15
 · subst h15;simp [aK,aT,aX,bT,dT,hiT,jP,jO,jA,jB,aN,Bool.and_assoc,Bool.and_comm,Bool.and_left_comm]
 by_cases h16:op=16
 · subst h16;simp [aK,aT,aX,bT,dT,hiT,jP,jO,jA,jB,aN,Bool.and_assoc,Bool.and_comm,Bool.and_left_comm]
 by_cases h17:op=17
 · subst h17;simp [aK,aT,aX,bT,dT,hiT,jP,jO,jA,jB,aN,Bool.and_assoc,Bool.and_comm,Bool.and_left_comm]
 by_cases h19:op=19
 · subst h19;simp [aK,aT,aX,bT,dT,hiT,jP,jO,jA,jB,aN,Bool.and_assoc,Bool.and_comm,Bool.and_left_comm]
 by_cases h20:op=20
 · subst h20;simp [aK,aT,aX,bT,dT,hiT,jP,jO,jA,jB,aN,Bool.and_assoc,Bool.and_comm,Bool.and_left_comm]
 by_cases h23:op=23
 · subst h23;simp [aK,aT,aX,bT,dT,hiT,jP,jO,jA,jB,aN,Bool.and_assoc,Bool.and_comm,Bool.and_left_comm]
 by_cases h26:op=26
 · subst h26;simp [aK,aT,aX,bT,dT,hiT,jP,jO,jA,jB,aN,Bool.and_assoc,Bool.and_comm,Bool.and_left_comm]
 by_cases h24:op=24
 · subst h24;simp [aK,aT,aX,bT,dT,hiT,jP,jO,jA,jB,aN,Bool.and_assoc,Bool.and_comm,Bool.and_left_comm]
 by_cases h6:op=6
 · subst h6;simp [aK,aT,aX,bT,dT,hiT,jP,jO,jA,jB,aN,Bool.and_assoc,Bool.and_comm,Bool.and_left_comm]
 by_cases h9:op=9
 · subst h9;simp [aK,aT,aX,bT,dT,hiT,jP,jO,jA,jB,aN,Bool.and_assoc,Bool.and_comm,Bool.and_left_comm]
 by_cases h10:op=10
 · subst h10;simp [aK,aT,aX,bT,dT,hiT,jP,jO,jA,jB,aN,Bool.and_assoc,Bool.and_comm,Bool.and_left_comm]
 by_cases h11:op=11
 · subst h11;simp [aK,aT,aX,bT,dT,hiT,jP,jO,jA,jB,aN,Bool.and_assoc,Bool.and_comm,Bool.and_left_comm]
 by_cases h12:op=12
 · subst h12;simp [aK,aT,aX,bT,dT,hiT,jP,jO,jA,jB,aN,Bool.and_assoc,Bool.and_comm,Bool.and_left_comm]
 by_cases h13:op=13
 · subst h13;simp [aK,aT,aX,bT,dT,hiT,jP,jO,jA,jB,aN,Bool.and_assoc,Bool.and_comm,Bool.and_left_comm]
 by_cases h18:op=18
 · subst h18;simp [aK,aT,aX,bT,dT,hiT,jP,jO,jA,jB,aN,Bool.and_assoc,Bool.and_comm,Bool.and_left_comm]
 by_cases h22:op=22
 · subst h22;simp [aK,aT,aX,bT,dT,hiT,jP,jO,jA,jB,aN,Bool.and_assoc,Bool.and_comm,Bool.and_left_comm]
 by_cases h14:op=14
 · subst h14;have e: (!decide (3<k) ||decide (k=3)) =decide (k≤3) :=by by_cases h:3<k<;>simp [h] <;>omega
   simp [aK,aT,aX,bT,dT,hiT,jP,jO,jA,jB,aN,e,Bool.and_assoc,Bool.and_comm,Bool.and_left_comm]
 have hf:aK op n s k m=false:=by simp [aK,h1,h2,h3,h21,h25,h28,h4,h5,h27,h7,h8,h15,h16,h17,h19,h20,h23,h26,h24,h6,h9,h10,h11,h12,h13,h18,h22,h14]
 have hi:hiT op=false:=by simp [hiT,h1,h2,h3,h21,h25,h28,h4,h5,h27,h7,h8,h15,h16,h17,h19,h20,h23,h26,h24,h6,h9,h10,h11,h12,h13,h18,h22,h14]
 rw [hf];simp [aT,aX,hi]
theorem bFh (t_op t_n:Int)(t_text:aC)(t_kids:List Term)(t_pats:List Pat)(hn0 ht1 hp2:Bool)(hk3:Int)(hht:ht1=jA t_op) :
  Ends PP 0 (oO t_op t_n t_text t_kids t_pats hn0 ht1 hp2 hk3).as (kE (dT t_op t_text)) (aG [] 0) :=by
 cases ht1 with
 | true=>
  cases hb1: (t_op != (14:Int))with
  | true=>
   cases hb2: (!(eT t_text))with
   | true=>
    rw [show dT t_op t_text=false by simp_all [dT]];exact aWj t_op t_n t_text t_kids t_pats hn0 true hp2 hk3 (eT t_text) rfl hb1 (kR t_text) hb2
   | false=>
    rw [show dT t_op t_text=true by simp_all [dT]];exact aWk t_op t_n t_text t_kids t_pats hn0 true hp2 hk3 (eT t_text) rfl hb1 (kR t_text) hb2
  | false=>
   rw [show dT t_op t_text=true by simp_all [dT]];exact aWl t_op t_n t_text t_kids t_pats hn0 true hp2 hk3  rfl hb1
 | false=>
  rw [show dT t_op t_text=true by simp_all [dT]];exact aWm t_op t_n t_text t_kids t_pats hn0 false hp2 hk3  rfl
theorem bFi (t_op t_n:Int)(t_text:aC)(t_kids:List Term)(t_pats:List Pat)(hn0 ht1 hp2:Bool)(hk3:Int)(b:Bool)(hno:bT t_op t_n t_text (List.length t_pats) =false→b=false)
  (h1:bT t_op t_n t_text (List.length t_pats) =true→t_op≠15→Ends PP 0 (oO t_op t_n t_text t_kids t_pats hn0 ht1 hp2 hk3).as (kE b) (aG [] 0))
  (h2:bT t_op t_n t_text (List.length t_pats) =true→t_op=15→Ends PP 0 (aC2 t_op t_n t_text t_kids t_pats hn0 ht1 hp2 hk3 0).as (kE b) (aG [] 0)) :
  Ends PP 0 (oN t_op t_n t_text t_kids t_pats hn0 ht1 hp2 hk3).as (kE b) (aG [] 0) :=by
 cases hb1: (t_op== (1:Int))with
 | true=>
  cases hb2: (!(bR t_n (-1000000000) 1000000000))with
  | true=>
   rw [hno (by clear h1 h2 hno;simp_all [bT,bR] <;>omega)];exact aV9 t_op t_n t_text t_kids t_pats hn0 ht1 hp2 hk3 (bR t_n (-1000000000) 1000000000) hb1 (vU t_n) hb2
  | false=>
   exact LeadsM.ends (aWa t_op t_n t_text t_kids t_pats hn0 ht1 hp2 hk3 (bR t_n (-1000000000) 1000000000) hb1 (vU t_n) hb2) (h1 (by clear h1 h2 hno;simp_all [bT,bR] <;>omega) (by clear h1 h2 hno;simp_all [bT,bR] <;>omega))
 | false =>
  cases hb3: (t_op== (2:Int))with
  | true=>
   cases hb4: (t_n== (0:Int))with
   | true=>
    exact LeadsM.ends (aWb t_op t_n t_text t_kids t_pats hn0 ht1 hp2 hk3  hb1 hb3 hb4) (h1 (by clear h1 h2 hno;simp_all [bT,bR] <;>omega) (by clear h1 h2 hno;simp_all [bT,bR] <;>omega))
   | false=>
    cases hb5: (!(t_n== (1:Int)))with
    | true=>
     rw [hno (by clear h1 h2 hno;simp_all [bT,bR] <;>omega)];exact aWc t_op t_n t_text t_kids t_pats hn0 ht1 hp2 hk3  hb1 hb3 hb4 hb5
    | false=>
     exact LeadsM.ends (aWd t_op t_n t_text t_kids t_pats hn0 ht1 hp2 hk3  hb1 hb3 hb4 hb5) (h1 (by clear h1 h2 hno;simp_all [bT,bR] <;>omega) (by clear h1 h2 hno;simp_all [bT,bR] <;>omega))
  | false=>
   cases hb6: (t_op== (24:Int))with
   | true=>
    cases hb7: (decide (t_n≥ (0:Int)))with
    | true=>
     cases hb8: (!(decide (t_n< (4:Int))))with
     | true=>
      rw [hno (by clear h1 h2 hno;simp_all [bT,bR] <;>omega)];exact aWe t_op t_n t_text t_kids t_pats hn0 ht1 hp2 hk3  hb1 hb3 hb6 hb7 hb8
     | false=>
      exact LeadsM.ends (aWf t_op t_n t_text t_kids t_pats hn0 ht1 hp2 hk3  hb1 hb3 hb6 hb7 hb8) (h1 (by clear h1 h2 hno;simp_all [bT,bR] <;>omega) (by clear h1 h2 hno;simp_all [bT,bR] <;>omega))
    | false=>
     rw [hno (by clear h1 h2 hno;simp_all [bT,bR] <;>omega)];exact aWg t_op t_n t_text t_kids t_pats hn0 ht1 hp2 hk3  hb1 hb3 hb6 hb7
   | false=>
    cases hb9: (t_op== (14:Int))with
    | true=>
     cases hb10: (!(cG t_text))with
     | true=>
      rw [hno (by clear h1 h2 hno;simp_all [bT,bR] <;>omega)];exact aWh t_op t_n t_text t_kids t_pats hn0 ht1 hp2 hk3 (cG t_text) hb1 hb3 hb6 hb9 (gC t_text) hb10
     | false=>
      exact LeadsM.ends (aWi t_op t_n t_text t_kids t_pats hn0 ht1 hp2 hk3 (cG t_text) hb1 hb3 hb6 hb9 (gC t_text) hb10) (h1 (by clear h1 h2 hno;simp_all [bT,bR] <;>omega) (by clear h1 h2 hno;simp_all [bT,bR] <;>omega))
    | false=>
     cases hb11: (t_op== (15:Int))with
     | true=>
      cases hb12: (decide (((List.length t_pats:Nat) :Int) ≥ (1:Int)))with
      | true=>
       cases hb13: (!(decide (((List.length t_pats:Nat) :Int) ≤ (5:Int))))with
       | true=>
        rw [hno (by clear h1 h2 hno;simp_all [bT,bR] <;>omega)];exact aQ3 t_op t_n t_text t_kids t_pats hn0 ht1 hp2 hk3  hb1 hb3 hb6 hb9 hb11 hb12 hb13
       | false=>
        exact LeadsM.ends (aQ4 t_op t_n t_text t_kids t_pats hn0 ht1 hp2 hk3  hb1 hb3 hb6 hb9 hb11 hb12 hb13) (h2 (by clear h1 h2 hno;simp_all [bT,bR] <;>omega) (by clear h1 h2 hno;simp_all [bT,bR] <;>omega))
      | false=>
       rw [hno (by clear h1 h2 hno;simp_all [bT,bR] <;>omega)];exact aQ5 t_op t_n t_text t_kids t_pats hn0 ht1 hp2 hk3  hb1 hb3 hb6 hb9 hb11 hb12
     | false=>
      exact LeadsM.ends (aQ6 t_op t_n t_text t_kids t_pats hn0 ht1 hp2 hk3  hb1 hb3 hb6 hb9 hb11) (h1 (by clear h1 h2 hno;simp_all [bT,bR] <;>omega) (by clear h1 h2 hno;simp_all [bT,bR] <;>omega))
theorem bFj (t_op t_n:Int)(t_text:aC)(t_kids:List Term)(t_pats:List Pat)(hi hn ht hp:Bool)(K:Int)(hsh:Pure PP 250 [Term.av (.mk t_op t_n t_text t_kids t_pats)] (.tup [.agg [.bool hn,.bool ht,.bool hp,.int .i64 K],.bool hi]))(b:Bool)(hno:aX hi hn ht hp K t_n t_text (List.length t_kids) (List.length t_pats) =false→b=false)
  (hk:aX hi hn ht hp K t_n t_text (List.length t_kids) (List.length t_pats) =true→Ends PP 0 (oN t_op t_n t_text t_kids t_pats hn ht hp K).as (kE b) (aG [] 0)) :
  Ends PP 0 (aQC t_op t_n t_text t_kids t_pats).as (kE b) (aG [] 0) :=by
 cases hb1:hi with
 | true =>
  cases hb2: (((List.length t_kids:Nat) :Int) ==K)with
  | true =>
   cases hb3:hn with
   | true=>
    cases hb4:ht with
    | true=>
     cases hb5:hp with
     | true=>
      exact LeadsM.ends (aVZ t_op t_n t_text t_kids t_pats  hn ht hp K hi hsh hb1 hb2 hb3 hb4 hb5) (hk (by clear hno hk hsh;simp_all [aX,aD,aF]))
     | false=>
      cases hb6: (!(((List.length t_pats:Nat) :Int) == (0:Int)))with
      | true=>
       rw [hno (by clear hno hk hsh;simp_all [aX,aD,aF])];exact aV0 t_op t_n t_text t_kids t_pats  hn ht hp K hi hsh hb1 hb2 hb3 hb4 hb5 hb6
      | false=>
       exact LeadsM.ends (aV1 t_op t_n t_text t_kids t_pats  hn ht hp K hi hsh hb1 hb2 hb3 hb4 hb5 hb6) (hk (by clear hno hk hsh;simp_all [aX,aD,aF]))
    | false=>
     cases hb7: (aU (List.length t_text) (aE t_text) 0 0)with
     | true=>
      cases hb8:hp with
      | true=>
       exact LeadsM.ends (aV2 t_op t_n t_text t_kids t_pats  hn ht hp K hi hsh hb1 hb2 hb3 hb4 hb7 hb8) (hk (by clear hno hk hsh;simp_all [aX,aD,aF]))
      | false=>
       cases hb9: (!(((List.length t_pats:Nat) :Int) == (0:Int)))with
       | true=>
        rw [hno (by clear hno hk hsh;simp_all [aX,aD,aF])];exact aV3 t_op t_n t_text t_kids t_pats  hn ht hp K hi hsh hb1 hb2 hb3 hb4 hb7 hb8 hb9
       | false=>
        exact LeadsM.ends (aV4 t_op t_n t_text t_kids t_pats  hn ht hp K hi hsh hb1 hb2 hb3 hb4 hb7 hb8 hb9) (hk (by clear hno hk hsh;simp_all [aX,aD,aF]))
     | false=>
      rw [hno (by clear hno hk hsh;simp_all [aX,aD,aF])];exact aV5 t_op t_n t_text t_kids t_pats  hn ht hp K hi hsh hb1 hb2 hb3 hb4 hb7
   | false=>
    cases hb10: (t_n== (0:Int))with
    | true=>
     cases hb11:ht with
     | true=>
      cases hb12:hp with
      | true=>
       exact LeadsM.ends (aV6 t_op t_n t_text t_kids t_pats  hn ht hp K hi hsh hb1 hb2 hb3 hb10 hb11 hb12) (hk (by clear hno hk hsh;simp_all [aX,aD,aF]))
      | false=>
       cases hb13: (!(((List.length t_pats:Nat) :Int) == (0:Int)))with
       | true=>
        rw [hno (by clear hno hk hsh;simp_all [aX,aD,aF])];exact aV7 t_op t_n t_text t_kids t_pats  hn ht hp K hi hsh hb1 hb2 hb3 hb10 hb11 hb12 hb13
       | false=>
        exact LeadsM.ends (aV8 t_op t_n t_text t_kids t_pats  hn ht hp K hi hsh hb1 hb2 hb3 hb10 hb11 hb12 hb13) (hk (by clear hno hk hsh;simp_all [aX,aD,aF]))
     | false=>
      cases hb14: (aU (List.length t_text) (aE t_text) 0 0)with
      | true=>
       cases hb15:hp with
       | true=>
        exact LeadsM.ends (aQW t_op t_n t_text t_kids t_pats  hn ht hp K hi hsh hb1 hb2 hb3 hb10 hb11 hb14 hb15) (hk (by clear hno hk hsh;simp_all [aX,aD,aF]))
       | false=>
        cases hb16: (!(((List.length t_pats:Nat) :Int) == (0:Int)))with
        | true=>
         rw [hno (by clear hno hk hsh;simp_all [aX,aD,aF])];exact aQX t_op t_n t_text t_kids t_pats  hn ht hp K hi hsh hb1 hb2 hb3 hb10 hb11 hb14 hb15 hb16
        | false=>
         exact LeadsM.ends (aQY t_op t_n t_text t_kids t_pats  hn ht hp K hi hsh hb1 hb2 hb3 hb10 hb11 hb14 hb15 hb16) (hk (by clear hno hk hsh;simp_all [aX,aD,aF]))
      | false=>
       rw [hno (by clear hno hk hsh;simp_all [aX,aD,aF])];exact aQZ t_op t_n t_text t_kids t_pats  hn ht hp K hi hsh hb1 hb2 hb3 hb10 hb11 hb14
    | false=>
     rw [hno (by clear hno hk hsh;simp_all [aX,aD,aF])];exact aQ0 t_op t_n t_text t_kids t_pats  hn ht hp K hi hsh hb1 hb2 hb3 hb10
  | false=>
   rw [hno (by clear hno hk hsh;simp_all [aX,aD,aF])];exact aQ1 t_op t_n t_text t_kids t_pats  hn ht hp K hi hsh hb1 hb2
 | false=>
  rw [hno (by clear hno hk hsh;simp_all [aX,aD,aF])];exact aQ2 t_op t_n t_text t_kids t_pats  hn ht hp K hi hsh hb1
end
end Go.Hb
namespace Go.Hb
open Go.Proofs
set_option maxHeartbeats 4000000
noncomputable section
def POT (f:Nat)(args:List AV)(b:Bool) :Prop:=bif b then Pure PP f args (.tup [])else uJ PP f args FL
theorem aJR {f:Nat}{args:List AV}{s:TS}{b:Bool}(e: (start PP f args).as=s.as)(hb:lV PP f=true)(hk:AV.keylessL args=true)(he:Ends PP 0 s.as (kE b) (aG [] 0)) :POT f args b:=by
 cases b with
 |true=>exact cB e hb hk rfl he
 |false=>exact throws_at hb hk (eW false) (by rw [e];exact he)
theorem bCh (o n:Int)(s:aC)(ks:List Term)(ps:List Pat)(hn ht hp:Bool)(K:Int)(b:Bool)(hl:ps.length<1000000)(hfit:∀q∈ps,aQ q<1000000)(h1:Ends PP 0 (oO o n s ks ps hn ht hp K).as (kE b) (aG [] 0)) :
  ∀ (qs:List Pat) (i:Nat),ps.drop i=qs→Ends PP 0 (aC2 o n s ks ps hn ht hp K (i:Int)).as (kE (qs.all wA&&b)) (aG [] 0)
 | [],i,h=>by
  have:=bA h;exact(aWp o n s ks ps hn ht hp K i sd).ends h1
 | .mk f' n' s' ps'::qs,i,h=>by
  obtain⟨g1,g2,g3⟩ :=aZ h;have hc:=aHO (.mk f' n' s' ps') (hfit _ (List.mem_of_getElem? g1));rw [List.all_cons];cases hq:wA (.mk f' n' s' ps')with
  | true=>
   rw [hq,if_pos rfl]at hc;rw [Bool.true_and];exact(aWo o n s ks ps hn ht hp K i f' n' s' ps' 0 sd sd sd hc (by simp) sd).ends (bCh o n s ks ps hn ht hp K b hl hfit h1 qs (i+1) g2)
  | false=>
   rw [hq,if_neg (by simp)]at hc;rw [Bool.false_and,Bool.false_and];exact aWn o n s ks ps hn ht hp K i f' n' s' ps' 2 sd sd sd hc (by simp)
theorem aWq (o n:Int)(s:aC)(ks:List Term)(ps:List Pat)(hks:ks.length<1000000)(hps:ps.length<1000000)(hfit:∀q∈ps,aQ q<1000000) :POT 199 [Term.av (.mk o n s ks ps)] (aK o n s (List.length ks) (List.length ps) &&ps.all wA) :=by
 refine aJR (s:=aQC o n s ks ps) (by kernel_rfl) (by kernel_rfl) (by simp [AV.keylessL,gV]) ?_;have hD:=bFh o n s ks ps (jO o) (jA o) (jB o) (jP o (List.length ks) (List.length ps)) rfl;rw [aQ9];unfold aT;refine bFj o n s ks ps (hiT o) (jO o) (jA o) (jB o) (jP o (List.length ks) (List.length ps)) (aQ8 o n s ks ps hks hps) _ (fun h=>by rw [h];simp) (fun ha=>?_);rw [ha];refine bFi o n s ks ps _ _ _ _ _ (fun h=>by rw [h];simp) (fun hb h15=>?_) (fun hb h15=>?_)
 · have hm:ps= [] :=by
    have hp:jB o=false:=by simp [jB,h15]
    rw [hp]at ha;simp only [aX,Bool.and_eq_true,Bool.false_or,decide_eq_true_eq]at ha;exact List.length_eq_zero_iff.1 (by have:=ha.2;omega)
   subst hm;rw [hb];simpa using hD
 · have hC:=bCh o n s ks ps (jO o) (jA o) (jB o) (jP o (List.length ks) (List.length ps)) _ hps hfit hD ps 0 rfl;rw [hb,Bool.true_and,Bool.true_and,Bool.and_comm];exact hC
theorem aMN {ks:List Term}{ps:List Pat}(h:kX ks+aM ps+1<1000000) :∀q∈ps,aQ q<1000000:=fun q hq=>by
 have:∀ (ps:List Pat),q∈ps→aQ q≤aM ps:=by
  intro ps
  induction ps with
  |nil=>intro h;cases h
  | cons p ps ih=>
   intro h;simp only [aM];rcases List.mem_cons.1 h with e|h
   ·rw [e];omega
   ·have:=ih h;omega
 have:=this ps hq;omega
theorem aHP (o n:Int)(s:aC)(ks:List Term)(ps:List Pat)(hl:ks.length<1000000)(ih:∀t∈ks,POT 147 [Term.av t] (hR t)) :
  ∀ (ts:List Term) (i:Nat),ks.drop i=ts→Ends PP 0 (aFV o n s ks ps (i:Int)).as (kE (jM ts)) (aG [] 0)
 | [],i,h=>by
  have:=bA h;exact aVL o n s ks ps i sd
 | .mk o' n' s' ks' ps'::ts,i,h=>by
  obtain⟨g1,g2,g3⟩ :=aZ h;have hp:=ih _ (List.mem_of_getElem? g1);rw [jM];cases hb:hR (.mk o' n' s' ks' ps')with
  | true=>
   rw [hb]at hp;rw [Bool.true_and];exact(aVK o n s ks ps i o' n' s' ks' ps' sd sd sd hp sd).ends (aHP o n s ks ps hl ih ts (i+1) g2)
  | false=>
   rw [hb]at hp;rw [Bool.false_and];exact aVJ o n s ks ps i o' n' s' ks' ps' sd sd sd hp
mutual
theorem aKY :∀ (t:Term),wB t<1000000→POT 147 [Term.av t] (hR t)
 | .mk o n s ks ps,hf=>by
  simp only [wB]at hf;have:=vS ks;have:=bK ps;refine aJR (s:=bCd o n s ks ps) (by kernel_rfl) (by kernel_rfl) (by simp [AV.keylessL,gV]) ?_;have hn:=aWq o n s ks ps (by omega) (by omega) (aMN hf);rw [hR];cases hb: (aK o n s (List.length ks) (List.length ps) &&ps.all wA)with
  | true=>
   rw [hb]at hn;rw [Bool.true_and];exact(aVI o n s ks ps hn).ends (aHP o n s ks ps (by omega) (aKZ ks (by omega)) ks 0 rfl)
  | false=>
   rw [hb]at hn;rw [Bool.false_and];exact aVH o n s ks ps hn
theorem aKZ :∀ (ts:List Term),kX ts<1000000→∀t∈ts,POT 147 [Term.av t] (hR t)
 | [],_,t,ht=>by cases ht
 | u::ts,hf,t,ht=>by
  simp only [kX]at hf;rcases List.mem_cons.1 ht with e|ht
  ·rw [e];exact aKY u (by omega)
  ·exact aKZ ts (by omega) t ht
end
def uW (t:Term)(a b d:Int) :Bool:=decide ((bX t:Int) ≤a) &&decide (d+dX t-1≤b)
def GTS (t:Term)(a b d:Int)(r:Bool)(z:Int) :Prop:=Spec PP (.enter 146 [.ptr 0 0,Term.av t,.int .i64 d]) (aG [(0,GC a b,false)] 1) (kE r) (aG [(0,GC z b,false)] 1)
def GT (t:Term)(a b d:Int) :Prop:=∃z,GTS t a b d (uW t a b d) z∧ (uW t a b d=true→z=a-bX t)
def aAh (ts:List Term)(c b d:Int) :Bool:=decide ((bO ts:Int) ≤c) &&decide (d+dK ts≤b)
theorem aMO (t:Term)(ts:List Term){c b d:Int}(hdb:d≤b) :aAh (t::ts) c b d= (uW t c b (d+1) &&aAh ts (c-bX t) b d) :=by
 have hp:=qU t;unfold aAh uW;rw [bO,dK,←Bool.decide_and,←Bool.decide_and,←Bool.decide_and,←Bool.decide_and];congr 1;apply propext;omega
theorem aK0 (a b:Int)(o n:Int)(s:aC)(ks:List Term)(ps:List Pat)(d:Int)(hd:0≤d)(hd2:d≤1000)(hdb:d≤b)(hl:ks.length<1000000)(ih:∀t∈ks,∀c,0≤c→c≤1000→GT t c b (d+1)) :
  ∀ (ts:List Term) (i:Nat) (c:Int),ks.drop i=ts→0≤c→c≤1000→∃z,Ends PP 1 (aKW a b o n s ks ps d (i:Int) c).as (kE (aAh ts c b d)) (aG [(0,GC z b,false)] 1) ∧ (aAh ts c b d=true→z=c-bO ts)
 | [],i,c,h,h0,h1=>by
  have:=bA h;have e:aAh [] c b d=true:=by simp [aAh,bO,dK,h0,hdb]
  rw [e];exact⟨c,bD3 a b o n s ks ps d i c sd,fun _=>by simp [bO]⟩
 | .mk o' n' s' ks' ps'::ts,i,c,h,h0,h1=>by
  obtain⟨g1,g2,g3⟩ :=aZ h;obtain⟨z,hz,hzz⟩ :=ih _ (List.mem_of_getElem? g1) c h0 h1;have hp:=qU (.mk o' n' s' ks' ps');rw [aMO _ _ hdb];unfold GTS at hz;cases hb:uW (.mk o' n' s' ks' ps') c b (d+1)with
  | true=>
   have hz1:=hzz hb;rw [hb]at hz;have hle: (bX (.mk o' n' s' ks' ps') :Int) ≤c:=by
    unfold uW at hb;simp only [Bool.and_eq_true,decide_eq_true_eq]at hb;exact hb.1
   rw [←hz1,Bool.true_and];obtain⟨z2,hE,hz2⟩ :=aK0 a b o n s ks ps d hd hd2 hdb hl ih ts (i+1) z g2 (by omega) (by omega);refine⟨z2,(bD2 a b o n s ks ps d i c o' n' s' ks' ps' z sd sd sd sd (cI (ks:=[0]) hz (by kernel_rfl) (eW true) (by kernel_rfl) (by kernel_rfl) trivial (by kernel_rfl) trivial (by kernel_rfl) (by kernel_rfl) (by kernel_rfl) (by kernel_rfl) (by kernel_rfl) (by kernel_rfl) (by kernel_rfl) (by kernel_rfl)) sd).ends hE,fun h=>?_⟩;rw [hz2 h,bO];omega
  | false=>
   rw [hb]at hz;rw [Bool.false_and];exact⟨z,bD1 a b o n s ks ps d i c o' n' s' ks' ps' z sd sd sd sd (cI (ks:=[0]) hz (by kernel_rfl) (eW false) (by kernel_rfl) (by kernel_rfl) trivial (by kernel_rfl) trivial (by kernel_rfl) (by kernel_rfl) (by kernel_rfl) (by kernel_rfl) (by kernel_rfl) (by kernel_rfl) (by kernel_rfl) (by kernel_rfl)),fun h=>by cases h⟩
mutual
theorem aK1 (b:Int)(hb:0≤b)(hb2:b≤900) :∀ (t:Term) (a d:Int),0≤a→a≤1000→0≤d→d≤b+1→wB t<1000000→GT t a b d
 | .mk o n s ks ps,a,d,h0,h1,h2,h3,hf=>by
  simp only [wB]at hf;have:=vS ks;have e1:bX (.mk o n s ks ps) =bO ks+1:=by rw [bX]
  have e2:dX (.mk o n s ks ps) =dK ks+1:=by rw [dX]
  have E :∃z,Ends PP 1 (bDX a b o n s ks ps d).as (kE (uW (.mk o n s ks ps) a b d)) (aG [(0,GC z b,false)] 1) ∧ (uW (.mk o n s ks ps) a b d=true→z=a-bX (.mk o n s ks ps)) :=by
   by_cases ha:1≤a
   · by_cases hdb:d≤b
     · have r:uW (.mk o n s ks ps) a b d=aAh ks (a-1) b d:=by
        unfold uW aAh;rw [←Bool.decide_and,←Bool.decide_and];congr 1;apply propext;omega
       rw [r];obtain⟨z,hE,hz⟩ :=aK0 a b o n s ks ps d h2 (by omega) hdb (by omega) (fun t ht c h0 h1=>aRa b hb hb2 ks (by omega) t ht c (d+1) h0 h1 (by omega) (by omega)) ks 0 (a-1) rfl (by omega) (by omega);exact⟨z,(bDZ a b o n s ks ps d sd (by simp;omega) (by simp;omega)).ends hE,fun h=>by rw [hz h];omega⟩
     · have r:uW (.mk o n s ks ps) a b d=false:=by
        unfold uW;rw [←Bool.decide_and];exact decide_eq_false (by omega)
       rw [r];exact⟨a-1,bDY a b o n s ks ps d sd (by simp;omega) (by simp;omega),fun h=>by cases h⟩
   · have r:uW (.mk o n s ks ps) a b d=false:=by
      unfold uW;rw [←Bool.decide_and];exact decide_eq_false (by omega)
     rw [r];exact⟨a-1,bD0 a b o n s ks ps d sd (by simp;omega),fun h=>by cases h⟩
  obtain⟨z,hE,hz⟩ :=E;exact⟨z,⟨(bDX a b o n s ks ps d).as.fr,by kernel_rfl,Eq.mp (by kernel_rfl) hE⟩,hz⟩
theorem aRa (b:Int)(hb:0≤b)(hb2:b≤900) :∀ (ts:List Term),kX ts<1000000→∀t∈ts,∀a d,0≤a→a≤1000→0≤d→d≤b+1→GT t a b d
 | [],_,t,ht=>by cases ht
 | u::ts,hf,t,ht=>by
  simp only [kX]at hf;rcases List.mem_cons.1 ht with e|ht
  ·rw [e];exact fun a d p q r s=>aK1 b hb hb2 u a d p q r s (by omega)
  ·exact aRa b hb hb2 ts (by omega) t ht
end
theorem aRb (t:Term)(hf:wB t<1000000) :Pure PP 80 [Term.av t] (.int .i64 (if aAd t=true then 0 else 2)) :=by
 obtain⟨z,hg,_⟩ :=aK1 14 (by omega) (by omega) t 60 1 (by omega) (by omega) (by omega) (by omega) hf;have hn:=aKY t hf;have e:aAd t= (uW t 60 14 1&&hR t) :=by
  unfold aAd uW;congr 1;rw [←Bool.decide_and,←Bool.decide_and];congr 1;apply propext;omega
 rw [e];unfold GTS at hg;obtain⟨o,n,s,ks,ps⟩ :=t;refine cB (s:=bCe o n s ks ps) (by kernel_rfl) (by kernel_rfl) (by simp [AV.keylessL,gV]) (by simp [AV.keyless]) ?_;cases hb:uW (.mk o n s ks ps) 60 14 1 with
 | false=>
  rw [hb]at hg;rw [Bool.false_and];exact aVM o n s ks ps z (cI (ks:=[2]) hg (by kernel_rfl) (eW false) (by kernel_rfl) (by kernel_rfl) trivial (by kernel_rfl) trivial (by kernel_rfl) (by kernel_rfl) (by kernel_rfl) (by kernel_rfl) (by kernel_rfl) (by kernel_rfl) (by kernel_rfl) (by kernel_rfl))
 | true=>
  rw [hb]at hg;have hg':=cI (ks:=[2]) (n2:=3) (args':=[.ptr 2 0,Term.av (.mk o n s ks ps),.int .i64 1]) (lc:=[(0,.cells (putCells .leaf 0 [.int .i64 o,.int .i64 n,aA s,.ilst 5 (Terms.av ks) false,.ilst 4 (Pats.av ps) false]) 5 [] false,false),(1,.cells (putCells .leaf 0 [.bool false]) 1 [] false,false),(2,GC 60 14,false)]) (lc':=[(0,.cells (putCells .leaf 0 [.int .i64 o,.int .i64 n,aA s,.ilst 5 (Terms.av ks) false,.ilst 4 (Pats.av ps) false]) 5 [] false,false),(1,.cells (putCells .leaf 0 [.bool false]) 1 [] false,false),(2,GC z 14,false)]) hg (by kernel_rfl) (eW true) (by kernel_rfl) (by kernel_rfl) trivial (by kernel_rfl) trivial (by kernel_rfl) (by kernel_rfl) (by kernel_rfl) (by kernel_rfl) (by kernel_rfl) (by kernel_rfl) (by kernel_rfl) (by kernel_rfl);rw [Bool.true_and];cases hF:hR (.mk o n s ks ps)with
  | true=>
   rw [hF]at hn;exact aVO o n s ks ps z hg' hn
  | false=>
   rw [hF]at hn;exact aVN o n s ks ps z hg' hn
end
end Go.Hb
namespace Go.Hb
open Go.Proofs
noncomputable section
open Go.Proofs Tryz
def aFW(a b:Int)(c:aC)(d:List Typ)(g e f:Int):TS:=⟨(tf 97 29 [(1,(nI e)),kp 2 0,(4,(nI 0)),(5,(nI f))] [kc f97 244,kl f97 244,.inBlock 0,kc f97 31]),[],[oC 0 [(nI a),(nI b),(aA c),(.ilst 4 (Typs.av d) false)]],1⟩
def cU(b c:Int)(d:aC)(a:List Typ)(e f:Bool)(g:Int):TS:=⟨(tf 121 106 [(1,(bV e)),kp 2 0,(4,(bV false)),(5,(nI (a.length:Int))),(6,(bV f)),(7,(nI g))] [kc f121 500,kl f121 500,.inBlock 1,kc f121 63]),[],[oC 0 [(nI b),(nI c),(aA d),(.ilst 4 (Typs.av a) false)]],1⟩
def aFX(a b:Int)(c:aC)(d:List Typ)(e:Int):TS:=⟨(tf 98 22 [kp 1 0,(2,(bV false)),(3,(nI e))] [kc f98 52,kl f98 52,.inBlock 0,kc f98 7]),[],[oC 0 [(nI a),(nI b),(aA c),(.ilst 4 (Typs.av d) false)]],1⟩
def bCi(b c:Int)(d:aC)(e:List Typ)(a:Int):=tT 0 (start PP 97 [(.agg [(nI b),(nI c),(aA d),(.ilst 4 (Typs.av e) false)]),(nI a)])<|gd 11 7 (a<1) (gE 6 1 (nI (-1)))<|gw 6 9 (a-1)<|.W 9 1 [0] (aFW b c d e a (a-1) 0)
def aWr:=fun a b c d e f=>bCi a b c d e|>.t f tv
def aWs:=fun a b c d e f g=>bCi a b c d e|>.f f g tv
def aRc(d e:Int)(f:aC)(a:List Typ)(g b c:Int):=tT 0 (aFW d e f a g b c)<|gm 6 cT a<|gd 2 15 (c< (a.length:Int)) (gd 4 18 (b≥0) (aHs 8 a c<|fun i j k l=>gpI 2 97 [(.agg [(nI i),(nI j),(aA k),(.ilst 4 (Typs.av l) false)]),(nI b)]<|fun m=>gw 6 20 (c+1)<|.W 3 1 [0] (aFW d e f a g m (c+1)))<|gE 8 1 (nI b))<|gE 12 1 (nI b)
def aWt:=fun a b c d e f g i j k l m n o p q r s=>aRc a b c d e f g|>.t n|>.t o i j k l p q m r s tv
def aWu:=fun a b c d e f g i j=>aRc a b c d e f g|>.t i|>.f j tv
def aWv:=fun a b c d e f g i=>aRc a b c d e f g|>.f i tv
def fP(c d:Int)(a:aC)(b:List Typ)(e:Bool):=tT 0 (start PP 121 [(.agg [(nI c),(nI d),(aA a),(.ilst 4 (Typs.av b) false)]),(bV e)])<|gm 9 cT b<|.b 19 13 (c==1) (.b 7 19 ((b.length:Int) ==0) (.b 5 24 (d==0) (.W 14 1 [0] (cU c d a b e (aU a.length (aE a) 0 0) 0))<|.W 14 1 [0] (cU c d a b e false 0))<|.W 19 1 [0] (cU c d a b e false 0))<|.b 6 13 (c==2) (.b 7 19 ((b.length:Int) ==0) (.b 5 24 (d==0) (.W 14 1 [0] (cU c d a b e (aU a.length (aE a) 0 0) 0))<|.W 14 1 [0] (cU c d a b e false 0))<|.W 19 1 [0] (cU c d a b e false 0))<|.b 5 13 (c==3) (.b 5 19 ((b.length:Int) ==0) (.b 5 24 (d==0) (.W 14 1 [0] (cU c d a b e (aU a.length (aE a) 0 0) 0))<|.W 14 1 [0] (cU c d a b e false 0))<|.W 19 1 [0] (cU c d a b e false 0))<|.b 6 29 (c==4) (.b 5 33 ((b.length:Int) ==2) (.b 5 38 (d==0) (.W 14 1 [0] (cU c d a b e (aU a.length (aE a) 0 0) 0))<|.W 14 1 [0] (cU c d a b e false 0))<|.W 19 1 [0] (cU c d a b e false 0))<|.b 7 43 (c==5) (.b 7 49 ((b.length:Int) ==1) (.b 5 54 (d==0) (.W 14 1 [0] (cU c d a b e (aU a.length (aE a) 0 0) 0))<|.W 14 1 [0] (cU c d a b e false 0))<|.W 19 1 [0] (cU c d a b e false 0))<|.b 6 43 (c==6) (.b 7 49 ((b.length:Int) ==1) (.b 5 54 (d==0) (.W 14 1 [0] (cU c d a b e (aU a.length (aE a) 0 0) 0))<|.W 14 1 [0] (cU c d a b e false 0))<|.W 19 1 [0] (cU c d a b e false 0))<|.b 5 43 (c==7) (.b 5 49 ((b.length:Int) ==1) (.b 5 54 (d==0) (.W 14 1 [0] (cU c d a b e (aU a.length (aE a) 0 0) 0))<|.W 14 1 [0] (cU c d a b e false 0))<|.W 19 1 [0] (cU c d a b e false 0))<|.b 6 59 (c==8) (.b 5 63 ((b.length:Int) ==0) (.b 5 68 (d==0) (dG 2 120 [(aA a)]<|fun f=>.W 11 1 [0] (cU c d a b e f 0))<|.W 14 1 [0] (cU c d a b e false 0))<|.W 19 1 [0] (cU c d a b e false 0))<|.b 6 73 (c==9) (.b 4 76 e (.b 4 80 ((b.length:Int) ==0) (.b 5 85 (aU a.length (aE a) 0 0) (dG 2 60 [(nI d),(nI 0),(nI 99)]<|fun f=>.W 11 1 [0] (cU c d a b e f 0))<|.W 14 1 [0] (cU c d a b e false 0))<|.W 19 1 [0] (cU c d a b e false 0))<|.W 23 1 [0] (cU c d a b e false 0))<|.W 10 1 [0] (cU c d a b e false 0)
def aWw:=fun a b c d e f g i=>fP a b c d e|>.t f|>.t g|>.t i tv
def aWx:=fun a b c d e f g i=>fP a b c d e|>.t f|>.t g|>.f i tv
def aWy:=fun a b c d e f g=>fP a b c d e|>.t f|>.f g tv
def aWz:=fun a b c d e f g i j=>fP a b c d e|>.f f|>.t g|>.t i|>.t j tv
def aWA:=fun a b c d e f g i j=>fP a b c d e|>.f f|>.t g|>.t i|>.f j tv
def aWB:=fun a b c d e f g i=>fP a b c d e|>.f f|>.t g|>.f i tv
def aWC:=fun a b c d e f g i j k=>fP a b c d e|>.f f|>.f g|>.t i|>.t j|>.t k tv
def aWD:=fun a b c d e f g i j k=>fP a b c d e|>.f f|>.f g|>.t i|>.t j|>.f k tv
def aWE:=fun a b c d e f g i j=>fP a b c d e|>.f f|>.f g|>.t i|>.f j tv
def aWF:=fun a b c d e f g i j k l=>fP a b c d e|>.f f|>.f g|>.f i|>.t j|>.t k|>.t l tv
def aRd:=fun a b c d e f g i j k l=>fP a b c d e|>.f f|>.f g|>.f i|>.t j|>.t k|>.f l tv
def aRe:=fun a b c d e f g i j k=>fP a b c d e|>.f f|>.f g|>.f i|>.t j|>.f k tv
def aRf:=fun a b c d e f g i j k l m=>fP a b c d e|>.f f|>.f g|>.f i|>.f j|>.t k|>.t l|>.t m tv
def aRg:=fun a b c d e f g i j k l m=>fP a b c d e|>.f f|>.f g|>.f i|>.f j|>.t k|>.t l|>.f m tv
def aRh:=fun a b c d e f g i j k l=>fP a b c d e|>.f f|>.f g|>.f i|>.f j|>.t k|>.f l tv
def aRi:=fun a b c d e f g i j k l m n=>fP a b c d e|>.f f|>.f g|>.f i|>.f j|>.f k|>.t l|>.t m|>.t n tv
def aRj:=fun a b c d e f g i j k l m n=>fP a b c d e|>.f f|>.f g|>.f i|>.f j|>.f k|>.t l|>.t m|>.f n tv
def aRk:=fun a b c d e f g i j k l m=>fP a b c d e|>.f f|>.f g|>.f i|>.f j|>.f k|>.t l|>.f m tv
def aRl:=fun a b c d e f g i j k l m n o=>fP a b c d e|>.f f|>.f g|>.f i|>.f j|>.f k|>.f l|>.t m|>.t n|>.t o tv
def aRm:=fun a b c d e f g i j k l m n o=>fP a b c d e|>.f f|>.f g|>.f i|>.f j|>.f k|>.f l|>.t m|>.t n|>.f o tv
def aRn:=fun a b c d e f g i j k l m n=>fP a b c d e|>.f f|>.f g|>.f i|>.f j|>.f k|>.f l|>.t m|>.f n tv
def aRo:=fun a b c d e f g i j k l m n o p q r=>fP a b c d e|>.f g|>.f i|>.f j|>.f k|>.f l|>.f m|>.f n|>.t o|>.t p|>.t q f r tv
def aRp:=fun a b c d e f g i j k l m n o p=>fP a b c d e|>.f f|>.f g|>.f i|>.f j|>.f k|>.f l|>.f m|>.t n|>.t o|>.f p tv
def aRq:=fun a b c d e f g i j k l m n o=>fP a b c d e|>.f f|>.f g|>.f i|>.f j|>.f k|>.f l|>.f m|>.t n|>.f o tv
def aRr:=fun a b c d e f g i j k l m n o p q r s t=>fP a b c d e|>.f g|>.f i|>.f j|>.f k|>.f l|>.f m|>.f n|>.f o|>.t p|>.t q|>.t r|>.t s f t tv
def aRs:=fun a b c d e f g i j k l m n o p q r=>fP a b c d e|>.f f|>.f g|>.f i|>.f j|>.f k|>.f l|>.f m|>.f n|>.t o|>.t p|>.t q|>.f r tv
def aRt:=fun a b c d e f g i j k l m n o p q=>fP a b c d e|>.f f|>.f g|>.f i|>.f j|>.f k|>.f l|>.f m|>.f n|>.t o|>.t p|>.f q tv
def aRu:=fun a b c d e f g i j k l m n o p=>fP a b c d e|>.f f|>.f g|>.f i|>.f j|>.f k|>.f l|>.f m|>.f n|>.t o|>.f p tv
def aRv:=fun a b c d e f g i j k l m n o=>fP a b c d e|>.f f|>.f g|>.f i|>.f j|>.f k|>.f l|>.f m|>.f n|>.f o tv
def aRw(e f:Int)(g:aC)(b:List Typ)(d c:Bool)(a:Int):=tT 0 (cU e f g b d c a)<|gd 7 93 (a< (b.length:Int)) (.b 3 95 c (aHs 8 b a<|fun i j k l=>dG 2 121 [(.agg [(nI i),(nI j),(aA k),(.ilst 4 (Typs.av l) false)]),(bV d)]<|fun m=>gw 6 97 (a+1)<|.W 3 1 [0] (cU e f g b d m (a+1)))<|gE 8 1 (bV c))<|gE 11 1 (bV c)
def aWG:=fun a b c d e f g i j k l m n o p q r s=>aRw a b c d e f g|>.t n|>.t o i j k l p q m r s tv
def aWH:=fun a b c d e f g i j=>aRw a b c d e f g|>.t i|>.f j tv
def aWI:=fun a b c d e f g i=>aRw a b c d e f g|>.f i tv
def bCj(a b:Int)(c:aC)(d:List Typ):=tT 0 (start PP 62 [(.agg [(nI a),(nI b),(aA c),(.ilst 4 (Typs.av d) false)])])<|gpI 8 97 [(.agg [(nI a),(nI b),(aA c),(.ilst 4 (Typs.av d) false)]),(nI 12)]<|fun e=>gd 2 6 (e≥0) (dG 1 121 [(.agg [(nI a),(nI b),(aA c),(.ilst 4 (Typs.av d) false)]),(bV false)]<|fun f=>gE 4 1 (bV f))<|gE 6 1 (bV false)
def aWJ:=fun a b c d e f g i j=>bCj a b c d e g|>.t i f j tv
def aWK:=fun a b c d e f g=>bCj a b c d e f|>.f g tv
def aWL (a b:Int)(c:aC)(d:List Typ):=(tT 0 (start PP 98 [(.agg [(nI a),(nI b),(aA c),(.ilst 4 (Typs.av d) false)])])<|.W 12 1 [0] (aFX a b c d 0)) tv
def aRx(d e:Int)(c:aC)(a:List Typ)(b:Int):=tT 0 (aFX d e c a b)<|gm 6 cT a<|gd 2 8 (b< (a.length:Int)) (aHs 9 a b<|fun f g i j=>dG 1 98 [(.agg [(nI f),(nI g),(aA i),(.ilst 4 (Typs.av j) false)])]<|fun k=>.b 2 17 (!k) (gE 6 1 (bV false))<|gw 6 10 (b+1)<|.W 3 1 [0] (aFX d e c a (b+1)))<|gE 11 1 (bV (decide ((c.length:Int) ≤30)))
def aWM:=fun a b c d e f g i j k l m n o p=>aRx a b c d e|>.t l f g i j m n k o|>.t p tv
def aWN:=fun a b c d e f g i j k l m n o p q=>aRx a b c d e|>.t l f g i j m n k o|>.f p q tv
def aWO:=fun a b c d e f=>aRx a b c d e|>.f f tv
def bCk(a b:Int)(c:aC)(d:List Typ):=tT 0 (start PP 35 [(.agg [(nI a),(nI b),(aA c),(.ilst 4 (Typs.av d) false)])])<|gpI 8 97 [(.agg [(nI a),(nI b),(aA c),(.ilst 4 (Typs.av d) false)]),(nI 16)]<|fun e=>gd 2 6 (e≥0) (dG 1 98 [(.agg [(nI a),(nI b),(aA c),(.ilst 4 (Typs.av d) false)])]<|fun f=>gE 4 1 (bV f))<|gE 6 1 (bV false)
def aWP:=fun a b c d e f g i j=>bCk a b c d e g|>.t i f j tv
def aWQ:=fun a b c d e f g=>bCk a b c d e f|>.f g tv
end
end Go.Hb
namespace Go.Hb
open Go.Proofs
noncomputable section
open Go.Proofs Tryz
def bD4(a b c d:Int)(e:aC)(f:List Typ):TS:=bF PP 266 [(.ptr 0 0),(.agg [(nI c),(nI d),(aA e),(.ilst 4 (Typs.av f) false)])] [oC 0 [(nI a),(nI b)]] 1
def aK2(e b f g:Int)(i:aC)(a:List Typ)(c d:Int):TS:=⟨(tf 266 19 [kp 0 0,(9,(.ilst 4 (Typs.av a) false)),(10,(nI (a.length:Int))),(11,(nI c))] [kc f266 60,kl f266 60,.inBlock 0]),[],[oC 0 [(nI d),(nI b)]],1⟩
def aRy(a b:Int)(c:aC)(d:List Typ)(e:Bool):TS:=bF PP 267 [(.agg [(nI a),(nI b),(aA c),(.ilst 4 (Typs.av d) false)]),(bV e)] [] 0
def mX(a b:Int)(c:aC)(d:List Typ)(e:Bool)(f:Int):TS:=⟨(tf 267 77 [(1,(bV e)),kp 2 0,(4,(nI f))] [kc f267 15]),[],[oC 0 [(nI a),(nI b),(aA c),(.ilst 4 (Typs.av d) false)]],1⟩
def uX(d e:Int)(f:aC)(a:List Typ)(b:Bool)(c:Int):TS:=⟨(tf 267 77 [(1,(bV b)),(67,(.ilst 4 (Typs.av a) false)),(68,(nI (a.length:Int))),(69,(nI c))] [kc f267 252,kl f267 252,.inBlock 1]),[],[],0⟩
def bCl(a b:Int)(c:aC)(d:List Typ):TS:=bF PP 183 [(.agg [(nI a),(nI b),(aA c),(.ilst 4 (Typs.av d) false)])] [] 0
def bCm(a b d e:Int)(f:aC)(c:List Typ):=tT 1 (bD4 a b d e f c)<|gw 15 8 (a-1)<|gd 11 16 ((a-1) ≥0) (.b 13 3 (!(decide (0≤b))) (.P 7 2 [] [((.iface 299 (.agg [])),false)] [oC 0 [(nI (a-1)),(nI b)]] 1)<|gm 12 cT c<|.W 4 2 [] (aK2 a b d e f c 0 (a-1)))<|.P 20 2 [] [((.iface 299 (.agg [])),false)] [oC 0 [(nI (a-1)),(nI b)]] 1
def bD5:=fun a b c d e f g i j=>bCm a b c d e f g|>.t i|>.f j tv
def bD6:=fun a b c d e f g i=>bCm a b c d e f g|>.f i tv
def aRz(k a l m:Int)(n:aC)(i:List Typ)(f j:Int):=tT 1 (aK2 k a l m n i f j)<|gd 5 12 (f< (i.length:Int)) (aHs 6 i f<|fun b c d e=>.o (.y fun g:Int=>gK 7 (.enter 266 [(.ptr 0 0),(.agg [(nI b),(nI c),(aA d),(.ilst 4 (Typs.av e) false)])]) [oC 0 [(nI j),(nI a)],oC 1 [(nI b),(nI c),(aA d),(.ilst 4 (Typs.av e) false)]] 2 [((.iface 299 (.agg [])),false)] [oC 0 [(nI g),(nI a)],oC 1 [(nI b),(nI c),(aA d),(.ilst 4 (Typs.av e) false)]] 2<|.P 0 2 [] [((.iface 299 (.agg [])),false)] [oC 0 [(nI g),(nI a)]] 1)<|.y fun g:Int=>gk 7 (.enter 266 [(.ptr 0 0),(.agg [(nI b),(nI c),(aA d),(.ilst 4 (Typs.av e) false)])]) [oC 0 [(nI j),(nI a)],oC 1 [(nI b),(nI c),(aA d),(.ilst 4 (Typs.av e) false)]] 2 (.tup []) [oC 0 [(nI g),(nI a)],oC 1 [(nI b),(nI c),(aA d),(.ilst 4 (Typs.av e) false)]] 2<|gw 4 18 (f+1)<|.W 3 2 [] (aK2 k a l m n i (f+1) g))<|.E 3 1 [] (.tup []) [oC 0 [(nI j),(nI a)]] 1
def bD7:=fun a b c d e f g i j k l m n o p q r=>aRz a b c d e f g i|>.t o j k l m p q|>.1 n r tv
def bD8:=fun a b c d e f g i j k l m n o p q r s=>aRz a b c d e f g i|>.t o j k l m p q|>.2 n r s tv
def bD9:=fun a b c d e f g i j=>aRz a b c d e f g i|>.f j tv
def pO(a b:Int)(c:aC)(e:List Typ)(d:Bool):=tT 0 (aRy a b c e d)<|.b 21 10 (a==1) (.W 5 1 [0] (mX a b c e d 0))<|.b 6 10 (a==2) (.W 5 1 [0] (mX a b c e d 0))<|.b 5 10 (a==3) (.W 3 1 [0] (mX a b c e d 0))<|.b 6 14 (a==4) (.W 5 1 [0] (mX a b c e d 2))<|.b 7 16 (a==5) (.W 7 1 [0] (mX a b c e d 1))<|.b 6 16 (a==6) (.W 7 1 [0] (mX a b c e d 1))<|.b 5 16 (a==7) (.W 5 1 [0] (mX a b c e d 1))<|.b 6 20 (a==8) (dG 4 179 [(aA c)]<|fun f=>.b 6 3 (!f) (gQ 6 1 [((.iface 299 (.agg [])),false)])<|.W 6 1 [0] (mX a b c e d 0))<|.b 6 26 (a==9) (.b 4 29 d (gd 5 34 (b≥0) (.b 10 3 (!(decide (b≤99))) (gQ 6 1 [((.iface 299 (.agg [])),false)])<|.W 6 1 [0] (mX a b c e d 0))<|gQ 16 1 [((.iface 299 (.agg [])),false)])<|gQ 21 1 [((.iface 299 (.agg [])),false)])<|gQ 14 1 [((.iface 299 (.agg [])),false)]
def aWR:=fun a b c d e f=>pO a b c d e|>.t f tv
def aWS:=fun a b c d e f g=>pO a b c d e|>.f f|>.t g tv
def aWT:=fun a b c d e f g i=>pO a b c d e|>.f f|>.f g|>.t i tv
def aWU:=fun a b c d e f g i j=>pO a b c d e|>.f f|>.f g|>.f i|>.t j tv
def aWV:=fun a b c d e f g i j k=>pO a b c d e|>.f f|>.f g|>.f i|>.f j|>.t k tv
def aWW:=fun a b c d e f g i j k l=>pO a b c d e|>.f f|>.f g|>.f i|>.f j|>.f k|>.t l tv
def aWX:=fun a b c d e f g i j k l m=>pO a b c d e|>.f f|>.f g|>.f i|>.f j|>.f k|>.f l|>.t m tv
def aWY:=fun a b c d e f g i j k l m n o p q=>pO a b c d e|>.f g|>.f i|>.f j|>.f k|>.f l|>.f m|>.f n|>.t o f p|>.t q tv
def aWZ:=fun a b c d e f g i j k l m n o p q=>pO a b c d e|>.f g|>.f i|>.f j|>.f k|>.f l|>.f m|>.f n|>.t o f p|>.f q tv
def aW0:=fun a b c d e f g i j k l m n o p q r=>pO a b c d e|>.f f|>.f g|>.f i|>.f j|>.f k|>.f l|>.f m|>.f n|>.t o|>.t p|>.t q|>.t r tv
def aRA:=fun a b c d e f g i j k l m n o p q r=>pO a b c d e|>.f f|>.f g|>.f i|>.f j|>.f k|>.f l|>.f m|>.f n|>.t o|>.t p|>.t q|>.f r tv
def aRB:=fun a b c d e f g i j k l m n o p q=>pO a b c d e|>.f f|>.f g|>.f i|>.f j|>.f k|>.f l|>.f m|>.f n|>.t o|>.t p|>.f q tv
def aRC:=fun a b c d e f g i j k l m n o p=>pO a b c d e|>.f f|>.f g|>.f i|>.f j|>.f k|>.f l|>.f m|>.f n|>.t o|>.f p tv
def aRD:=fun a b c d e f g i j k l m n o=>pO a b c d e|>.f f|>.f g|>.f i|>.f j|>.f k|>.f l|>.f m|>.f n|>.f o tv
def aBA(c d:Int)(b:aC)(a:List Typ)(e:Bool)(f:Int):=tT 0 (mX c d b a e f)<|gm 4 cT a<|.b 3 45 ((a.length:Int) ==f) (.b 4 49 (c==9) (.b 10 59 (c==8) (gm 20 cT a<|.W 4 1 [] (uX c d b a e 0))<|.b 11 3 (!(aU b.length (aE b) 0 0)) (gQ 6 1 [((.iface 299 (.agg [])),false)])<|gm 9 cT a<|.W 4 1 [] (uX c d b a e 0))<|.b 6 55 (d==0) (.b 4 59 (c==8) (gm 20 cT a<|.W 4 1 [] (uX c d b a e 0))<|.b 11 3 (!(aU b.length (aE b) 0 0)) (gQ 6 1 [((.iface 299 (.agg [])),false)])<|gm 9 cT a<|.W 4 1 [] (uX c d b a e 0))<|gQ 21 1 [((.iface 299 (.agg [])),false)])<|gQ 31 1 [((.iface 299 (.agg [])),false)]
def aW1:=fun a b c d e f g i j=>aBA a b c d e f|>.t g|>.t i|>.t j tv
def aW2:=fun a b c d e f g i j k=>aBA a b c d e f|>.t g|>.t i|>.f j|>.t k tv
def aW3:=fun a b c d e f g i j k=>aBA a b c d e f|>.t g|>.t i|>.f j|>.f k tv
def aW4:=fun a b c d e f g i j k=>aBA a b c d e f|>.t g|>.f i|>.t j|>.t k tv
def aW5:=fun a b c d e f g i j k l=>aBA a b c d e f|>.t g|>.f i|>.t j|>.f k|>.t l tv
def aW6:=fun a b c d e f g i j k l=>aBA a b c d e f|>.t g|>.f i|>.t j|>.f k|>.f l tv
def aW7:=fun a b c d e f g i j=>aBA a b c d e f|>.t g|>.f i|>.f j tv
def aW8:=fun a b c d e f g=>aBA a b c d e f|>.f g tv
def aRE(d e:Int)(f:aC)(b:List Typ)(c:Bool)(a:Int):=tT 0 (uX d e f b c a)<|gd 5 70 (a< (b.length:Int)) (aHs 6 b a<|fun g i j k=>.o (.i [rn 7,.throws [((.iface 299 (.agg [])),false)]] [hA (uJ PP 267 [(.agg [(nI g),(nI i),(aA j),(.ilst 4 (Typs.av k) false)]),(bV c)] [((.iface 299 (.agg [])),false)])]<|gQ 0 1 [((.iface 299 (.agg [])),false)])<|gp 7 267 [(.agg [(nI g),(nI i),(aA j),(.ilst 4 (Typs.av k) false)]),(bV c)] (.tup [])<|gw 4 76 (a+1)<|.W 3 1 [] (uX d e f b c (a+1)))<|gE 3 0 (.tup [])
def aW9:=fun a b c d e f g i j k l m n o=>aRE a b c d e f|>.t l g i j k m n|>.1 o tv
def aXa:=fun a b c d e f g i j k l m n o p=>aRE a b c d e f|>.t l g i j k m n|>.2 o p tv
def aXb:=fun a b c d e f g=>aRE a b c d e f|>.f g tv
def aRF(a b:Int)(c:aC)(d:List Typ):=tT 0 (bCl a b c d)<|.o (.y fun e:Int=>gK 46 (.enter 266 [(.ptr 4 0),(.agg [(nI a),(nI b),(aA c),(.ilst 4 (Typs.av d) false)])]) [oC 0 [(nI a),(nI b),(aA c),(.ilst 4 (Typs.av d) false)],oC 1 [(nI a),(nI b),(aA c),(.ilst 4 (Typs.av d) false)],oC 2 [(bV false)],oC 3 [(bV false)],oC 4 [(nI 12),(nI 0)]] 5 [((.iface 299 (.agg [])),false)] [oC 0 [(nI a),(nI b),(aA c),(.ilst 4 (Typs.av d) false)],oC 1 [(nI a),(nI b),(aA c),(.ilst 4 (Typs.av d) false)],oC 2 [(bV false)],oC 3 [(bV false)],oC 4 [(nI e),(nI 0)]] 5<|gE 55 6 (bV false))<|.y fun e:Int=>gk 46 (.enter 266 [(.ptr 4 0),(.agg [(nI a),(nI b),(aA c),(.ilst 4 (Typs.av d) false)])]) [oC 0 [(nI a),(nI b),(aA c),(.ilst 4 (Typs.av d) false)],oC 1 [(nI a),(nI b),(aA c),(.ilst 4 (Typs.av d) false)],oC 2 [(bV false)],oC 3 [(bV false)],oC 4 [(nI 12),(nI 0)]] 5 (.tup []) [oC 0 [(nI a),(nI b),(aA c),(.ilst 4 (Typs.av d) false)],oC 1 [(nI a),(nI b),(aA c),(.ilst 4 (Typs.av d) false)],oC 2 [(bV false)],oC 3 [(bV false)],oC 4 [(nI e),(nI 0)]] 5<|.o (.i [rn 4,.throws [((.iface 299 (.agg [])),false)]] [hA (uJ PP 267 [(.agg [(nI a),(nI b),(aA c),(.ilst 4 (Typs.av d) false)]),(bV false)] [((.iface 299 (.agg [])),false)])]<|gE 55 6 (bV false))<|gp 4 267 [(.agg [(nI a),(nI b),(aA c),(.ilst 4 (Typs.av d) false)]),(bV false)] (.tup [])<|gE 43 5 (bV true)
def aXc:=fun a b c d e f=>aRF a b c d|>.1 e f tv
def aXd:=fun a b c d e f g=>aRF a b c d|>.2 e f|>.1 g tv
def aXe:=fun a b c d e f g=>aRF a b c d|>.2 e f|>.2 g tv
end
end Go.Hb
namespace Go.Hb
open Go.Proofs
set_option maxHeartbeats 8000000
noncomputable section
def dC (so n:Int)(s:aC)(k:Int)(ho:Bool) :Bool:=
 if so=1∨so=2∨so=3 then decide (k=0) &&decide (n=0) &&decide (s= [])
 else if so=4 then decide (k=2) &&decide (n=0) &&decide (s= [])
 else if so=5∨so=6∨so=7 then decide (k=1) &&decide (n=0) &&decide (s= [])
 else if so=8 then decide (k=0) &&decide (n=0) &&cG s
 else if so=9 then ho&&decide (k=0) &&decide (s= []) &&bR n 0 99
 else false
mutual
def aAi (ho:Bool) :Typ→Bool
 | .mk o n s ps=>dC o n s (List.length ps) ho&&aC3 ho ps
def aC3 (ho:Bool) :List Typ→Bool
 | [] =>true
 |t::ts=>aAi ho t&&aC3 ho ts
end
mutual
def bY :Typ→Nat
 | .mk _ _ _ ps=>cH ps+1
def cH :List Typ→Nat
 | [] =>0
 |t::ts=>bY t+cH ts
end
theorem oP :∀ts:List Typ,ts.length≤cH ts
 | [] =>by simp
 | .mk o n s ps::ts=>by have:=oP ts;simp only [cH,bY,List.length_cons];omega
theorem aEF :∀t:Typ,1≤bY t
 | .mk _ _ _ ps=>by simp only [bY];omega
def kU (t:Typ)(left:Int) :Int:=if(bY t:Int) ≤left then left-bY t else -1
def lX (ts:List Typ)(left:Int) :Int:=if left<0 then left else if(cH ts:Int) ≤left then left-cH ts else -1
theorem aFY (t:Typ)(ts:List Typ){left:Int}(h0:0≤left) :lX (t::ts) left=lX ts (kU t left) :=by
 have hp:=aEF t;unfold lX kU;rw [cH];by_cases h1: (bY t:Int) ≤left
 · rw [if_pos h1,if_neg (show ¬left<0 by omega),if_neg (show ¬left- (bY t:Int) <0 by omega)];by_cases h2: (cH ts:Int) ≤left-bY t
   · rw [if_pos h2,if_pos (by omega)];omega
   ·rw [if_neg h2,if_neg (by omega)]
 ·rw [if_neg h1,if_pos (show(-1:Int) <0 by omega),if_neg (show ¬left<0 by omega),if_neg (by omega)]
theorem aHQ (o n:Int)(s:aC)(ps:List Typ)(l0:Int)(ih:∀t∈ps,∀left:Int,0≤left→left≤1000→Pure PP 97 [Typ.av t,.int .i64 left] (.int .i64 (kU t left))) :
  ∀ (ts:List Typ) (i:Nat) (left:Int),ps.drop i=ts→ -1≤left→ (i:Int) +left≤1000→Ends PP 0 (aFW o n s ps l0 left (i:Int)).as (.ret (.int .i64 (lX ts left))) (aG [] 0)
 | [],i,left,h,h1,h2=>by
  have:=bA h;have e:lX [] left=left:=by
   unfold lX;by_cases hn:left<0
   ·rw [if_pos hn]
   · rw [if_neg hn,if_pos (by simp only [cH];omega)];simp only [cH];omega
  rw [e];exact aWv o n s ps l0 left i sd
 | .mk o' n' s' ps'::ts,i,left,h,h1,h2=>by
  obtain⟨g1,g2,g3⟩ :=aZ h;by_cases h0:0≤left
  · have hp:=aEF (.mk o' n' s' ps');rw [aFY _ _ h0];refine(aWt o n s ps l0 left i o' n' s' ps' (kU (.mk o' n' s' ps') left) sd (by simp;omega) sd sd (ih _ (List.mem_of_getElem? g1) left h0 (by omega)) sd).ends ?_;exact aHQ o n s ps l0 ih ts (i+1) _ g2 (by unfold kU;split<;>omega) (by unfold kU;split<;>omega)
  · have e:∀us,lX us left=left:=fun us=>by unfold lX;rw [if_pos (by omega)]
    rw [e];exact aWu o n s ps l0 left i sd (by simp;omega)
mutual
theorem aC4 :∀ (t:Typ) (left:Int),-1≤left→left≤1000→Pure PP 97 [Typ.av t,.int .i64 left] (.int .i64 (kU t left))
 | .mk o n s ps,left,h1,h2=>by
  have e1:bY (.mk o n s ps) =cH ps+1:=by rw [bY]
  refine aV (by kernel_rfl) (by simp [AV.keylessL,uP,AV.keyless]) rfl ?_;by_cases ha:left<1
  · have e:kU (.mk o n s ps) left= -1:=by unfold kU;rw [if_neg (by omega)]
    rw [e];exact aWr o n s ps left (by simp [ha])
  · have e:kU (.mk o n s ps) left=lX ps (left-1) :=by
     unfold kU lX;rw [if_neg (show ¬left-1<0 by omega)];by_cases hc: (cH ps:Int) ≤left-1
     ·rw [if_pos hc,if_pos (by omega)];omega
     ·rw [if_neg hc,if_neg (by omega)]
    rw [e];refine(aWs o n s ps left (by simp;omega) sd).ends ?_;exact aHQ o n s ps left (fun t ht l a b=>aK3 ps t ht l (by omega) b) ps 0 (left-1) rfl (by omega) (by omega)
theorem aK3 :∀ (ts:List Typ),∀t∈ts,∀left:Int,-1≤left→left≤1000→Pure PP 97 [Typ.av t,.int .i64 left] (.int .i64 (kU t left))
 | [],t,ht=>by cases ht
 | u::ts,t,ht=>by
  rcases List.mem_cons.1 ht with e|ht
  ·rw [e];exact fun left a b=>aC4 u left a b
  ·exact aK3 ts t ht
end
theorem bFk (t_sort t_n:Int)(t_text:aC)(t_parts:List Typ)(ho:Bool)(hl:t_parts.length<1000000)(b:Bool)(hk:∀i:Bool,i=dC t_sort t_n t_text (List.length t_parts) ho→Ends PP 0 (cU t_sort t_n t_text t_parts ho i 0).as (.ret (.bool b)) (aG [] 0)) :
  Ends PP 0 (start PP 121 [Typ.av (.mk t_sort t_n t_text t_parts),.bool ho]).as (.ret (.bool b)) (aG [] 0) :=by
 cases hb1: (t_sort== (1:Int))with
 | true=>
  cases hb2: (((List.length t_parts:Nat) :Int) == (0:Int))with
  | true=>
   cases hb3: (t_n== (0:Int))with
   | true=>
    exact LeadsM.ends (aWw t_sort t_n t_text t_parts ho   hb1 hb2 hb3) (hk _ (by clear hk;simp_all [dC,aD,aF]))
   | false=>
    exact LeadsM.ends (aWx t_sort t_n t_text t_parts ho   hb1 hb2 hb3) (hk _ (by clear hk;simp_all [dC,aD,aF]))
  | false=>
   exact LeadsM.ends (aWy t_sort t_n t_text t_parts ho   hb1 hb2) (hk _ (by clear hk;simp_all [dC,aD,aF]))
 | false =>
  cases hb4: (t_sort== (2:Int))with
  | true=>
   cases hb5: (((List.length t_parts:Nat) :Int) == (0:Int))with
   | true=>
    cases hb6: (t_n== (0:Int))with
    | true=>
     exact LeadsM.ends (aWz t_sort t_n t_text t_parts ho   hb1 hb4 hb5 hb6) (hk _ (by clear hk;simp_all [dC,aD,aF]))
    | false=>
     exact LeadsM.ends (aWA t_sort t_n t_text t_parts ho   hb1 hb4 hb5 hb6) (hk _ (by clear hk;simp_all [dC,aD,aF]))
   | false=>
    exact LeadsM.ends (aWB t_sort t_n t_text t_parts ho   hb1 hb4 hb5) (hk _ (by clear hk;simp_all [dC,aD,aF]))
  | false =>
   cases hb7: (t_sort== (3:Int))with
   | true=>
    cases hb8: (((List.length t_parts:Nat) :Int) == (0:Int))with
    | true=>
     cases hb9: (t_n== (0:Int))with
     | true=>
      exact LeadsM.ends (aWC t_sort t_n t_text t_parts ho   hb1 hb4 hb7 hb8 hb9) (hk _ (by clear hk;simp_all [dC,aD,aF]))
     | false=>
      exact LeadsM.ends (aWD t_sort t_n t_text t_parts ho   hb1 hb4 hb7 hb8 hb9) (hk _ (by clear hk;simp_all [dC,aD,aF]))
    | false=>
     exact LeadsM.ends (aWE t_sort t_n t_text t_parts ho   hb1 hb4 hb7 hb8) (hk _ (by clear hk;simp_all [dC,aD,aF]))
   | false =>
    cases hb10: (t_sort== (4:Int))with
    | true=>
     cases hb11: (((List.length t_parts:Nat) :Int) == (2:Int))with
     | true=>
      cases hb12: (t_n== (0:Int))with
      | true=>
       exact LeadsM.ends (aWF t_sort t_n t_text t_parts ho   hb1 hb4 hb7 hb10 hb11 hb12) (hk _ (by clear hk;simp_all [dC,aD,aF]))
      | false=>
       exact LeadsM.ends (aRd t_sort t_n t_text t_parts ho   hb1 hb4 hb7 hb10 hb11 hb12) (hk _ (by clear hk;simp_all [dC,aD,aF]))
     | false=>
      exact LeadsM.ends (aRe t_sort t_n t_text t_parts ho   hb1 hb4 hb7 hb10 hb11) (hk _ (by clear hk;simp_all [dC,aD,aF]))
    | false =>
     cases hb13: (t_sort== (5:Int))with
     | true=>
      cases hb14: (((List.length t_parts:Nat) :Int) == (1:Int))with
      | true=>
       cases hb15: (t_n== (0:Int))with
       | true=>
        exact LeadsM.ends (aRf t_sort t_n t_text t_parts ho   hb1 hb4 hb7 hb10 hb13 hb14 hb15) (hk _ (by clear hk;simp_all [dC,aD,aF]))
       | false=>
        exact LeadsM.ends (aRg t_sort t_n t_text t_parts ho   hb1 hb4 hb7 hb10 hb13 hb14 hb15) (hk _ (by clear hk;simp_all [dC,aD,aF]))
      | false=>
       exact LeadsM.ends (aRh t_sort t_n t_text t_parts ho   hb1 hb4 hb7 hb10 hb13 hb14) (hk _ (by clear hk;simp_all [dC,aD,aF]))
     | false =>
      cases hb16: (t_sort== (6:Int))with
      | true=>
       cases hb17: (((List.length t_parts:Nat) :Int) == (1:Int))with
       | true=>
        cases hb18: (t_n== (0:Int))with
        | true=>
         exact LeadsM.ends (aRi t_sort t_n t_text t_parts ho   hb1 hb4 hb7 hb10 hb13 hb16 hb17 hb18) (hk _ (by clear hk;simp_all [dC,aD,aF]))
        | false=>
         exact LeadsM.ends (aRj t_sort t_n t_text t_parts ho   hb1 hb4 hb7 hb10 hb13 hb16 hb17 hb18) (hk _ (by clear hk;simp_all [dC,aD,aF]))
       | false=>
        exact LeadsM.ends (aRk t_sort t_n t_text t_parts ho   hb1 hb4 hb7 hb10 hb13 hb16 hb17) (hk _ (by clear hk;simp_all [dC,aD,aF]))
      | false =>
       cases hb19: (t_sort== (7:Int))with
       | true=>
        cases hb20: (((List.length t_parts:Nat) :Int) == (1:Int))with
        | true=>
         cases hb21: (t_n== (0:Int))with
         | true=>
          exact LeadsM.ends (aRl t_sort t_n t_text t_parts ho   hb1 hb4 hb7 hb10 hb13 hb16 hb19 hb20 hb21) (hk _ (by clear hk;simp_all [dC,aD,aF]))
         | false=>
          exact LeadsM.ends (aRm t_sort t_n t_text t_parts ho   hb1 hb4 hb7 hb10 hb13 hb16 hb19 hb20 hb21) (hk _ (by clear hk;simp_all [dC,aD,aF]))
        | false=>
         exact LeadsM.ends (aRn t_sort t_n t_text t_parts ho   hb1 hb4 hb7 hb10 hb13 hb16 hb19 hb20) (hk _ (by clear hk;simp_all [dC,aD,aF]))
       | false=>
        cases hb22: (t_sort== (8:Int))with
        | true=>
         cases hb23: (((List.length t_parts:Nat) :Int) == (0:Int))with
         | true=>
          cases hb24: (t_n== (0:Int))with
          | true=>
           exact LeadsM.ends (aRo t_sort t_n t_text t_parts ho  (cG t_text) hb1 hb4 hb7 hb10 hb13 hb16 hb19 hb22 hb23 hb24 (mC t_text)) (hk _ (by clear hk;simp_all [dC,aD,aF]))
          | false=>
           exact LeadsM.ends (aRp t_sort t_n t_text t_parts ho   hb1 hb4 hb7 hb10 hb13 hb16 hb19 hb22 hb23 hb24) (hk _ (by clear hk;simp_all [dC,aD,aF]))
         | false=>
          exact LeadsM.ends (aRq t_sort t_n t_text t_parts ho   hb1 hb4 hb7 hb10 hb13 hb16 hb19 hb22 hb23) (hk _ (by clear hk;simp_all [dC,aD,aF]))
        | false=>
         cases hb25: (t_sort== (9:Int))with
         | true=>
          cases ho with
          | true=>
           cases hb26: (((List.length t_parts:Nat) :Int) == (0:Int))with
           | true=>
            cases hb27: (aU (List.length t_text) (aE t_text) 0 0)with
            | true=>
             exact LeadsM.ends (aRr t_sort t_n t_text t_parts true  (bR t_n 0 99) hb1 hb4 hb7 hb10 hb13 hb16 hb19 hb22 hb25 rfl hb26 hb27 (fZ t_n 0 99)) (hk _ (by clear hk;simp_all [dC,aD,aF]))
            | false=>
             exact LeadsM.ends (aRs t_sort t_n t_text t_parts true   hb1 hb4 hb7 hb10 hb13 hb16 hb19 hb22 hb25 rfl hb26 hb27) (hk _ (by clear hk;simp_all [dC,aD,aF]))
           | false=>
            exact LeadsM.ends (aRt t_sort t_n t_text t_parts true   hb1 hb4 hb7 hb10 hb13 hb16 hb19 hb22 hb25 rfl hb26) (hk _ (by clear hk;simp_all [dC,aD,aF]))
          | false=>
           exact LeadsM.ends (aRu t_sort t_n t_text t_parts false   hb1 hb4 hb7 hb10 hb13 hb16 hb19 hb22 hb25 rfl) (hk _ (by clear hk;simp_all [dC,aD,aF]))
         | false=>
          exact LeadsM.ends (aRv t_sort t_n t_text t_parts ho   hb1 hb4 hb7 hb10 hb13 hb16 hb19 hb22 hb25) (hk _ (by clear hk;simp_all [dC,aD,aF]))
theorem aHR (o n:Int)(s:aC)(ps:List Typ)(ho:Bool)(hl:ps.length<1000000)(ih:∀t∈ps,Pure PP 121 [Typ.av t,.bool ho] (.bool (aAi ho t))) :
  ∀ (ts:List Typ) (i:Nat) (b:Bool),ps.drop i=ts→Ends PP 0 (cU o n s ps ho b (i:Int)).as (.ret (.bool (b&&aC3 ho ts))) (aG [] 0)
 | [],i,b,h=>by
  have:=bA h;exact Ends.eqv (aWI o n s ps ho b i sd) (by simp [aC3])
 | .mk o' n' s' ps'::ts,i,b,h=>by
  obtain⟨g1,g2,g3⟩ :=aZ h;cases b with
  |false=>exact Ends.eqv (aWH o n s ps ho false i sd rfl) (by simp)
  | true=>
   refine(aWG o n s ps ho true i o' n' s' ps' (aAi ho (.mk o' n' s' ps')) sd rfl sd sd (ih _ (List.mem_of_getElem? g1)) sd).ends ?_;exact Ends.eqv (aHR o n s ps ho hl ih ts (i+1) _ g2) (by simp [aC3])
mutual
theorem aHS (ho:Bool) :∀ (t:Typ),bY t<1000000→Pure PP 121 [Typ.av t,.bool ho] (.bool (aAi ho t))
 | .mk o n s ps,hf=>by
  refine aV (by kernel_rfl) (by simp [AV.keylessL,uP,AV.keyless]) rfl ?_;simp only [bY]at hf;have:=oP ps;refine bFk o n s ps ho (by omega) _ (fun i hi=>?_);rw [hi,aAi];exact aHR o n s ps ho (by omega) (aK4 ho ps (by omega)) ps 0 _ rfl
theorem aK4 (ho:Bool) :∀ (ts:List Typ),cH ts<1000000→∀t∈ts,Pure PP 121 [Typ.av t,.bool ho] (.bool (aAi ho t))
 | [],_,t,ht=>by cases ht
 | u::ts,hf,t,ht=>by
  simp only [cH]at hf;rcases List.mem_cons.1 ht with e|ht
  ·rw [e];exact aHS ho u (by omega)
  ·exact aK4 ho ts (by omega) t ht
end
def uY (t:Typ) :Bool:=decide (bY t≤12) &&aAi false t
theorem aC5 (t:Typ) :Pure PP 62 [Typ.av t] (.bool (uY t)) :=by
 have hw:=aC4 t 12 (by omega) (by omega);unfold uY;unfold kU at hw;obtain⟨o,n,s,ps⟩ :=t;refine aV (by kernel_rfl) (by simp [AV.keylessL,uP]) rfl ?_;by_cases h:bY (.mk o n s ps) ≤12
 · rw [if_pos (by omega)]at hw;exact Ends.eqv (aWJ o n s ps _ _ hw (by simp;omega) (aHS false (.mk o n s ps) (by omega))) (by simp [h])
 · rw [if_neg (by omega)]at hw;exact Ends.eqv (aWK o n s ps _ hw (by simp)) (by simp [h])
mutual
def xX :Typ→Bool
 | .mk _ _ s ps=>aAj ps&&decide (((List.length s:Nat) :Int) ≤30)
def aAj :List Typ→Bool
 | [] =>true
 |t::ts=>xX t&&aAj ts
end
theorem aHT (o n:Int)(s:aC)(ps:List Typ)(hl:ps.length<1000000)(ih:∀t∈ps,Pure PP 98 [Typ.av t] (.bool (xX t))) :
  ∀ (ts:List Typ) (i:Nat),ps.drop i=ts→Ends PP 0 (aFX o n s ps (i:Int)).as (.ret (.bool (aAj ts&&decide (((List.length s:Nat) :Int) ≤30)))) (aG [] 0)
 | [],i,h=>by
  have:=bA h;exact Ends.eqv (aWO o n s ps i sd) (by simp [aAj])
 | .mk o' n' s' ps'::ts,i,h=>by
  obtain⟨g1,g2,g3⟩ :=aZ h;have hp:=ih _ (List.mem_of_getElem? g1);rw [aAj];cases hb:xX (.mk o' n' s' ps')with
  | true=>
   rw [hb]at hp;exact(aWN o n s ps i o' n' s' ps' true sd sd sd hp rfl sd).ends (Ends.eqv (aHT o n s ps hl ih ts (i+1) g2) (by simp))
  | false=>
   rw [hb]at hp;exact Ends.eqv (aWM o n s ps i o' n' s' ps' false sd sd sd hp rfl) (by simp)
mutual
theorem aHU :∀ (t:Typ),bY t<1000000→Pure PP 98 [Typ.av t] (.bool (xX t))
 | .mk o n s ps,hf=>by
  refine aV (by kernel_rfl) (by simp [AV.keylessL,uP]) rfl ?_;simp only [bY]at hf;have:=oP ps;rw [xX];exact(aWL o n s ps).ends (aHT o n s ps (by omega) (aK5 ps (by omega)) ps 0 rfl)
theorem aK5 :∀ (ts:List Typ),cH ts<1000000→∀t∈ts,Pure PP 98 [Typ.av t] (.bool (xX t))
 | [],_,t,ht=>by cases ht
 | u::ts,hf,t,ht=>by
  simp only [cH]at hf;rcases List.mem_cons.1 ht with e|ht
  ·rw [e];exact aHU u (by omega)
  ·exact aK5 ts (by omega) t ht
end
def oQ (t:Typ) :Bool:=decide (bY t≤16) &&xX t
def pY (so:Int) :Int:=if so=4 then 2 else if so=5∨so=6∨so=7 then 1 else 0
def eY (so n:Int)(s:aC)(ho:Bool) :Bool:=
 if so=1∨so=2∨so=3∨so=4∨so=5∨so=6∨so=7 then true else if so=8 then cG s else if so=9 then ho&&bR n 0 99 else false
def fY (pv so n:Int)(s:aC)(k:Int) :Bool:=decide (k=pv) && (decide (so=9) ||decide (n=0)) && (decide (so=8) ||decide (s= []))
theorem aMP (so n:Int)(s:aC)(k:Int)(ho:Bool) :dC so n s k ho= (eY so n s ho&&fY (pY so) so n s k) :=by
 by_cases h1:so=1
 · subst h1;simp [dC,eY,fY,pY,Bool.and_assoc,Bool.and_comm,Bool.and_left_comm]
 by_cases h2:so=2
 · subst h2;simp [dC,eY,fY,pY,Bool.and_assoc,Bool.and_comm,Bool.and_left_comm]
 by_cases h3:so=3
 · subst h3;simp [dC,eY,fY,pY,Bool.and_assoc,Bool.and_comm,Bool.and_left_comm]
 by_cases h4:so=4
 · subst h4;simp [dC,eY,fY,pY,Bool.and_assoc,Bool.and_comm,Bool.and_left_comm]
 by_cases h5:so=5
 · subst h5;simp [dC,eY,fY,pY,Bool.and_assoc,Bool.and_comm,Bool.and_left_comm]
 by_cases h6:so=6
 · subst h6;simp [dC,eY,fY,pY,Bool.and_assoc,Bool.and_comm,Bool.and_left_comm]
 by_cases h7:so=7
 · subst h7;simp [dC,eY,fY,pY,Bool.and_assoc,Bool.and_comm,Bool.and_left_comm]
 by_cases h8:so=8
 · subst h8;simp [dC,eY,fY,pY,Bool.and_assoc,Bool.and_comm,Bool.and_left_comm]
 by_cases h9:so=9
 · subst h9;simp [dC,eY,fY,pY,Bool.and_assoc,Bool.and_comm,Bool.and_left_comm]
 simp [dC,eY,h1,h2,h3,h4,h5,h6,h7,h8,h9]
theorem bEa (t_sort t_n:Int)(t_text:aC)(t_parts:List Typ)(ho:Bool)(b:Bool)(hno:eY t_sort t_n t_text ho=false→b=false)(hk:∀pv,eY t_sort t_n t_text ho=true→pv=pY t_sort→Ends PP 0 (mX t_sort t_n t_text t_parts ho pv).as (kE b) (aG [] 0)) :
  Ends PP 0 (aRy t_sort t_n t_text t_parts ho).as (kE b) (aG [] 0) :=by
 cases hb1: (t_sort== (1:Int))with
 | true=>
  exact LeadsM.ends (aWR t_sort t_n t_text t_parts ho   hb1) (hk _ (by clear hno hk;simp_all [eY,pY,bR] <;>omega) (by clear hno hk;simp_all [eY,pY,bR] <;>omega))
 | false =>
  cases hb2: (t_sort== (2:Int))with
  | true=>
   exact LeadsM.ends (aWS t_sort t_n t_text t_parts ho   hb1 hb2) (hk _ (by clear hno hk;simp_all [eY,pY,bR] <;>omega) (by clear hno hk;simp_all [eY,pY,bR] <;>omega))
  | false =>
   cases hb3: (t_sort== (3:Int))with
   | true=>
    exact LeadsM.ends (aWT t_sort t_n t_text t_parts ho   hb1 hb2 hb3) (hk _ (by clear hno hk;simp_all [eY,pY,bR] <;>omega) (by clear hno hk;simp_all [eY,pY,bR] <;>omega))
   | false =>
    cases hb4: (t_sort== (4:Int))with
    | true=>
     exact LeadsM.ends (aWU t_sort t_n t_text t_parts ho   hb1 hb2 hb3 hb4) (hk _ (by clear hno hk;simp_all [eY,pY,bR] <;>omega) (by clear hno hk;simp_all [eY,pY,bR] <;>omega))
    | false =>
     cases hb5: (t_sort== (5:Int))with
     | true=>
      exact LeadsM.ends (aWV t_sort t_n t_text t_parts ho   hb1 hb2 hb3 hb4 hb5) (hk _ (by clear hno hk;simp_all [eY,pY,bR] <;>omega) (by clear hno hk;simp_all [eY,pY,bR] <;>omega))
     | false =>
      cases hb6: (t_sort== (6:Int))with
      | true=>
       exact LeadsM.ends (aWW t_sort t_n t_text t_parts ho   hb1 hb2 hb3 hb4 hb5 hb6) (hk _ (by clear hno hk;simp_all [eY,pY,bR] <;>omega) (by clear hno hk;simp_all [eY,pY,bR] <;>omega))
      | false =>
       cases hb7: (t_sort== (7:Int))with
       | true=>
        exact LeadsM.ends (aWX t_sort t_n t_text t_parts ho   hb1 hb2 hb3 hb4 hb5 hb6 hb7) (hk _ (by clear hno hk;simp_all [eY,pY,bR] <;>omega) (by clear hno hk;simp_all [eY,pY,bR] <;>omega))
       | false=>
        cases hb8: (t_sort== (8:Int))with
        | true=>
         cases hb9: (!(cG t_text))with
         | true=>
          rw [hno (by clear hno hk;simp_all [eY,pY,bR] <;>omega)];exact aWY t_sort t_n t_text t_parts ho  (cG t_text) hb1 hb2 hb3 hb4 hb5 hb6 hb7 hb8 (gC t_text) hb9
         | false=>
          exact LeadsM.ends (aWZ t_sort t_n t_text t_parts ho  (cG t_text) hb1 hb2 hb3 hb4 hb5 hb6 hb7 hb8 (gC t_text) hb9) (hk _ (by clear hno hk;simp_all [eY,pY,bR] <;>omega) (by clear hno hk;simp_all [eY,pY,bR] <;>omega))
        | false=>
         cases hb10: (t_sort== (9:Int))with
         | true=>
          cases ho with
          | true=>
           cases hb11: (decide (t_n≥ (0:Int)))with
           | true=>
            cases hb12: (!(decide (t_n≤ (99:Int))))with
            | true=>
             rw [hno (by clear hno hk;simp_all [eY,pY,bR] <;>omega)];exact aW0 t_sort t_n t_text t_parts true   hb1 hb2 hb3 hb4 hb5 hb6 hb7 hb8 hb10 rfl hb11 hb12
            | false=>
             exact LeadsM.ends (aRA t_sort t_n t_text t_parts true   hb1 hb2 hb3 hb4 hb5 hb6 hb7 hb8 hb10 rfl hb11 hb12) (hk _ (by clear hno hk;simp_all [eY,pY,bR] <;>omega) (by clear hno hk;simp_all [eY,pY,bR] <;>omega))
           | false=>
            rw [hno (by clear hno hk;simp_all [eY,pY,bR] <;>omega)];exact aRB t_sort t_n t_text t_parts true   hb1 hb2 hb3 hb4 hb5 hb6 hb7 hb8 hb10 rfl hb11
          | false=>
           rw [hno (by clear hno hk;simp_all [eY,pY,bR] <;>omega)];exact aRC t_sort t_n t_text t_parts false   hb1 hb2 hb3 hb4 hb5 hb6 hb7 hb8 hb10 rfl
         | false=>
          rw [hno (by clear hno hk;simp_all [eY,pY,bR] <;>omega)];exact aRD t_sort t_n t_text t_parts ho   hb1 hb2 hb3 hb4 hb5 hb6 hb7 hb8 hb10
theorem bFl (t_sort t_n:Int)(t_text:aC)(t_parts:List Typ)(ho:Bool)(parts4:Int)(b:Bool)(hno:fY parts4 t_sort t_n t_text (List.length t_parts) =false→b=false)(hk:fY parts4 t_sort t_n t_text (List.length t_parts) =true→Ends PP 0 (uX t_sort t_n t_text t_parts ho 0).as (kE b) (aG [] 0)) :
  Ends PP 0 (mX t_sort t_n t_text t_parts ho parts4).as (kE b) (aG [] 0) :=by
 cases hb1: (((List.length t_parts:Nat) :Int) ==parts4)with
 | true=>
  cases hb2: (t_sort== (9:Int))with
  | true=>
   cases hb3: (t_sort== (8:Int))with
   | true=>
    exact LeadsM.ends (aW1 t_sort t_n t_text t_parts ho parts4  hb1 hb2 hb3) (hk (by clear hno hk;simp_all [fY,aD,aF]))
   | false=>
    cases hb4: (!(aU (List.length t_text) (aE t_text) 0 0))with
    | true=>
     rw [hno (by clear hno hk;simp_all [fY,aD,aF])];exact aW2 t_sort t_n t_text t_parts ho parts4  hb1 hb2 hb3 hb4
    | false=>
     exact LeadsM.ends (aW3 t_sort t_n t_text t_parts ho parts4  hb1 hb2 hb3 hb4) (hk (by clear hno hk;simp_all [fY,aD,aF]))
  | false=>
   cases hb5: (t_n== (0:Int))with
   | true=>
    cases hb6: (t_sort== (8:Int))with
    | true=>
     exact LeadsM.ends (aW4 t_sort t_n t_text t_parts ho parts4  hb1 hb2 hb5 hb6) (hk (by clear hno hk;simp_all [fY,aD,aF]))
    | false=>
     cases hb7: (!(aU (List.length t_text) (aE t_text) 0 0))with
     | true=>
      rw [hno (by clear hno hk;simp_all [fY,aD,aF])];exact aW5 t_sort t_n t_text t_parts ho parts4  hb1 hb2 hb5 hb6 hb7
     | false=>
      exact LeadsM.ends (aW6 t_sort t_n t_text t_parts ho parts4  hb1 hb2 hb5 hb6 hb7) (hk (by clear hno hk;simp_all [fY,aD,aF]))
   | false=>
    rw [hno (by clear hno hk;simp_all [fY,aD,aF])];exact aW7 t_sort t_n t_text t_parts ho parts4  hb1 hb2 hb5
 | false=>
  rw [hno (by clear hno hk;simp_all [fY,aD,aF])];exact aW8 t_sort t_n t_text t_parts ho parts4  hb1
end
end Go.Hb
namespace Go.Hb
open Go.Proofs
set_option maxHeartbeats 4000000
noncomputable section
theorem aC6 (t:Typ) :Pure PP 35 [Typ.av t] (.bool (oQ t)) :=by
 have hw:=aC4 t 16 (by omega) (by omega);unfold oQ;unfold kU at hw;obtain⟨o,n,s,ps⟩ :=t;refine aV (by kernel_rfl) (by simp [AV.keylessL,uP]) rfl ?_;by_cases h:bY (.mk o n s ps) ≤16
 · rw [if_pos (by omega)]at hw;exact Ends.eqv (aWP o n s ps _ _ hw (by simp;omega) (aHU (.mk o n s ps) (by omega))) (by simp [h])
 · rw [if_neg (by omega)]at hw;exact Ends.eqv (aWQ o n s ps _ hw (by simp)) (by simp [h])
theorem aHV (o n:Int)(s:aC)(ps:List Typ)(ho:Bool)(hl:ps.length<1000000)(ih:∀t∈ps,POT 267 [Typ.av t,.bool ho] (aAi ho t)) :
  ∀ (ts:List Typ) (i:Nat),ps.drop i=ts→Ends PP 0 (uX o n s ps ho (i:Int)).as (kE (aC3 ho ts)) (aG [] 0)
 | [],i,h=>by
  have:=bA h;exact aXb o n s ps ho i sd
 | .mk o' n' s' ps'::ts,i,h=>by
  obtain⟨g1,g2,g3⟩ :=aZ h;have hp:=ih _ (List.mem_of_getElem? g1);rw [aC3];cases hb:aAi ho (.mk o' n' s' ps')with
  | true=>
   rw [hb]at hp;rw [Bool.true_and];exact(aXa o n s ps ho i o' n' s' ps' sd sd sd hp sd).ends (aHV o n s ps ho hl ih ts (i+1) g2)
  | false=>
   rw [hb]at hp;rw [Bool.false_and];exact aW9 o n s ps ho i o' n' s' ps' sd sd sd hp
mutual
theorem aK6 (ho:Bool) :∀ (t:Typ),bY t<1000000→POT 267 [Typ.av t,.bool ho] (aAi ho t)
 | .mk o n s ps,hf=>by
  simp only [bY]at hf;have:=oP ps;refine aJR (s:=aRy o n s ps ho) (by kernel_rfl) (by kernel_rfl) (by simp [AV.keylessL,uP,AV.keyless]) ?_;rw [aAi,aMP];refine bEa o n s ps ho _ (fun h=>by rw [h];simp) (fun pv he hp=>?_);subst hp;rw [he];refine bFl o n s ps ho _ _ (fun h=>by rw [h];simp) (fun h=>?_);rw [h,Bool.true_and,Bool.true_and];exact aHV o n s ps ho (by omega) (aK7 ho ps (by omega)) ps 0 rfl
theorem aK7 (ho:Bool) :∀ (ts:List Typ),cH ts<1000000→∀t∈ts,POT 267 [Typ.av t,.bool ho] (aAi ho t)
 | [],_,t,ht=>by cases ht
 | u::ts,hf,t,ht=>by
  simp only [cH]at hf;rcases List.mem_cons.1 ht with e|ht
  ·rw [e];exact aK6 ho u (by omega)
  ·exact aK7 ho ts (by omega) t ht
end
def GKS (p:Typ)(a b:Int) :Prop:=Spec PP (.enter 266 [.ptr 0 0,Typ.av p]) (aG [(0,GC a b,false)] 1) (kE (oV (bY p) a)) (aG [(0,GC (dF (bY p) a) b,false)] 1)
theorem aK8 (a b f n:Int)(s:aC)(ps:List Typ)(hl:ps.length<1000000)(ih:∀p∈ps,∀a,0≤a→a≤1000→GKS p a b) :∀ (t:List Typ) (i:Nat) (c:Int),ps.drop i=t→0≤c→c≤1000 →
  Ends PP 1 (aK2 a b f n s ps (i:Int) c).as (kE (oV (cH t) c)) (aG [(0,GC (dF (cH t) c) b,false)] 1)
 | [],i,c,h,h0,h1=>by
  have:=bA h;have e1:oV (cH []) c=true:=by simp [oV,cH,h0]
  have e2:dF (cH []) c=c:=by simp [dF,cH,h0]
  rw [e1,e2];exact bD9 a b f n s ps i c sd
 | .mk f' n' s' ps'::t,i,c,h,h0,h1=>by
  obtain⟨g1,g2,g3⟩ :=aZ h;have hs:=ih _ (List.mem_of_getElem? g1) c h0 h1;unfold GKS at hs;by_cases hc: (bY (.mk f' n' s' ps') :Int) ≤c
  · have e1:oV (bY (.mk f' n' s' ps')) c=true:=by simp [oV,hc]
    have e2:dF (bY (.mk f' n' s' ps')) c=c-bY (.mk f' n' s' ps') :=by simp [dF,hc]
    rw [e1,e2]at hs;have r1:oV (cH (.mk f' n' s' ps'::t)) c=oV (cH t) (c-bY (.mk f' n' s' ps')) :=by
     unfold oV;rw [cH];congr 1;apply propext;omega
    have r2:dF (cH (.mk f' n' s' ps'::t)) c=dF (cH t) (c-bY (.mk f' n' s' ps')) :=by
     unfold dF;rw [cH];split<;>split<;>omega
    rw [r1,r2];refine(bD8 a b f n s ps i c f' n' s' ps' (c-bY (.mk f' n' s' ps')) sd sd sd (cI (ks:=[0]) hs (by kernel_rfl) (eW true) (by kernel_rfl) (by kernel_rfl) trivial (by kernel_rfl) trivial (by kernel_rfl) (by kernel_rfl) (by kernel_rfl) (by kernel_rfl) (by kernel_rfl) (by kernel_rfl) (by kernel_rfl) (by kernel_rfl)) sd).ends ?_;exact aK8 a b f n s ps hl ih t (i+1) _ g2 (by omega) (by omega)
  · have e1:oV (bY (.mk f' n' s' ps')) c=false:=by simp only [oV];exact decide_eq_false hc
    have e2:dF (bY (.mk f' n' s' ps')) c= -1:=by unfold dF;rw [if_neg hc]
    rw [e1,e2]at hs;have r1:oV (cH (.mk f' n' s' ps'::t)) c=false:=by simp only [oV,cH];exact decide_eq_false (by omega)
    have r2:dF (cH (.mk f' n' s' ps'::t)) c= -1:=by unfold dF;rw [cH,if_neg (by omega)]
    rw [r1,r2];exact bD7 a b f n s ps i c f' n' s' ps' (-1) sd sd sd (cI (ks:=[0]) hs (by kernel_rfl) (eW false) (by kernel_rfl) (by kernel_rfl) trivial (by kernel_rfl) trivial (by kernel_rfl) (by kernel_rfl) (by kernel_rfl) (by kernel_rfl) (by kernel_rfl) (by kernel_rfl) (by kernel_rfl) (by kernel_rfl))
mutual
theorem aK9 (b:Int)(hb:0≤b) :∀ (p:Typ) (a:Int),0≤a→a≤1000→bY p<1000000→GKS p a b
 | .mk f n s ps,a,h0,h1,hp=>by
  simp only [bY]at hp;have:=oP ps;refine⟨(bD4 a b f n s ps).as.fr,by kernel_rfl,?_⟩;have E:Ends PP 1 (bD4 a b f n s ps).as (kE (oV (bY (.mk f n s ps)) a)) (aG [(0,GC (dF (bY (.mk f n s ps)) a) b,false)] 1) :=by
   by_cases ha:1≤a
   · have r1:oV (bY (.mk f n s ps)) a=oV (cH ps) (a-1) :=by
      unfold oV;rw [bY];congr 1;apply propext;omega
     have r2:dF (bY (.mk f n s ps)) a=dF (cH ps) (a-1) :=by
      unfold dF;rw [bY];split<;>split<;>omega
     rw [r1,r2];exact(bD5 a b f n s ps sd (by simp;omega) (by simp;omega)).ends (aK8 a b f n s ps (by omega) (fun p hp a h0 h1=>aRG b hb ps (by omega) p hp a h0 h1) ps 0 (a-1) rfl (by omega) (by omega))
   · obtain rfl:a=0:=by omega
     have r1:oV (bY (.mk f n s ps)) 0=false:=by simp only [oV,bY];exact decide_eq_false (by omega)
     have r2:dF (bY (.mk f n s ps)) 0=0-1:=by unfold dF;rw [bY,if_neg (by omega)];rfl
     rw [r1,r2];exact bD6 0 b f n s ps sd (by simp)
  exact Eq.mp (by kernel_rfl) E
theorem aRG (b:Int)(hb:0≤b) :∀ (ps:List Typ),cH ps<1000000→∀p∈ps,∀a,0≤a→a≤1000→GKS p a b
 | [],_,p,hp=>by cases hp
 | q::ps,h,p,hp=>by
  simp only [cH]at h;rcases List.mem_cons.1 hp with e|hp
  ·rw [e];exact fun a h0 h1=>aK9 b hb q a h0 h1 (by omega)
  ·exact aRG b hb ps (by omega) p hp
end
theorem aC7 (t:Typ)(hf:bY t<1000000) :Pure PP 183 [Typ.av t] (.bool (uY t)) :=by
 have hg:=aK9 0 (by omega) t 12 (by omega) (by omega) hf;have hs:=aK6 false t hf;unfold GKS at hg;have e:uY t= (oV (bY t) 12&&aAi false t) :=by
  unfold uY oV;congr 2;apply propext;omega
 rw [e];obtain⟨o,n,s,ps⟩ :=t;refine cB (s:=bCl o n s ps) (by kernel_rfl) (by kernel_rfl) (by simp [AV.keylessL,uP]) (by simp [AV.keyless]) ?_;generalize dF (bY (.mk o n s ps)) 12=z at hg;cases hb:oV (bY (.mk o n s ps)) 12 with
 | false=>
  rw [hb]at hg;rw [Bool.false_and];exact aXc o n s ps z (cI (ks:=[4]) hg (by kernel_rfl) (eW false) (by kernel_rfl) (by kernel_rfl) trivial (by kernel_rfl) trivial (by kernel_rfl) (by kernel_rfl) (by kernel_rfl) (by kernel_rfl) (by kernel_rfl) (by kernel_rfl) (by kernel_rfl) (by kernel_rfl))
 | true=>
  rw [hb]at hg;rw [Bool.true_and];cases hF:aAi false (.mk o n s ps)with
  | true=>
   rw [hF]at hs;exact aXe o n s ps z (cI (ks:=[4]) hg (by kernel_rfl) (eW true) (by kernel_rfl) (by kernel_rfl) trivial (by kernel_rfl) trivial (by kernel_rfl) (by kernel_rfl) (by kernel_rfl) (by kernel_rfl) (by kernel_rfl) (by kernel_rfl) (by kernel_rfl) (by kernel_rfl)) hs
  | false=>
   rw [hF]at hs;exact aXd o n s ps z (cI (ks:=[4]) hg (by kernel_rfl) (eW true) (by kernel_rfl) (by kernel_rfl) trivial (by kernel_rfl) trivial (by kernel_rfl) (by kernel_rfl) (by kernel_rfl) (by kernel_rfl) (by kernel_rfl) (by kernel_rfl) (by kernel_rfl) (by kernel_rfl)) hs
end
end Go.Hb
