/-
  OWN WORK (H13, V39, V104, H34, H35, V107, V108, H36, H37, V109, V110): a machine on abstract values, its soundness, ways through the text (the ways WRITTEN BY A PROGRAM), plain laws.
-/
import Derived.Test.YtabmpnmmkeieiaaGreatHF
import Derived.Test.YtabmpnmmkeieiaaGreatHG
import Derived.Test.YtabmpnmmkeieiaaGreatHH
import Derived.Test.YtabmpnmmkeieiaaGreatHI
set_option linter.defProp false
set_option linter.unusedVariables false
set_option linter.unusedSimpArgs false
set_option linter.unusedSectionVars false
set_option maxRecDepth 100000
namespace Go.Hb
open Go.Proofs
noncomputable section
open Go.Proofs Tryz
end
end Go.Hb
namespace Go.Hb
open Go.Proofs
set_option maxHeartbeats 2000000
noncomputable section
theorem aKu {α β:Type}[DecidableEq α](k k':α)(v:β) :∀ (l:List (α×β)),iU k (fB k' v l) =if k=k' then some v else iU k l
 | [] =>by simp [fB,iU]
 | e ::l=>by
  simp only [fB];split
  · rename_i h;subst h;simp only [iU];split<;>rfl
  · rename_i h;simp only [iU,aKu k k' v l];by_cases h1:k=e.1
    · subst h1;rw [if_pos rfl,if_pos rfl,if_neg (fun e=>h e.symm)]
    ·rw [if_neg h1,if_neg h1]
theorem aQV {P:Program}{m:Nat}{s:AS}{v v':AV}{h':Hp}(h:Ends P m s (.ret v) h')(hv:∀ (E:Emb) (cv:Value),VR E v cv→VR E v' cv) :Ends P m s (.ret v') h':=fun hm E fr ccs w f fs r cl base=>by
 obtain⟨cl',w',E',s1,⟨cv,rfl,g2⟩,r2,x2⟩ :=h hm E fr ccs w f fs r cl base;exact⟨_,w',E',s1,⟨cv,rfl,hv E' cv g2⟩,r2,x2⟩
theorem aHT {E:Emb}{e:Nat}{xs:List AV}{cv:Value}(h:VR E (.ilst e xs true) cv) :VR E (.ilst e xs false) cv:=by
 simp only [VR]at h ⊢;obtain⟨vs,h1,h2,h3⟩ :=h;refine⟨vs,h1,h2,?_⟩;rcases h3 with⟨rfl,a,cap,rfl,g,_⟩ | ⟨k,a,cap,C,g1,g2,g3,_,g5⟩
 ·exact .inl ⟨rfl,a,cap,rfl,g,fun hh=>by cases hh⟩
 ·exact .inr ⟨k,a,cap,C,g1,g2,g3,(fun hh=>by cases hh),g5⟩
section
variable {p :Prog}
end
end
end Go.Hb
namespace Go.Hb
open Go.Proofs
set_option maxHeartbeats 4000000
noncomputable section
abbrev FL :List (AV×Bool) :=[((.iface 299 (.agg [])),false)]
abbrev kQ (b:Bool) :Res:=bif b then .ret (.tup [])else .pan FL
theorem fA :∀b,aN7 (kQ b)
 |true=>rfl
 | false=>by
  intro x hx;rw [List.mem_singleton.1 hx];rfl
abbrev GC (a b:Int) :AObj:=.cells (putCells .leaf 0 [.int .i64 a,.int .i64 b]) 2 [] false
def qC (n:Nat)(a:Int) :Bool:=decide ((n:Int) ≤a)
def dN (n:Nat)(a:Int) :Int:=if(n:Int) ≤a then a-n else -1
def aKv (p:Pat)(a b:Int) :Prop:=Spec PP (.enter 269 [.ptr 0 0,Pat.av p]) (aG [(0,GC a b,false)] 1) (kQ (qC (aP p) a)) (aG [(0,GC (dN (aP p) a) b,false)] 1)
theorem aOo (a b f n:Int)(s:aE)(ps:List Pat)(hl:ps.length<1000000)(ih:∀p∈ps,∀a,0≤a→a≤1000→aKv p a b) :∀ (t:List Pat) (i:Nat) (c:Int),ps.drop i=t→0≤c→c≤1000 →
  Ends PP 1 (aOg a b f n s ps (i:Int) c).as (kQ (qC (aK t) c)) (aG [(0,GC (dN (aK t) c) b,false)] 1)
 | [],i,c,h,h0,h1=>by
  have:=bD h;have e1:qC (aK []) c=true:=by simp [qC,aK,h0]
  have e2:dN (aK []) c=c:=by simp [dN,aK,h0]
  rw [e1,e2];exact bGJ a b f n s ps i c sd
 | .mk f' n' s' ps'::t,i,c,h,h0,h1=>by
  obtain⟨g1,g2,g3⟩ :=bB h;have hs:=ih _ (List.mem_of_getElem? g1) c h0 h1;unfold aKv at hs;by_cases hc: (aP (.mk f' n' s' ps') :Int) ≤c
  · have e1:qC (aP (.mk f' n' s' ps')) c=true:=by simp [qC,hc]
    have e2:dN (aP (.mk f' n' s' ps')) c=c-aP (.mk f' n' s' ps') :=by simp [dN,hc]
    rw [e1,e2]at hs;have r1:qC (aK (.mk f' n' s' ps'::t)) c=qC (aK t) (c-aP (.mk f' n' s' ps')) :=by
     unfold qC;rw [aK];congr 1;apply propext;omega
    have r2:dN (aK (.mk f' n' s' ps'::t)) c=dN (aK t) (c-aP (.mk f' n' s' ps')) :=by
     unfold dN;rw [aK];split<;>split<;>omega
    rw [r1,r2];refine(bGI a b f n s ps i c f' n' s' ps' (c-aP (.mk f' n' s' ps')) sd sd sd (dD (ks:=[0]) hs (by kernel_rfl) (fA true) (by kernel_rfl) (by kernel_rfl) trivial (by kernel_rfl) trivial (by kernel_rfl) (by kernel_rfl) (by kernel_rfl) (by kernel_rfl) (by kernel_rfl) (by kernel_rfl) (by kernel_rfl) (by kernel_rfl)) sd).ends ?_;exact aOo a b f n s ps hl ih t (i+1) _ g2 (by omega) (by omega)
  · have e1:qC (aP (.mk f' n' s' ps')) c=false:=by simp [qC];omega
    have e2:dN (aP (.mk f' n' s' ps')) c= -1:=by simp [dN];omega
    rw [e1,e2]at hs;have r1:qC (aK (.mk f' n' s' ps'::t)) c=false:=by simp only [qC,aK];exact decide_eq_false (by omega)
    have r2:dN (aK (.mk f' n' s' ps'::t)) c= -1:=by unfold dN;rw [aK,if_neg (by omega)]
    rw [r1,r2];exact bGH a b f n s ps i c f' n' s' ps' (-1) sd sd sd (dD (ks:=[0]) hs (by kernel_rfl) (fA false) (by kernel_rfl) (by kernel_rfl) trivial (by kernel_rfl) trivial (by kernel_rfl) (by kernel_rfl) (by kernel_rfl) (by kernel_rfl) (by kernel_rfl) (by kernel_rfl) (by kernel_rfl) (by kernel_rfl))
mutual
theorem aOp (b:Int)(hb:0≤b) :∀ (p:Pat) (a:Int),0≤a→a≤1000→aP p<1000000→aKv p a b
 | .mk f n s ps,a,h0,h1,hp=>by
  simp only [aP]at hp;have:=cL ps;refine⟨(bGE a b f n s ps).as.fr,by kernel_rfl,?_⟩;have E:Ends PP 1 (bGE a b f n s ps).as (kQ (qC (aP (.mk f n s ps)) a)) (aG [(0,GC (dN (aP (.mk f n s ps)) a) b,false)] 1) :=by
   by_cases ha:1≤a
   · have r1:qC (aP (.mk f n s ps)) a=qC (aK ps) (a-1) :=by
      unfold qC;rw [aP];congr 1;apply propext;omega
     have r2:dN (aP (.mk f n s ps)) a=dN (aK ps) (a-1) :=by
      unfold dN;rw [aP];split<;>split<;>omega
     rw [r1,r2];exact(bGF a b f n s ps sd (by simp;omega) (by simp;omega)).ends (aOo a b f n s ps (by omega) (fun p hp a h0 h1=>aUV b hb ps (by omega) p hp a h0 h1) ps 0 (a-1) rfl (by omega) (by omega))
   · obtain rfl:a=0:=by omega
     have r1:qC (aP (.mk f n s ps)) 0=false:=by simp only [qC,aP];exact decide_eq_false (by omega)
     have r2:dN (aP (.mk f n s ps)) 0=0-1:=by unfold dN;rw [aP,if_neg (by omega)];rfl
     rw [r1,r2];exact bGG 0 b f n s ps sd (by simp)
  exact Eq.mp (by kernel_rfl) E
theorem aUV (b:Int)(hb:0≤b) :∀ (ps:List Pat),aK ps<1000000→∀p∈ps,∀a,0≤a→a≤1000→aKv p a b
 | [],_,p,hp=>by cases hp
 | q::ps,h,p,hp=>by
  simp only [aK]at h;rcases List.mem_cons.1 hp with e|hp
  ·rw [e];exact fun a h0 h1=>aOp b hb q a h0 h1 (by omega)
  ·exact aUV b hb ps (by omega) p hp
end
theorem xP (n:Int) :Pure PP 251 [.int .i64 n] (.bool (aW n (-1000000000) 1000000000)) :=by
 refine aM (by kernel_rfl) rfl rfl ?_;by_cases h:n≥ -1000000000
 · have e:aW n (-1000000000) 1000000000=decide (n≤1000000000) :=by unfold aW;rw [decide_eq_true (show(-1000000000:Int) ≤n from h),Bool.true_and]
   rw [e];exact aY8 n (by simpa using h)
 · have e:aW n (-1000000000) 1000000000=false:=by unfold aW;rw [decide_eq_false (show ¬ (-1000000000:Int) ≤n from h),Bool.false_and]
   rw [e];exact aY9 n (by simpa using h)
def cV (t:aE)(ml:List (aE×Bool)) :Bool:= (iU t ml).getD false
def qR (f n:Int)(t:aE)(ps:List Pat)(ml:List (aE×Bool)) :Bool:=bR f n t ps&& !(decide (f=2) &&cV t ml)
mutual
def pmF :Pat→List (aE×Bool) →Bool×List (aE×Bool)
 | .mk f n t ps,ml=>if qR f n t ps ml=true then aCE ps (if f=2 then fB t true ml else ml)else(false,ml)
def aCE :List Pat→List (aE×Bool) →Bool×List (aE×Bool)
 | [],ml=> (true,ml)
 |p::ps,ml=>if(pmF p ml).1=true then aCE ps (pmF p ml).2 else(false,(pmF p ml).2)
end
abbrev MS (ml:List (aE×Bool)) :AObj:=.map (aV aC hI 0 ml) (List.length ml)
theorem aCg (ml:List (aE×Bool)) : (MS ml).kl:=bK (fun _=>rfl) (fun _=>rfl) _ _ _
def aKw (p:Pat)(ml:List (aE×Bool)) :Prop:=Spec PP (.enter 270 [Pat.av p,.map 0]) (aG [(0,MS ml,true)] 1) (kQ (pmF p ml).1) (aG [(0,MS (pmF p ml).2,true)] 1)
theorem bH5 (ml:List (aE×Bool))(q_form q_n:Int)(q_text:aE)(q_parts:List Pat)(b:Bool)(mo:List (aE×Bool))(hno:qR q_form q_n q_text q_parts ml=false→b=false∧mo=ml)
  (hk:∀mi,qR q_form q_n q_text q_parts ml=true→mi= (if q_form=2 then fB q_text true ml else ml) →Ends PP 1 (nM ml q_form q_n q_text q_parts mi 0).as (kQ b) (aG [(0,MS mo,true)] 1)) :
  Ends PP 1 (aOh ml q_form q_n q_text q_parts).as (kQ b) (aG [(0,MS mo,true)] 1) :=by
 cases hb1: (q_form== (1:Int))with
 | true=>
  cases hb2: (((List.length q_parts:Nat) :Int) == (0:Int))with
  | true=>
   cases hb3: (q_n== (0:Int))with
   | true=>
    cases hb4: (!(aQ (List.length q_text) (aB q_text) 0 0))with
    | true=>
     obtain⟨e1,e2⟩ :=hno (by clear hk hno;simp_all [qR,cV,bR,aA,aO,aW] <;>intros<;>omega);rw [e1,e2];exact aYS ml q_form q_n q_text q_parts   hb1 hb2 hb3 hb4
    | false=>
     exact LeadsM.ends (aYT ml q_form q_n q_text q_parts   hb1 hb2 hb3 hb4) (hk _ (by clear hk hno;simp_all [qR,cV,bR,aA,aO,aW] <;>intros<;>omega) (by clear hk hno;simp_all [qR,cV,bR,aA,aO,aW] <;>intros<;>omega))
   | false=>
    obtain⟨e1,e2⟩ :=hno (by clear hk hno;simp_all [qR,cV,bR,aA,aO,aW] <;>intros<;>omega);rw [e1,e2];exact aYU ml q_form q_n q_text q_parts   hb1 hb2 hb3
  | false=>
   obtain⟨e1,e2⟩ :=hno (by clear hk hno;simp_all [qR,cV,bR,aA,aO,aW] <;>intros<;>omega);rw [e1,e2];exact aYV ml q_form q_n q_text q_parts   hb1 hb2
 | false =>
  cases hb5: (q_form== (5:Int))with
  | true=>
   cases hb6: (((List.length q_parts:Nat) :Int) == (0:Int))with
   | true=>
    cases hb7: (q_n== (0:Int))with
    | true=>
     cases hb8: (!(aQ (List.length q_text) (aB q_text) 0 0))with
     | true=>
      obtain⟨e1,e2⟩ :=hno (by clear hk hno;simp_all [qR,cV,bR,aA,aO,aW] <;>intros<;>omega);rw [e1,e2];exact aYW ml q_form q_n q_text q_parts   hb1 hb5 hb6 hb7 hb8
     | false=>
      exact LeadsM.ends (aYX ml q_form q_n q_text q_parts   hb1 hb5 hb6 hb7 hb8) (hk _ (by clear hk hno;simp_all [qR,cV,bR,aA,aO,aW] <;>intros<;>omega) (by clear hk hno;simp_all [qR,cV,bR,aA,aO,aW] <;>intros<;>omega))
    | false=>
     obtain⟨e1,e2⟩ :=hno (by clear hk hno;simp_all [qR,cV,bR,aA,aO,aW] <;>intros<;>omega);rw [e1,e2];exact aYY ml q_form q_n q_text q_parts   hb1 hb5 hb6 hb7
   | false=>
    obtain⟨e1,e2⟩ :=hno (by clear hk hno;simp_all [qR,cV,bR,aA,aO,aW] <;>intros<;>omega);rw [e1,e2];exact aYZ ml q_form q_n q_text q_parts   hb1 hb5 hb6
  | false =>
   cases hb9: (q_form== (2:Int))with
   | true =>
    cases hb10: (((List.length q_parts:Nat) :Int) == (0:Int))with
    | true=>
     cases hb11: (q_n== (0:Int))with
     | true=>
      cases hb12: (dE q_text)with
      | true=>
       cases hq13:iU q_text ml with
       | none=>
        exact LeadsM.ends (aTt ml q_form q_n q_text q_parts  (dE q_text) hb1 hb5 hb9 hb10 hb11 (iV q_text) hb12 hq13) (hk _ (by clear hk hno;simp_all [qR,cV,bR,aA,aO,aW] <;>intros<;>omega) (by clear hk hno;simp_all [qR,cV,bR,aA,aO,aW] <;>intros<;>omega))
       | some y1=>
        cases hb14: (!(!y1))with
        | true=>
         obtain⟨e1,e2⟩ :=hno (by clear hk hno;simp_all [qR,cV,bR,aA,aO,aW] <;>intros<;>omega);rw [e1,e2];exact aY0 ml q_form q_n q_text q_parts  (dE q_text) y1 hb1 hb5 hb9 hb10 hb11 (iV q_text) hb12 hq13 hb14
        | false=>
         exact LeadsM.ends (aY1 ml q_form q_n q_text q_parts  (dE q_text) y1 hb1 hb5 hb9 hb10 hb11 (iV q_text) hb12 hq13 hb14) (hk _ (by clear hk hno;simp_all [qR,cV,bR,aA,aO,aW] <;>intros<;>omega) (by clear hk hno;simp_all [qR,cV,bR,aA,aO,aW] <;>intros<;>omega))
      | false=>
       obtain⟨e1,e2⟩ :=hno (by clear hk hno;simp_all [qR,cV,bR,aA,aO,aW] <;>intros<;>omega);rw [e1,e2];exact aTu ml q_form q_n q_text q_parts  (dE q_text) hb1 hb5 hb9 hb10 hb11 (iV q_text) hb12
     | false=>
      obtain⟨e1,e2⟩ :=hno (by clear hk hno;simp_all [qR,cV,bR,aA,aO,aW] <;>intros<;>omega);rw [e1,e2];exact aTv ml q_form q_n q_text q_parts   hb1 hb5 hb9 hb10 hb11
    | false=>
     obtain⟨e1,e2⟩ :=hno (by clear hk hno;simp_all [qR,cV,bR,aA,aO,aW] <;>intros<;>omega);rw [e1,e2];exact aTw ml q_form q_n q_text q_parts   hb1 hb5 hb9 hb10
   | false =>
    cases hb15: (q_form== (3:Int))with
    | true=>
     cases hb16: (((List.length q_parts:Nat) :Int) == (0:Int))with
     | true=>
      cases hb17: (aQ (List.length q_text) (aB q_text) 0 0)with
      | true=>
       cases hb18: (!(aW q_n (-1000000000) 1000000000))with
       | true=>
        obtain⟨e1,e2⟩ :=hno (by clear hk hno;simp_all [qR,cV,bR,aA,aO,aW] <;>intros<;>omega);rw [e1,e2];exact aTx ml q_form q_n q_text q_parts  (aW q_n (-1000000000) 1000000000) hb1 hb5 hb9 hb15 hb16 hb17 (xP q_n) hb18
       | false=>
        exact LeadsM.ends (aTy ml q_form q_n q_text q_parts  (aW q_n (-1000000000) 1000000000) hb1 hb5 hb9 hb15 hb16 hb17 (xP q_n) hb18) (hk _ (by clear hk hno;simp_all [qR,cV,bR,aA,aO,aW] <;>intros<;>omega) (by clear hk hno;simp_all [qR,cV,bR,aA,aO,aW] <;>intros<;>omega))
      | false=>
       obtain⟨e1,e2⟩ :=hno (by clear hk hno;simp_all [qR,cV,bR,aA,aO,aW] <;>intros<;>omega);rw [e1,e2];exact aTz ml q_form q_n q_text q_parts   hb1 hb5 hb9 hb15 hb16 hb17
     | false=>
      obtain⟨e1,e2⟩ :=hno (by clear hk hno;simp_all [qR,cV,bR,aA,aO,aW] <;>intros<;>omega);rw [e1,e2];exact aTA ml q_form q_n q_text q_parts   hb1 hb5 hb9 hb15 hb16
    | false=>
     cases hb19: (q_form== (4:Int))with
     | true=>
      cases hb20: (((List.length q_parts:Nat) :Int) == (0:Int))with
      | true=>
       cases hb21: (aQ (List.length q_text) (aB q_text) 0 0)with
       | true=>
        cases hb22: (q_n== (0:Int))with
        | true=>
         exact LeadsM.ends (aTB ml q_form q_n q_text q_parts   hb1 hb5 hb9 hb15 hb19 hb20 hb21 hb22) (hk _ (by clear hk hno;simp_all [qR,cV,bR,aA,aO,aW] <;>intros<;>omega) (by clear hk hno;simp_all [qR,cV,bR,aA,aO,aW] <;>intros<;>omega))
        | false=>
         cases hb23: (!(q_n== (1:Int)))with
         | true=>
          obtain⟨e1,e2⟩ :=hno (by clear hk hno;simp_all [qR,cV,bR,aA,aO,aW] <;>intros<;>omega);rw [e1,e2];exact aTC ml q_form q_n q_text q_parts   hb1 hb5 hb9 hb15 hb19 hb20 hb21 hb22 hb23
         | false=>
          exact LeadsM.ends (aTD ml q_form q_n q_text q_parts   hb1 hb5 hb9 hb15 hb19 hb20 hb21 hb22 hb23) (hk _ (by clear hk hno;simp_all [qR,cV,bR,aA,aO,aW] <;>intros<;>omega) (by clear hk hno;simp_all [qR,cV,bR,aA,aO,aW] <;>intros<;>omega))
       | false=>
        obtain⟨e1,e2⟩ :=hno (by clear hk hno;simp_all [qR,cV,bR,aA,aO,aW] <;>intros<;>omega);rw [e1,e2];exact aTE ml q_form q_n q_text q_parts   hb1 hb5 hb9 hb15 hb19 hb20 hb21
      | false=>
       obtain⟨e1,e2⟩ :=hno (by clear hk hno;simp_all [qR,cV,bR,aA,aO,aW] <;>intros<;>omega);rw [e1,e2];exact aTF ml q_form q_n q_text q_parts   hb1 hb5 hb9 hb15 hb19 hb20
     | false=>
      cases hb24: (q_form== (6:Int))with
      | true=>
       cases hb25: (decide (((List.length q_parts:Nat) :Int) ≤ (3:Int)))with
       | true=>
        cases hb26: (q_n== (0:Int))with
        | true=>
         cases hb27: (!(cH q_text))with
         | true=>
          obtain⟨e1,e2⟩ :=hno (by clear hk hno;simp_all [qR,cV,bR,aA,aO,aW] <;>intros<;>omega);rw [e1,e2];exact aTG ml q_form q_n q_text q_parts  (cH q_text) hb1 hb5 hb9 hb15 hb19 hb24 hb25 hb26 (fQ q_text) hb27
         | false=>
          exact LeadsM.ends (aTH ml q_form q_n q_text q_parts  (cH q_text) hb1 hb5 hb9 hb15 hb19 hb24 hb25 hb26 (fQ q_text) hb27) (hk _ (by clear hk hno;simp_all [qR,cV,bR,aA,aO,aW] <;>intros<;>omega) (by clear hk hno;simp_all [qR,cV,bR,aA,aO,aW] <;>intros<;>omega))
        | false=>
         obtain⟨e1,e2⟩ :=hno (by clear hk hno;simp_all [qR,cV,bR,aA,aO,aW] <;>intros<;>omega);rw [e1,e2];exact aTI ml q_form q_n q_text q_parts   hb1 hb5 hb9 hb15 hb19 hb24 hb25 hb26
       | false=>
        obtain⟨e1,e2⟩ :=hno (by clear hk hno;simp_all [qR,cV,bR,aA,aO,aW] <;>intros<;>omega);rw [e1,e2];exact aTJ ml q_form q_n q_text q_parts   hb1 hb5 hb9 hb15 hb19 hb24 hb25
      | false=>
       obtain⟨e1,e2⟩ :=hno (by clear hk hno;simp_all [qR,cV,bR,aA,aO,aW] <;>intros<;>omega);rw [e1,e2];exact aTK ml q_form q_n q_text q_parts   hb1 hb5 hb9 hb15 hb19 hb24
theorem aKx (ml:List (aE×Bool))(f n:Int)(s:aE)(ps:List Pat)(hl:ps.length<1000000)(ih:∀p∈ps,∀ml,aKw p ml) :∀ (t:List Pat) (i:Nat) (mi:List (aE×Bool)),ps.drop i=t →
  Ends PP 1 (nM ml f n s ps mi (i:Int)).as (kQ (aCE t mi).1) (aG [(0,MS (aCE t mi).2,true)] 1)
 | [],i,mi,h=>by
  have:=bD h;rw [aCE];exact aY4 ml f n s ps mi i sd
 | .mk f' n' s' ps'::t,i,mi,h=>by
  obtain⟨g1,g2,g3⟩ :=bB h;have hs:=ih _ (List.mem_of_getElem? g1) mi;unfold aKw at hs;rw [aCE];generalize pmF (.mk f' n' s' ps') mi=r at hs ⊢;obtain⟨b,m'⟩ :=r;cases b with
  | true=>
   rw [if_pos rfl];refine(aY3 ml f n s ps mi i f' n' s' ps' m' sd sd sd (dD (ks:=[0]) hs (by kernel_rfl) (fA true) (by kernel_rfl) (by kernel_rfl) ⟨aCg _,trivial⟩ (by kernel_rfl) ⟨aCg _,trivial⟩ (by kernel_rfl) (by kernel_rfl) (by kernel_rfl) (by kernel_rfl) (by kernel_rfl) (by kernel_rfl) (by kernel_rfl) (by kernel_rfl)) sd).ends ?_;exact aKx ml f n s ps hl ih t (i+1) m' g2
  | false=>
   rw [if_neg (by simp)];exact aY2 ml f n s ps mi i f' n' s' ps' m' sd sd sd (dD (ks:=[0]) hs (by kernel_rfl) (fA false) (by kernel_rfl) (by kernel_rfl) ⟨aCg _,trivial⟩ (by kernel_rfl) ⟨aCg _,trivial⟩ (by kernel_rfl) (by kernel_rfl) (by kernel_rfl) (by kernel_rfl) (by kernel_rfl) (by kernel_rfl) (by kernel_rfl) (by kernel_rfl))
mutual
theorem aKy :∀ (p:Pat) (ml:List (aE×Bool)),aP p<1000000→aKw p ml
 | .mk f n s ps,ml,hp=>by
  simp only [aP]at hp;have:=cL ps;refine⟨(aOh ml f n s ps).as.fr,by kernel_rfl,?_⟩;have E:Ends PP 1 (aOh ml f n s ps).as (kQ (pmF (.mk f n s ps) ml).1) (aG [(0,MS (pmF (.mk f n s ps) ml).2,true)] 1) :=by
   refine bH5 ml f n s ps _ _ (fun h=>?_) (fun mi h e=>?_)
   · rw [pmF,if_neg (by simp [h])];exact⟨rfl,rfl⟩
   · rw [pmF,if_pos h,←e];exact aKx ml f n s ps (by omega) (aOq ps (by omega)) ps 0 mi rfl
  exact Eq.mp (by kernel_rfl) E
theorem aOq :∀ (ps:List Pat),aK ps<1000000→∀p∈ps,∀ml,aKw p ml
 | [],_,p,hp=>by cases hp
 | q::ps,h,p,hp=>by
  simp only [aK]at h;rcases List.mem_cons.1 hp with e|hp
  ·rw [e];exact fun ml=>aKy q ml (by omega)
  ·exact aOq ps (by omega) p hp
end
def lG :List aE→List (aE×Bool) →Bool×List (aE×Bool)
 | [],ml=> (true,ml)
 |x::t,ml=>if cV x ml=true then(false,ml)else lG t (fB x true ml)
theorem aF5 :∀ (a b:List aE) (ml:List (aE×Bool)),lG (a++b) ml=if(lG a ml).1=true then lG b (lG a ml).2 else lG a ml
 | [],b,ml=>by simp [lG]
 | x::a,b,ml=>by
  rw [List.cons_append,lG,lG];split
  ·simp
  ·exact aF5 a b _
theorem aZS {f n:Int}{t:aE}{ps:List Pat}(h:bR f n t ps=true)(hf:f=2) :ps= [] :=by
 subst hf;simp [bR]at h;exact h.1.1
mutual
theorem aOr :∀ (p:Pat) (ml:List (aE×Bool)),((pmF p ml).1=true↔aD5 p=true∧ (lG (jR p) ml).1=true) ∧ ((pmF p ml).1=true→ (pmF p ml).2= (lG (jR p) ml).2)
 | .mk f n t ps,ml=>by
  rw [pmF,aD5,jR];by_cases hf:f=2
  · subst hf;by_cases hh:bR 2 n t ps=true
    · have hps:=aZS hh rfl;subst hps;by_cases hm:cV t ml=true
      ·simp [qR,hh,hm,lG,yT]
      · have hm':cV t ml=false:=by simpa using hm
        rw [if_pos (by simp [qR,hh,hm'])];simp [hh,hm',lG,yT,aCE]
    · have hh':bR 2 n t ps=false:=by simpa using hh
      rw [if_neg (by simp [qR,hh'])];simp [hh']
  · have i:=aKz ps ml;by_cases hh:bR f n t ps=true
    · rw [if_pos (by simp [qR,hh,hf]),if_neg hf,if_neg hf,hh,Bool.true_and];exact i
    · have hh':bR f n t ps=false:=by simpa using hh
      rw [if_neg (by simp [qR,hh'])];simp [hh']
theorem aKz :∀ (ps:List Pat) (ml:List (aE×Bool)),((aCE ps ml).1=true↔yT ps=true∧ (lG (jM ps) ml).1=true) ∧ ((aCE ps ml).1=true→ (aCE ps ml).2= (lG (jM ps) ml).2)
 | [],ml=>by simp [aCE,yT,jM,lG]
 | p ::ps,ml=>by
  obtain⟨i1,i2⟩ :=aOr p ml;rw [aCE,yT,jM,aF5];by_cases hp: (pmF p ml).1=true
  · obtain⟨j1,j2⟩ :=aKz ps (pmF p ml).2;obtain⟨k1,k2⟩ :=i1.1 hp;rw [if_pos hp,if_pos k2,←i2 hp,k1,Bool.true_and];exact⟨j1,j2⟩
  · rw [if_neg hp];refine⟨⟨fun h=>by simp at h,fun⟨h1,h2⟩ =>?_⟩,fun h=>by simp at h⟩;exfalso;rw [Bool.and_eq_true]at h1;split at h2
    ·rename_i k;exact hp (i1.2 ⟨h1.1,k⟩)
    ·rename_i k;exact k h2
end
theorem aQW (x y:aE)(ml:List (aE×Bool)) :cV y (fB x true ml) = (decide (x=y) ||cV y ml) :=by
 unfold cV;rw [aKu];by_cases h:y=x
 ·subst h;simp
 · have:¬x=y:=fun e=>h e.symm;rw [if_neg h];simp [this]
theorem aA1 :∀ (l pre:List aE) (ml:List (aE×Bool)),(∀y,cV y ml=jG pre y) → (lG l ml).1=dK pre l
 | [],pre,ml,h=>rfl
 | x::t,pre,ml,h=>by
  rw [lG,dK,←h x];cases hm:cV x ml with
  |true=>simp
  | false=>
   simp only [Bool.false_eq_true,if_false,Bool.not_false,Bool.true_and];refine aA1 t (pre++ [x]) _ (fun y=>?_);rw [aQW,h y];simp [jG,Bool.or_comm]
theorem aUW (p:Pat) : (pmF p []).1= (aD5 p&&jW (jR p)) :=by
 have h:= (aOr p []).1;have e: (lG (jR p) []).1=jW (jR p) :=aA1 _ [] [] (fun y=>by simp [cV,iU,jG]);rw [e]at h;rw [Bool.eq_iff_iff,h,Bool.and_eq_true]
theorem aUX (p:Pat)(hp:aP p<1000000) :Pure PP 234 [Pat.av p] (.int .i64 (if aD7 p=true then 0 else 2)) :=by
 have hg:=aOp 0 (by omega) p 12 (by omega) (by omega) hp;have hm:=aKy p [] hp;have e:=aUW p;unfold aKv at hg;unfold aKw at hm;unfold aD7;obtain⟨f,n,s,ps⟩ :=p;refine bM (s:=bEQ f n s ps) (by kernel_rfl) (by kernel_rfl) (by simp [AV.keylessL,fC]) (by simp [AV.keyless]) ?_;by_cases h12:aP (.mk f n s ps) ≤12
 · have e1:qC (aP (.mk f n s ps)) 12=true:=by simp [qC];omega
   rw [e1]at hg;generalize dN (aP (.mk f n s ps)) 12=ga at hg;rw [decide_eq_true h12,Bool.true_and,←e];generalize pmF (.mk f n s ps) [] =r at hm ⊢;obtain⟨b,m'⟩ :=r;have hg':=dD (ks:=[2]) (lc:=[(0,.cells (putCells .leaf 0 [.int .i64 f,.int .i64 n,aC s,.ilst 4 (Pats.av ps) false]) 4 [] false,false),(1,.cells (putCells .leaf 0 [.bool false]) 1 [] false,false),(2,GC 12 0,false)]) (lc':=[(0,.cells (putCells .leaf 0 [.int .i64 f,.int .i64 n,aC s,.ilst 4 (Pats.av ps) false]) 4 [] false,false),(1,.cells (putCells .leaf 0 [.bool false]) 1 [] false,false),(2,GC ga 0,false)]) (n2:=3) (args':=[.ptr 2 0,Pat.av (.mk f n s ps)]) hg (by kernel_rfl) (fA true) (by kernel_rfl) (by kernel_rfl) trivial (by kernel_rfl) trivial (by kernel_rfl) (by kernel_rfl) (by kernel_rfl) (by kernel_rfl) (by kernel_rfl) (by kernel_rfl) (by kernel_rfl) (by kernel_rfl);cases b with
   | true=>
    exact aY7 f n s ps ga m' hg' (dD (ks:=[3]) hm (by kernel_rfl) (fA true) (by kernel_rfl) (by kernel_rfl) ⟨aCg _,trivial⟩ (by kernel_rfl) ⟨aCg _,trivial⟩ (by kernel_rfl) (by kernel_rfl) (by kernel_rfl) (by kernel_rfl) (by kernel_rfl) (by kernel_rfl) (by kernel_rfl) (by kernel_rfl))
   | false=>
    exact aY6 f n s ps ga m' hg' (dD (ks:=[3]) hm (by kernel_rfl) (fA false) (by kernel_rfl) (by kernel_rfl) ⟨aCg _,trivial⟩ (by kernel_rfl) ⟨aCg _,trivial⟩ (by kernel_rfl) (by kernel_rfl) (by kernel_rfl) (by kernel_rfl) (by kernel_rfl) (by kernel_rfl) (by kernel_rfl) (by kernel_rfl))
 · have e1:qC (aP (.mk f n s ps)) 12=false:=by simp [qC];omega
   rw [e1]at hg;generalize dN (aP (.mk f n s ps)) 12=ga at hg;rw [decide_eq_false h12,Bool.false_and,Bool.false_and];exact aY5 f n s ps ga (dD (ks:=[2]) hg (by kernel_rfl) (fA false) (by kernel_rfl) (by kernel_rfl) trivial (by kernel_rfl) trivial (by kernel_rfl) (by kernel_rfl) (by kernel_rfl) (by kernel_rfl) (by kernel_rfl) (by kernel_rfl) (by kernel_rfl) (by kernel_rfl))
end
end Go.Hb
namespace Go.Hb
open Go.Proofs
noncomputable section
open Go.Proofs Tryz
def bGM(a b c d:Int)(e:aE)(f:List Term)(g:List Pat)(i:Int):TS:=bW PP 146 [(.ptr 0 0),(.agg [(nI c),(nI d),(aC e),(.ilst 5 (Terms.av f) false),(iP g)]),(nI i)] [oC 0 [(nI a),(nI b)]] 1
def aOs(f b g i:Int)(j:aE)(a:List Term)(k:List Pat)(c d e:Int):TS:=⟨(tf 146 24 [kp 0 0,(2,(nI c)),(12,(.ilst 5 (Terms.av a) false)),(13,(nI (a.length:Int))),(14,(nI d))] [kc f146 60,kl f146 60,.inBlock 0]),[],[oC 0 [(nI e),(nI b)]],1⟩
def bEX(a b:Int)(c:aE)(d:List Term)(e:List Pat):TS:=bW PP 147 [(.agg [(nI a),(nI b),(aC c),(.ilst 5 (Terms.av d) false),(iP e)])] [] 0
def aHU(c d:Int)(e:aE)(a:List Term)(f:List Pat)(b:Int):TS:=⟨(tf 147 16 [(7,(.ilst 5 (Terms.av a) false)),(8,(nI (a.length:Int))),(9,(nI b))] [kc f147 60,kl f147 60,.inBlock 0]),[],[],0⟩
def bEY(a b:Int)(c:aE)(d:List Term)(e:List Pat):TS:=bW PP 80 [(.agg [(nI a),(nI b),(aC c),(.ilst 5 (Terms.av d) false),(iP e)])] [] 0
def aUY(a b e f:Int)(g:aE)(c:List Term)(i:List Pat)(d:Int):=tT 1 (bGM a b e f g c i d)<|gw 16 8 (a-1)<|gd 11 16 ((a-1) ≥0) (.b 13 3 (!(decide (d≤b))) (.P 7 2 [] [((.iface 299 (.agg [])),false)] [oC 0 [(nI (a-1)),(nI b)]] 1)<|gm 12 bS c<|.W 4 2 [] (aOs a b e f g c i d 0 (a-1)))<|.P 20 2 [] [((.iface 299 (.agg [])),false)] [oC 0 [(nI (a-1)),(nI b)]] 1
def bGN:=fun a b c d e f g i j k l=>aUY a b c d e f g i j|>.t k|>.t l tv
def bGO:=fun a b c d e f g i j k l=>aUY a b c d e f g i j|>.t k|>.f l tv
def bGP:=fun a b c d e f g i j k=>aUY a b c d e f g i j|>.f k tv
def aUZ(m a n o:Int)(p:aE)(k:List Term)(q:List Pat)(g i l:Int):=tT 1 (aOs m a n o p k q g i l)<|gd 5 15 (i< (k.length:Int)) (aJh 6 k i<|fun b c d e f=>gw 9 21 (g+1)<|.o (.y fun j:Int=>gK 0 (.enter 146 [(.ptr 0 0),(.agg [(nI b),(nI c),(aC d),(.ilst 5 (Terms.av e) false),(iP f)]),(nI (g+1))]) [oC 0 [(nI l),(nI a)],oC 1 [(nI b),(nI c),(aC d),(.ilst 5 (Terms.av e) false),(iP f)]] 2 [((.iface 299 (.agg [])),false)] [oC 0 [(nI j),(nI a)],oC 1 [(nI b),(nI c),(aC d),(.ilst 5 (Terms.av e) false),(iP f)]] 2<|.P 0 2 [] [((.iface 299 (.agg [])),false)] [oC 0 [(nI j),(nI a)]] 1)<|.y fun j:Int=>gk 0 (.enter 146 [(.ptr 0 0),(.agg [(nI b),(nI c),(aC d),(.ilst 5 (Terms.av e) false),(iP f)]),(nI (g+1))]) [oC 0 [(nI l),(nI a)],oC 1 [(nI b),(nI c),(aC d),(.ilst 5 (Terms.av e) false),(iP f)]] 2 (.tup []) [oC 0 [(nI j),(nI a)],oC 1 [(nI b),(nI c),(aC d),(.ilst 5 (Terms.av e) false),(iP f)]] 2<|gw 4 23 (i+1)<|.W 3 2 [] (aOs m a n o p k q g (i+1) j))<|.E 3 1 [] (.tup []) [oC 0 [(nI l),(nI a)]] 1
def bGQ:=fun a b c d e f g i j k l m n o p q r s t u v=>aUZ a b c d e f g i j k|>.t r l m n o p s t u|>.1 q v tv
def bGR:=fun a b c d e f g i j k l m n o p q r s t u v w=>aUZ a b c d e f g i j k|>.t r l m n o p s t u|>.2 q v w tv
def bGS:=fun a b c d e f g i j k l=>aUZ a b c d e f g i j k|>.f l tv
def bEZ(b c:Int)(d:aE)(a:List Term)(e:List Pat):=tT 0 (bEX b c d a e)<|.o (.i [rn 7,.throws [((.iface 299 (.agg [])),false)]] [hA (wB PP 199 [(.agg [(nI b),(nI c),(aC d),(.ilst 5 (Terms.av a) false),(iP e)])] [((.iface 299 (.agg [])),false)])]<|gQ 0 1 [((.iface 299 (.agg [])),false)])<|gp 7 199 [(.agg [(nI b),(nI c),(aC d),(.ilst 5 (Terms.av a) false),(iP e)])] (.tup [])<|gm 5 bS a<|.W 4 1 [] (aHU b c d a e 0)
def aZT:=fun a b c d e f=>bEZ a b c d e|>.1 f tv
def aZU:=fun a b c d e f=>bEZ a b c d e|>.2 f tv
def aU0(c d:Int)(e:aE)(b:List Term)(f:List Pat)(a:Int):=tT 0 (aHU c d e b f a)<|gd 5 10 (a< (b.length:Int)) (aJh 6 b a<|fun g i j k l=>.o (.i [rn 6,.throws [((.iface 299 (.agg [])),false)]] [hA (wB PP 147 [(.agg [(nI g),(nI i),(aC j),(.ilst 5 (Terms.av k) false),(iP l)])] [((.iface 299 (.agg [])),false)])]<|gQ 0 1 [((.iface 299 (.agg [])),false)])<|gp 6 147 [(.agg [(nI g),(nI i),(aC j),(.ilst 5 (Terms.av k) false),(iP l)])] (.tup [])<|gw 4 15 (a+1)<|.W 3 1 [] (aHU c d e b f (a+1)))<|gE 3 0 (.tup [])
def aZV:=fun a b c d e f g i j k l m n o p=>aU0 a b c d e f|>.t m g i j k l n o|>.1 p tv
def aZW:=fun a b c d e f g i j k l m n o p q=>aU0 a b c d e f|>.t m g i j k l n o|>.2 p q tv
def aZX:=fun a b c d e f g=>aU0 a b c d e f|>.f g tv
def aU1(a b:Int)(c:aE)(d:List Term)(e:List Pat):=tT 0 (bEY a b c d e)<|.o (.y fun f:Int=>gK 36 (.enter 146 [(.ptr 2 0),(.agg [(nI a),(nI b),(aC c),(.ilst 5 (Terms.av d) false),(iP e)]),(nI 1)]) [oC 0 [(nI a),(nI b),(aC c),(.ilst 5 (Terms.av d) false),(iP e)],oC 1 [(bV false)],oC 2 [(nI 60),(nI 14)]] 3 [((.iface 299 (.agg [])),false)] [oC 0 [(nI a),(nI b),(aC c),(.ilst 5 (Terms.av d) false),(iP e)],oC 1 [(bV false)],oC 2 [(nI f),(nI 14)]] 3<|gE 50 4 (nI 2))<|.y fun f:Int=>gk 36 (.enter 146 [(.ptr 2 0),(.agg [(nI a),(nI b),(aC c),(.ilst 5 (Terms.av d) false),(iP e)]),(nI 1)]) [oC 0 [(nI a),(nI b),(aC c),(.ilst 5 (Terms.av d) false),(iP e)],oC 1 [(bV false)],oC 2 [(nI 60),(nI 14)]] 3 (.tup []) [oC 0 [(nI a),(nI b),(aC c),(.ilst 5 (Terms.av d) false),(iP e)],oC 1 [(bV false)],oC 2 [(nI f),(nI 14)]] 3<|.o (.i [rn 3,.throws [((.iface 299 (.agg [])),false)]] [hA (wB PP 147 [(.agg [(nI a),(nI b),(aC c),(.ilst 5 (Terms.av d) false),(iP e)])] [((.iface 299 (.agg [])),false)])]<|gE 50 4 (nI 2))<|gp 3 147 [(.agg [(nI a),(nI b),(aC c),(.ilst 5 (Terms.av d) false),(iP e)])] (.tup [])<|gE 38 3 (nI 0)
def aZY:=fun a b c d e f g=>aU1 a b c d e|>.1 f g tv
def aZZ:=fun a b c d e f g i=>aU1 a b c d e|>.2 f g|>.1 i tv
def aZ0:=fun a b c d e f g i=>aU1 a b c d e|>.2 f g|>.2 i tv
end
end Go.Hb
namespace Go.Hb
open Go.Proofs
noncomputable section
open Go.Proofs Tryz
def aU2(a b:Int)(c:aE)(d:List Term)(e:List Pat):TS:=bW PP 199 [(.agg [(nI a),(nI b),(aC c),(.ilst 5 (Terms.av d) false),(iP e)])] [] 0
def pR(a b:Int)(c:aE)(d:List Term)(e:List Pat)(f g i:Bool)(j:Int):TS:=⟨(tf 199 121 [kp 1 0,kp 2 1] [kc f199 15]),[],[oC 0 [(nI a),(nI b),(aC c),(.ilst 5 (Terms.av d) false),(iP e)],oC 1 [(bV f),(bV g),(bV i),(nI j)]],2⟩
def pS(a b:Int)(c:aE)(d:List Term)(e:List Pat)(f g i:Bool)(j:Int):TS:=⟨(tf 199 121 [kp 1 0,kp 2 1] [kc f199 31]),[],[oC 0 [(nI a),(nI b),(aC c),(.ilst 5 (Terms.av d) false),(iP e)],oC 1 [(bV f),(bV g),(bV i),(nI j)]],2⟩
def aEf(b c:Int)(d:aE)(e:List Term)(a:List Pat)(f g i:Bool)(j k:Int):TS:=⟨(tf 199 121 [kp 1 0,kp 2 1,(99,(iP a)),(100,(nI (a.length:Int))),(101,(nI k))] [kc f199 2015212,kl f199 2015212,.inBlock 1,.inBlock 0,kc f199 31]),[],[oC 0 [(nI b),(nI c),(aC d),(.ilst 5 (Terms.av e) false),(iP a)],oC 1 [(bV f),(bV g),(bV i),(nI j)]],2⟩
def fS(a d:Int)(e:aE)(b:List Term)(c:List Pat):=tT 0 (start PP 250 [(.agg [(nI a),(nI d),(aC e),(.ilst 5 (Terms.av b) false),(iP c)])])<|.b 19 6 (a==1) (gE 10 2 (.tup [(.agg [(bV true),(bV false),(bV false),(nI 0)]),(bV true)]))<|.b 5 6 (a==2) (gE 8 2 (.tup [(.agg [(bV true),(bV false),(bV false),(nI 0)]),(bV true)]))<|.b 7 10 (a==3) (gE 10 2 (.tup [(.agg [(bV false),(bV false),(bV false),(nI 0)]),(bV true)]))<|.b 6 10 (a==21) (gE 10 2 (.tup [(.agg [(bV false),(bV false),(bV false),(nI 0)]),(bV true)]))<|.b 6 10 (a==25) (gE 10 2 (.tup [(.agg [(bV false),(bV false),(bV false),(nI 0)]),(bV true)]))<|.b 5 10 (a==28) (gE 8 2 (.tup [(.agg [(bV false),(bV false),(bV false),(nI 0)]),(bV true)]))<|.b 6 16 (a==4) (gE 8 2 (.tup [(.agg [(bV false),(bV true),(bV false),(nI 0)]),(bV true)]))<|.b 7 19 (a==5) (gE 10 2 (.tup [(.agg [(bV false),(bV true),(bV false),(nI 1)]),(bV true)]))<|.b 5 19 (a==27) (gE 8 2 (.tup [(.agg [(bV false),(bV true),(bV false),(nI 1)]),(bV true)]))<|.b 6 23 (a==7) (gE 8 2 (.tup [(.agg [(bV false),(bV true),(bV false),(nI 2)]),(bV true)]))<|.b 6 26 (a==8) (gE 8 2 (.tup [(.agg [(bV false),(bV false),(bV false),(nI 3)]),(bV true)]))<|.b 6 29 (a==14) (gm 5 bS b<|gE 6 2 (.tup [(.agg [(bV false),(bV true),(bV false),(nI (if 3< (b.length:Int)then 3 else(b.length:Int)))]),(bV true)]))<|.b 6 36 (a==15) (gm 5 aF c<|gw 1 41 (1+ (c.length:Int))<|gE 5 2 (.tup [(.agg [(bV false),(bV false),(bV true),(nI (1+ (c.length:Int)))]),(bV true)]))<|.b 7 43 (a==16) (gE 10 2 (.tup [(.agg [(bV false),(bV false),(bV false),(nI 1)]),(bV true)]))<|.b 6 43 (a==17) (gE 10 2 (.tup [(.agg [(bV false),(bV false),(bV false),(nI 1)]),(bV true)]))<|.b 6 43 (a==19) (gE 10 2 (.tup [(.agg [(bV false),(bV false),(bV false),(nI 1)]),(bV true)]))<|.b 6 43 (a==20) (gE 10 2 (.tup [(.agg [(bV false),(bV false),(bV false),(nI 1)]),(bV true)]))<|.b 6 43 (a==23) (gE 10 2 (.tup [(.agg [(bV false),(bV false),(bV false),(nI 1)]),(bV true)]))<|.b 5 43 (a==26) (gE 8 2 (.tup [(.agg [(bV false),(bV false),(bV false),(nI 1)]),(bV true)]))<|.b 6 51 (a==24) (gE 8 2 (.tup [(.agg [(bV true),(bV false),(bV false),(nI 1)]),(bV true)]))<|.b 7 54 (a==6) (gE 10 2 (.tup [(.agg [(bV false),(bV false),(bV false),(nI 2)]),(bV true)]))<|.b 6 54 (a==9) (gE 10 2 (.tup [(.agg [(bV false),(bV false),(bV false),(nI 2)]),(bV true)]))<|.b 6 54 (a==10) (gE 10 2 (.tup [(.agg [(bV false),(bV false),(bV false),(nI 2)]),(bV true)]))<|.b 6 54 (a==11) (gE 10 2 (.tup [(.agg [(bV false),(bV false),(bV false),(nI 2)]),(bV true)]))<|.b 6 54 (a==12) (gE 10 2 (.tup [(.agg [(bV false),(bV false),(bV false),(nI 2)]),(bV true)]))<|.b 6 54 (a==13) (gE 10 2 (.tup [(.agg [(bV false),(bV false),(bV false),(nI 2)]),(bV true)]))<|.b 6 54 (a==18) (gE 10 2 (.tup [(.agg [(bV false),(bV false),(bV false),(nI 2)]),(bV true)]))<|.b 5 54 (a==22) (gE 8 2 (.tup [(.agg [(bV false),(bV false),(bV false),(nI 2)]),(bV true)]))<|gE 10 2 (.tup [(.agg [(bV false),(bV false),(bV false),(nI 0)]),(bV false)])
def aZ1:=fun a b c d e f=>fS a b c d e|>.t f tv
def aZ2:=fun a b c d e f g=>fS a b c d e|>.f f|>.t g tv
def aZ3:=fun a b c d e f g i=>fS a b c d e|>.f f|>.f g|>.t i tv
def aZ4:=fun a b c d e f g i j=>fS a b c d e|>.f f|>.f g|>.f i|>.t j tv
def aZ5:=fun a b c d e f g i j k=>fS a b c d e|>.f f|>.f g|>.f i|>.f j|>.t k tv
def aZ6:=fun a b c d e f g i j k l=>fS a b c d e|>.f f|>.f g|>.f i|>.f j|>.f k|>.t l tv
def aZ7:=fun a b c d e f g i j k l m=>fS a b c d e|>.f f|>.f g|>.f i|>.f j|>.f k|>.f l|>.t m tv
def aZ8:=fun a b c d e f g i j k l m n=>fS a b c d e|>.f f|>.f g|>.f i|>.f j|>.f k|>.f l|>.f m|>.t n tv
def aZ9:=fun a b c d e f g i j k l m n o=>fS a b c d e|>.f f|>.f g|>.f i|>.f j|>.f k|>.f l|>.f m|>.f n|>.t o tv
def bAa:=fun a b c d e f g i j k l m n o p=>fS a b c d e|>.f f|>.f g|>.f i|>.f j|>.f k|>.f l|>.f m|>.f n|>.f o|>.t p tv
def aU3:=fun a b c d e f g i j k l m n o p q=>fS a b c d e|>.f f|>.f g|>.f i|>.f j|>.f k|>.f l|>.f m|>.f n|>.f o|>.f p|>.t q tv
def aU4:=fun a b c d e f g i j k l m n o p q r=>fS a b c d e|>.f f|>.f g|>.f i|>.f j|>.f k|>.f l|>.f m|>.f n|>.f o|>.f p|>.f q|>.t r tv
def aU5:=fun a b c d e f g i j k l m n o p q r s t=>fS a b c d e|>.f f|>.f g|>.f i|>.f j|>.f k|>.f l|>.f m|>.f n|>.f o|>.f p|>.f q|>.f r|>.t s t tv
def aU6:=fun a b c d e f g i j k l m n o p q r s t=>fS a b c d e|>.f f|>.f g|>.f i|>.f j|>.f k|>.f l|>.f m|>.f n|>.f o|>.f p|>.f q|>.f r|>.f s|>.t t tv
def aU7:=fun a b c d e f g i j k l m n o p q r s t u=>fS a b c d e|>.f f|>.f g|>.f i|>.f j|>.f k|>.f l|>.f m|>.f n|>.f o|>.f p|>.f q|>.f r|>.f s|>.f t|>.t u tv
def aU8:=fun a b c d e f g i j k l m n o p q r s t u v=>fS a b c d e|>.f f|>.f g|>.f i|>.f j|>.f k|>.f l|>.f m|>.f n|>.f o|>.f p|>.f q|>.f r|>.f s|>.f t|>.f u|>.t v tv
def aU9:=fun a b c d e f g i j k l m n o p q r s t u v w=>fS a b c d e|>.f f|>.f g|>.f i|>.f j|>.f k|>.f l|>.f m|>.f n|>.f o|>.f p|>.f q|>.f r|>.f s|>.f t|>.f u|>.f v|>.t w tv
def aVa:=fun a b c d e f g i j k l m n o p q r s t u v w x=>fS a b c d e|>.f f|>.f g|>.f i|>.f j|>.f k|>.f l|>.f m|>.f n|>.f o|>.f p|>.f q|>.f r|>.f s|>.f t|>.f u|>.f v|>.f w|>.t x tv
def aVb:=fun a b c d e f g i j k l m n o p q r s t u v w x y=>fS a b c d e|>.f f|>.f g|>.f i|>.f j|>.f k|>.f l|>.f m|>.f n|>.f o|>.f p|>.f q|>.f r|>.f s|>.f t|>.f u|>.f v|>.f w|>.f x|>.t y tv
def aVc:=fun a b c d e f g i j k l m n o p q r s t u v w x y z=>fS a b c d e|>.f f|>.f g|>.f i|>.f j|>.f k|>.f l|>.f m|>.f n|>.f o|>.f p|>.f q|>.f r|>.f s|>.f t|>.f u|>.f v|>.f w|>.f x|>.f y|>.t z tv
def aVd:=fun a b c d e f g i j k l m n o p q r s t u v w x y z A=>fS a b c d e|>.f f|>.f g|>.f i|>.f j|>.f k|>.f l|>.f m|>.f n|>.f o|>.f p|>.f q|>.f r|>.f s|>.f t|>.f u|>.f v|>.f w|>.f x|>.f y|>.f z|>.t A tv
def aVe:=fun a b c d e f g i j k l m n o p q r s t u v w x y z A B=>fS a b c d e|>.f f|>.f g|>.f i|>.f j|>.f k|>.f l|>.f m|>.f n|>.f o|>.f p|>.f q|>.f r|>.f s|>.f t|>.f u|>.f v|>.f w|>.f x|>.f y|>.f z|>.f A|>.t B tv
def aVf:=fun a b c d e f g i j k l m n o p q r s t u v w x y z A B C=>fS a b c d e|>.f f|>.f g|>.f i|>.f j|>.f k|>.f l|>.f m|>.f n|>.f o|>.f p|>.f q|>.f r|>.f s|>.f t|>.f u|>.f v|>.f w|>.f x|>.f y|>.f z|>.f A|>.f B|>.t C tv
def aVg:=fun a b c d e f g i j k l m n o p q r s t u v w x y z A B C D=>fS a b c d e|>.f f|>.f g|>.f i|>.f j|>.f k|>.f l|>.f m|>.f n|>.f o|>.f p|>.f q|>.f r|>.f s|>.f t|>.f u|>.f v|>.f w|>.f x|>.f y|>.f z|>.f A|>.f B|>.f C|>.t D tv
def aVh:=fun a b c d e f g i j k l m n o p q r s t u v w x y z A B C D F=>fS a b c d e|>.f f|>.f g|>.f i|>.f j|>.f k|>.f l|>.f m|>.f n|>.f o|>.f p|>.f q|>.f r|>.f s|>.f t|>.f u|>.f v|>.f w|>.f x|>.f y|>.f z|>.f A|>.f B|>.f C|>.f D|>.t F tv
def aVi:=fun a b c d e f g i j k l m n o p q r s t u v w x y z A B C D F G=>fS a b c d e|>.f f|>.f g|>.f i|>.f j|>.f k|>.f l|>.f m|>.f n|>.f o|>.f p|>.f q|>.f r|>.f s|>.f t|>.f u|>.f v|>.f w|>.f x|>.f y|>.f z|>.f A|>.f B|>.f C|>.f D|>.f F|>.t G tv
def aVj:=fun a b c d e f g i j k l m n o p q r s t u v w x y z A B C D F G H=>fS a b c d e|>.f f|>.f g|>.f i|>.f j|>.f k|>.f l|>.f m|>.f n|>.f o|>.f p|>.f q|>.f r|>.f s|>.f t|>.f u|>.f v|>.f w|>.f x|>.f y|>.f z|>.f A|>.f B|>.f C|>.f D|>.f F|>.f G|>.t H tv
def aVk:=fun a b c d e f g i j k l m n o p q r s t u v w x y z A B C D F G H I=>fS a b c d e|>.f f|>.f g|>.f i|>.f j|>.f k|>.f l|>.f m|>.f n|>.f o|>.f p|>.f q|>.f r|>.f s|>.f t|>.f u|>.f v|>.f w|>.f x|>.f y|>.f z|>.f A|>.f B|>.f C|>.f D|>.f F|>.f G|>.f H|>.t I tv
def aVl:=fun a b c d e f g i j k l m n o p q r s t u v w x y z A B C D F G H I=>fS a b c d e|>.f f|>.f g|>.f i|>.f j|>.f k|>.f l|>.f m|>.f n|>.f o|>.f p|>.f q|>.f r|>.f s|>.f t|>.f u|>.f v|>.f w|>.f x|>.f y|>.f z|>.f A|>.f B|>.f C|>.f D|>.f F|>.f G|>.f H|>.f I tv
def nB(g e:Int)(b:aE)(d:List Term)(a:List Pat):=tT 0 (aU2 g e b d a)<|.y fun i:Bool=>.y fun f:Bool=>.y fun c:Bool=>.y fun j:Int=>.y fun k:Bool=>gp 7 250 [(.agg [(nI g),(nI e),(aC b),(.ilst 5 (Terms.av d) false),(iP a)])] (.tup [(.agg [(bV i),(bV f),(bV c),(nI j)]),(bV k)])<|.b 11 12 k (gm 2 bS d<|.b 5 20 ((d.length:Int) ==j) (.b 3 23 i (.b 9 32 f (.b 9 41 c (.W 17 2 [0,1] (pR g e b d a i f c j))<|gm 2 aF a<|.b 9 3 (!((a.length:Int) ==0)) (gQ 6 2 [((.iface 299 (.agg [])),false)])<|.W 5 2 [0,1] (pR g e b d a i f c j))<|.b 6 38 (aQ b.length (aB b) 0 0) (.b 3 41 c (.W 17 2 [0,1] (pR g e b d a i f c j))<|gm 2 aF a<|.b 9 3 (!((a.length:Int) ==0)) (gQ 6 2 [((.iface 299 (.agg [])),false)])<|.W 5 2 [0,1] (pR g e b d a i f c j))<|gQ 21 2 [((.iface 299 (.agg [])),false)])<|.b 6 29 (e==0) (.b 3 32 f (.b 9 41 c (.W 17 2 [0,1] (pR g e b d a i f c j))<|gm 2 aF a<|.b 9 3 (!((a.length:Int) ==0)) (gQ 6 2 [((.iface 299 (.agg [])),false)])<|.W 5 2 [0,1] (pR g e b d a i f c j))<|.b 6 38 (aQ b.length (aB b) 0 0) (.b 3 41 c (.W 17 2 [0,1] (pR g e b d a i f c j))<|gm 2 aF a<|.b 9 3 (!((a.length:Int) ==0)) (gQ 6 2 [((.iface 299 (.agg [])),false)])<|.W 5 2 [0,1] (pR g e b d a i f c j))<|gQ 21 2 [((.iface 299 (.agg [])),false)])<|gQ 30 2 [((.iface 299 (.agg [])),false)])<|gQ 39 2 [((.iface 299 (.agg [])),false)])<|gQ 47 2 [((.iface 299 (.agg [])),false)]
def bAb:=fun a b c d e f g i j k l m n o p q=>nB a b c d e f g i j k l|>.t m|>.t n|>.t o|>.t p|>.t q tv
def bAc:=fun a b c d e f g i j k l m n o p q r=>nB a b c d e f g i j k l|>.t m|>.t n|>.t o|>.t p|>.f q|>.t r tv
def bAd:=fun a b c d e f g i j k l m n o p q r=>nB a b c d e f g i j k l|>.t m|>.t n|>.t o|>.t p|>.f q|>.f r tv
def bAe:=fun a b c d e f g i j k l m n o p q r=>nB a b c d e f g i j k l|>.t m|>.t n|>.t o|>.f p|>.t q|>.t r tv
def bAf:=fun a b c d e f g i j k l m n o p q r s=>nB a b c d e f g i j k l|>.t m|>.t n|>.t o|>.f p|>.t q|>.f r|>.t s tv
def bAg:=fun a b c d e f g i j k l m n o p q r s=>nB a b c d e f g i j k l|>.t m|>.t n|>.t o|>.f p|>.t q|>.f r|>.f s tv
def bAh:=fun a b c d e f g i j k l m n o p q=>nB a b c d e f g i j k l|>.t m|>.t n|>.t o|>.f p|>.f q tv
def bAi:=fun a b c d e f g i j k l m n o p q r=>nB a b c d e f g i j k l|>.t m|>.t n|>.f o|>.t p|>.t q|>.t r tv
def bAj:=fun a b c d e f g i j k l m n o p q r s=>nB a b c d e f g i j k l|>.t m|>.t n|>.f o|>.t p|>.t q|>.f r|>.t s tv
def bAk:=fun a b c d e f g i j k l m n o p q r s=>nB a b c d e f g i j k l|>.t m|>.t n|>.f o|>.t p|>.t q|>.f r|>.f s tv
def aVm:=fun a b c d e f g i j k l m n o p q r s=>nB a b c d e f g i j k l|>.t m|>.t n|>.f o|>.t p|>.f q|>.t r|>.t s tv
def aVn:=fun a b c d e f g i j k l m n o p q r s t=>nB a b c d e f g i j k l|>.t m|>.t n|>.f o|>.t p|>.f q|>.t r|>.f s|>.t t tv
def aVo:=fun a b c d e f g i j k l m n o p q r s t=>nB a b c d e f g i j k l|>.t m|>.t n|>.f o|>.t p|>.f q|>.t r|>.f s|>.f t tv
def aVp:=fun a b c d e f g i j k l m n o p q r=>nB a b c d e f g i j k l|>.t m|>.t n|>.f o|>.t p|>.f q|>.f r tv
def aVq:=fun a b c d e f g i j k l m n o p=>nB a b c d e f g i j k l|>.t m|>.t n|>.f o|>.f p tv
def aVr:=fun a b c d e f g i j k l m n=>nB a b c d e f g i j k l|>.t m|>.f n tv
def aVs:=fun a b c d e f g i j k l m=>nB a b c d e f g i j k l|>.f m tv
def qS(a b:Int)(d:aE)(e:List Term)(c:List Pat)(f g i:Bool)(j:Int):=tT 0 (pR a b d e c f g i j)<|.b 12 51 (a==1) (cP 4 251 [(nI b)]<|fun k=>.b 6 3 (!k) (gQ 6 2 [((.iface 299 (.agg [])),false)])<|.W 6 2 [0,1] (pS a b d e c f g i j))<|.b 6 57 (a==2) (.b 6 62 (b==0) (.W 16 2 [0,1] (pS a b d e c f g i j))<|.b 10 3 (!(b==1)) (gQ 6 2 [((.iface 299 (.agg [])),false)])<|.W 6 2 [0,1] (pS a b d e c f g i j))<|.b 6 68 (a==24) (gd 6 73 (b≥0) (.b 10 3 (!(decide (b<4))) (gQ 6 2 [((.iface 299 (.agg [])),false)])<|.W 6 2 [0,1] (pS a b d e c f g i j))<|gQ 16 2 [((.iface 299 (.agg [])),false)])<|.b 6 79 (a==14) (cP 4 179 [(aC d)]<|fun k=>.b 6 3 (!k) (gQ 6 2 [((.iface 299 (.agg [])),false)])<|.W 6 2 [0,1] (pS a b d e c f g i j))<|.b 6 85 (a==15) (gm 5 aF c<|gd 2 91 ((c.length:Int) ≥1) (gm 2 aF c<|.b 8 3 (!(decide ((c.length:Int) ≤5))) (gQ 6 2 [((.iface 299 (.agg [])),false)])<|gm 9 aF c<|.W 4 2 [0,1] (aEf a b d e c f g i j 0))<|gQ 17 2 [((.iface 299 (.agg [])),false)])<|.W 3 2 [0,1] (pS a b d e c f g i j)
def bAl:=fun a b c d e f g i j k l m n=>qS a b c d e f g i j|>.t l k m|>.t n tv
def bAm:=fun a b c d e f g i j k l m n=>qS a b c d e f g i j|>.t l k m|>.f n tv
def bAn:=fun a b c d e f g i j k l m=>qS a b c d e f g i j|>.f k|>.t l|>.t m tv
def bAo:=fun a b c d e f g i j k l m n=>qS a b c d e f g i j|>.f k|>.t l|>.f m|>.t n tv
def bAp:=fun a b c d e f g i j k l m n=>qS a b c d e f g i j|>.f k|>.t l|>.f m|>.f n tv
def bAq:=fun a b c d e f g i j k l m n o=>qS a b c d e f g i j|>.f k|>.f l|>.t m|>.t n|>.t o tv
def bAr:=fun a b c d e f g i j k l m n o=>qS a b c d e f g i j|>.f k|>.f l|>.t m|>.t n|>.f o tv
def bAs:=fun a b c d e f g i j k l m n=>qS a b c d e f g i j|>.f k|>.f l|>.t m|>.f n tv
def bAt:=fun a b c d e f g i j k l m n o p q=>qS a b c d e f g i j|>.f l|>.f m|>.f n|>.t o k p|>.t q tv
def bAu:=fun a b c d e f g i j k l m n o p q=>qS a b c d e f g i j|>.f l|>.f m|>.f n|>.t o k p|>.f q tv
def aVt:=fun a b c d e f g i j k l m n o p q=>qS a b c d e f g i j|>.f k|>.f l|>.f m|>.f n|>.t o|>.t p|>.t q tv
def aVu:=fun a b c d e f g i j k l m n o p q=>qS a b c d e f g i j|>.f k|>.f l|>.f m|>.f n|>.t o|>.t p|>.f q tv
def aVv:=fun a b c d e f g i j k l m n o p=>qS a b c d e f g i j|>.f k|>.f l|>.f m|>.f n|>.t o|>.f p tv
def aVw:=fun a b c d e f g i j k l m n o=>qS a b c d e f g i j|>.f k|>.f l|>.f m|>.f n|>.f o tv
def aOt(a d:Int)(b:aE)(e:List Term)(f:List Pat)(g c i:Bool)(j:Int):=tT 0 (pS a d b e f g c i j)<|.b 5 112 c (.b 5 116 (a != 14) (cP 4 103 [(aC b)]<|fun k=>.b 6 3 (!k) (gQ 6 2 [((.iface 299 (.agg [])),false)])<|gE 6 2 (.tup []))<|gE 3 2 (.tup []))<|gE 8 2 (.tup [])
def bAv:=fun a b c d e f g i j k l m n o=>aOt a b c d e f g i j|>.t l|>.t m k n|>.t o tv
def bAw:=fun a b c d e f g i j k l m n o=>aOt a b c d e f g i j|>.t l|>.t m k n|>.f o tv
def bAx:=fun a b c d e f g i j k l=>aOt a b c d e f g i j|>.t k|>.f l tv
def bAy:=fun a b c d e f g i j k=>aOt a b c d e f g i j|>.f k tv
def aVx(c d:Int)(e:aE)(f:List Term)(a:List Pat)(g i j:Bool)(k b:Int):=tT 0 (aEf c d e f a g i j k b)<|gd 5 102 (b< (a.length:Int)) (mW 6 a b<|fun l m n o=>gpI 6 234 [(.agg [(nI l),(nI m),(aC n),(iP o)])]<|fun p=>.b 7 3 (!(p==0)) (gQ 6 3 [((.iface 299 (.agg [])),false)])<|gw 8 109 (b+1)<|.W 3 3 [0,1] (aEf c d e f a g i j k (b+1)))<|.W 3 2 [0,1] (pS c d e f a g i j k)
def bAz:=fun a b c d e f g i j k l m n o p q r s t u=>aVx a b c d e f g i j k|>.t q l m n o r s p t|>.t u tv
def bAA:=fun a b c d e f g i j k l m n o p q r s t u v=>aVx a b c d e f g i j k|>.t q l m n o r s p t|>.f u v tv
def bAB:=fun a b c d e f g i j k l=>aVx a b c d e f g i j k|>.f l tv
end
end Go.Hb
namespace Go.Hb
open Go.Proofs
set_option maxHeartbeats 8000000
noncomputable section
def kB (op:Int) :Bool:=decide (op=1∨op=2∨op=24)
def jS (op:Int) :Bool:=decide (op=4∨op=5∨op=27∨op=7∨op=14)
def jT (op:Int) :Bool:=decide (op=15)
def kC (op k m:Int) :Int:=
 if op=5∨op=27 then 1 else if op=7 then 2 else if op=8 then 3 else if op=14 then(if 3<k then 3 else k)else if op=15 then 1+m
 else if op=16∨op=17∨op=19∨op=20∨op=23∨op=26∨op=24 then 1
 else if op=6∨op=9∨op=10∨op=11∨op=12∨op=13∨op=18∨op=22 then 2 else 0
def hiT (op:Int) :Bool:=decide (op=1∨op=2∨op=3∨op=21∨op=25∨op=28∨op=4∨op=5∨op=27∨op=7∨op=8∨op=14∨op=15∨op=16∨op=17∨op=19∨op=20∨op=23∨op=26∨op=24∨op=6∨op=9∨op=10∨op=11∨op=12∨op=13∨op=18∨op=22)
theorem bSh_E (t_op t_n : Int)(t_text:aE)(t_kids:List Term)(t_pats:List Pat)(hks:t_kids.length<1000000)(hps:t_pats.length<1000000) :
  Ends PP 0 (start PP 250 [Term.av (.mk t_op t_n t_text t_kids t_pats)]).as (.ret (.tup [.agg [.bool (kB t_op),.bool (jS t_op),.bool (jT t_op),.int .i64 (kC t_op (List.length t_kids) (List.length t_pats))],.bool (hiT t_op)])) (aG [] 0) :=by
 cases hb1: (t_op== (1:Int))with
 | true=>
  exact Ends.eqv (aZ1 t_op t_n t_text t_kids t_pats   hb1) (by simp_all [kB,jS,jT,kC,hiT])
 | false =>
  cases hb2: (t_op== (2:Int))with
  | true=>
   exact Ends.eqv (aZ2 t_op t_n t_text t_kids t_pats   hb1 hb2) (by simp_all [kB,jS,jT,kC,hiT])
  | false =>
   cases hb3: (t_op== (3:Int))with
   | true=>
    exact Ends.eqv (aZ3 t_op t_n t_text t_kids t_pats   hb1 hb2 hb3) (by simp_all [kB,jS,jT,kC,hiT])
   | false =>
    cases hb4: (t_op== (21:Int))with
    | true=>
     exact Ends.eqv (aZ4 t_op t_n t_text t_kids t_pats   hb1 hb2 hb3 hb4) (by simp_all [kB,jS,jT,kC,hiT])
    | false =>
     cases hb5: (t_op== (25:Int))with
     | true=>
      exact Ends.eqv (aZ5 t_op t_n t_text t_kids t_pats   hb1 hb2 hb3 hb4 hb5) (by simp_all [kB,jS,jT,kC,hiT])
     | false =>
      cases hb6: (t_op== (28:Int))with
      | true=>
       exact Ends.eqv (aZ6 t_op t_n t_text t_kids t_pats   hb1 hb2 hb3 hb4 hb5 hb6) (by simp_all [kB,jS,jT,kC,hiT])
      | false =>
       cases hb7: (t_op== (4:Int))with
       | true=>
        exact Ends.eqv (aZ7 t_op t_n t_text t_kids t_pats   hb1 hb2 hb3 hb4 hb5 hb6 hb7) (by simp_all [kB,jS,jT,kC,hiT])
       | false =>
        cases hb8: (t_op== (5:Int))with
        | true=>
         exact Ends.eqv (aZ8 t_op t_n t_text t_kids t_pats   hb1 hb2 hb3 hb4 hb5 hb6 hb7 hb8) (by simp_all [kB,jS,jT,kC,hiT])
        | false =>
         cases hb9: (t_op== (27:Int))with
         | true=>
          exact Ends.eqv (aZ9 t_op t_n t_text t_kids t_pats   hb1 hb2 hb3 hb4 hb5 hb6 hb7 hb8 hb9) (by simp_all [kB,jS,jT,kC,hiT])
         | false =>
          cases hb10: (t_op== (7:Int))with
          | true=>
           exact Ends.eqv (bAa t_op t_n t_text t_kids t_pats   hb1 hb2 hb3 hb4 hb5 hb6 hb7 hb8 hb9 hb10) (by simp_all [kB,jS,jT,kC,hiT])
          | false =>
           cases hb11: (t_op== (8:Int))with
           | true=>
            exact Ends.eqv (aU3 t_op t_n t_text t_kids t_pats   hb1 hb2 hb3 hb4 hb5 hb6 hb7 hb8 hb9 hb10 hb11) (by simp_all [kB,jS,jT,kC,hiT])
           | false =>
            cases hb12: (t_op== (14:Int))with
            | true=>
             exact Ends.eqv (aU4 t_op t_n t_text t_kids t_pats   hb1 hb2 hb3 hb4 hb5 hb6 hb7 hb8 hb9 hb10 hb11 hb12) (by simp_all [kB,jS,jT,kC,hiT])
            | false =>
             cases hb13: (t_op== (15:Int))with
             | true=>
              exact Ends.eqv (aU5 t_op t_n t_text t_kids t_pats   hb1 hb2 hb3 hb4 hb5 hb6 hb7 hb8 hb9 hb10 hb11 hb12 hb13 sdI) (by simp_all [kB,jS,jT,kC,hiT])
             | false =>
              cases hb14: (t_op== (16:Int))with
              | true=>
               exact Ends.eqv (aU6 t_op t_n t_text t_kids t_pats   hb1 hb2 hb3 hb4 hb5 hb6 hb7 hb8 hb9 hb10 hb11 hb12 hb13 hb14) (by simp_all [kB,jS,jT,kC,hiT])
              | false =>
               cases hb15: (t_op== (17:Int))with
               | true=>
                exact Ends.eqv (aU7 t_op t_n t_text t_kids t_pats   hb1 hb2 hb3 hb4 hb5 hb6 hb7 hb8 hb9 hb10 hb11 hb12 hb13 hb14 hb15) (by simp_all [kB,jS,jT,kC,hiT])
               | false =>
                cases hb16: (t_op== (19:Int))with
                | true=>
                 exact Ends.eqv (aU8 t_op t_n t_text t_kids t_pats   hb1 hb2 hb3 hb4 hb5 hb6 hb7 hb8 hb9 hb10 hb11 hb12 hb13 hb14 hb15 hb16) (by simp_all [kB,jS,jT,kC,hiT])
                | false =>
                 cases hb17: (t_op== (20:Int))with
                 | true=>
                  exact Ends.eqv (aU9 t_op t_n t_text t_kids t_pats   hb1 hb2 hb3 hb4 hb5 hb6 hb7 hb8 hb9 hb10 hb11 hb12 hb13 hb14 hb15 hb16 hb17) (by simp_all [kB,jS,jT,kC,hiT])
                 | false =>
                  cases hb18: (t_op== (23:Int))with
                  | true=>
                   exact Ends.eqv (aVa t_op t_n t_text t_kids t_pats   hb1 hb2 hb3 hb4 hb5 hb6 hb7 hb8 hb9 hb10 hb11 hb12 hb13 hb14 hb15 hb16 hb17 hb18) (by simp_all [kB,jS,jT,kC,hiT])
                  | false =>
                   cases hb19: (t_op== (26:Int))with
                   | true=>
                    exact Ends.eqv (aVb t_op t_n t_text t_kids t_pats   hb1 hb2 hb3 hb4 hb5 hb6 hb7 hb8 hb9 hb10 hb11 hb12 hb13 hb14 hb15 hb16 hb17 hb18 hb19) (by simp_all [kB,jS,jT,kC,hiT])
                   | false =>
                    cases hb20: (t_op== (24:Int))with
                    | true=>
                     exact Ends.eqv (aVc t_op t_n t_text t_kids t_pats   hb1 hb2 hb3 hb4 hb5 hb6 hb7 hb8 hb9 hb10 hb11 hb12 hb13 hb14 hb15 hb16 hb17 hb18 hb19 hb20) (by simp_all [kB,jS,jT,kC,hiT])
                    | false =>
                     cases hb21: (t_op== (6:Int))with
                     | true=>
                      exact Ends.eqv (aVd t_op t_n t_text t_kids t_pats   hb1 hb2 hb3 hb4 hb5 hb6 hb7 hb8 hb9 hb10 hb11 hb12 hb13 hb14 hb15 hb16 hb17 hb18 hb19 hb20 hb21) (by simp_all [kB,jS,jT,kC,hiT])
                     | false =>
                      cases hb22: (t_op== (9:Int))with
                      | true=>
                       exact Ends.eqv (aVe t_op t_n t_text t_kids t_pats   hb1 hb2 hb3 hb4 hb5 hb6 hb7 hb8 hb9 hb10 hb11 hb12 hb13 hb14 hb15 hb16 hb17 hb18 hb19 hb20 hb21 hb22) (by simp_all [kB,jS,jT,kC,hiT])
                      | false =>
                       cases hb23: (t_op== (10:Int))with
                       | true=>
                        exact Ends.eqv (aVf t_op t_n t_text t_kids t_pats   hb1 hb2 hb3 hb4 hb5 hb6 hb7 hb8 hb9 hb10 hb11 hb12 hb13 hb14 hb15 hb16 hb17 hb18 hb19 hb20 hb21 hb22 hb23) (by simp_all [kB,jS,jT,kC,hiT])
                       | false=>
                        cases hb24: (t_op== (11:Int))with
                        | true=>
                         exact Ends.eqv (aVg t_op t_n t_text t_kids t_pats   hb1 hb2 hb3 hb4 hb5 hb6 hb7 hb8 hb9 hb10 hb11 hb12 hb13 hb14 hb15 hb16 hb17 hb18 hb19 hb20 hb21 hb22 hb23 hb24) (by simp_all [kB,jS,jT,kC,hiT])
                        | false=>
                         cases hb25: (t_op== (12:Int))with
                         | true=>
                          exact Ends.eqv (aVh t_op t_n t_text t_kids t_pats   hb1 hb2 hb3 hb4 hb5 hb6 hb7 hb8 hb9 hb10 hb11 hb12 hb13 hb14 hb15 hb16 hb17 hb18 hb19 hb20 hb21 hb22 hb23 hb24 hb25) (by simp_all [kB,jS,jT,kC,hiT])
                         | false=>
                          cases hb26: (t_op== (13:Int))with
                          | true=>
                           exact Ends.eqv (aVi t_op t_n t_text t_kids t_pats   hb1 hb2 hb3 hb4 hb5 hb6 hb7 hb8 hb9 hb10 hb11 hb12 hb13 hb14 hb15 hb16 hb17 hb18 hb19 hb20 hb21 hb22 hb23 hb24 hb25 hb26) (by simp_all [kB,jS,jT,kC,hiT])
                          | false=>
                           cases hb27: (t_op== (18:Int))with
                           | true=>
                            exact Ends.eqv (aVj t_op t_n t_text t_kids t_pats   hb1 hb2 hb3 hb4 hb5 hb6 hb7 hb8 hb9 hb10 hb11 hb12 hb13 hb14 hb15 hb16 hb17 hb18 hb19 hb20 hb21 hb22 hb23 hb24 hb25 hb26 hb27) (by simp_all [kB,jS,jT,kC,hiT])
                           | false=>
                            cases hb28: (t_op== (22:Int))with
                            | true=>
                             exact Ends.eqv (aVk t_op t_n t_text t_kids t_pats   hb1 hb2 hb3 hb4 hb5 hb6 hb7 hb8 hb9 hb10 hb11 hb12 hb13 hb14 hb15 hb16 hb17 hb18 hb19 hb20 hb21 hb22 hb23 hb24 hb25 hb26 hb27 hb28) (by simp_all [kB,jS,jT,kC,hiT])
                            | false=>
                             exact Ends.eqv (aVl t_op t_n t_text t_kids t_pats   hb1 hb2 hb3 hb4 hb5 hb6 hb7 hb8 hb9 hb10 hb11 hb12 hb13 hb14 hb15 hb16 hb17 hb18 hb19 hb20 hb21 hb22 hb23 hb24 hb25 hb26 hb27 hb28) (by simp_all [kB,jS,jT,kC,hiT])
theorem aVy (o n:Int)(s:aE)(ks:List Term)(ps:List Pat)(hks:ks.length<1000000)(hps:ps.length<1000000) :Pure PP 250 [Term.av (.mk o n s ks ps)] (.tup [.agg [.bool (kB o),.bool (jS o),.bool (jT o),.int .i64 (kC o (List.length ks) (List.length ps))],.bool (hiT o)]) :=
 aM (by kernel_rfl) (by simp [AV.keylessL,eF]) rfl (bSh_E o n s ks ps hks hps)
def aX (hi hn ht hp:Bool)(K n:Int)(s:aE)(k m:Int) :Bool:=hi&&decide (k=K) && (hn||decide (n=0)) && (ht||decide (s= [])) && (hp||decide (m=0))
def aT (op n:Int)(s:aE)(k m:Int) :Bool:=aX (hiT op) (kB op) (jS op) (jT op) (kC op k m) n s k m
def bT (op n:Int)(s:aE)(m:Int) :Bool:=
 if op=1 then aW n (-1000000000) 1000000000 else if op=2 then aW n 0 1 else if op=24 then aW n 0 3 else if op=14 then cH s else if op=15 then aW m 1 5 else true
def dT (op:Int)(s:aE) :Bool:=if jS op=true∧op≠14 then dE s else true
theorem aVz (op n:Int)(s:aE)(k m:Int) :aI op n s k m= (aT op n s k m&&bT op n s m&&dT op s) :=by
 by_cases h1:op=1
 · subst h1;simp [aI,aT,aX,bT,dT,hiT,kC,kB,jS,jT,aJ,Bool.and_assoc,Bool.and_comm,Bool.and_left_comm]
 by_cases h2:op=2
 · subst h2;simp [aI,aT,aX,bT,dT,hiT,kC,kB,jS,jT,aJ,Bool.and_assoc,Bool.and_comm,Bool.and_left_comm]
 by_cases h3:op=3
 · subst h3;simp [aI,aT,aX,bT,dT,hiT,kC,kB,jS,jT,aJ,Bool.and_assoc,Bool.and_comm,Bool.and_left_comm]
 by_cases h21:op=21
 · subst h21;simp [aI,aT,aX,bT,dT,hiT,kC,kB,jS,jT,aJ,Bool.and_assoc,Bool.and_comm,Bool.and_left_comm]
 by_cases h25:op=25
 · subst h25;simp [aI,aT,aX,bT,dT,hiT,kC,kB,jS,jT,aJ,Bool.and_assoc,Bool.and_comm,Bool.and_left_comm]
 by_cases h28:op=28
 · subst h28;simp [aI,aT,aX,bT,dT,hiT,kC,kB,jS,jT,aJ,Bool.and_assoc,Bool.and_comm,Bool.and_left_comm]
 by_cases h4:op=4
 · subst h4;simp [aI,aT,aX,bT,dT,hiT,kC,kB,jS,jT,aJ,Bool.and_assoc,Bool.and_comm,Bool.and_left_comm]
 by_cases h5:op=5
 · subst h5;simp [aI,aT,aX,bT,dT,hiT,kC,kB,jS,jT,aJ,Bool.and_assoc,Bool.and_comm,Bool.and_left_comm]
 by_cases h27:op=27
 · subst h27;simp [aI,aT,aX,bT,dT,hiT,kC,kB,jS,jT,aJ,Bool.and_assoc,Bool.and_comm,Bool.and_left_comm]
 by_cases h7:op=7
 · subst h7;simp [aI,aT,aX,bT,dT,hiT,kC,kB,jS,jT,aJ,Bool.and_assoc,Bool.and_comm,Bool.and_left_comm]
 by_cases h8:op=8
 · subst h8;simp [aI,aT,aX,bT,dT,hiT,kC,kB,jS,jT,aJ,Bool.and_assoc,Bool.and_comm,Bool.and_left_comm]
 by_cases h15:op=15
 · subst h15;simp [aI,aT,aX,bT,dT,hiT,kC,kB,jS,jT,aJ,Bool.and_assoc,Bool.and_comm,Bool.and_left_comm]
 by_cases h16:op=16
 · subst h16;simp [aI,aT,aX,bT,dT,hiT,kC,kB,jS,jT,aJ,Bool.and_assoc,Bool.and_comm,Bool.and_left_comm]
 by_cases h17:op=17
 · subst h17;simp [aI,aT,aX,bT,dT,hiT,kC,kB,jS,jT,aJ,Bool.and_assoc,Bool.and_comm,Bool.and_left_comm]
 by_cases h19:op=19
 · subst h19;simp [aI,aT,aX,bT,dT,hiT,kC,kB,jS,jT,aJ,Bool.and_assoc,Bool.and_comm,Bool.and_left_comm]
 by_cases h20:op=20
 · subst h20;simp [aI,aT,aX,bT,dT,hiT,kC,kB,jS,jT,aJ,Bool.and_assoc,Bool.and_comm,Bool.and_left_comm]
 by_cases h23:op=23
 · subst h23;simp [aI,aT,aX,bT,dT,hiT,kC,kB,jS,jT,aJ,Bool.and_assoc,Bool.and_comm,Bool.and_left_comm]
 by_cases h26:op=26
 · subst h26;simp [aI,aT,aX,bT,dT,hiT,kC,kB,jS,jT,aJ,Bool.and_assoc,Bool.and_comm,Bool.and_left_comm]
 by_cases h24:op=24
 · subst h24;simp [aI,aT,aX,bT,dT,hiT,kC,kB,jS,jT,aJ,Bool.and_assoc,Bool.and_comm,Bool.and_left_comm]
 by_cases h6:op=6
 · subst h6;simp [aI,aT,aX,bT,dT,hiT,kC,kB,jS,jT,aJ,Bool.and_assoc,Bool.and_comm,Bool.and_left_comm]
 by_cases h9:op=9
 · subst h9;simp [aI,aT,aX,bT,dT,hiT,kC,kB,jS,jT,aJ,Bool.and_assoc,Bool.and_comm,Bool.and_left_comm]
 by_cases h10:op=10
 · subst h10;simp [aI,aT,aX,bT,dT,hiT,kC,kB,jS,jT,aJ,Bool.and_assoc,Bool.and_comm,Bool.and_left_comm]
 by_cases h11:op=11
 · subst h11;simp [aI,aT,aX,bT,dT,hiT,kC,kB,jS,jT,aJ,Bool.and_assoc,Bool.and_comm,Bool.and_left_comm]
 by_cases h12:op=12
 · subst h12;simp [aI,aT,aX,bT,dT,hiT,kC,kB,jS,jT,aJ,Bool.and_assoc,Bool.and_comm,Bool.and_left_comm]
 by_cases h13:op=13
 · subst h13;simp [aI,aT,aX,bT,dT,hiT,kC,kB,jS,jT,aJ,Bool.and_assoc,Bool.and_comm,Bool.and_left_comm]
 by_cases h18:op=18
 · subst h18;simp [aI,aT,aX,bT,dT,hiT,kC,kB,jS,jT,aJ,Bool.and_assoc,Bool.and_comm,Bool.and_left_comm]
 by_cases h22:op=22
 · subst h22;simp [aI,aT,aX,bT,dT,hiT,kC,kB,jS,jT,aJ,Bool.and_assoc,Bool.and_comm,Bool.and_left_comm]
 by_cases h14:op=14
 · subst h14;have e: (!decide (3<k) ||decide (k=3)) =decide (k≤3) :=by by_cases h:3<k<;>simp [h] <;>omega
   simp [aI,aT,aX,bT,dT,hiT,kC,kB,jS,jT,aJ,e,Bool.and_assoc,Bool.and_comm,Bool.and_left_comm]
 have hf:aI op n s k m=false:=by simp [aI,h1,h2,h3,h21,h25,h28,h4,h5,h27,h7,h8,h15,h16,h17,h19,h20,h23,h26,h24,h6,h9,h10,h11,h12,h13,h18,h22,h14]
 have hi:hiT op=false:=by simp [hiT,h1,h2,h3,h21,h25,h28,h4,h5,h27,h7,h8,h15,h16,h17,h19,h20,h23,h26,h24,h6,h9,h10,h11,h12,h13,h18,h22,h14]
 rw [hf];simp [aT,aX,hi]
theorem bH6 (t_op t_n:Int)(t_text:aE)(t_kids:List Term)(t_pats:List Pat)(hn0 ht1 hp2:Bool)(hk3:Int)(hht:ht1=jS t_op) :
  Ends PP 0 (pS t_op t_n t_text t_kids t_pats hn0 ht1 hp2 hk3).as (kQ (dT t_op t_text)) (aG [] 0) :=by
 cases ht1 with
 | true=>
  cases hb1: (t_op != (14:Int))with
  | true=>
   cases hb2: (!(dE t_text))with
   | true=>
    rw [show dT t_op t_text=false by simp_all [dT]];exact bAv t_op t_n t_text t_kids t_pats hn0 true hp2 hk3 (dE t_text) rfl hb1 (iV t_text) hb2
   | false=>
    rw [show dT t_op t_text=true by simp_all [dT]];exact bAw t_op t_n t_text t_kids t_pats hn0 true hp2 hk3 (dE t_text) rfl hb1 (iV t_text) hb2
  | false=>
   rw [show dT t_op t_text=true by simp_all [dT]];exact bAx t_op t_n t_text t_kids t_pats hn0 true hp2 hk3  rfl hb1
 | false=>
  rw [show dT t_op t_text=true by simp_all [dT]];exact bAy t_op t_n t_text t_kids t_pats hn0 false hp2 hk3  rfl
theorem bH7 (t_op t_n:Int)(t_text:aE)(t_kids:List Term)(t_pats:List Pat)(hn0 ht1 hp2:Bool)(hk3:Int)(b:Bool)(hno:bT t_op t_n t_text (List.length t_pats) =false→b=false)
  (h1:bT t_op t_n t_text (List.length t_pats) =true→t_op≠15→Ends PP 0 (pS t_op t_n t_text t_kids t_pats hn0 ht1 hp2 hk3).as (kQ b) (aG [] 0))
  (h2:bT t_op t_n t_text (List.length t_pats) =true→t_op=15→Ends PP 0 (aEf t_op t_n t_text t_kids t_pats hn0 ht1 hp2 hk3 0).as (kQ b) (aG [] 0)) :
  Ends PP 0 (pR t_op t_n t_text t_kids t_pats hn0 ht1 hp2 hk3).as (kQ b) (aG [] 0) :=by
 cases hb1: (t_op== (1:Int))with
 | true=>
  cases hb2: (!(aW t_n (-1000000000) 1000000000))with
  | true=>
   rw [hno (by clear h1 h2 hno;simp_all [bT,aW] <;>omega)];exact bAl t_op t_n t_text t_kids t_pats hn0 ht1 hp2 hk3 (aW t_n (-1000000000) 1000000000) hb1 (xP t_n) hb2
  | false=>
   exact LeadsM.ends (bAm t_op t_n t_text t_kids t_pats hn0 ht1 hp2 hk3 (aW t_n (-1000000000) 1000000000) hb1 (xP t_n) hb2) (h1 (by clear h1 h2 hno;simp_all [bT,aW] <;>omega) (by clear h1 h2 hno;simp_all [bT,aW] <;>omega))
 | false =>
  cases hb3: (t_op== (2:Int))with
  | true=>
   cases hb4: (t_n== (0:Int))with
   | true=>
    exact LeadsM.ends (bAn t_op t_n t_text t_kids t_pats hn0 ht1 hp2 hk3  hb1 hb3 hb4) (h1 (by clear h1 h2 hno;simp_all [bT,aW] <;>omega) (by clear h1 h2 hno;simp_all [bT,aW] <;>omega))
   | false=>
    cases hb5: (!(t_n== (1:Int)))with
    | true=>
     rw [hno (by clear h1 h2 hno;simp_all [bT,aW] <;>omega)];exact bAo t_op t_n t_text t_kids t_pats hn0 ht1 hp2 hk3  hb1 hb3 hb4 hb5
    | false=>
     exact LeadsM.ends (bAp t_op t_n t_text t_kids t_pats hn0 ht1 hp2 hk3  hb1 hb3 hb4 hb5) (h1 (by clear h1 h2 hno;simp_all [bT,aW] <;>omega) (by clear h1 h2 hno;simp_all [bT,aW] <;>omega))
  | false=>
   cases hb6: (t_op== (24:Int))with
   | true=>
    cases hb7: (decide (t_n≥ (0:Int)))with
    | true=>
     cases hb8: (!(decide (t_n< (4:Int))))with
     | true=>
      rw [hno (by clear h1 h2 hno;simp_all [bT,aW] <;>omega)];exact bAq t_op t_n t_text t_kids t_pats hn0 ht1 hp2 hk3  hb1 hb3 hb6 hb7 hb8
     | false=>
      exact LeadsM.ends (bAr t_op t_n t_text t_kids t_pats hn0 ht1 hp2 hk3  hb1 hb3 hb6 hb7 hb8) (h1 (by clear h1 h2 hno;simp_all [bT,aW] <;>omega) (by clear h1 h2 hno;simp_all [bT,aW] <;>omega))
    | false=>
     rw [hno (by clear h1 h2 hno;simp_all [bT,aW] <;>omega)];exact bAs t_op t_n t_text t_kids t_pats hn0 ht1 hp2 hk3  hb1 hb3 hb6 hb7
   | false=>
    cases hb9: (t_op== (14:Int))with
    | true=>
     cases hb10: (!(cH t_text))with
     | true=>
      rw [hno (by clear h1 h2 hno;simp_all [bT,aW] <;>omega)];exact bAt t_op t_n t_text t_kids t_pats hn0 ht1 hp2 hk3 (cH t_text) hb1 hb3 hb6 hb9 (fQ t_text) hb10
     | false=>
      exact LeadsM.ends (bAu t_op t_n t_text t_kids t_pats hn0 ht1 hp2 hk3 (cH t_text) hb1 hb3 hb6 hb9 (fQ t_text) hb10) (h1 (by clear h1 h2 hno;simp_all [bT,aW] <;>omega) (by clear h1 h2 hno;simp_all [bT,aW] <;>omega))
    | false=>
     cases hb11: (t_op== (15:Int))with
     | true=>
      cases hb12: (decide (((List.length t_pats:Nat) :Int) ≥ (1:Int)))with
      | true=>
       cases hb13: (!(decide (((List.length t_pats:Nat) :Int) ≤ (5:Int))))with
       | true=>
        rw [hno (by clear h1 h2 hno;simp_all [bT,aW] <;>omega)];exact aVt t_op t_n t_text t_kids t_pats hn0 ht1 hp2 hk3  hb1 hb3 hb6 hb9 hb11 hb12 hb13
       | false=>
        exact LeadsM.ends (aVu t_op t_n t_text t_kids t_pats hn0 ht1 hp2 hk3  hb1 hb3 hb6 hb9 hb11 hb12 hb13) (h2 (by clear h1 h2 hno;simp_all [bT,aW] <;>omega) (by clear h1 h2 hno;simp_all [bT,aW] <;>omega))
      | false=>
       rw [hno (by clear h1 h2 hno;simp_all [bT,aW] <;>omega)];exact aVv t_op t_n t_text t_kids t_pats hn0 ht1 hp2 hk3  hb1 hb3 hb6 hb9 hb11 hb12
     | false=>
      exact LeadsM.ends (aVw t_op t_n t_text t_kids t_pats hn0 ht1 hp2 hk3  hb1 hb3 hb6 hb9 hb11) (h1 (by clear h1 h2 hno;simp_all [bT,aW] <;>omega) (by clear h1 h2 hno;simp_all [bT,aW] <;>omega))
theorem bH8 (t_op t_n:Int)(t_text:aE)(t_kids:List Term)(t_pats:List Pat)(hi hn ht hp:Bool)(K:Int)(hsh:Pure PP 250 [Term.av (.mk t_op t_n t_text t_kids t_pats)] (.tup [.agg [.bool hn,.bool ht,.bool hp,.int .i64 K],.bool hi]))(b:Bool)(hno:aX hi hn ht hp K t_n t_text (List.length t_kids) (List.length t_pats) =false→b=false)
  (hk:aX hi hn ht hp K t_n t_text (List.length t_kids) (List.length t_pats) =true→Ends PP 0 (pR t_op t_n t_text t_kids t_pats hn ht hp K).as (kQ b) (aG [] 0)) :
  Ends PP 0 (aU2 t_op t_n t_text t_kids t_pats).as (kQ b) (aG [] 0) :=by
 cases hb1:hi with
 | true =>
  cases hb2: (((List.length t_kids:Nat) :Int) ==K)with
  | true =>
   cases hb3:hn with
   | true=>
    cases hb4:ht with
    | true=>
     cases hb5:hp with
     | true=>
      exact LeadsM.ends (bAb t_op t_n t_text t_kids t_pats  hn ht hp K hi hsh hb1 hb2 hb3 hb4 hb5) (hk (by clear hno hk hsh;simp_all [aX,aA,aD]))
     | false=>
      cases hb6: (!(((List.length t_pats:Nat) :Int) == (0:Int)))with
      | true=>
       rw [hno (by clear hno hk hsh;simp_all [aX,aA,aD])];exact bAc t_op t_n t_text t_kids t_pats  hn ht hp K hi hsh hb1 hb2 hb3 hb4 hb5 hb6
      | false=>
       exact LeadsM.ends (bAd t_op t_n t_text t_kids t_pats  hn ht hp K hi hsh hb1 hb2 hb3 hb4 hb5 hb6) (hk (by clear hno hk hsh;simp_all [aX,aA,aD]))
    | false=>
     cases hb7: (aQ (List.length t_text) (aB t_text) 0 0)with
     | true=>
      cases hb8:hp with
      | true=>
       exact LeadsM.ends (bAe t_op t_n t_text t_kids t_pats  hn ht hp K hi hsh hb1 hb2 hb3 hb4 hb7 hb8) (hk (by clear hno hk hsh;simp_all [aX,aA,aD]))
      | false=>
       cases hb9: (!(((List.length t_pats:Nat) :Int) == (0:Int)))with
       | true=>
        rw [hno (by clear hno hk hsh;simp_all [aX,aA,aD])];exact bAf t_op t_n t_text t_kids t_pats  hn ht hp K hi hsh hb1 hb2 hb3 hb4 hb7 hb8 hb9
       | false=>
        exact LeadsM.ends (bAg t_op t_n t_text t_kids t_pats  hn ht hp K hi hsh hb1 hb2 hb3 hb4 hb7 hb8 hb9) (hk (by clear hno hk hsh;simp_all [aX,aA,aD]))
     | false=>
      rw [hno (by clear hno hk hsh;simp_all [aX,aA,aD])];exact bAh t_op t_n t_text t_kids t_pats  hn ht hp K hi hsh hb1 hb2 hb3 hb4 hb7
   | false=>
    cases hb10: (t_n== (0:Int))with
    | true=>
     cases hb11:ht with
     | true=>
      cases hb12:hp with
      | true=>
       exact LeadsM.ends (bAi t_op t_n t_text t_kids t_pats  hn ht hp K hi hsh hb1 hb2 hb3 hb10 hb11 hb12) (hk (by clear hno hk hsh;simp_all [aX,aA,aD]))
      | false=>
       cases hb13: (!(((List.length t_pats:Nat) :Int) == (0:Int)))with
       | true=>
        rw [hno (by clear hno hk hsh;simp_all [aX,aA,aD])];exact bAj t_op t_n t_text t_kids t_pats  hn ht hp K hi hsh hb1 hb2 hb3 hb10 hb11 hb12 hb13
       | false=>
        exact LeadsM.ends (bAk t_op t_n t_text t_kids t_pats  hn ht hp K hi hsh hb1 hb2 hb3 hb10 hb11 hb12 hb13) (hk (by clear hno hk hsh;simp_all [aX,aA,aD]))
     | false=>
      cases hb14: (aQ (List.length t_text) (aB t_text) 0 0)with
      | true=>
       cases hb15:hp with
       | true=>
        exact LeadsM.ends (aVm t_op t_n t_text t_kids t_pats  hn ht hp K hi hsh hb1 hb2 hb3 hb10 hb11 hb14 hb15) (hk (by clear hno hk hsh;simp_all [aX,aA,aD]))
       | false=>
        cases hb16: (!(((List.length t_pats:Nat) :Int) == (0:Int)))with
        | true=>
         rw [hno (by clear hno hk hsh;simp_all [aX,aA,aD])];exact aVn t_op t_n t_text t_kids t_pats  hn ht hp K hi hsh hb1 hb2 hb3 hb10 hb11 hb14 hb15 hb16
        | false=>
         exact LeadsM.ends (aVo t_op t_n t_text t_kids t_pats  hn ht hp K hi hsh hb1 hb2 hb3 hb10 hb11 hb14 hb15 hb16) (hk (by clear hno hk hsh;simp_all [aX,aA,aD]))
      | false=>
       rw [hno (by clear hno hk hsh;simp_all [aX,aA,aD])];exact aVp t_op t_n t_text t_kids t_pats  hn ht hp K hi hsh hb1 hb2 hb3 hb10 hb11 hb14
    | false=>
     rw [hno (by clear hno hk hsh;simp_all [aX,aA,aD])];exact aVq t_op t_n t_text t_kids t_pats  hn ht hp K hi hsh hb1 hb2 hb3 hb10
  | false=>
   rw [hno (by clear hno hk hsh;simp_all [aX,aA,aD])];exact aVr t_op t_n t_text t_kids t_pats  hn ht hp K hi hsh hb1 hb2
 | false=>
  rw [hno (by clear hno hk hsh;simp_all [aX,aA,aD])];exact aVs t_op t_n t_text t_kids t_pats  hn ht hp K hi hsh hb1
end
end Go.Hb
namespace Go.Hb
open Go.Proofs
set_option maxHeartbeats 4000000
noncomputable section
def POT (f:Nat)(args:List AV)(b:Bool) :Prop:=bif b then Pure PP f args (.tup [])else wB PP f args FL
theorem aNi {f:Nat}{args:List AV}{s:TS}{b:Bool}(e: (start PP f args).as=s.as)(hb:mJ PP f=true)(hk:AV.keylessL args=true)(he:Ends PP 0 s.as (kQ b) (aG [] 0)) :POT f args b:=by
 cases b with
 |true=>exact bM e hb hk rfl he
 |false=>exact throws_at hb hk (fA false) (by rw [e];exact he)
theorem bE1 (o n:Int)(s:aE)(ks:List Term)(ps:List Pat)(hn ht hp:Bool)(K:Int)(b:Bool)(hl:ps.length<1000000)(hfit:∀q∈ps,aP q<1000000)(h1:Ends PP 0 (pS o n s ks ps hn ht hp K).as (kQ b) (aG [] 0)) :
  ∀ (qs:List Pat) (i:Nat),ps.drop i=qs→Ends PP 0 (aEf o n s ks ps hn ht hp K (i:Int)).as (kQ (qs.all aD7&&b)) (aG [] 0)
 | [],i,h=>by
  have:=bD h;exact(bAB o n s ks ps hn ht hp K i sd).ends h1
 | .mk f' n' s' ps'::qs,i,h=>by
  obtain⟨g1,g2,g3⟩ :=bB h;have hc:=aUX (.mk f' n' s' ps') (hfit _ (List.mem_of_getElem? g1));rw [List.all_cons];cases hq:aD7 (.mk f' n' s' ps')with
  | true=>
   rw [hq,if_pos rfl]at hc;rw [Bool.true_and];exact(bAA o n s ks ps hn ht hp K i f' n' s' ps' 0 sd sd sd hc (by simp) sd).ends (bE1 o n s ks ps hn ht hp K b hl hfit h1 qs (i+1) g2)
  | false=>
   rw [hq,if_neg (by simp)]at hc;rw [Bool.false_and,Bool.false_and];exact bAz o n s ks ps hn ht hp K i f' n' s' ps' 2 sd sd sd hc (by simp)
theorem bAC (o n:Int)(s:aE)(ks:List Term)(ps:List Pat)(hks:ks.length<1000000)(hps:ps.length<1000000)(hfit:∀q∈ps,aP q<1000000) :POT 199 [Term.av (.mk o n s ks ps)] (aI o n s (List.length ks) (List.length ps) &&ps.all aD7) :=by
 refine aNi (s:=aU2 o n s ks ps) (by kernel_rfl) (by kernel_rfl) (by simp [AV.keylessL,eF]) ?_;have hD:=bH6 o n s ks ps (kB o) (jS o) (jT o) (kC o (List.length ks) (List.length ps)) rfl;rw [aVz];unfold aT;refine bH8 o n s ks ps (hiT o) (kB o) (jS o) (jT o) (kC o (List.length ks) (List.length ps)) (aVy o n s ks ps hks hps) _ (fun h=>by rw [h];simp) (fun ha=>?_);rw [ha];refine bH7 o n s ks ps _ _ _ _ _ (fun h=>by rw [h];simp) (fun hb h15=>?_) (fun hb h15=>?_)
 · have hm:ps= [] :=by
    have hp:jT o=false:=by simp [jT,h15]
    rw [hp]at ha;simp only [aX,Bool.and_eq_true,Bool.false_or,decide_eq_true_eq]at ha;exact List.length_eq_zero_iff.1 (by have:=ha.2;omega)
   subst hm;rw [hb];simpa using hD
 · have hC:=bE1 o n s ks ps (kB o) (jS o) (jT o) (kC o (List.length ks) (List.length ps)) _ hps hfit hD ps 0 rfl;rw [hb,Bool.true_and,Bool.true_and,Bool.and_comm];exact hC
theorem aQX {ks:List Term}{ps:List Pat}(h:lK ks+aK ps+1<1000000) :∀q∈ps,aP q<1000000:=fun q hq=>by
 have:∀ (ps:List Pat),q∈ps→aP q≤aK ps:=by
  intro ps
  induction ps with
  |nil=>intro h;cases h
  | cons p ps ih=>
   intro h;simp only [aK];rcases List.mem_cons.1 h with e|h
   ·rw [e];omega
   ·have:=ih h;omega
 have:=this ps hq;omega
theorem aKA (o n:Int)(s:aE)(ks:List Term)(ps:List Pat)(hl:ks.length<1000000)(ih:∀t∈ks,POT 147 [Term.av t] (mZ t)) :
  ∀ (ts:List Term) (i:Nat),ks.drop i=ts→Ends PP 0 (aHU o n s ks ps (i:Int)).as (kQ (uC ts)) (aG [] 0)
 | [],i,h=>by
  have:=bD h;exact aZX o n s ks ps i sd
 | .mk o' n' s' ks' ps'::ts,i,h=>by
  obtain⟨g1,g2,g3⟩ :=bB h;have hp:=ih _ (List.mem_of_getElem? g1);rw [uC];cases hb:mZ (.mk o' n' s' ks' ps')with
  | true=>
   rw [hb]at hp;rw [Bool.true_and];exact(aZW o n s ks ps i o' n' s' ks' ps' sd sd sd hp sd).ends (aKA o n s ks ps hl ih ts (i+1) g2)
  | false=>
   rw [hb]at hp;rw [Bool.false_and];exact aZV o n s ks ps i o' n' s' ks' ps' sd sd sd hp
mutual
theorem aOu :∀ (t:Term),mY t<1000000→POT 147 [Term.av t] (mZ t)
 | .mk o n s ks ps,hf=>by
  simp only [mY]at hf;have:=xN ks;have:=cL ps;refine aNi (s:=bEX o n s ks ps) (by kernel_rfl) (by kernel_rfl) (by simp [AV.keylessL,eF]) ?_;have hn:=bAC o n s ks ps (by omega) (by omega) (aQX hf);rw [mZ];cases hb: (aI o n s (List.length ks) (List.length ps) &&ps.all aD7)with
  | true=>
   rw [hb]at hn;rw [Bool.true_and];exact(aZU o n s ks ps hn).ends (aKA o n s ks ps (by omega) (aOv ks (by omega)) ks 0 rfl)
  | false=>
   rw [hb]at hn;rw [Bool.false_and];exact aZT o n s ks ps hn
theorem aOv :∀ (ts:List Term),lK ts<1000000→∀t∈ts,POT 147 [Term.av t] (mZ t)
 | [],_,t,ht=>by cases ht
 | u::ts,hf,t,ht=>by
  simp only [lK]at hf;rcases List.mem_cons.1 ht with e|ht
  ·rw [e];exact aOu u (by omega)
  ·exact aOv ts (by omega) t ht
end
def wM (t:Term)(a b d:Int) :Bool:=decide ((hJ t:Int) ≤a) &&decide (d+iK t-1≤b)
def GTS (t:Term)(a b d:Int)(r:Bool)(z:Int) :Prop:=Spec PP (.enter 146 [.ptr 0 0,Term.av t,.int .i64 d]) (aG [(0,GC a b,false)] 1) (kQ r) (aG [(0,GC z b,false)] 1)
def GT (t:Term)(a b d:Int) :Prop:=∃z,GTS t a b d (wM t a b d) z∧ (wM t a b d=true→z=a-hJ t)
def aA2 (ts:List Term)(c b d:Int) :Bool:=decide ((eW ts:Int) ≤c) &&decide (d+fR ts≤b)
theorem aQY (t:Term)(ts:List Term){c b d:Int}(hdb:d≤b) :aA2 (t::ts) c b d= (wM t c b (d+1) &&aA2 ts (c-hJ t) b d) :=by
 have hp:=sG t;unfold aA2 wM;rw [eW,fR,←Bool.decide_and,←Bool.decide_and,←Bool.decide_and,←Bool.decide_and];congr 1;apply propext;omega
theorem aOw (a b:Int)(o n:Int)(s:aE)(ks:List Term)(ps:List Pat)(d:Int)(hd:0≤d)(hd2:d≤1000)(hdb:d≤b)(hl:ks.length<1000000)(ih:∀t∈ks,∀c,0≤c→c≤1000→GT t c b (d+1)) :
  ∀ (ts:List Term) (i:Nat) (c:Int),ks.drop i=ts→0≤c→c≤1000→∃z,Ends PP 1 (aOs a b o n s ks ps d (i:Int) c).as (kQ (aA2 ts c b d)) (aG [(0,GC z b,false)] 1) ∧ (aA2 ts c b d=true→z=c-eW ts)
 | [],i,c,h,h0,h1=>by
  have:=bD h;have e:aA2 [] c b d=true:=by simp [aA2,eW,fR,h0,hdb]
  rw [e];exact⟨c,bGS a b o n s ks ps d i c sd,fun _=>by simp [eW]⟩
 | .mk o' n' s' ks' ps'::ts,i,c,h,h0,h1=>by
  obtain⟨g1,g2,g3⟩ :=bB h;obtain⟨z,hz,hzz⟩ :=ih _ (List.mem_of_getElem? g1) c h0 h1;have hp:=sG (.mk o' n' s' ks' ps');rw [aQY _ _ hdb];unfold GTS at hz;cases hb:wM (.mk o' n' s' ks' ps') c b (d+1)with
  | true=>
   have hz1:=hzz hb;rw [hb]at hz;have hle: (hJ (.mk o' n' s' ks' ps') :Int) ≤c:=by
    unfold wM at hb;simp only [Bool.and_eq_true,decide_eq_true_eq]at hb;exact hb.1
   rw [←hz1,Bool.true_and];obtain⟨z2,hE,hz2⟩ :=aOw a b o n s ks ps d hd hd2 hdb hl ih ts (i+1) z g2 (by omega) (by omega);refine⟨z2,(bGR a b o n s ks ps d i c o' n' s' ks' ps' z sd sd sd sd (dD (ks:=[0]) hz (by kernel_rfl) (fA true) (by kernel_rfl) (by kernel_rfl) trivial (by kernel_rfl) trivial (by kernel_rfl) (by kernel_rfl) (by kernel_rfl) (by kernel_rfl) (by kernel_rfl) (by kernel_rfl) (by kernel_rfl) (by kernel_rfl)) sd).ends hE,fun h=>?_⟩;rw [hz2 h,eW];omega
  | false=>
   rw [hb]at hz;rw [Bool.false_and];exact⟨z,bGQ a b o n s ks ps d i c o' n' s' ks' ps' z sd sd sd sd (dD (ks:=[0]) hz (by kernel_rfl) (fA false) (by kernel_rfl) (by kernel_rfl) trivial (by kernel_rfl) trivial (by kernel_rfl) (by kernel_rfl) (by kernel_rfl) (by kernel_rfl) (by kernel_rfl) (by kernel_rfl) (by kernel_rfl) (by kernel_rfl)),fun h=>by cases h⟩
mutual
theorem aOx (b:Int)(hb:0≤b)(hb2:b≤900) :∀ (t:Term) (a d:Int),0≤a→a≤1000→0≤d→d≤b+1→mY t<1000000→GT t a b d
 | .mk o n s ks ps,a,d,h0,h1,h2,h3,hf=>by
  simp only [mY]at hf;have:=xN ks;have e1:hJ (.mk o n s ks ps) =eW ks+1:=by rw [hJ]
  have e2:iK (.mk o n s ks ps) =fR ks+1:=by rw [iK]
  have E :∃z,Ends PP 1 (bGM a b o n s ks ps d).as (kQ (wM (.mk o n s ks ps) a b d)) (aG [(0,GC z b,false)] 1) ∧ (wM (.mk o n s ks ps) a b d=true→z=a-hJ (.mk o n s ks ps)) :=by
   by_cases ha:1≤a
   · by_cases hdb:d≤b
     · have r:wM (.mk o n s ks ps) a b d=aA2 ks (a-1) b d:=by
        unfold wM aA2;rw [←Bool.decide_and,←Bool.decide_and];congr 1;apply propext;omega
       rw [r];obtain⟨z,hE,hz⟩ :=aOw a b o n s ks ps d h2 (by omega) hdb (by omega) (fun t ht c h0 h1=>aVA b hb hb2 ks (by omega) t ht c (d+1) h0 h1 (by omega) (by omega)) ks 0 (a-1) rfl (by omega) (by omega);exact⟨z,(bGO a b o n s ks ps d sd (by simp;omega) (by simp;omega)).ends hE,fun h=>by rw [hz h];omega⟩
     · have r:wM (.mk o n s ks ps) a b d=false:=by
        unfold wM;rw [←Bool.decide_and];exact decide_eq_false (by omega)
       rw [r];exact⟨a-1,bGN a b o n s ks ps d sd (by simp;omega) (by simp;omega),fun h=>by cases h⟩
   · have r:wM (.mk o n s ks ps) a b d=false:=by
      unfold wM;rw [←Bool.decide_and];exact decide_eq_false (by omega)
     rw [r];exact⟨a-1,bGP a b o n s ks ps d sd (by simp;omega),fun h=>by cases h⟩
  obtain⟨z,hE,hz⟩ :=E;exact⟨z,⟨(bGM a b o n s ks ps d).as.fr,by kernel_rfl,Eq.mp (by kernel_rfl) hE⟩,hz⟩
theorem aVA (b:Int)(hb:0≤b)(hb2:b≤900) :∀ (ts:List Term),lK ts<1000000→∀t∈ts,∀a d,0≤a→a≤1000→0≤d→d≤b+1→GT t a b d
 | [],_,t,ht=>by cases ht
 | u::ts,hf,t,ht=>by
  simp only [lK]at hf;rcases List.mem_cons.1 ht with e|ht
  ·rw [e];exact fun a d p q r s=>aOx b hb hb2 u a d p q r s (by omega)
  ·exact aVA b hb hb2 ts (by omega) t ht
end
theorem aEg (t:Term)(hf:mY t<1000000) :Pure PP 80 [Term.av t] (.int .i64 (if lF t=true then 0 else 2)) :=by
 obtain⟨z,hg,_⟩ :=aOx 14 (by omega) (by omega) t 60 1 (by omega) (by omega) (by omega) (by omega) hf;have hn:=aOu t hf;have e:lF t= (wM t 60 14 1&&mZ t) :=by
  unfold lF wM;congr 1;rw [←Bool.decide_and,←Bool.decide_and];congr 1;apply propext;omega
 rw [e];unfold GTS at hg;obtain⟨o,n,s,ks,ps⟩ :=t;refine bM (s:=bEY o n s ks ps) (by kernel_rfl) (by kernel_rfl) (by simp [AV.keylessL,eF]) (by simp [AV.keyless]) ?_;cases hb:wM (.mk o n s ks ps) 60 14 1 with
 | false=>
  rw [hb]at hg;rw [Bool.false_and];exact aZY o n s ks ps z (dD (ks:=[2]) hg (by kernel_rfl) (fA false) (by kernel_rfl) (by kernel_rfl) trivial (by kernel_rfl) trivial (by kernel_rfl) (by kernel_rfl) (by kernel_rfl) (by kernel_rfl) (by kernel_rfl) (by kernel_rfl) (by kernel_rfl) (by kernel_rfl))
 | true=>
  rw [hb]at hg;have hg':=dD (ks:=[2]) (n2:=3) (args':=[.ptr 2 0,Term.av (.mk o n s ks ps),.int .i64 1]) (lc:=[(0,.cells (putCells .leaf 0 [.int .i64 o,.int .i64 n,aC s,.ilst 5 (Terms.av ks) false,.ilst 4 (Pats.av ps) false]) 5 [] false,false),(1,.cells (putCells .leaf 0 [.bool false]) 1 [] false,false),(2,GC 60 14,false)]) (lc':=[(0,.cells (putCells .leaf 0 [.int .i64 o,.int .i64 n,aC s,.ilst 5 (Terms.av ks) false,.ilst 4 (Pats.av ps) false]) 5 [] false,false),(1,.cells (putCells .leaf 0 [.bool false]) 1 [] false,false),(2,GC z 14,false)]) hg (by kernel_rfl) (fA true) (by kernel_rfl) (by kernel_rfl) trivial (by kernel_rfl) trivial (by kernel_rfl) (by kernel_rfl) (by kernel_rfl) (by kernel_rfl) (by kernel_rfl) (by kernel_rfl) (by kernel_rfl) (by kernel_rfl);rw [Bool.true_and];cases hF:mZ (.mk o n s ks ps)with
  | true=>
   rw [hF]at hn;exact aZ0 o n s ks ps z hg' hn
  | false=>
   rw [hF]at hn;exact aZZ o n s ks ps z hg' hn
end
end Go.Hb
namespace Go.Hb
open Go.Proofs
noncomputable section
open Go.Proofs Tryz
def aHV(a b:Int)(c:aE)(d:List Typ)(g e f:Int):TS:=⟨(tf 97 29 [(1,(nI e)),kp 2 0,(4,(nI 0)),(5,(nI f))] [kc f97 244,kl f97 244,.inBlock 0,kc f97 31]),[],[oC 0 [(nI a),(nI b),(aC c),(.ilst 4 (Typs.av d) false)]],1⟩
def cZ(b c:Int)(d:aE)(a:List Typ)(e f:Bool)(g:Int):TS:=⟨(tf 121 106 [(1,(bV e)),kp 2 0,(4,(bV false)),(5,(nI (a.length:Int))),(6,(bV f)),(7,(nI g))] [kc f121 500,kl f121 500,.inBlock 1,kc f121 63]),[],[oC 0 [(nI b),(nI c),(aC d),(.ilst 4 (Typs.av a) false)]],1⟩
def aHW(a b:Int)(c:aE)(d:List Typ)(e:Int):TS:=⟨(tf 98 22 [kp 1 0,(2,(bV false)),(3,(nI e))] [kc f98 52,kl f98 52,.inBlock 0,kc f98 7]),[],[oC 0 [(nI a),(nI b),(aC c),(.ilst 4 (Typs.av d) false)]],1⟩
def bE2(b c:Int)(d:aE)(e:List Typ)(a:Int):=tT 0 (start PP 97 [(.agg [(nI b),(nI c),(aC d),(.ilst 4 (Typs.av e) false)]),(nI a)])<|gd 11 7 (a<1) (gE 6 1 (nI (-1)))<|gw 6 9 (a-1)<|.W 9 1 [0] (aHV b c d e a (a-1) 0)
def bAD:=fun a b c d e f=>bE2 a b c d e|>.t f tv
def bAE:=fun a b c d e f g=>bE2 a b c d e|>.f f g tv
def aVB(d e:Int)(f:aE)(a:List Typ)(g b c:Int):=tT 0 (aHV d e f a g b c)<|gm 6 aZ a<|gd 2 15 (c< (a.length:Int)) (gd 4 18 (b≥0) (aPz 8 a c<|fun i j k l=>gpI 2 97 [(.agg [(nI i),(nI j),(aC k),(.ilst 4 (Typs.av l) false)]),(nI b)]<|fun m=>gw 6 20 (c+1)<|.W 3 1 [0] (aHV d e f a g m (c+1)))<|gE 8 1 (nI b))<|gE 12 1 (nI b)
def bAF:=fun a b c d e f g i j k l m n o p q r s=>aVB a b c d e f g|>.t n|>.t o i j k l p q m r s tv
def bAG:=fun a b c d e f g i j=>aVB a b c d e f g|>.t i|>.f j tv
def bAH:=fun a b c d e f g i=>aVB a b c d e f g|>.f i tv
def fU(c d:Int)(a:aE)(b:List Typ)(e:Bool):=tT 0 (start PP 121 [(.agg [(nI c),(nI d),(aC a),(.ilst 4 (Typs.av b) false)]),(bV e)])<|gm 9 aZ b<|.b 19 13 (c==1) (.b 7 19 ((b.length:Int) ==0) (.b 5 24 (d==0) (.W 14 1 [0] (cZ c d a b e (aQ a.length (aB a) 0 0) 0))<|.W 14 1 [0] (cZ c d a b e false 0))<|.W 19 1 [0] (cZ c d a b e false 0))<|.b 6 13 (c==2) (.b 7 19 ((b.length:Int) ==0) (.b 5 24 (d==0) (.W 14 1 [0] (cZ c d a b e (aQ a.length (aB a) 0 0) 0))<|.W 14 1 [0] (cZ c d a b e false 0))<|.W 19 1 [0] (cZ c d a b e false 0))<|.b 5 13 (c==3) (.b 5 19 ((b.length:Int) ==0) (.b 5 24 (d==0) (.W 14 1 [0] (cZ c d a b e (aQ a.length (aB a) 0 0) 0))<|.W 14 1 [0] (cZ c d a b e false 0))<|.W 19 1 [0] (cZ c d a b e false 0))<|.b 6 29 (c==4) (.b 5 33 ((b.length:Int) ==2) (.b 5 38 (d==0) (.W 14 1 [0] (cZ c d a b e (aQ a.length (aB a) 0 0) 0))<|.W 14 1 [0] (cZ c d a b e false 0))<|.W 19 1 [0] (cZ c d a b e false 0))<|.b 7 43 (c==5) (.b 7 49 ((b.length:Int) ==1) (.b 5 54 (d==0) (.W 14 1 [0] (cZ c d a b e (aQ a.length (aB a) 0 0) 0))<|.W 14 1 [0] (cZ c d a b e false 0))<|.W 19 1 [0] (cZ c d a b e false 0))<|.b 6 43 (c==6) (.b 7 49 ((b.length:Int) ==1) (.b 5 54 (d==0) (.W 14 1 [0] (cZ c d a b e (aQ a.length (aB a) 0 0) 0))<|.W 14 1 [0] (cZ c d a b e false 0))<|.W 19 1 [0] (cZ c d a b e false 0))<|.b 5 43 (c==7) (.b 5 49 ((b.length:Int) ==1) (.b 5 54 (d==0) (.W 14 1 [0] (cZ c d a b e (aQ a.length (aB a) 0 0) 0))<|.W 14 1 [0] (cZ c d a b e false 0))<|.W 19 1 [0] (cZ c d a b e false 0))<|.b 6 59 (c==8) (.b 5 63 ((b.length:Int) ==0) (.b 5 68 (d==0) (cP 2 120 [(aC a)]<|fun f=>.W 11 1 [0] (cZ c d a b e f 0))<|.W 14 1 [0] (cZ c d a b e false 0))<|.W 19 1 [0] (cZ c d a b e false 0))<|.b 6 73 (c==9) (.b 4 76 e (.b 4 80 ((b.length:Int) ==0) (.b 5 85 (aQ a.length (aB a) 0 0) (cP 2 60 [(nI d),(nI 0),(nI 99)]<|fun f=>.W 11 1 [0] (cZ c d a b e f 0))<|.W 14 1 [0] (cZ c d a b e false 0))<|.W 19 1 [0] (cZ c d a b e false 0))<|.W 23 1 [0] (cZ c d a b e false 0))<|.W 10 1 [0] (cZ c d a b e false 0)
def bAI:=fun a b c d e f g i=>fU a b c d e|>.t f|>.t g|>.t i tv
def bAJ:=fun a b c d e f g i=>fU a b c d e|>.t f|>.t g|>.f i tv
def bAK:=fun a b c d e f g=>fU a b c d e|>.t f|>.f g tv
def bAL:=fun a b c d e f g i j=>fU a b c d e|>.f f|>.t g|>.t i|>.t j tv
def bAM:=fun a b c d e f g i j=>fU a b c d e|>.f f|>.t g|>.t i|>.f j tv
def bAN:=fun a b c d e f g i=>fU a b c d e|>.f f|>.t g|>.f i tv
def bAO:=fun a b c d e f g i j k=>fU a b c d e|>.f f|>.f g|>.t i|>.t j|>.t k tv
def bAP:=fun a b c d e f g i j k=>fU a b c d e|>.f f|>.f g|>.t i|>.t j|>.f k tv
def bAQ:=fun a b c d e f g i j=>fU a b c d e|>.f f|>.f g|>.t i|>.f j tv
def bAR:=fun a b c d e f g i j k l=>fU a b c d e|>.f f|>.f g|>.f i|>.t j|>.t k|>.t l tv
def aVC:=fun a b c d e f g i j k l=>fU a b c d e|>.f f|>.f g|>.f i|>.t j|>.t k|>.f l tv
def aVD:=fun a b c d e f g i j k=>fU a b c d e|>.f f|>.f g|>.f i|>.t j|>.f k tv
def aVE:=fun a b c d e f g i j k l m=>fU a b c d e|>.f f|>.f g|>.f i|>.f j|>.t k|>.t l|>.t m tv
def aVF:=fun a b c d e f g i j k l m=>fU a b c d e|>.f f|>.f g|>.f i|>.f j|>.t k|>.t l|>.f m tv
def aVG:=fun a b c d e f g i j k l=>fU a b c d e|>.f f|>.f g|>.f i|>.f j|>.t k|>.f l tv
def aVH:=fun a b c d e f g i j k l m n=>fU a b c d e|>.f f|>.f g|>.f i|>.f j|>.f k|>.t l|>.t m|>.t n tv
def aVI:=fun a b c d e f g i j k l m n=>fU a b c d e|>.f f|>.f g|>.f i|>.f j|>.f k|>.t l|>.t m|>.f n tv
def aVJ:=fun a b c d e f g i j k l m=>fU a b c d e|>.f f|>.f g|>.f i|>.f j|>.f k|>.t l|>.f m tv
def aVK:=fun a b c d e f g i j k l m n o=>fU a b c d e|>.f f|>.f g|>.f i|>.f j|>.f k|>.f l|>.t m|>.t n|>.t o tv
def aVL:=fun a b c d e f g i j k l m n o=>fU a b c d e|>.f f|>.f g|>.f i|>.f j|>.f k|>.f l|>.t m|>.t n|>.f o tv
def aVM:=fun a b c d e f g i j k l m n=>fU a b c d e|>.f f|>.f g|>.f i|>.f j|>.f k|>.f l|>.t m|>.f n tv
def aVN:=fun a b c d e f g i j k l m n o p q r=>fU a b c d e|>.f g|>.f i|>.f j|>.f k|>.f l|>.f m|>.f n|>.t o|>.t p|>.t q f r tv
def aVO:=fun a b c d e f g i j k l m n o p=>fU a b c d e|>.f f|>.f g|>.f i|>.f j|>.f k|>.f l|>.f m|>.t n|>.t o|>.f p tv
def aVP:=fun a b c d e f g i j k l m n o=>fU a b c d e|>.f f|>.f g|>.f i|>.f j|>.f k|>.f l|>.f m|>.t n|>.f o tv
def aVQ:=fun a b c d e f g i j k l m n o p q r s t=>fU a b c d e|>.f g|>.f i|>.f j|>.f k|>.f l|>.f m|>.f n|>.f o|>.t p|>.t q|>.t r|>.t s f t tv
def aVR:=fun a b c d e f g i j k l m n o p q r=>fU a b c d e|>.f f|>.f g|>.f i|>.f j|>.f k|>.f l|>.f m|>.f n|>.t o|>.t p|>.t q|>.f r tv
def aVS:=fun a b c d e f g i j k l m n o p q=>fU a b c d e|>.f f|>.f g|>.f i|>.f j|>.f k|>.f l|>.f m|>.f n|>.t o|>.t p|>.f q tv
def aVT:=fun a b c d e f g i j k l m n o p=>fU a b c d e|>.f f|>.f g|>.f i|>.f j|>.f k|>.f l|>.f m|>.f n|>.t o|>.f p tv
def aVU:=fun a b c d e f g i j k l m n o=>fU a b c d e|>.f f|>.f g|>.f i|>.f j|>.f k|>.f l|>.f m|>.f n|>.f o tv
def aVV(e f:Int)(g:aE)(b:List Typ)(d c:Bool)(a:Int):=tT 0 (cZ e f g b d c a)<|gd 7 93 (a< (b.length:Int)) (.b 3 95 c (aPz 8 b a<|fun i j k l=>cP 2 121 [(.agg [(nI i),(nI j),(aC k),(.ilst 4 (Typs.av l) false)]),(bV d)]<|fun m=>gw 6 97 (a+1)<|.W 3 1 [0] (cZ e f g b d m (a+1)))<|gE 8 1 (bV c))<|gE 11 1 (bV c)
def bAS:=fun a b c d e f g i j k l m n o p q r s=>aVV a b c d e f g|>.t n|>.t o i j k l p q m r s tv
def bAT:=fun a b c d e f g i j=>aVV a b c d e f g|>.t i|>.f j tv
def bAU:=fun a b c d e f g i=>aVV a b c d e f g|>.f i tv
def bAV (a b:Int)(c:aE)(d:List Typ):=(tT 0 (start PP 98 [(.agg [(nI a),(nI b),(aC c),(.ilst 4 (Typs.av d) false)])])<|.W 12 1 [0] (aHW a b c d 0)) tv
def aVW(d e:Int)(c:aE)(a:List Typ)(b:Int):=tT 0 (aHW d e c a b)<|gm 6 aZ a<|gd 2 8 (b< (a.length:Int)) (aPz 9 a b<|fun f g i j=>cP 1 98 [(.agg [(nI f),(nI g),(aC i),(.ilst 4 (Typs.av j) false)])]<|fun k=>.b 2 17 (!k) (gE 6 1 (bV false))<|gw 6 10 (b+1)<|.W 3 1 [0] (aHW d e c a (b+1)))<|gE 11 1 (bV (decide ((c.length:Int) ≤30)))
def bAW:=fun a b c d e f g i j k l m n o p=>aVW a b c d e|>.t l f g i j m n k o|>.t p tv
def bAX:=fun a b c d e f g i j k l m n o p q=>aVW a b c d e|>.t l f g i j m n k o|>.f p q tv
def bAY:=fun a b c d e f=>aVW a b c d e|>.f f tv
end
end Go.Hb
namespace Go.Hb
open Go.Proofs
noncomputable section
open Go.Proofs Tryz
def bGT(a b c d:Int)(e:aE)(f:List Typ):TS:=bW PP 266 [(.ptr 0 0),(.agg [(nI c),(nI d),(aC e),(.ilst 4 (Typs.av f) false)])] [oC 0 [(nI a),(nI b)]] 1
def aOy(e b f g:Int)(i:aE)(a:List Typ)(c d:Int):TS:=⟨(tf 266 19 [kp 0 0,(9,(.ilst 4 (Typs.av a) false)),(10,(nI (a.length:Int))),(11,(nI c))] [kc f266 60,kl f266 60,.inBlock 0]),[],[oC 0 [(nI d),(nI b)]],1⟩
def aVX(a b:Int)(c:aE)(d:List Typ)(e:Bool):TS:=bW PP 267 [(.agg [(nI a),(nI b),(aC c),(.ilst 4 (Typs.av d) false)]),(bV e)] [] 0
def nO(a b:Int)(c:aE)(d:List Typ)(e:Bool)(f:Int):TS:=⟨(tf 267 77 [(1,(bV e)),kp 2 0,(4,(nI f))] [kc f267 15]),[],[oC 0 [(nI a),(nI b),(aC c),(.ilst 4 (Typs.av d) false)]],1⟩
def wN(d e:Int)(f:aE)(a:List Typ)(b:Bool)(c:Int):TS:=⟨(tf 267 77 [(1,(bV b)),(67,(.ilst 4 (Typs.av a) false)),(68,(nI (a.length:Int))),(69,(nI c))] [kc f267 252,kl f267 252,.inBlock 1]),[],[],0⟩
def bE3(a b:Int)(c:aE)(d:List Typ):TS:=bW PP 183 [(.agg [(nI a),(nI b),(aC c),(.ilst 4 (Typs.av d) false)])] [] 0
def bE4(a b d e:Int)(f:aE)(c:List Typ):=tT 1 (bGT a b d e f c)<|gw 15 8 (a-1)<|gd 11 16 ((a-1) ≥0) (.b 13 3 (!(decide (0≤b))) (.P 7 2 [] [((.iface 299 (.agg [])),false)] [oC 0 [(nI (a-1)),(nI b)]] 1)<|gm 12 aZ c<|.W 4 2 [] (aOy a b d e f c 0 (a-1)))<|.P 20 2 [] [((.iface 299 (.agg [])),false)] [oC 0 [(nI (a-1)),(nI b)]] 1
def bGU:=fun a b c d e f g i j=>bE4 a b c d e f g|>.t i|>.f j tv
def bGV:=fun a b c d e f g i=>bE4 a b c d e f g|>.f i tv
def aVY(k a l m:Int)(n:aE)(i:List Typ)(f j:Int):=tT 1 (aOy k a l m n i f j)<|gd 5 12 (f< (i.length:Int)) (aPz 6 i f<|fun b c d e=>.o (.y fun g:Int=>gK 7 (.enter 266 [(.ptr 0 0),(.agg [(nI b),(nI c),(aC d),(.ilst 4 (Typs.av e) false)])]) [oC 0 [(nI j),(nI a)],oC 1 [(nI b),(nI c),(aC d),(.ilst 4 (Typs.av e) false)]] 2 [((.iface 299 (.agg [])),false)] [oC 0 [(nI g),(nI a)],oC 1 [(nI b),(nI c),(aC d),(.ilst 4 (Typs.av e) false)]] 2<|.P 0 2 [] [((.iface 299 (.agg [])),false)] [oC 0 [(nI g),(nI a)]] 1)<|.y fun g:Int=>gk 7 (.enter 266 [(.ptr 0 0),(.agg [(nI b),(nI c),(aC d),(.ilst 4 (Typs.av e) false)])]) [oC 0 [(nI j),(nI a)],oC 1 [(nI b),(nI c),(aC d),(.ilst 4 (Typs.av e) false)]] 2 (.tup []) [oC 0 [(nI g),(nI a)],oC 1 [(nI b),(nI c),(aC d),(.ilst 4 (Typs.av e) false)]] 2<|gw 4 18 (f+1)<|.W 3 2 [] (aOy k a l m n i (f+1) g))<|.E 3 1 [] (.tup []) [oC 0 [(nI j),(nI a)]] 1
def bGW:=fun a b c d e f g i j k l m n o p q r=>aVY a b c d e f g i|>.t o j k l m p q|>.1 n r tv
def bGX:=fun a b c d e f g i j k l m n o p q r s=>aVY a b c d e f g i|>.t o j k l m p q|>.2 n r s tv
def bGY:=fun a b c d e f g i j=>aVY a b c d e f g i|>.f j tv
def qT(a b:Int)(c:aE)(e:List Typ)(d:Bool):=tT 0 (aVX a b c e d)<|.b 21 10 (a==1) (.W 5 1 [0] (nO a b c e d 0))<|.b 6 10 (a==2) (.W 5 1 [0] (nO a b c e d 0))<|.b 5 10 (a==3) (.W 3 1 [0] (nO a b c e d 0))<|.b 6 14 (a==4) (.W 5 1 [0] (nO a b c e d 2))<|.b 7 16 (a==5) (.W 7 1 [0] (nO a b c e d 1))<|.b 6 16 (a==6) (.W 7 1 [0] (nO a b c e d 1))<|.b 5 16 (a==7) (.W 5 1 [0] (nO a b c e d 1))<|.b 6 20 (a==8) (cP 4 179 [(aC c)]<|fun f=>.b 6 3 (!f) (gQ 6 1 [((.iface 299 (.agg [])),false)])<|.W 6 1 [0] (nO a b c e d 0))<|.b 6 26 (a==9) (.b 4 29 d (gd 5 34 (b≥0) (.b 10 3 (!(decide (b≤99))) (gQ 6 1 [((.iface 299 (.agg [])),false)])<|.W 6 1 [0] (nO a b c e d 0))<|gQ 16 1 [((.iface 299 (.agg [])),false)])<|gQ 21 1 [((.iface 299 (.agg [])),false)])<|gQ 14 1 [((.iface 299 (.agg [])),false)]
def bAZ:=fun a b c d e f=>qT a b c d e|>.t f tv
def bA0:=fun a b c d e f g=>qT a b c d e|>.f f|>.t g tv
def bA1:=fun a b c d e f g i=>qT a b c d e|>.f f|>.f g|>.t i tv
def bA2:=fun a b c d e f g i j=>qT a b c d e|>.f f|>.f g|>.f i|>.t j tv
def bA3:=fun a b c d e f g i j k=>qT a b c d e|>.f f|>.f g|>.f i|>.f j|>.t k tv
def bA4:=fun a b c d e f g i j k l=>qT a b c d e|>.f f|>.f g|>.f i|>.f j|>.f k|>.t l tv
def bA5:=fun a b c d e f g i j k l m=>qT a b c d e|>.f f|>.f g|>.f i|>.f j|>.f k|>.f l|>.t m tv
def bA6:=fun a b c d e f g i j k l m n o p q=>qT a b c d e|>.f g|>.f i|>.f j|>.f k|>.f l|>.f m|>.f n|>.t o f p|>.t q tv
def bA7:=fun a b c d e f g i j k l m n o p q=>qT a b c d e|>.f g|>.f i|>.f j|>.f k|>.f l|>.f m|>.f n|>.t o f p|>.f q tv
def bA8:=fun a b c d e f g i j k l m n o p q r=>qT a b c d e|>.f f|>.f g|>.f i|>.f j|>.f k|>.f l|>.f m|>.f n|>.t o|>.t p|>.t q|>.t r tv
def aVZ:=fun a b c d e f g i j k l m n o p q r=>qT a b c d e|>.f f|>.f g|>.f i|>.f j|>.f k|>.f l|>.f m|>.f n|>.t o|>.t p|>.t q|>.f r tv
def aV0:=fun a b c d e f g i j k l m n o p q=>qT a b c d e|>.f f|>.f g|>.f i|>.f j|>.f k|>.f l|>.f m|>.f n|>.t o|>.t p|>.f q tv
def aV1:=fun a b c d e f g i j k l m n o p=>qT a b c d e|>.f f|>.f g|>.f i|>.f j|>.f k|>.f l|>.f m|>.f n|>.t o|>.f p tv
def aV2:=fun a b c d e f g i j k l m n o=>qT a b c d e|>.f f|>.f g|>.f i|>.f j|>.f k|>.f l|>.f m|>.f n|>.f o tv
def aCh(c d:Int)(b:aE)(a:List Typ)(e:Bool)(f:Int):=tT 0 (nO c d b a e f)<|gm 4 aZ a<|.b 3 45 ((a.length:Int) ==f) (.b 4 49 (c==9) (.b 10 59 (c==8) (gm 20 aZ a<|.W 4 1 [] (wN c d b a e 0))<|.b 11 3 (!(aQ b.length (aB b) 0 0)) (gQ 6 1 [((.iface 299 (.agg [])),false)])<|gm 9 aZ a<|.W 4 1 [] (wN c d b a e 0))<|.b 6 55 (d==0) (.b 4 59 (c==8) (gm 20 aZ a<|.W 4 1 [] (wN c d b a e 0))<|.b 11 3 (!(aQ b.length (aB b) 0 0)) (gQ 6 1 [((.iface 299 (.agg [])),false)])<|gm 9 aZ a<|.W 4 1 [] (wN c d b a e 0))<|gQ 21 1 [((.iface 299 (.agg [])),false)])<|gQ 31 1 [((.iface 299 (.agg [])),false)]
def bA9:=fun a b c d e f g i j=>aCh a b c d e f|>.t g|>.t i|>.t j tv
def bBa:=fun a b c d e f g i j k=>aCh a b c d e f|>.t g|>.t i|>.f j|>.t k tv
def bBb:=fun a b c d e f g i j k=>aCh a b c d e f|>.t g|>.t i|>.f j|>.f k tv
def bBc:=fun a b c d e f g i j k=>aCh a b c d e f|>.t g|>.f i|>.t j|>.t k tv
def bBd:=fun a b c d e f g i j k l=>aCh a b c d e f|>.t g|>.f i|>.t j|>.f k|>.t l tv
def bBe:=fun a b c d e f g i j k l=>aCh a b c d e f|>.t g|>.f i|>.t j|>.f k|>.f l tv
def bBf:=fun a b c d e f g i j=>aCh a b c d e f|>.t g|>.f i|>.f j tv
def bBg:=fun a b c d e f g=>aCh a b c d e f|>.f g tv
def aV3(d e:Int)(f:aE)(b:List Typ)(c:Bool)(a:Int):=tT 0 (wN d e f b c a)<|gd 5 70 (a< (b.length:Int)) (aPz 6 b a<|fun g i j k=>.o (.i [rn 7,.throws [((.iface 299 (.agg [])),false)]] [hA (wB PP 267 [(.agg [(nI g),(nI i),(aC j),(.ilst 4 (Typs.av k) false)]),(bV c)] [((.iface 299 (.agg [])),false)])]<|gQ 0 1 [((.iface 299 (.agg [])),false)])<|gp 7 267 [(.agg [(nI g),(nI i),(aC j),(.ilst 4 (Typs.av k) false)]),(bV c)] (.tup [])<|gw 4 76 (a+1)<|.W 3 1 [] (wN d e f b c (a+1)))<|gE 3 0 (.tup [])
def bBh:=fun a b c d e f g i j k l m n o=>aV3 a b c d e f|>.t l g i j k m n|>.1 o tv
def bBi:=fun a b c d e f g i j k l m n o p=>aV3 a b c d e f|>.t l g i j k m n|>.2 o p tv
def bBj:=fun a b c d e f g=>aV3 a b c d e f|>.f g tv
def aV4(a b:Int)(c:aE)(d:List Typ):=tT 0 (bE3 a b c d)<|.o (.y fun e:Int=>gK 46 (.enter 266 [(.ptr 4 0),(.agg [(nI a),(nI b),(aC c),(.ilst 4 (Typs.av d) false)])]) [oC 0 [(nI a),(nI b),(aC c),(.ilst 4 (Typs.av d) false)],oC 1 [(nI a),(nI b),(aC c),(.ilst 4 (Typs.av d) false)],oC 2 [(bV false)],oC 3 [(bV false)],oC 4 [(nI 12),(nI 0)]] 5 [((.iface 299 (.agg [])),false)] [oC 0 [(nI a),(nI b),(aC c),(.ilst 4 (Typs.av d) false)],oC 1 [(nI a),(nI b),(aC c),(.ilst 4 (Typs.av d) false)],oC 2 [(bV false)],oC 3 [(bV false)],oC 4 [(nI e),(nI 0)]] 5<|gE 55 6 (bV false))<|.y fun e:Int=>gk 46 (.enter 266 [(.ptr 4 0),(.agg [(nI a),(nI b),(aC c),(.ilst 4 (Typs.av d) false)])]) [oC 0 [(nI a),(nI b),(aC c),(.ilst 4 (Typs.av d) false)],oC 1 [(nI a),(nI b),(aC c),(.ilst 4 (Typs.av d) false)],oC 2 [(bV false)],oC 3 [(bV false)],oC 4 [(nI 12),(nI 0)]] 5 (.tup []) [oC 0 [(nI a),(nI b),(aC c),(.ilst 4 (Typs.av d) false)],oC 1 [(nI a),(nI b),(aC c),(.ilst 4 (Typs.av d) false)],oC 2 [(bV false)],oC 3 [(bV false)],oC 4 [(nI e),(nI 0)]] 5<|.o (.i [rn 4,.throws [((.iface 299 (.agg [])),false)]] [hA (wB PP 267 [(.agg [(nI a),(nI b),(aC c),(.ilst 4 (Typs.av d) false)]),(bV false)] [((.iface 299 (.agg [])),false)])]<|gE 55 6 (bV false))<|gp 4 267 [(.agg [(nI a),(nI b),(aC c),(.ilst 4 (Typs.av d) false)]),(bV false)] (.tup [])<|gE 43 5 (bV true)
def bBk:=fun a b c d e f=>aV4 a b c d|>.1 e f tv
def bBl:=fun a b c d e f g=>aV4 a b c d|>.2 e f|>.1 g tv
def bBm:=fun a b c d e f g=>aV4 a b c d|>.2 e f|>.2 g tv
end
end Go.Hb
namespace Go.Hb
open Go.Proofs
set_option maxHeartbeats 8000000
noncomputable section
def dI (so n:Int)(s:aE)(k:Int)(ho:Bool) :Bool:=
 if so=1∨so=2∨so=3 then decide (k=0) &&decide (n=0) &&decide (s= [])
 else if so=4 then decide (k=2) &&decide (n=0) &&decide (s= [])
 else if so=5∨so=6∨so=7 then decide (k=1) &&decide (n=0) &&decide (s= [])
 else if so=8 then decide (k=0) &&decide (n=0) &&cH s
 else if so=9 then ho&&decide (k=0) &&decide (s= []) &&aW n 0 99
 else false
mutual
def aA3 (ho:Bool) :Typ→Bool
 | .mk o n s ps=>dI o n s (List.length ps) ho&&aEh ho ps
def aEh (ho:Bool) :List Typ→Bool
 | [] =>true
 |t::ts=>aA3 ho t&&aEh ho ts
end
mutual
def cF :Typ→Nat
 | .mk _ _ _ ps=>cM ps+1
def cM :List Typ→Nat
 | [] =>0
 |t::ts=>cF t+cM ts
end
theorem pT :∀ts:List Typ,ts.length≤cM ts
 | [] =>by simp
 | .mk o n s ps::ts=>by have:=pT ts;simp only [cM,cF,List.length_cons];omega
theorem aF6 :∀t:Typ,1≤cF t
 | .mk _ _ _ ps=>by simp only [cF];omega
def nP (t:Typ)(left:Int) :Int:=if(cF t:Int) ≤left then left-cF t else -1
def mM (ts:List Typ)(left:Int) :Int:=if left<0 then left else if(cM ts:Int) ≤left then left-cM ts else -1
theorem aHX (t:Typ)(ts:List Typ){left:Int}(h0:0≤left) :mM (t::ts) left=mM ts (nP t left) :=by
 have hp:=aF6 t;unfold mM nP;rw [cM];by_cases h1: (cF t:Int) ≤left
 · rw [if_pos h1,if_neg (show ¬left<0 by omega),if_neg (show ¬left- (cF t:Int) <0 by omega)];by_cases h2: (cM ts:Int) ≤left-cF t
   · rw [if_pos h2,if_pos (by omega)];omega
   ·rw [if_neg h2,if_neg (by omega)]
 ·rw [if_neg h1,if_pos (show(-1:Int) <0 by omega),if_neg (show ¬left<0 by omega),if_neg (by omega)]
theorem aKB (o n:Int)(s:aE)(ps:List Typ)(l0:Int)(ih:∀t∈ps,∀left:Int,0≤left→left≤1000→Pure PP 97 [Typ.av t,.int .i64 left] (.int .i64 (nP t left))) :
  ∀ (ts:List Typ) (i:Nat) (left:Int),ps.drop i=ts→ -1≤left→ (i:Int) +left≤1000→Ends PP 0 (aHV o n s ps l0 left (i:Int)).as (.ret (.int .i64 (mM ts left))) (aG [] 0)
 | [],i,left,h,h1,h2=>by
  have:=bD h;have e:mM [] left=left:=by
   unfold mM;by_cases hn:left<0
   ·rw [if_pos hn]
   · rw [if_neg hn,if_pos (by simp only [cM];omega)];simp only [cM];omega
  rw [e];exact bAH o n s ps l0 left i sd
 | .mk o' n' s' ps'::ts,i,left,h,h1,h2=>by
  obtain⟨g1,g2,g3⟩ :=bB h;by_cases h0:0≤left
  · have hp:=aF6 (.mk o' n' s' ps');rw [aHX _ _ h0];refine(bAF o n s ps l0 left i o' n' s' ps' (nP (.mk o' n' s' ps') left) sd (by simp;omega) sd sd (ih _ (List.mem_of_getElem? g1) left h0 (by omega)) sd).ends ?_;exact aKB o n s ps l0 ih ts (i+1) _ g2 (by unfold nP;split<;>omega) (by unfold nP;split<;>omega)
  · have e:∀us,mM us left=left:=fun us=>by unfold mM;rw [if_pos (by omega)]
    rw [e];exact bAG o n s ps l0 left i sd (by simp;omega)
mutual
theorem aV5 :∀ (t:Typ) (left:Int),-1≤left→left≤1000→Pure PP 97 [Typ.av t,.int .i64 left] (.int .i64 (nP t left))
 | .mk o n s ps,left,h1,h2=>by
  have e1:cF (.mk o n s ps) =cM ps+1:=by rw [cF]
  refine aM (by kernel_rfl) (by simp [AV.keylessL,wF,AV.keyless]) rfl ?_;by_cases ha:left<1
  · have e:nP (.mk o n s ps) left= -1:=by unfold nP;rw [if_neg (by omega)]
    rw [e];exact bAD o n s ps left (by simp [ha])
  · have e:nP (.mk o n s ps) left=mM ps (left-1) :=by
     unfold nP mM;rw [if_neg (show ¬left-1<0 by omega)];by_cases hc: (cM ps:Int) ≤left-1
     ·rw [if_pos hc,if_pos (by omega)];omega
     ·rw [if_neg hc,if_neg (by omega)]
    rw [e];refine(bAE o n s ps left (by simp;omega) sd).ends ?_;exact aKB o n s ps left (fun t ht l a b=>aOz ps t ht l (by omega) b) ps 0 (left-1) rfl (by omega) (by omega)
theorem aOz :∀ (ts:List Typ),∀t∈ts,∀left:Int,-1≤left→left≤1000→Pure PP 97 [Typ.av t,.int .i64 left] (.int .i64 (nP t left))
 | [],t,ht=>by cases ht
 | u::ts,t,ht=>by
  rcases List.mem_cons.1 ht with e|ht
  ·rw [e];exact fun left a b=>aV5 u left a b
  ·exact aOz ts t ht
end
theorem bH9 (t_sort t_n:Int)(t_text:aE)(t_parts:List Typ)(ho:Bool)(hl:t_parts.length<1000000)(b:Bool)(hk:∀i:Bool,i=dI t_sort t_n t_text (List.length t_parts) ho→Ends PP 0 (cZ t_sort t_n t_text t_parts ho i 0).as (.ret (.bool b)) (aG [] 0)) :
  Ends PP 0 (start PP 121 [Typ.av (.mk t_sort t_n t_text t_parts),.bool ho]).as (.ret (.bool b)) (aG [] 0) :=by
 cases hb1: (t_sort== (1:Int))with
 | true=>
  cases hb2: (((List.length t_parts:Nat) :Int) == (0:Int))with
  | true=>
   cases hb3: (t_n== (0:Int))with
   | true=>
    exact LeadsM.ends (bAI t_sort t_n t_text t_parts ho   hb1 hb2 hb3) (hk _ (by clear hk;simp_all [dI,aA,aD]))
   | false=>
    exact LeadsM.ends (bAJ t_sort t_n t_text t_parts ho   hb1 hb2 hb3) (hk _ (by clear hk;simp_all [dI,aA,aD]))
  | false=>
   exact LeadsM.ends (bAK t_sort t_n t_text t_parts ho   hb1 hb2) (hk _ (by clear hk;simp_all [dI,aA,aD]))
 | false =>
  cases hb4: (t_sort== (2:Int))with
  | true=>
   cases hb5: (((List.length t_parts:Nat) :Int) == (0:Int))with
   | true=>
    cases hb6: (t_n== (0:Int))with
    | true=>
     exact LeadsM.ends (bAL t_sort t_n t_text t_parts ho   hb1 hb4 hb5 hb6) (hk _ (by clear hk;simp_all [dI,aA,aD]))
    | false=>
     exact LeadsM.ends (bAM t_sort t_n t_text t_parts ho   hb1 hb4 hb5 hb6) (hk _ (by clear hk;simp_all [dI,aA,aD]))
   | false=>
    exact LeadsM.ends (bAN t_sort t_n t_text t_parts ho   hb1 hb4 hb5) (hk _ (by clear hk;simp_all [dI,aA,aD]))
  | false =>
   cases hb7: (t_sort== (3:Int))with
   | true=>
    cases hb8: (((List.length t_parts:Nat) :Int) == (0:Int))with
    | true=>
     cases hb9: (t_n== (0:Int))with
     | true=>
      exact LeadsM.ends (bAO t_sort t_n t_text t_parts ho   hb1 hb4 hb7 hb8 hb9) (hk _ (by clear hk;simp_all [dI,aA,aD]))
     | false=>
      exact LeadsM.ends (bAP t_sort t_n t_text t_parts ho   hb1 hb4 hb7 hb8 hb9) (hk _ (by clear hk;simp_all [dI,aA,aD]))
    | false=>
     exact LeadsM.ends (bAQ t_sort t_n t_text t_parts ho   hb1 hb4 hb7 hb8) (hk _ (by clear hk;simp_all [dI,aA,aD]))
   | false =>
    cases hb10: (t_sort== (4:Int))with
    | true=>
     cases hb11: (((List.length t_parts:Nat) :Int) == (2:Int))with
     | true=>
      cases hb12: (t_n== (0:Int))with
      | true=>
       exact LeadsM.ends (bAR t_sort t_n t_text t_parts ho   hb1 hb4 hb7 hb10 hb11 hb12) (hk _ (by clear hk;simp_all [dI,aA,aD]))
      | false=>
       exact LeadsM.ends (aVC t_sort t_n t_text t_parts ho   hb1 hb4 hb7 hb10 hb11 hb12) (hk _ (by clear hk;simp_all [dI,aA,aD]))
     | false=>
      exact LeadsM.ends (aVD t_sort t_n t_text t_parts ho   hb1 hb4 hb7 hb10 hb11) (hk _ (by clear hk;simp_all [dI,aA,aD]))
    | false =>
     cases hb13: (t_sort== (5:Int))with
     | true=>
      cases hb14: (((List.length t_parts:Nat) :Int) == (1:Int))with
      | true=>
       cases hb15: (t_n== (0:Int))with
       | true=>
        exact LeadsM.ends (aVE t_sort t_n t_text t_parts ho   hb1 hb4 hb7 hb10 hb13 hb14 hb15) (hk _ (by clear hk;simp_all [dI,aA,aD]))
       | false=>
        exact LeadsM.ends (aVF t_sort t_n t_text t_parts ho   hb1 hb4 hb7 hb10 hb13 hb14 hb15) (hk _ (by clear hk;simp_all [dI,aA,aD]))
      | false=>
       exact LeadsM.ends (aVG t_sort t_n t_text t_parts ho   hb1 hb4 hb7 hb10 hb13 hb14) (hk _ (by clear hk;simp_all [dI,aA,aD]))
     | false =>
      cases hb16: (t_sort== (6:Int))with
      | true=>
       cases hb17: (((List.length t_parts:Nat) :Int) == (1:Int))with
       | true=>
        cases hb18: (t_n== (0:Int))with
        | true=>
         exact LeadsM.ends (aVH t_sort t_n t_text t_parts ho   hb1 hb4 hb7 hb10 hb13 hb16 hb17 hb18) (hk _ (by clear hk;simp_all [dI,aA,aD]))
        | false=>
         exact LeadsM.ends (aVI t_sort t_n t_text t_parts ho   hb1 hb4 hb7 hb10 hb13 hb16 hb17 hb18) (hk _ (by clear hk;simp_all [dI,aA,aD]))
       | false=>
        exact LeadsM.ends (aVJ t_sort t_n t_text t_parts ho   hb1 hb4 hb7 hb10 hb13 hb16 hb17) (hk _ (by clear hk;simp_all [dI,aA,aD]))
      | false =>
       cases hb19: (t_sort== (7:Int))with
       | true=>
        cases hb20: (((List.length t_parts:Nat) :Int) == (1:Int))with
        | true=>
         cases hb21: (t_n== (0:Int))with
         | true=>
          exact LeadsM.ends (aVK t_sort t_n t_text t_parts ho   hb1 hb4 hb7 hb10 hb13 hb16 hb19 hb20 hb21) (hk _ (by clear hk;simp_all [dI,aA,aD]))
         | false=>
          exact LeadsM.ends (aVL t_sort t_n t_text t_parts ho   hb1 hb4 hb7 hb10 hb13 hb16 hb19 hb20 hb21) (hk _ (by clear hk;simp_all [dI,aA,aD]))
        | false=>
         exact LeadsM.ends (aVM t_sort t_n t_text t_parts ho   hb1 hb4 hb7 hb10 hb13 hb16 hb19 hb20) (hk _ (by clear hk;simp_all [dI,aA,aD]))
       | false=>
        cases hb22: (t_sort== (8:Int))with
        | true=>
         cases hb23: (((List.length t_parts:Nat) :Int) == (0:Int))with
         | true=>
          cases hb24: (t_n== (0:Int))with
          | true=>
           exact LeadsM.ends (aVN t_sort t_n t_text t_parts ho  (cH t_text) hb1 hb4 hb7 hb10 hb13 hb16 hb19 hb22 hb23 hb24 (qO t_text)) (hk _ (by clear hk;simp_all [dI,aA,aD]))
          | false=>
           exact LeadsM.ends (aVO t_sort t_n t_text t_parts ho   hb1 hb4 hb7 hb10 hb13 hb16 hb19 hb22 hb23 hb24) (hk _ (by clear hk;simp_all [dI,aA,aD]))
         | false=>
          exact LeadsM.ends (aVP t_sort t_n t_text t_parts ho   hb1 hb4 hb7 hb10 hb13 hb16 hb19 hb22 hb23) (hk _ (by clear hk;simp_all [dI,aA,aD]))
        | false=>
         cases hb25: (t_sort== (9:Int))with
         | true=>
          cases ho with
          | true=>
           cases hb26: (((List.length t_parts:Nat) :Int) == (0:Int))with
           | true=>
            cases hb27: (aQ (List.length t_text) (aB t_text) 0 0)with
            | true=>
             exact LeadsM.ends (aVQ t_sort t_n t_text t_parts true  (aW t_n 0 99) hb1 hb4 hb7 hb10 hb13 hb16 hb19 hb22 hb25 rfl hb26 hb27 (jL t_n 0 99)) (hk _ (by clear hk;simp_all [dI,aA,aD]))
            | false=>
             exact LeadsM.ends (aVR t_sort t_n t_text t_parts true   hb1 hb4 hb7 hb10 hb13 hb16 hb19 hb22 hb25 rfl hb26 hb27) (hk _ (by clear hk;simp_all [dI,aA,aD]))
           | false=>
            exact LeadsM.ends (aVS t_sort t_n t_text t_parts true   hb1 hb4 hb7 hb10 hb13 hb16 hb19 hb22 hb25 rfl hb26) (hk _ (by clear hk;simp_all [dI,aA,aD]))
          | false=>
           exact LeadsM.ends (aVT t_sort t_n t_text t_parts false   hb1 hb4 hb7 hb10 hb13 hb16 hb19 hb22 hb25 rfl) (hk _ (by clear hk;simp_all [dI,aA,aD]))
         | false=>
          exact LeadsM.ends (aVU t_sort t_n t_text t_parts ho   hb1 hb4 hb7 hb10 hb13 hb16 hb19 hb22 hb25) (hk _ (by clear hk;simp_all [dI,aA,aD]))
theorem aKC (o n:Int)(s:aE)(ps:List Typ)(ho:Bool)(hl:ps.length<1000000)(ih:∀t∈ps,Pure PP 121 [Typ.av t,.bool ho] (.bool (aA3 ho t))) :
  ∀ (ts:List Typ) (i:Nat) (b:Bool),ps.drop i=ts→Ends PP 0 (cZ o n s ps ho b (i:Int)).as (.ret (.bool (b&&aEh ho ts))) (aG [] 0)
 | [],i,b,h=>by
  have:=bD h;exact Ends.eqv (bAU o n s ps ho b i sd) (by simp [aEh])
 | .mk o' n' s' ps'::ts,i,b,h=>by
  obtain⟨g1,g2,g3⟩ :=bB h;cases b with
  |false=>exact Ends.eqv (bAT o n s ps ho false i sd rfl) (by simp)
  | true=>
   refine(bAS o n s ps ho true i o' n' s' ps' (aA3 ho (.mk o' n' s' ps')) sd rfl sd sd (ih _ (List.mem_of_getElem? g1)) sd).ends ?_;exact Ends.eqv (aKC o n s ps ho hl ih ts (i+1) _ g2) (by simp [aEh])
mutual
theorem aV6 (ho:Bool) :∀ (t:Typ),cF t<1000000→Pure PP 121 [Typ.av t,.bool ho] (.bool (aA3 ho t))
 | .mk o n s ps,hf=>by
  refine aM (by kernel_rfl) (by simp [AV.keylessL,wF,AV.keyless]) rfl ?_;simp only [cF]at hf;have:=pT ps;refine bH9 o n s ps ho (by omega) _ (fun i hi=>?_);rw [hi,aA3];exact aKC o n s ps ho (by omega) (aOA ho ps (by omega)) ps 0 _ rfl
theorem aOA (ho:Bool) :∀ (ts:List Typ),cM ts<1000000→∀t∈ts,Pure PP 121 [Typ.av t,.bool ho] (.bool (aA3 ho t))
 | [],_,t,ht=>by cases ht
 | u::ts,hf,t,ht=>by
  simp only [cM]at hf;rcases List.mem_cons.1 ht with e|ht
  ·rw [e];exact aV6 ho u (by omega)
  ·exact aOA ho ts (by omega) t ht
end
def aCF (t:Typ) :Bool:=decide (cF t≤12) &&aA3 false t
mutual
def aBH :Typ→Bool
 | .mk _ _ s ps=>aA4 ps&&decide (((List.length s:Nat) :Int) ≤30)
def aA4 :List Typ→Bool
 | [] =>true
 |t::ts=>aBH t&&aA4 ts
end
theorem aKD (o n:Int)(s:aE)(ps:List Typ)(hl:ps.length<1000000)(ih:∀t∈ps,Pure PP 98 [Typ.av t] (.bool (aBH t))) :
  ∀ (ts:List Typ) (i:Nat),ps.drop i=ts→Ends PP 0 (aHW o n s ps (i:Int)).as (.ret (.bool (aA4 ts&&decide (((List.length s:Nat) :Int) ≤30)))) (aG [] 0)
 | [],i,h=>by
  have:=bD h;exact Ends.eqv (bAY o n s ps i sd) (by simp [aA4])
 | .mk o' n' s' ps'::ts,i,h=>by
  obtain⟨g1,g2,g3⟩ :=bB h;have hp:=ih _ (List.mem_of_getElem? g1);rw [aA4];cases hb:aBH (.mk o' n' s' ps')with
  | true=>
   rw [hb]at hp;exact(bAX o n s ps i o' n' s' ps' true sd sd sd hp rfl sd).ends (Ends.eqv (aKD o n s ps hl ih ts (i+1) g2) (by simp))
  | false=>
   rw [hb]at hp;exact Ends.eqv (bAW o n s ps i o' n' s' ps' false sd sd sd hp rfl) (by simp)
mutual
theorem aV7 :∀ (t:Typ),cF t<1000000→Pure PP 98 [Typ.av t] (.bool (aBH t))
 | .mk o n s ps,hf=>by
  refine aM (by kernel_rfl) (by simp [AV.keylessL,wF]) rfl ?_;simp only [cF]at hf;have:=pT ps;rw [aBH];exact(bAV o n s ps).ends (aKD o n s ps (by omega) (aOB ps (by omega)) ps 0 rfl)
theorem aOB :∀ (ts:List Typ),cM ts<1000000→∀t∈ts,Pure PP 98 [Typ.av t] (.bool (aBH t))
 | [],_,t,ht=>by cases ht
 | u::ts,hf,t,ht=>by
  simp only [cM]at hf;rcases List.mem_cons.1 ht with e|ht
  ·rw [e];exact aV7 u (by omega)
  ·exact aOB ts (by omega) t ht
end
def pY (so:Int) :Int:=if so=4 then 2 else if so=5∨so=6∨so=7 then 1 else 0
def eY (so n:Int)(s:aE)(ho:Bool) :Bool:=
 if so=1∨so=2∨so=3∨so=4∨so=5∨so=6∨so=7 then true else if so=8 then cH s else if so=9 then ho&&aW n 0 99 else false
def fY (pv so n:Int)(s:aE)(k:Int) :Bool:=decide (k=pv) && (decide (so=9) ||decide (n=0)) && (decide (so=8) ||decide (s= []))
theorem aQZ (so n:Int)(s:aE)(k:Int)(ho:Bool) :dI so n s k ho= (eY so n s ho&&fY (pY so) so n s k) :=by
 by_cases h1:so=1
 · subst h1;simp [dI,eY,fY,pY,Bool.and_assoc,Bool.and_comm,Bool.and_left_comm]
 by_cases h2:so=2
 · subst h2;simp [dI,eY,fY,pY,Bool.and_assoc,Bool.and_comm,Bool.and_left_comm]
 by_cases h3:so=3
 · subst h3;simp [dI,eY,fY,pY,Bool.and_assoc,Bool.and_comm,Bool.and_left_comm]
 by_cases h4:so=4
 · subst h4;simp [dI,eY,fY,pY,Bool.and_assoc,Bool.and_comm,Bool.and_left_comm]
 by_cases h5:so=5
 · subst h5;simp [dI,eY,fY,pY,Bool.and_assoc,Bool.and_comm,Bool.and_left_comm]
 by_cases h6:so=6
 · subst h6;simp [dI,eY,fY,pY,Bool.and_assoc,Bool.and_comm,Bool.and_left_comm]
 by_cases h7:so=7
 · subst h7;simp [dI,eY,fY,pY,Bool.and_assoc,Bool.and_comm,Bool.and_left_comm]
 by_cases h8:so=8
 · subst h8;simp [dI,eY,fY,pY,Bool.and_assoc,Bool.and_comm,Bool.and_left_comm]
 by_cases h9:so=9
 · subst h9;simp [dI,eY,fY,pY,Bool.and_assoc,Bool.and_comm,Bool.and_left_comm]
 simp [dI,eY,h1,h2,h3,h4,h5,h6,h7,h8,h9]
theorem bGZ (t_sort t_n:Int)(t_text:aE)(t_parts:List Typ)(ho:Bool)(b:Bool)(hno:eY t_sort t_n t_text ho=false→b=false)(hk:∀pv,eY t_sort t_n t_text ho=true→pv=pY t_sort→Ends PP 0 (nO t_sort t_n t_text t_parts ho pv).as (kQ b) (aG [] 0)) :
  Ends PP 0 (aVX t_sort t_n t_text t_parts ho).as (kQ b) (aG [] 0) :=by
 cases hb1: (t_sort== (1:Int))with
 | true=>
  exact LeadsM.ends (bAZ t_sort t_n t_text t_parts ho   hb1) (hk _ (by clear hno hk;simp_all [eY,pY,aW] <;>omega) (by clear hno hk;simp_all [eY,pY,aW] <;>omega))
 | false =>
  cases hb2: (t_sort== (2:Int))with
  | true=>
   exact LeadsM.ends (bA0 t_sort t_n t_text t_parts ho   hb1 hb2) (hk _ (by clear hno hk;simp_all [eY,pY,aW] <;>omega) (by clear hno hk;simp_all [eY,pY,aW] <;>omega))
  | false =>
   cases hb3: (t_sort== (3:Int))with
   | true=>
    exact LeadsM.ends (bA1 t_sort t_n t_text t_parts ho   hb1 hb2 hb3) (hk _ (by clear hno hk;simp_all [eY,pY,aW] <;>omega) (by clear hno hk;simp_all [eY,pY,aW] <;>omega))
   | false =>
    cases hb4: (t_sort== (4:Int))with
    | true=>
     exact LeadsM.ends (bA2 t_sort t_n t_text t_parts ho   hb1 hb2 hb3 hb4) (hk _ (by clear hno hk;simp_all [eY,pY,aW] <;>omega) (by clear hno hk;simp_all [eY,pY,aW] <;>omega))
    | false =>
     cases hb5: (t_sort== (5:Int))with
     | true=>
      exact LeadsM.ends (bA3 t_sort t_n t_text t_parts ho   hb1 hb2 hb3 hb4 hb5) (hk _ (by clear hno hk;simp_all [eY,pY,aW] <;>omega) (by clear hno hk;simp_all [eY,pY,aW] <;>omega))
     | false =>
      cases hb6: (t_sort== (6:Int))with
      | true=>
       exact LeadsM.ends (bA4 t_sort t_n t_text t_parts ho   hb1 hb2 hb3 hb4 hb5 hb6) (hk _ (by clear hno hk;simp_all [eY,pY,aW] <;>omega) (by clear hno hk;simp_all [eY,pY,aW] <;>omega))
      | false =>
       cases hb7: (t_sort== (7:Int))with
       | true=>
        exact LeadsM.ends (bA5 t_sort t_n t_text t_parts ho   hb1 hb2 hb3 hb4 hb5 hb6 hb7) (hk _ (by clear hno hk;simp_all [eY,pY,aW] <;>omega) (by clear hno hk;simp_all [eY,pY,aW] <;>omega))
       | false=>
        cases hb8: (t_sort== (8:Int))with
        | true=>
         cases hb9: (!(cH t_text))with
         | true=>
          rw [hno (by clear hno hk;simp_all [eY,pY,aW] <;>omega)];exact bA6 t_sort t_n t_text t_parts ho  (cH t_text) hb1 hb2 hb3 hb4 hb5 hb6 hb7 hb8 (fQ t_text) hb9
         | false=>
          exact LeadsM.ends (bA7 t_sort t_n t_text t_parts ho  (cH t_text) hb1 hb2 hb3 hb4 hb5 hb6 hb7 hb8 (fQ t_text) hb9) (hk _ (by clear hno hk;simp_all [eY,pY,aW] <;>omega) (by clear hno hk;simp_all [eY,pY,aW] <;>omega))
        | false=>
         cases hb10: (t_sort== (9:Int))with
         | true=>
          cases ho with
          | true=>
           cases hb11: (decide (t_n≥ (0:Int)))with
           | true=>
            cases hb12: (!(decide (t_n≤ (99:Int))))with
            | true=>
             rw [hno (by clear hno hk;simp_all [eY,pY,aW] <;>omega)];exact bA8 t_sort t_n t_text t_parts true   hb1 hb2 hb3 hb4 hb5 hb6 hb7 hb8 hb10 rfl hb11 hb12
            | false=>
             exact LeadsM.ends (aVZ t_sort t_n t_text t_parts true   hb1 hb2 hb3 hb4 hb5 hb6 hb7 hb8 hb10 rfl hb11 hb12) (hk _ (by clear hno hk;simp_all [eY,pY,aW] <;>omega) (by clear hno hk;simp_all [eY,pY,aW] <;>omega))
           | false=>
            rw [hno (by clear hno hk;simp_all [eY,pY,aW] <;>omega)];exact aV0 t_sort t_n t_text t_parts true   hb1 hb2 hb3 hb4 hb5 hb6 hb7 hb8 hb10 rfl hb11
          | false=>
           rw [hno (by clear hno hk;simp_all [eY,pY,aW] <;>omega)];exact aV1 t_sort t_n t_text t_parts false   hb1 hb2 hb3 hb4 hb5 hb6 hb7 hb8 hb10 rfl
         | false=>
          rw [hno (by clear hno hk;simp_all [eY,pY,aW] <;>omega)];exact aV2 t_sort t_n t_text t_parts ho   hb1 hb2 hb3 hb4 hb5 hb6 hb7 hb8 hb10
theorem bIa (t_sort t_n:Int)(t_text:aE)(t_parts:List Typ)(ho:Bool)(parts4:Int)(b:Bool)(hno:fY parts4 t_sort t_n t_text (List.length t_parts) =false→b=false)(hk:fY parts4 t_sort t_n t_text (List.length t_parts) =true→Ends PP 0 (wN t_sort t_n t_text t_parts ho 0).as (kQ b) (aG [] 0)) :
  Ends PP 0 (nO t_sort t_n t_text t_parts ho parts4).as (kQ b) (aG [] 0) :=by
 cases hb1: (((List.length t_parts:Nat) :Int) ==parts4)with
 | true=>
  cases hb2: (t_sort== (9:Int))with
  | true=>
   cases hb3: (t_sort== (8:Int))with
   | true=>
    exact LeadsM.ends (bA9 t_sort t_n t_text t_parts ho parts4  hb1 hb2 hb3) (hk (by clear hno hk;simp_all [fY,aA,aD]))
   | false=>
    cases hb4: (!(aQ (List.length t_text) (aB t_text) 0 0))with
    | true=>
     rw [hno (by clear hno hk;simp_all [fY,aA,aD])];exact bBa t_sort t_n t_text t_parts ho parts4  hb1 hb2 hb3 hb4
    | false=>
     exact LeadsM.ends (bBb t_sort t_n t_text t_parts ho parts4  hb1 hb2 hb3 hb4) (hk (by clear hno hk;simp_all [fY,aA,aD]))
  | false=>
   cases hb5: (t_n== (0:Int))with
   | true=>
    cases hb6: (t_sort== (8:Int))with
    | true=>
     exact LeadsM.ends (bBc t_sort t_n t_text t_parts ho parts4  hb1 hb2 hb5 hb6) (hk (by clear hno hk;simp_all [fY,aA,aD]))
    | false=>
     cases hb7: (!(aQ (List.length t_text) (aB t_text) 0 0))with
     | true=>
      rw [hno (by clear hno hk;simp_all [fY,aA,aD])];exact bBd t_sort t_n t_text t_parts ho parts4  hb1 hb2 hb5 hb6 hb7
     | false=>
      exact LeadsM.ends (bBe t_sort t_n t_text t_parts ho parts4  hb1 hb2 hb5 hb6 hb7) (hk (by clear hno hk;simp_all [fY,aA,aD]))
   | false=>
    rw [hno (by clear hno hk;simp_all [fY,aA,aD])];exact bBf t_sort t_n t_text t_parts ho parts4  hb1 hb2 hb5
 | false=>
  rw [hno (by clear hno hk;simp_all [fY,aA,aD])];exact bBg t_sort t_n t_text t_parts ho parts4  hb1
end
end Go.Hb
namespace Go.Hb
open Go.Proofs
set_option maxHeartbeats 4000000
noncomputable section
theorem aKE (o n:Int)(s:aE)(ps:List Typ)(ho:Bool)(hl:ps.length<1000000)(ih:∀t∈ps,POT 267 [Typ.av t,.bool ho] (aA3 ho t)) :
  ∀ (ts:List Typ) (i:Nat),ps.drop i=ts→Ends PP 0 (wN o n s ps ho (i:Int)).as (kQ (aEh ho ts)) (aG [] 0)
 | [],i,h=>by
  have:=bD h;exact bBj o n s ps ho i sd
 | .mk o' n' s' ps'::ts,i,h=>by
  obtain⟨g1,g2,g3⟩ :=bB h;have hp:=ih _ (List.mem_of_getElem? g1);rw [aEh];cases hb:aA3 ho (.mk o' n' s' ps')with
  | true=>
   rw [hb]at hp;rw [Bool.true_and];exact(bBi o n s ps ho i o' n' s' ps' sd sd sd hp sd).ends (aKE o n s ps ho hl ih ts (i+1) g2)
  | false=>
   rw [hb]at hp;rw [Bool.false_and];exact bBh o n s ps ho i o' n' s' ps' sd sd sd hp
mutual
theorem aOC (ho:Bool) :∀ (t:Typ),cF t<1000000→POT 267 [Typ.av t,.bool ho] (aA3 ho t)
 | .mk o n s ps,hf=>by
  simp only [cF]at hf;have:=pT ps;refine aNi (s:=aVX o n s ps ho) (by kernel_rfl) (by kernel_rfl) (by simp [AV.keylessL,wF,AV.keyless]) ?_;rw [aA3,aQZ];refine bGZ o n s ps ho _ (fun h=>by rw [h];simp) (fun pv he hp=>?_);subst hp;rw [he];refine bIa o n s ps ho _ _ (fun h=>by rw [h];simp) (fun h=>?_);rw [h,Bool.true_and,Bool.true_and];exact aKE o n s ps ho (by omega) (aOD ho ps (by omega)) ps 0 rfl
theorem aOD (ho:Bool) :∀ (ts:List Typ),cM ts<1000000→∀t∈ts,POT 267 [Typ.av t,.bool ho] (aA3 ho t)
 | [],_,t,ht=>by cases ht
 | u::ts,hf,t,ht=>by
  simp only [cM]at hf;rcases List.mem_cons.1 ht with e|ht
  ·rw [e];exact aOC ho u (by omega)
  ·exact aOD ho ts (by omega) t ht
end
def GKS (p:Typ)(a b:Int) :Prop:=Spec PP (.enter 266 [.ptr 0 0,Typ.av p]) (aG [(0,GC a b,false)] 1) (kQ (qC (cF p) a)) (aG [(0,GC (dN (cF p) a) b,false)] 1)
theorem aOE (a b f n:Int)(s:aE)(ps:List Typ)(hl:ps.length<1000000)(ih:∀p∈ps,∀a,0≤a→a≤1000→GKS p a b) :∀ (t:List Typ) (i:Nat) (c:Int),ps.drop i=t→0≤c→c≤1000 →
  Ends PP 1 (aOy a b f n s ps (i:Int) c).as (kQ (qC (cM t) c)) (aG [(0,GC (dN (cM t) c) b,false)] 1)
 | [],i,c,h,h0,h1=>by
  have:=bD h;have e1:qC (cM []) c=true:=by simp [qC,cM,h0]
  have e2:dN (cM []) c=c:=by simp [dN,cM,h0]
  rw [e1,e2];exact bGY a b f n s ps i c sd
 | .mk f' n' s' ps'::t,i,c,h,h0,h1=>by
  obtain⟨g1,g2,g3⟩ :=bB h;have hs:=ih _ (List.mem_of_getElem? g1) c h0 h1;unfold GKS at hs;by_cases hc: (cF (.mk f' n' s' ps') :Int) ≤c
  · have e1:qC (cF (.mk f' n' s' ps')) c=true:=by simp [qC,hc]
    have e2:dN (cF (.mk f' n' s' ps')) c=c-cF (.mk f' n' s' ps') :=by simp [dN,hc]
    rw [e1,e2]at hs;have r1:qC (cM (.mk f' n' s' ps'::t)) c=qC (cM t) (c-cF (.mk f' n' s' ps')) :=by
     unfold qC;rw [cM];congr 1;apply propext;omega
    have r2:dN (cM (.mk f' n' s' ps'::t)) c=dN (cM t) (c-cF (.mk f' n' s' ps')) :=by
     unfold dN;rw [cM];split<;>split<;>omega
    rw [r1,r2];refine(bGX a b f n s ps i c f' n' s' ps' (c-cF (.mk f' n' s' ps')) sd sd sd (dD (ks:=[0]) hs (by kernel_rfl) (fA true) (by kernel_rfl) (by kernel_rfl) trivial (by kernel_rfl) trivial (by kernel_rfl) (by kernel_rfl) (by kernel_rfl) (by kernel_rfl) (by kernel_rfl) (by kernel_rfl) (by kernel_rfl) (by kernel_rfl)) sd).ends ?_;exact aOE a b f n s ps hl ih t (i+1) _ g2 (by omega) (by omega)
  · have e1:qC (cF (.mk f' n' s' ps')) c=false:=by simp only [qC];exact decide_eq_false hc
    have e2:dN (cF (.mk f' n' s' ps')) c= -1:=by unfold dN;rw [if_neg hc]
    rw [e1,e2]at hs;have r1:qC (cM (.mk f' n' s' ps'::t)) c=false:=by simp only [qC,cM];exact decide_eq_false (by omega)
    have r2:dN (cM (.mk f' n' s' ps'::t)) c= -1:=by unfold dN;rw [cM,if_neg (by omega)]
    rw [r1,r2];exact bGW a b f n s ps i c f' n' s' ps' (-1) sd sd sd (dD (ks:=[0]) hs (by kernel_rfl) (fA false) (by kernel_rfl) (by kernel_rfl) trivial (by kernel_rfl) trivial (by kernel_rfl) (by kernel_rfl) (by kernel_rfl) (by kernel_rfl) (by kernel_rfl) (by kernel_rfl) (by kernel_rfl) (by kernel_rfl))
mutual
theorem aOF (b:Int)(hb:0≤b) :∀ (p:Typ) (a:Int),0≤a→a≤1000→cF p<1000000→GKS p a b
 | .mk f n s ps,a,h0,h1,hp=>by
  simp only [cF]at hp;have:=pT ps;refine⟨(bGT a b f n s ps).as.fr,by kernel_rfl,?_⟩;have E:Ends PP 1 (bGT a b f n s ps).as (kQ (qC (cF (.mk f n s ps)) a)) (aG [(0,GC (dN (cF (.mk f n s ps)) a) b,false)] 1) :=by
   by_cases ha:1≤a
   · have r1:qC (cF (.mk f n s ps)) a=qC (cM ps) (a-1) :=by
      unfold qC;rw [cF];congr 1;apply propext;omega
     have r2:dN (cF (.mk f n s ps)) a=dN (cM ps) (a-1) :=by
      unfold dN;rw [cF];split<;>split<;>omega
     rw [r1,r2];exact(bGU a b f n s ps sd (by simp;omega) (by simp;omega)).ends (aOE a b f n s ps (by omega) (fun p hp a h0 h1=>aV8 b hb ps (by omega) p hp a h0 h1) ps 0 (a-1) rfl (by omega) (by omega))
   · obtain rfl:a=0:=by omega
     have r1:qC (cF (.mk f n s ps)) 0=false:=by simp only [qC,cF];exact decide_eq_false (by omega)
     have r2:dN (cF (.mk f n s ps)) 0=0-1:=by unfold dN;rw [cF,if_neg (by omega)];rfl
     rw [r1,r2];exact bGV 0 b f n s ps sd (by simp)
  exact Eq.mp (by kernel_rfl) E
theorem aV8 (b:Int)(hb:0≤b) :∀ (ps:List Typ),cM ps<1000000→∀p∈ps,∀a,0≤a→a≤1000→GKS p a b
 | [],_,p,hp=>by cases hp
 | q::ps,h,p,hp=>by
  simp only [cM]at h;rcases List.mem_cons.1 hp with e|hp
  ·rw [e];exact fun a h0 h1=>aOF b hb q a h0 h1 (by omega)
  ·exact aV8 b hb ps (by omega) p hp
end
theorem aEi (t:Typ)(hf:cF t<1000000) :Pure PP 183 [Typ.av t] (.bool (aCF t)) :=by
 have hg:=aOF 0 (by omega) t 12 (by omega) (by omega) hf;have hs:=aOC false t hf;unfold GKS at hg;have e:aCF t= (qC (cF t) 12&&aA3 false t) :=by
  unfold aCF qC;congr 2;apply propext;omega
 rw [e];obtain⟨o,n,s,ps⟩ :=t;refine bM (s:=bE3 o n s ps) (by kernel_rfl) (by kernel_rfl) (by simp [AV.keylessL,wF]) (by simp [AV.keyless]) ?_;generalize dN (cF (.mk o n s ps)) 12=z at hg;cases hb:qC (cF (.mk o n s ps)) 12 with
 | false=>
  rw [hb]at hg;rw [Bool.false_and];exact bBk o n s ps z (dD (ks:=[4]) hg (by kernel_rfl) (fA false) (by kernel_rfl) (by kernel_rfl) trivial (by kernel_rfl) trivial (by kernel_rfl) (by kernel_rfl) (by kernel_rfl) (by kernel_rfl) (by kernel_rfl) (by kernel_rfl) (by kernel_rfl) (by kernel_rfl))
 | true=>
  rw [hb]at hg;rw [Bool.true_and];cases hF:aA3 false (.mk o n s ps)with
  | true=>
   rw [hF]at hs;exact bBm o n s ps z (dD (ks:=[4]) hg (by kernel_rfl) (fA true) (by kernel_rfl) (by kernel_rfl) trivial (by kernel_rfl) trivial (by kernel_rfl) (by kernel_rfl) (by kernel_rfl) (by kernel_rfl) (by kernel_rfl) (by kernel_rfl) (by kernel_rfl) (by kernel_rfl)) hs
  | false=>
   rw [hF]at hs;exact bBl o n s ps z (dD (ks:=[4]) hg (by kernel_rfl) (fA true) (by kernel_rfl) (by kernel_rfl) trivial (by kernel_rfl) trivial (by kernel_rfl) (by kernel_rfl) (by kernel_rfl) (by kernel_rfl) (by kernel_rfl) (by kernel_rfl) (by kernel_rfl) (by kernel_rfl)) hs
end
end Go.Hb
