/- A machine on abstract values, its soundness, ways, plain laws. -/
import Derived.Test.YtchdjelfnchjcaaGreatHF
import Derived.Test.YtchdjelfnchjcaaGreatHG
set_option linter.defProp false
set_option linter.unusedVariables false
set_option linter.unusedSimpArgs false
set_option linter.unusedSectionVars false
set_option maxRecDepth 100000
set_option maxHeartbeats 8000000
namespace Go.Hb
open AV (keyless keylessL)
open Bool (and_eq_true decide_and)
open List (length mem_of_getElem?)
open Terms (av)
open Go.Proofs Tryz
noncomputable section
def mAt (m:List (Int×Int))(n:Int) :Int:= (fS n m).getD 0
mutual
def aHT (mc:List (Int×Int)) :Pat→Pat
 | .mk f n t ps=>.mk f (if f=6 then mAt mc n else n) t (yL mc ps)
def yL (mc:List (Int×Int)) :List Pat→List Pat
 | [] =>[]
 |p::ps=>aHT mc p::yL mc ps
end
section
variable (mf mc:List (Int×Int))
end
def aEv (to:List Int)(k:Int) :Int:=to.getD k.toNat 0
def one (k:Int) :Bool:=decide (k=1)
def cnt (b:Bool) :Int:=if b=true then 1 else 0
theorem Ends.val {P:Program}{m:Nat}{s:AS}{v v':AV}{h':Hp}(h:Ends P m s (.ret v) h')(hv:∀E cv,VR E v cv→VR E v' cv) :Ends P m s (.ret v') h':=fun hm E fr ccs w f fs r cl base=>by
 obtain⟨cl',w',E',s1,⟨cv,e,g⟩,r2,x2⟩ :=h hm E fr ccs w f fs r cl base;exact⟨cl',w',E',s1,⟨cv,e,hv _ _ g⟩,r2,x2⟩
mutual
def bnm :Pat→Int
 | .mk f _ _ ps=>if f=2 then 1 else aY0 ps
def aY0 :List Pat→Int
 | [] =>0
 |p::ps=>bnm p+aY0 ps
end
def aGc (x:Node)(k:Int) :Int:=
 if x.op=5∨x.op=27∨ (x.op=7∧k=1)then 1
 else if x.op=15∧k>0 then(match x.pats[(k-1).toNat]? with|some q=>bnm q|none=>0)else 0
structure FineN (cons:List Con) (x:Node) :Prop where
 pats:∀q∈x.pats,bJ q≤12∧aDr cons q=true
 mat:x.op=15→x.kids.length=1+x.pats.length
 let2:x.op=7→x.kids.length=2
theorem aQ7 {p:Prog}{x:Node}(h:qE p x=true) :FineN p.cons x:=by
 simp only [qE,and_eq_true,decide_eq_true_eq]at h;obtain⟨⟨_,h2⟩,h3⟩ :=h;refine⟨fun q hq=>?_,fun e=>?_,fun e=>?_⟩
 · have:=List.all_eq_true.1 h2 q hq;simpa [aEp]using this
 ·rw [e]at h3;simp [aLc]at h3;omega
 ·rw [e]at h3;simp [aLc]at h3;omega
structure FineP (p:Prog) :Prop where
 small:p.nodes.length≤320
 fsmall:p.funs.length≤320
 node:∀ (i:Nat) (x:Node),p.nodes[i]?=some x→FineN p.cons x∧x.kids.length≤10∧∀k∈x.kids,(i:Int) <k∧k<p.nodes.length
 funs:∀f∈p.funs,0≤f∧f<p.nodes.length
section
variable (p :Prog) (mf mc:List (Int×Int))
variable {p mf mc}
end
def bN (mf mc:List (Int×Int))(op n:Int) :Int:=if op=4 then(if 0≤n then n else -1-mAt mf (-1-n))else if op=14 then mAt mc n else n
def aAK (mf mc:List (Int×Int))(to:List Int)(x:Node) :Node:= ⟨x.op,bN mf mc x.op x.n,x.kids.map (aEv to),yL mc x.pats⟩
section
variable (p :Prog) (mf mc:List (Int×Int)) (to:List Int)
variable {p mf mc to}
end
section
variable {p :Prog} {mf mc:List (Int×Int)}
end
theorem aB3 {α β:Type}[DecidableEq α](k k':α)(v:β) :∀ (l:List (α×β)),fS k (cO k' v l) =if k=k' then some v else fS k l
 | [] =>by simp [cO,fS]
 | e ::l=>by
  simp only [cO];split
  · rename_i h;subst h;simp only [fS];split<;>rfl
  · rename_i h;simp only [fS,aB3 k k' v l];by_cases h1:k=e.1
    · subst h1;rw [if_pos rfl,if_pos rfl,if_neg (fun e=>h e.symm)]
    ·rw [if_neg h1,if_neg h1]
theorem aJL {P:Program}{m:Nat}{s:AS}{v v':AV}{h':Hp}(h:Ends P m s (.ret v) h')(hv:∀ (E:Emb) (cv:Value),VR E v cv→VR E v' cv) :Ends P m s (.ret v') h':=fun hm E fr ccs w f fs r cl base=>by
 obtain⟨cl',w',E',s1,⟨cv,rfl,g2⟩,r2,x2⟩ :=h hm E fr ccs w f fs r cl base;exact⟨_,w',E',s1,⟨cv,rfl,hv E' cv g2⟩,r2,x2⟩
section
variable {p :Prog}
end
abbrev FL :List (AV×Bool) :=[((.iface 270 (.agg [])),false)]
abbrev iO (b:Bool) :Res:=bif b then .ret (.tup [])else .pan FL
theorem dV :∀b,aKA (iO b)
 |true=>rfl
 | false=>by
  intro x hx;rw [List.mem_singleton.1 hx];rfl
abbrev GC (a b:Int) :AObj:=.cells (putCells .leaf 0 [.int .i64 a,.int .i64 b]) 2 [] false
def mI (n:Nat)(a:Int) :Bool:=decide ((n:Int) ≤a)
def cT (n:Nat)(a:Int) :Int:=if(n:Int) ≤a then a-n else -1
def aGd (p:Pat)(a b:Int) :Prop:=Spec PP (.enter 235 [.ptr 0 0,Pat.av p]) (aO [(0,GC a b,false)] 1) (iO (mI (bJ p) a)) (aO [(0,GC (cT (bJ p) a) b,false)] 1)
theorem aIB (a b f n:Int)(s:aE)(ps:List Pat)(hl:ps.length<1000000)(ih:∀p∈ps,∀a,0≤a→a≤1000→aGd p a b) :∀ (t:List Pat) (i:Nat) (c:Int),ps.drop i=t→0≤c→c≤1000 →
  Ends PP 1 (aIv a b f n s ps (i:Int) c).as (iO (mI (aZ t) c)) (aO [(0,GC (cT (aZ t) c) b,false)] 1)
 | [],i,c,h,h0,h1=>by
  have:=bD h;have e1:mI (aZ []) c=true:=by simp [mI,aZ,h0]
  have e2:cT (aZ []) c=c:=by simp [cT,aZ,h0]
  rw [e1,e2];exact aX9 a b f n s ps i c sd
 | .mk f' n' s' ps'::t,i,c,h,h0,h1=>by
  obtain⟨g1,g2,g3⟩ :=aW h;have hs:=ih _ (mem_of_getElem? g1) c h0 h1;unfold aGd at hs;by_cases hc: (bJ (.mk f' n' s' ps') :Int) ≤c
  · have e1:mI (bJ (.mk f' n' s' ps')) c=true:=by simp [mI,hc]
    have e2:cT (bJ (.mk f' n' s' ps')) c=c-bJ (.mk f' n' s' ps') :=by simp [cT,hc]
    rw [e1,e2]at hs;have r1:mI (aZ (.mk f' n' s' ps'::t)) c=mI (aZ t) (c-bJ (.mk f' n' s' ps')) :=by
     unfold mI;rw [aZ];congr 1;apply propext;omega
    have r2:cT (aZ (.mk f' n' s' ps'::t)) c=cT (aZ t) (c-bJ (.mk f' n' s' ps')) :=by
     unfold cT;rw [aZ];split<;>split<;>omega
    rw [r1,r2];refine(aX8 a b f n s ps i c f' n' s' ps' (c-bJ (.mk f' n' s' ps')) sd sd sd (dF (ks:=[0]) hs (by kernel_rfl) (dV true) (by kernel_rfl) (by kernel_rfl) trivial (by kernel_rfl) trivial) sd).ends ?_;exact aIB a b f n s ps hl ih t (i+1) _ g2 (by omega) (by omega)
  · have e1:mI (bJ (.mk f' n' s' ps')) c=false:=by simp [mI];omega
    have e2:cT (bJ (.mk f' n' s' ps')) c= -1:=by simp [cT];omega
    rw [e1,e2]at hs;have r1:mI (aZ (.mk f' n' s' ps'::t)) c=false:=by simp only [mI,aZ];exact decide_eq_false (by omega)
    have r2:cT (aZ (.mk f' n' s' ps'::t)) c= -1:=by unfold cT;rw [aZ,if_neg (by omega)]
    rw [r1,r2];exact aX7 a b f n s ps i c f' n' s' ps' (-1) sd sd sd (dF (ks:=[0]) hs (by kernel_rfl) (dV false) (by kernel_rfl) (by kernel_rfl) trivial (by kernel_rfl) trivial)
mutual
theorem aIC (b:Int)(hb:0≤b) :∀ (p:Pat) (a:Int),0≤a→a≤1000→bJ p<1000000→aGd p a b
 | .mk f n s ps,a,h0,h1,hp=>by
  simp only [bJ]at hp;have:=dJ ps;refine⟨(aX4 a b f n s ps).as.fr,by kernel_rfl,?_⟩;have E:Ends PP 1 (aX4 a b f n s ps).as (iO (mI (bJ (.mk f n s ps)) a)) (aO [(0,GC (cT (bJ (.mk f n s ps)) a) b,false)] 1) :=by
   by_cases ha:1≤a
   · have r1:mI (bJ (.mk f n s ps)) a=mI (aZ ps) (a-1) :=by
      unfold mI;rw [bJ];congr 1;apply propext;omega
     have r2:cT (bJ (.mk f n s ps)) a=cT (aZ ps) (a-1) :=by
      unfold cT;rw [bJ];split<;>split<;>omega
     rw [r1,r2];exact(aX5 a b f n s ps sd (by simp;omega) (by simp;omega)).ends (aIB a b f n s ps (by omega) (fun p hp a h0 h1=>aMS b hb ps (by omega) p hp a h0 h1) ps 0 (a-1) rfl (by omega) (by omega))
   · obtain rfl:a=0:=by omega
     have r1:mI (bJ (.mk f n s ps)) 0=false:=by simp only [mI,bJ];exact decide_eq_false (by omega)
     have r2:cT (bJ (.mk f n s ps)) 0=0-1:=by unfold cT;rw [bJ,if_neg (by omega)];rfl
     rw [r1,r2];exact aX6 0 b f n s ps sd (by simp)
  exact Eq.mp (by kernel_rfl) E
theorem aMS (b:Int)(hb:0≤b) :∀ (ps:List Pat),aZ ps<1000000→∀p∈ps,∀a,0≤a→a≤1000→aGd p a b
 | [],_,p,hp=>by cases hp
 | q::ps,h,p,hp=>by
  simp only [aZ]at h;rcases List.mem_cons.1 hp with e|hp
  ·rw [e];exact fun a h0 h1=>aIC b hb q a h0 h1 (by omega)
  ·exact aMS b hb ps (by omega) p hp
end
theorem tZ (n:Int) :Pure PP 212 [.int .i64 n] (.bool (cC n (-1000000000) 1000000000)) :=by
 refine bC (by kernel_rfl) rfl rfl ?_;by_cases h:n≥ -1000000000
 · have e:cC n (-1000000000) 1000000000=decide (n≤1000000000) :=by unfold cC;rw [decide_eq_true (show(-1000000000:Int) ≤n from h),Bool.true_and]
   rw [e];exact aQv n (by simpa using h)
 · have e:cC n (-1000000000) 1000000000=false:=by unfold cC;rw [decide_eq_false (show ¬ (-1000000000:Int) ≤n from h),Bool.false_and]
   rw [e];exact aQw n (by simpa using h)
def cF (t:aE)(ml:List (aE×Bool)) :Bool:= (fS t ml).getD false
def mZ (f n:Int)(t:aE)(ps:List Pat)(ml:List (aE×Bool)) :Bool:=bK f n t ps&& !(decide (f=2) &&cF t ml)
mutual
def pmF :Pat→List (aE×Bool) →Bool×List (aE×Bool)
 | .mk f n t ps,ml=>if mZ f n t ps ml=true then aAW ps (if f=2 then cO t true ml else ml)else(false,ml)
def aAW :List Pat→List (aE×Bool) →Bool×List (aE×Bool)
 | [],ml=> (true,ml)
 |p::ps,ml=>if(pmF p ml).1=true then aAW ps (pmF p ml).2 else(false,(pmF p ml).2)
end
abbrev MS (ml:List (aE×Bool)) :AObj:=.map (aN aD dW 0 ml) (length ml)
theorem aAL (ml:List (aE×Bool)) : (MS ml).kl:=cA (fun _=>rfl) (fun _=>rfl) _ _ _
def aGe (p:Pat)(ml:List (aE×Bool)) :Prop:=Spec PP (.enter 236 [Pat.av p,.map 0]) (aO [(0,MS ml,true)] 1) (iO (pmF p ml).1) (aO [(0,MS (pmF p ml).2,true)] 1)
theorem aY1 (ml:List (aE×Bool))(q_form q_n:Int)(q_text:aE)(q_parts:List Pat)(b:Bool)(mo:List (aE×Bool))(hno:mZ q_form q_n q_text q_parts ml=false→b=false∧mo=ml)
  (hk:∀mi,mZ q_form q_n q_text q_parts ml=true→mi= (if q_form=2 then cO q_text true ml else ml) →Ends PP 1 (kV ml q_form q_n q_text q_parts mi 0).as (iO b) (aO [(0,MS mo,true)] 1)) :
  Ends PP 1 (aIw ml q_form q_n q_text q_parts).as (iO b) (aO [(0,MS mo,true)] 1) :=by
 cases hb1: (q_form== (1:Int))with
 | true=>
  cases hb2: (((length q_parts:Nat) :Int) == (0:Int))with
  | true=>
   cases hb3: (q_n== (0:Int))with
   | true=>
    cases hb4: (!(aP (length q_text) (aA q_text) 0 0))with
    | true=>
     obtain⟨e1,e2⟩ :=hno (by clear hk hno;simp_all [mZ,cF,bK,aB,aM,cC] <;>intros<;>omega);rw [e1,e2];exact aQf ml q_form q_n q_text q_parts   hb1 hb2 hb3 hb4
    | false=>
     exact LeadsM.ends (aQg ml q_form q_n q_text q_parts   hb1 hb2 hb3 hb4) (hk _ (by clear hk hno;simp_all [mZ,cF,bK,aB,aM,cC] <;>intros<;>omega) (by clear hk hno;simp_all [mZ,cF,bK,aB,aM,cC] <;>intros<;>omega))
   | false=>
    obtain⟨e1,e2⟩ :=hno (by clear hk hno;simp_all [mZ,cF,bK,aB,aM,cC] <;>intros<;>omega);rw [e1,e2];exact aQh ml q_form q_n q_text q_parts   hb1 hb2 hb3
  | false=>
   obtain⟨e1,e2⟩ :=hno (by clear hk hno;simp_all [mZ,cF,bK,aB,aM,cC] <;>intros<;>omega);rw [e1,e2];exact aQi ml q_form q_n q_text q_parts   hb1 hb2
 | false =>
  cases hb5: (q_form== (5:Int))with
  | true=>
   cases hb6: (((length q_parts:Nat) :Int) == (0:Int))with
   | true=>
    cases hb7: (q_n== (0:Int))with
    | true=>
     cases hb8: (!(aP (length q_text) (aA q_text) 0 0))with
     | true=>
      obtain⟨e1,e2⟩ :=hno (by clear hk hno;simp_all [mZ,cF,bK,aB,aM,cC] <;>intros<;>omega);rw [e1,e2];exact aQj ml q_form q_n q_text q_parts   hb1 hb5 hb6 hb7 hb8
     | false=>
      exact LeadsM.ends (aQk ml q_form q_n q_text q_parts   hb1 hb5 hb6 hb7 hb8) (hk _ (by clear hk hno;simp_all [mZ,cF,bK,aB,aM,cC] <;>intros<;>omega) (by clear hk hno;simp_all [mZ,cF,bK,aB,aM,cC] <;>intros<;>omega))
    | false=>
     obtain⟨e1,e2⟩ :=hno (by clear hk hno;simp_all [mZ,cF,bK,aB,aM,cC] <;>intros<;>omega);rw [e1,e2];exact aQl ml q_form q_n q_text q_parts   hb1 hb5 hb6 hb7
   | false=>
    obtain⟨e1,e2⟩ :=hno (by clear hk hno;simp_all [mZ,cF,bK,aB,aM,cC] <;>intros<;>omega);rw [e1,e2];exact aQm ml q_form q_n q_text q_parts   hb1 hb5 hb6
  | false =>
   cases hb9: (q_form== (2:Int))with
   | true =>
    cases hb10: (((length q_parts:Nat) :Int) == (0:Int))with
    | true=>
     cases hb11: (q_n== (0:Int))with
     | true=>
      cases hb12: (dQ q_text)with
      | true=>
       cases hq13:fS q_text ml with
       | none=>
        exact LeadsM.ends (aLw ml q_form q_n q_text q_parts  (dQ q_text) hb1 hb5 hb9 hb10 hb11 (jD q_text) hb12 hq13) (hk _ (by clear hk hno;simp_all [mZ,cF,bK,aB,aM,cC] <;>intros<;>omega) (by clear hk hno;simp_all [mZ,cF,bK,aB,aM,cC] <;>intros<;>omega))
       | some y1=>
        cases hb14: (!(!y1))with
        | true=>
         obtain⟨e1,e2⟩ :=hno (by clear hk hno;simp_all [mZ,cF,bK,aB,aM,cC] <;>intros<;>omega);rw [e1,e2];exact aQn ml q_form q_n q_text q_parts  (dQ q_text) y1 hb1 hb5 hb9 hb10 hb11 (jD q_text) hb12 hq13 hb14
        | false=>
         exact LeadsM.ends (aQo ml q_form q_n q_text q_parts  (dQ q_text) y1 hb1 hb5 hb9 hb10 hb11 (jD q_text) hb12 hq13 hb14) (hk _ (by clear hk hno;simp_all [mZ,cF,bK,aB,aM,cC] <;>intros<;>omega) (by clear hk hno;simp_all [mZ,cF,bK,aB,aM,cC] <;>intros<;>omega))
      | false=>
       obtain⟨e1,e2⟩ :=hno (by clear hk hno;simp_all [mZ,cF,bK,aB,aM,cC] <;>intros<;>omega);rw [e1,e2];exact aLx ml q_form q_n q_text q_parts  (dQ q_text) hb1 hb5 hb9 hb10 hb11 (jD q_text) hb12
     | false=>
      obtain⟨e1,e2⟩ :=hno (by clear hk hno;simp_all [mZ,cF,bK,aB,aM,cC] <;>intros<;>omega);rw [e1,e2];exact aLy ml q_form q_n q_text q_parts   hb1 hb5 hb9 hb10 hb11
    | false=>
     obtain⟨e1,e2⟩ :=hno (by clear hk hno;simp_all [mZ,cF,bK,aB,aM,cC] <;>intros<;>omega);rw [e1,e2];exact aLz ml q_form q_n q_text q_parts   hb1 hb5 hb9 hb10
   | false =>
    cases hb15: (q_form== (3:Int))with
    | true=>
     cases hb16: (((length q_parts:Nat) :Int) == (0:Int))with
     | true=>
      cases hb17: (aP (length q_text) (aA q_text) 0 0)with
      | true=>
       cases hb18: (!(cC q_n (-1000000000) 1000000000))with
       | true=>
        obtain⟨e1,e2⟩ :=hno (by clear hk hno;simp_all [mZ,cF,bK,aB,aM,cC] <;>intros<;>omega);rw [e1,e2];exact aLA ml q_form q_n q_text q_parts  (cC q_n (-1000000000) 1000000000) hb1 hb5 hb9 hb15 hb16 hb17 (tZ q_n) hb18
       | false=>
        exact LeadsM.ends (aLB ml q_form q_n q_text q_parts  (cC q_n (-1000000000) 1000000000) hb1 hb5 hb9 hb15 hb16 hb17 (tZ q_n) hb18) (hk _ (by clear hk hno;simp_all [mZ,cF,bK,aB,aM,cC] <;>intros<;>omega) (by clear hk hno;simp_all [mZ,cF,bK,aB,aM,cC] <;>intros<;>omega))
      | false=>
       obtain⟨e1,e2⟩ :=hno (by clear hk hno;simp_all [mZ,cF,bK,aB,aM,cC] <;>intros<;>omega);rw [e1,e2];exact aLC ml q_form q_n q_text q_parts   hb1 hb5 hb9 hb15 hb16 hb17
     | false=>
      obtain⟨e1,e2⟩ :=hno (by clear hk hno;simp_all [mZ,cF,bK,aB,aM,cC] <;>intros<;>omega);rw [e1,e2];exact aLD ml q_form q_n q_text q_parts   hb1 hb5 hb9 hb15 hb16
    | false=>
     cases hb19: (q_form== (4:Int))with
     | true=>
      cases hb20: (((length q_parts:Nat) :Int) == (0:Int))with
      | true=>
       cases hb21: (aP (length q_text) (aA q_text) 0 0)with
       | true=>
        cases hb22: (q_n== (0:Int))with
        | true=>
         exact LeadsM.ends (aLE ml q_form q_n q_text q_parts   hb1 hb5 hb9 hb15 hb19 hb20 hb21 hb22) (hk _ (by clear hk hno;simp_all [mZ,cF,bK,aB,aM,cC] <;>intros<;>omega) (by clear hk hno;simp_all [mZ,cF,bK,aB,aM,cC] <;>intros<;>omega))
        | false=>
         cases hb23: (!(q_n== (1:Int)))with
         | true=>
          obtain⟨e1,e2⟩ :=hno (by clear hk hno;simp_all [mZ,cF,bK,aB,aM,cC] <;>intros<;>omega);rw [e1,e2];exact aLF ml q_form q_n q_text q_parts   hb1 hb5 hb9 hb15 hb19 hb20 hb21 hb22 hb23
         | false=>
          exact LeadsM.ends (aLG ml q_form q_n q_text q_parts   hb1 hb5 hb9 hb15 hb19 hb20 hb21 hb22 hb23) (hk _ (by clear hk hno;simp_all [mZ,cF,bK,aB,aM,cC] <;>intros<;>omega) (by clear hk hno;simp_all [mZ,cF,bK,aB,aM,cC] <;>intros<;>omega))
       | false=>
        obtain⟨e1,e2⟩ :=hno (by clear hk hno;simp_all [mZ,cF,bK,aB,aM,cC] <;>intros<;>omega);rw [e1,e2];exact aLH ml q_form q_n q_text q_parts   hb1 hb5 hb9 hb15 hb19 hb20 hb21
      | false=>
       obtain⟨e1,e2⟩ :=hno (by clear hk hno;simp_all [mZ,cF,bK,aB,aM,cC] <;>intros<;>omega);rw [e1,e2];exact aLI ml q_form q_n q_text q_parts   hb1 hb5 hb9 hb15 hb19 hb20
     | false=>
      cases hb24: (q_form== (6:Int))with
      | true=>
       cases hb25: (decide (((length q_parts:Nat) :Int) ≤ (3:Int)))with
       | true=>
        cases hb26: (q_n== (0:Int))with
        | true=>
         cases hb27: (!(cB q_text))with
         | true=>
          obtain⟨e1,e2⟩ :=hno (by clear hk hno;simp_all [mZ,cF,bK,aB,aM,cC] <;>intros<;>omega);rw [e1,e2];exact aLJ ml q_form q_n q_text q_parts  (cB q_text) hb1 hb5 hb9 hb15 hb19 hb24 hb25 hb26 (eV q_text) hb27
         | false=>
          exact LeadsM.ends (aLK ml q_form q_n q_text q_parts  (cB q_text) hb1 hb5 hb9 hb15 hb19 hb24 hb25 hb26 (eV q_text) hb27) (hk _ (by clear hk hno;simp_all [mZ,cF,bK,aB,aM,cC] <;>intros<;>omega) (by clear hk hno;simp_all [mZ,cF,bK,aB,aM,cC] <;>intros<;>omega))
        | false=>
         obtain⟨e1,e2⟩ :=hno (by clear hk hno;simp_all [mZ,cF,bK,aB,aM,cC] <;>intros<;>omega);rw [e1,e2];exact aLL ml q_form q_n q_text q_parts   hb1 hb5 hb9 hb15 hb19 hb24 hb25 hb26
       | false=>
        obtain⟨e1,e2⟩ :=hno (by clear hk hno;simp_all [mZ,cF,bK,aB,aM,cC] <;>intros<;>omega);rw [e1,e2];exact aLM ml q_form q_n q_text q_parts   hb1 hb5 hb9 hb15 hb19 hb24 hb25
      | false=>
       obtain⟨e1,e2⟩ :=hno (by clear hk hno;simp_all [mZ,cF,bK,aB,aM,cC] <;>intros<;>omega);rw [e1,e2];exact aLN ml q_form q_n q_text q_parts   hb1 hb5 hb9 hb15 hb19 hb24
theorem aGf (ml:List (aE×Bool))(f n:Int)(s:aE)(ps:List Pat)(hl:ps.length<1000000)(ih:∀p∈ps,∀ml,aGe p ml) :∀ (t:List Pat) (i:Nat) (mi:List (aE×Bool)),ps.drop i=t →
  Ends PP 1 (kV ml f n s ps mi (i:Int)).as (iO (aAW t mi).1) (aO [(0,MS (aAW t mi).2,true)] 1)
 | [],i,mi,h=>by
  have:=bD h;rw [aAW];exact aQr ml f n s ps mi i sd
 | .mk f' n' s' ps'::t,i,mi,h=>by
  obtain⟨g1,g2,g3⟩ :=aW h;have hs:=ih _ (mem_of_getElem? g1) mi;unfold aGe at hs;rw [aAW];generalize pmF (.mk f' n' s' ps') mi=r at hs ⊢;obtain⟨b,m'⟩ :=r;cases b with
  | true=>
   rw [if_pos rfl];refine(aQq ml f n s ps mi i f' n' s' ps' m' sd sd sd (dF (ks:=[0]) hs (by kernel_rfl) (dV true) (by kernel_rfl) (by kernel_rfl) ⟨aAL _,trivial⟩ (by kernel_rfl) ⟨aAL _,trivial⟩) sd).ends ?_;exact aGf ml f n s ps hl ih t (i+1) m' g2
  | false=>
   rw [if_neg (by simp)];exact aQp ml f n s ps mi i f' n' s' ps' m' sd sd sd (dF (ks:=[0]) hs (by kernel_rfl) (dV false) (by kernel_rfl) (by kernel_rfl) ⟨aAL _,trivial⟩ (by kernel_rfl) ⟨aAL _,trivial⟩)
mutual
theorem aGg :∀ (p:Pat) (ml:List (aE×Bool)),bJ p<1000000→aGe p ml
 | .mk f n s ps,ml,hp=>by
  simp only [bJ]at hp;have:=dJ ps;refine⟨(aIw ml f n s ps).as.fr,by kernel_rfl,?_⟩;have E:Ends PP 1 (aIw ml f n s ps).as (iO (pmF (.mk f n s ps) ml).1) (aO [(0,MS (pmF (.mk f n s ps) ml).2,true)] 1) :=by
   refine aY1 ml f n s ps _ _ (fun h=>?_) (fun mi h e=>?_)
   · rw [pmF,if_neg (by simp [h])];exact⟨rfl,rfl⟩
   · rw [pmF,if_pos h,←e];exact aGf ml f n s ps (by omega) (aID ps (by omega)) ps 0 mi rfl
  exact Eq.mp (by kernel_rfl) E
theorem aID :∀ (ps:List Pat),aZ ps<1000000→∀p∈ps,∀ml,aGe p ml
 | [],_,p,hp=>by cases hp
 | q::ps,h,p,hp=>by
  simp only [aZ]at h;rcases List.mem_cons.1 hp with e|hp
  ·rw [e];exact fun ml=>aGg q ml (by omega)
  ·exact aID ps (by omega) p hp
end
def jF :List aE→List (aE×Bool) →Bool×List (aE×Bool)
 | [],ml=> (true,ml)
 |x::t,ml=>if cF x ml=true then(false,ml)else jF t (cO x true ml)
theorem aDs :∀ (a b:List aE) (ml:List (aE×Bool)),jF (a++b) ml=if(jF a ml).1=true then jF b (jF a ml).2 else jF a ml
 | [],b,ml=>by simp [jF]
 | x::a,b,ml=>by
  rw [List.cons_append,jF,jF];split
  ·simp
  ·exact aDs a b _
theorem aQ8 {f n:Int}{t:aE}{ps:List Pat}(h:bK f n t ps=true)(hf:f=2) :ps= [] :=by
 subst hf;simp [bK]at h;exact h.1.1
mutual
theorem aIE :∀ (p:Pat) (ml:List (aE×Bool)),((pmF p ml).1=true↔aB0 p=true∧ (jF (fO p) ml).1=true) ∧ ((pmF p ml).1=true→ (pmF p ml).2= (jF (fO p) ml).2)
 | .mk f n t ps,ml=>by
  rw [pmF,aB0,fO];by_cases hf:f=2
  · subst hf;by_cases hh:bK 2 n t ps=true
    · have hps:=aQ8 hh rfl;subst hps;by_cases hm:cF t ml=true
      ·simp [mZ,hh,hm,jF,vO]
      · have hm':cF t ml=false:=by simpa using hm
        rw [if_pos (by simp [mZ,hh,hm'])];simp [hh,hm',jF,vO,aAW]
    · have hh':bK 2 n t ps=false:=by simpa using hh
      rw [if_neg (by simp [mZ,hh'])];simp [hh']
  · have i:=aGh ps ml;by_cases hh:bK f n t ps=true
    · rw [if_pos (by simp [mZ,hh,hf]),if_neg hf,if_neg hf,hh,Bool.true_and];exact i
    · have hh':bK f n t ps=false:=by simpa using hh
      rw [if_neg (by simp [mZ,hh'])];simp [hh']
theorem aGh :∀ (ps:List Pat) (ml:List (aE×Bool)),((aAW ps ml).1=true↔vO ps=true∧ (jF (gR ps) ml).1=true) ∧ ((aAW ps ml).1=true→ (aAW ps ml).2= (jF (gR ps) ml).2)
 | [],ml=>by simp [aAW,vO,gR,jF]
 | p ::ps,ml=>by
  obtain⟨i1,i2⟩ :=aIE p ml;rw [aAW,vO,gR,aDs];by_cases hp: (pmF p ml).1=true
  · obtain⟨j1,j2⟩ :=aGh ps (pmF p ml).2;obtain⟨k1,k2⟩ :=i1.1 hp;rw [if_pos hp,if_pos k2,←i2 hp,k1,Bool.true_and];exact⟨j1,j2⟩
  · rw [if_neg hp];refine⟨⟨fun h=>by simp at h,fun⟨h1,h2⟩ =>?_⟩,fun h=>by simp at h⟩;exfalso;rw [and_eq_true]at h1;split at h2
    ·rename_i k;exact hp (i1.2 ⟨h1.1,k⟩)
    ·rename_i k;exact k h2
end
theorem aJM (x y:aE)(ml:List (aE×Bool)) :cF y (cO x true ml) = (decide (x=y) ||cF y ml) :=by
 unfold cF;rw [aB3];by_cases h:y=x
 ·subst h;simp
 · have:¬x=y:=fun e=>h e.symm;rw [if_neg h];simp [this]
theorem yM :∀ (l pre:List aE) (ml:List (aE×Bool)),(∀y,cF y ml=kG pre y) → (jF l ml).1=bH pre l
 | [],pre,ml,h=>rfl
 | x::t,pre,ml,h=>by
  rw [jF,bH,←h x];cases hm:cF x ml with
  |true=>simp
  | false=>
   simp only [Bool.false_eq_true,if_false,Bool.not_false,Bool.true_and];refine yM t (pre++ [x]) _ (fun y=>?_);rw [aJM,h y];simp [kG,Bool.or_comm]
theorem aMT (p:Pat) : (pmF p []).1= (aB0 p&&hP (fO p)) :=by
 have h:= (aIE p []).1;have e: (jF (fO p) []).1=hP (fO p) :=yM _ [] [] (fun y=>by simp [cF,fS,kG]);rw [e]at h;rw [Bool.eq_iff_iff,h,and_eq_true]
theorem aMU (p:Pat)(hp:bJ p<1000000) :Pure PP 213 [Pat.av p] (.int .i64 (if aAV p=true then 0 else 2)) :=by
 have hg:=aIC 0 (by omega) p 12 (by omega) (by omega) hp;have hm:=aGg p [] hp;have e:=aMT p;unfold aGd at hg;unfold aGe at hm;unfold aAV;obtain⟨f,n,s,ps⟩ :=p;refine bS (s:=aWY f n s ps) (by kernel_rfl) (by kernel_rfl) (by simp [keylessL,lZ]) (by simp [keyless]) ?_;by_cases h12:bJ (.mk f n s ps) ≤12
 · have e1:mI (bJ (.mk f n s ps)) 12=true:=by simp [mI];omega
   rw [e1]at hg;generalize cT (bJ (.mk f n s ps)) 12=ga at hg;rw [decide_eq_true h12,Bool.true_and,←e];generalize pmF (.mk f n s ps) [] =r at hm ⊢;obtain⟨b,m'⟩ :=r;have hg':=dF (ks:=[2]) (lc:=[(0,.cells (putCells .leaf 0 [.int .i64 f,.int .i64 n,aD s,.ilst 4 (Pats.av ps) false]) 4 [] false,false),(1,.cells (putCells .leaf 0 [.bool false]) 1 [] false,false),(2,GC 12 0,false)]) (lc':=[(0,.cells (putCells .leaf 0 [.int .i64 f,.int .i64 n,aD s,.ilst 4 (Pats.av ps) false]) 4 [] false,false),(1,.cells (putCells .leaf 0 [.bool false]) 1 [] false,false),(2,GC ga 0,false)]) (n2:=3) (args':=[.ptr 2 0,Pat.av (.mk f n s ps)]) hg (by kernel_rfl) (dV true) (by kernel_rfl) (by kernel_rfl) trivial (by kernel_rfl) trivial;cases b with
   | true=>
    exact aQu f n s ps ga m' hg' (dF (ks:=[3]) hm (by kernel_rfl) (dV true) (by kernel_rfl) (by kernel_rfl) ⟨aAL _,trivial⟩ (by kernel_rfl) ⟨aAL _,trivial⟩)
   | false=>
    exact aQt f n s ps ga m' hg' (dF (ks:=[3]) hm (by kernel_rfl) (dV false) (by kernel_rfl) (by kernel_rfl) ⟨aAL _,trivial⟩ (by kernel_rfl) ⟨aAL _,trivial⟩)
 · have e1:mI (bJ (.mk f n s ps)) 12=false:=by simp [mI];omega
   rw [e1]at hg;generalize cT (bJ (.mk f n s ps)) 12=ga at hg;rw [decide_eq_false h12,Bool.false_and,Bool.false_and];exact aQs f n s ps ga (dF (ks:=[2]) hg (by kernel_rfl) (dV false) (by kernel_rfl) (by kernel_rfl) trivial (by kernel_rfl) trivial)
def aYa(a b c d:Int)(e:aE)(f:List Term)(g:List Pat)(i:Int):TS:=cK PP 157 [(.ptr 0 0),(.agg [(nI c),(nI d),(aD e),(.ilst 5 (av f) false),(iP g)]),(nI i)] [oC 0 [(nI a),(nI b)]] 1
def aIF(f b g i:Int)(j:aE)(a:List Term)(k:List Pat)(c d e:Int):TS:=⟨(tf 157 24 [kp 0 0,(2,(nI c)),(12,(.ilst 5 (av a) false)),(13,(nI (a.length:Int))),(14,(nI d))] [kc f157 60,kl f157 60,.inBlock 0]),[],[oC 0 [(nI e),(nI b)]],1⟩
def aW3(a b:Int)(c:aE)(d:List Term)(e:List Pat):TS:=cK PP 158 [(.agg [(nI a),(nI b),(aD c),(.ilst 5 (av d) false),(iP e)])] [] 0
def aEw(c d:Int)(e:aE)(a:List Term)(f:List Pat)(b:Int):TS:=⟨(tf 158 16 [(7,(.ilst 5 (av a) false)),(8,(nI (a.length:Int))),(9,(nI b))] [kc f158 60,kl f158 60,.inBlock 0]),[],[],0⟩
def aW4(a b:Int)(c:aE)(d:List Term)(e:List Pat):TS:=cK PP 109 [(.agg [(nI a),(nI b),(aD c),(.ilst 5 (av d) false),(iP e)])] [] 0
def aMV(a b e f:Int)(g:aE)(c:List Term)(i:List Pat)(d:Int):=tT 1 (aYa a b e f g c i d)<|gw 16 8 (a-1)<|gd 11 16 ((a-1) ≥0) (.b 13 3 (!(decide (d≤b))) (.P 7 2 [] [((.iface 270 (.agg [])),false)] [oC 0 [(nI (a-1)),(nI b)]] 1)<|gm 12 cG c<|.W 4 2 [] (aIF a b e f g c i d 0 (a-1)))<|.P 20 2 [] [((.iface 270 (.agg [])),false)] [oC 0 [(nI (a-1)),(nI b)]] 1
def aYb:=fun a b c d e f g i j k l=>aMV a b c d e f g i j|>.t k|>.t l tv
def aYc:=fun a b c d e f g i j k l=>aMV a b c d e f g i j|>.t k|>.f l tv
def aYd:=fun a b c d e f g i j k=>aMV a b c d e f g i j|>.f k tv
def aMW(m a n o:Int)(p:aE)(k:List Term)(q:List Pat)(g i l:Int):=tT 1 (aIF m a n o p k q g i l)<|gd 5 15 (i< (k.length:Int)) (aDp 6 k i<|fun b c d e f=>gw 9 21 (g+1)<|.o (.y fun j:Int=>gK 0 (.enter 157 [(.ptr 0 0),(.agg [(nI b),(nI c),(aD d),(.ilst 5 (av e) false),(iP f)]),(nI (g+1))]) [oC 0 [(nI l),(nI a)],oC 1 [(nI b),(nI c),(aD d),(.ilst 5 (av e) false),(iP f)]] 2 [((.iface 270 (.agg [])),false)] [oC 0 [(nI j),(nI a)],oC 1 [(nI b),(nI c),(aD d),(.ilst 5 (av e) false),(iP f)]] 2<|.P 0 2 [] [((.iface 270 (.agg [])),false)] [oC 0 [(nI j),(nI a)]] 1)<|.y fun j:Int=>gk 0 (.enter 157 [(.ptr 0 0),(.agg [(nI b),(nI c),(aD d),(.ilst 5 (av e) false),(iP f)]),(nI (g+1))]) [oC 0 [(nI l),(nI a)],oC 1 [(nI b),(nI c),(aD d),(.ilst 5 (av e) false),(iP f)]] 2 (.tup []) [oC 0 [(nI j),(nI a)],oC 1 [(nI b),(nI c),(aD d),(.ilst 5 (av e) false),(iP f)]] 2<|gw 4 23 (i+1)<|.W 3 2 [] (aIF m a n o p k q g (i+1) j))<|.E 3 1 [] (.tup []) [oC 0 [(nI l),(nI a)]] 1
def aYe:=fun a b c d e f g i j k l m n o p q r s t u v=>aMW a b c d e f g i j k|>.t r l m n o p s t u|>.1 q v tv
def aYf:=fun a b c d e f g i j k l m n o p q r s t u v w=>aMW a b c d e f g i j k|>.t r l m n o p s t u|>.2 q v w tv
def aYg:=fun a b c d e f g i j k l=>aMW a b c d e f g i j k|>.f l tv
def aW5(b c:Int)(d:aE)(a:List Term)(e:List Pat):=tT 0 (aW3 b c d a e)<|.o (.i [rn 7,.throws [((.iface 270 (.agg [])),false)]] [hA (sJ PP 186 [(.agg [(nI b),(nI c),(aD d),(.ilst 5 (av a) false),(iP e)])] [((.iface 270 (.agg [])),false)])]<|gQ 0 1 [((.iface 270 (.agg [])),false)])<|gp 7 186 [(.agg [(nI b),(nI c),(aD d),(.ilst 5 (av a) false),(iP e)])] (.tup [])<|gm 5 cG a<|.W 4 1 [] (aEw b c d a e 0)
def aQ9:=fun a b c d e f=>aW5 a b c d e|>.1 f tv
def aRa:=fun a b c d e f=>aW5 a b c d e|>.2 f tv
def aMX(c d:Int)(e:aE)(b:List Term)(f:List Pat)(a:Int):=tT 0 (aEw c d e b f a)<|gd 5 10 (a< (b.length:Int)) (aDp 6 b a<|fun g i j k l=>.o (.i [rn 6,.throws [((.iface 270 (.agg [])),false)]] [hA (sJ PP 158 [(.agg [(nI g),(nI i),(aD j),(.ilst 5 (av k) false),(iP l)])] [((.iface 270 (.agg [])),false)])]<|gQ 0 1 [((.iface 270 (.agg [])),false)])<|gp 6 158 [(.agg [(nI g),(nI i),(aD j),(.ilst 5 (av k) false),(iP l)])] (.tup [])<|gw 4 15 (a+1)<|.W 3 1 [] (aEw c d e b f (a+1)))<|gE 3 0 (.tup [])
def aRb:=fun a b c d e f g i j k l m n o p=>aMX a b c d e f|>.t m g i j k l n o|>.1 p tv
def aRc:=fun a b c d e f g i j k l m n o p q=>aMX a b c d e f|>.t m g i j k l n o|>.2 p q tv
def aRd:=fun a b c d e f g=>aMX a b c d e f|>.f g tv
def aMY(a b:Int)(c:aE)(d:List Term)(e:List Pat):=tT 0 (aW4 a b c d e)<|.o (.y fun f:Int=>gK 36 (.enter 157 [(.ptr 2 0),(.agg [(nI a),(nI b),(aD c),(.ilst 5 (av d) false),(iP e)]),(nI 1)]) [oC 0 [(nI a),(nI b),(aD c),(.ilst 5 (av d) false),(iP e)],oC 1 [(bV false)],oC 2 [(nI 60),(nI 14)]] 3 [((.iface 270 (.agg [])),false)] [oC 0 [(nI a),(nI b),(aD c),(.ilst 5 (av d) false),(iP e)],oC 1 [(bV false)],oC 2 [(nI f),(nI 14)]] 3<|gE 50 4 (nI 2))<|.y fun f:Int=>gk 36 (.enter 157 [(.ptr 2 0),(.agg [(nI a),(nI b),(aD c),(.ilst 5 (av d) false),(iP e)]),(nI 1)]) [oC 0 [(nI a),(nI b),(aD c),(.ilst 5 (av d) false),(iP e)],oC 1 [(bV false)],oC 2 [(nI 60),(nI 14)]] 3 (.tup []) [oC 0 [(nI a),(nI b),(aD c),(.ilst 5 (av d) false),(iP e)],oC 1 [(bV false)],oC 2 [(nI f),(nI 14)]] 3<|.o (.i [rn 3,.throws [((.iface 270 (.agg [])),false)]] [hA (sJ PP 158 [(.agg [(nI a),(nI b),(aD c),(.ilst 5 (av d) false),(iP e)])] [((.iface 270 (.agg [])),false)])]<|gE 50 4 (nI 2))<|gp 3 158 [(.agg [(nI a),(nI b),(aD c),(.ilst 5 (av d) false),(iP e)])] (.tup [])<|gE 38 3 (nI 0)
def aRe:=fun a b c d e f g=>aMY a b c d e|>.1 f g tv
def aRf:=fun a b c d e f g i=>aMY a b c d e|>.2 f g|>.1 i tv
def aRg:=fun a b c d e f g i=>aMY a b c d e|>.2 f g|>.2 i tv
def aMZ(a b:Int)(c:aE)(d:List Term)(e:List Pat):TS:=cK PP 186 [(.agg [(nI a),(nI b),(aD c),(.ilst 5 (av d) false),(iP e)])] [] 0
def mB(a b:Int)(c:aE)(d:List Term)(e:List Pat)(f g i:Bool)(j:Int):TS:=⟨(tf 186 121 [kp 1 0,kp 2 1] [kc f186 15]),[],[oC 0 [(nI a),(nI b),(aD c),(.ilst 5 (av d) false),(iP e)],oC 1 [(bV f),(bV g),(bV i),(nI j)]],2⟩
def mC(a b:Int)(c:aE)(d:List Term)(e:List Pat)(f g i:Bool)(j:Int):TS:=⟨(tf 186 121 [kp 1 0,kp 2 1] [kc f186 31]),[],[oC 0 [(nI a),(nI b),(aD c),(.ilst 5 (av d) false),(iP e)],oC 1 [(bV f),(bV g),(bV i),(nI j)]],2⟩
def aB4(b c:Int)(d:aE)(e:List Term)(a:List Pat)(f g i:Bool)(j k:Int):TS:=⟨(tf 186 121 [kp 1 0,kp 2 1,(99,(iP a)),(100,(nI (a.length:Int))),(101,(nI k))] [kc f186 2015212,kl f186 2015212,.inBlock 1,.inBlock 0,kc f186 31]),[],[oC 0 [(nI b),(nI c),(aD d),(.ilst 5 (av e) false),(iP a)],oC 1 [(bV f),(bV g),(bV i),(nI j)]],2⟩
def eF(a d:Int)(e:aE)(b:List Term)(c:List Pat):=tT 0 (start PP 211 [(.agg [(nI a),(nI d),(aD e),(.ilst 5 (av b) false),(iP c)])])<|.b 19 6 (a==1) (gE 10 2 (.tup [(.agg [(bV true),(bV false),(bV false),(nI 0)]),(bV true)]))<|.b 5 6 (a==2) (gE 8 2 (.tup [(.agg [(bV true),(bV false),(bV false),(nI 0)]),(bV true)]))<|.b 7 10 (a==3) (gE 10 2 (.tup [(.agg [(bV false),(bV false),(bV false),(nI 0)]),(bV true)]))<|.b 6 10 (a==21) (gE 10 2 (.tup [(.agg [(bV false),(bV false),(bV false),(nI 0)]),(bV true)]))<|.b 6 10 (a==25) (gE 10 2 (.tup [(.agg [(bV false),(bV false),(bV false),(nI 0)]),(bV true)]))<|.b 5 10 (a==28) (gE 8 2 (.tup [(.agg [(bV false),(bV false),(bV false),(nI 0)]),(bV true)]))<|.b 6 16 (a==4) (gE 8 2 (.tup [(.agg [(bV false),(bV true),(bV false),(nI 0)]),(bV true)]))<|.b 7 19 (a==5) (gE 10 2 (.tup [(.agg [(bV false),(bV true),(bV false),(nI 1)]),(bV true)]))<|.b 5 19 (a==27) (gE 8 2 (.tup [(.agg [(bV false),(bV true),(bV false),(nI 1)]),(bV true)]))<|.b 6 23 (a==7) (gE 8 2 (.tup [(.agg [(bV false),(bV true),(bV false),(nI 2)]),(bV true)]))<|.b 6 26 (a==8) (gE 8 2 (.tup [(.agg [(bV false),(bV false),(bV false),(nI 3)]),(bV true)]))<|.b 6 29 (a==14) (gm 5 cG b<|gE 6 2 (.tup [(.agg [(bV false),(bV true),(bV false),(nI (if 3< (b.length:Int)then 3 else(b.length:Int)))]),(bV true)]))<|.b 6 36 (a==15) (gm 5 aK c<|gw 1 41 (1+ (c.length:Int))<|gE 5 2 (.tup [(.agg [(bV false),(bV false),(bV true),(nI (1+ (c.length:Int)))]),(bV true)]))<|.b 7 43 (a==16) (gE 10 2 (.tup [(.agg [(bV false),(bV false),(bV false),(nI 1)]),(bV true)]))<|.b 6 43 (a==17) (gE 10 2 (.tup [(.agg [(bV false),(bV false),(bV false),(nI 1)]),(bV true)]))<|.b 6 43 (a==19) (gE 10 2 (.tup [(.agg [(bV false),(bV false),(bV false),(nI 1)]),(bV true)]))<|.b 6 43 (a==20) (gE 10 2 (.tup [(.agg [(bV false),(bV false),(bV false),(nI 1)]),(bV true)]))<|.b 6 43 (a==23) (gE 10 2 (.tup [(.agg [(bV false),(bV false),(bV false),(nI 1)]),(bV true)]))<|.b 5 43 (a==26) (gE 8 2 (.tup [(.agg [(bV false),(bV false),(bV false),(nI 1)]),(bV true)]))<|.b 6 51 (a==24) (gE 8 2 (.tup [(.agg [(bV true),(bV false),(bV false),(nI 1)]),(bV true)]))<|.b 7 54 (a==6) (gE 10 2 (.tup [(.agg [(bV false),(bV false),(bV false),(nI 2)]),(bV true)]))<|.b 6 54 (a==9) (gE 10 2 (.tup [(.agg [(bV false),(bV false),(bV false),(nI 2)]),(bV true)]))<|.b 6 54 (a==10) (gE 10 2 (.tup [(.agg [(bV false),(bV false),(bV false),(nI 2)]),(bV true)]))<|.b 6 54 (a==11) (gE 10 2 (.tup [(.agg [(bV false),(bV false),(bV false),(nI 2)]),(bV true)]))<|.b 6 54 (a==12) (gE 10 2 (.tup [(.agg [(bV false),(bV false),(bV false),(nI 2)]),(bV true)]))<|.b 6 54 (a==13) (gE 10 2 (.tup [(.agg [(bV false),(bV false),(bV false),(nI 2)]),(bV true)]))<|.b 6 54 (a==18) (gE 10 2 (.tup [(.agg [(bV false),(bV false),(bV false),(nI 2)]),(bV true)]))<|.b 5 54 (a==22) (gE 8 2 (.tup [(.agg [(bV false),(bV false),(bV false),(nI 2)]),(bV true)]))<|gE 10 2 (.tup [(.agg [(bV false),(bV false),(bV false),(nI 0)]),(bV false)])
def aRh:=fun a b c d e f=>eF a b c d e|>.t f tv
def aRi:=fun a b c d e f g=>eF a b c d e|>.f f|>.t g tv
def aRj:=fun a b c d e f g i=>eF a b c d e|>.f f|>.f g|>.t i tv
def aRk:=fun a b c d e f g i j=>eF a b c d e|>.f f|>.f g|>.f i|>.t j tv
def aRl:=fun a b c d e f g i j k=>eF a b c d e|>.f f|>.f g|>.f i|>.f j|>.t k tv
def aRm:=fun a b c d e f g i j k l=>eF a b c d e|>.f f|>.f g|>.f i|>.f j|>.f k|>.t l tv
def aRn:=fun a b c d e f g i j k l m=>eF a b c d e|>.f f|>.f g|>.f i|>.f j|>.f k|>.f l|>.t m tv
def aRo:=fun a b c d e f g i j k l m n=>eF a b c d e|>.f f|>.f g|>.f i|>.f j|>.f k|>.f l|>.f m|>.t n tv
def aRp:=fun a b c d e f g i j k l m n o=>eF a b c d e|>.f f|>.f g|>.f i|>.f j|>.f k|>.f l|>.f m|>.f n|>.t o tv
def aRq:=fun a b c d e f g i j k l m n o p=>eF a b c d e|>.f f|>.f g|>.f i|>.f j|>.f k|>.f l|>.f m|>.f n|>.f o|>.t p tv
def aM0:=fun a b c d e f g i j k l m n o p q=>eF a b c d e|>.f f|>.f g|>.f i|>.f j|>.f k|>.f l|>.f m|>.f n|>.f o|>.f p|>.t q tv
def aM1:=fun a b c d e f g i j k l m n o p q r=>eF a b c d e|>.f f|>.f g|>.f i|>.f j|>.f k|>.f l|>.f m|>.f n|>.f o|>.f p|>.f q|>.t r tv
def aM2:=fun a b c d e f g i j k l m n o p q r s t=>eF a b c d e|>.f f|>.f g|>.f i|>.f j|>.f k|>.f l|>.f m|>.f n|>.f o|>.f p|>.f q|>.f r|>.t s t tv
def aM3:=fun a b c d e f g i j k l m n o p q r s t=>eF a b c d e|>.f f|>.f g|>.f i|>.f j|>.f k|>.f l|>.f m|>.f n|>.f o|>.f p|>.f q|>.f r|>.f s|>.t t tv
def aM4:=fun a b c d e f g i j k l m n o p q r s t u=>eF a b c d e|>.f f|>.f g|>.f i|>.f j|>.f k|>.f l|>.f m|>.f n|>.f o|>.f p|>.f q|>.f r|>.f s|>.f t|>.t u tv
def aM5:=fun a b c d e f g i j k l m n o p q r s t u v=>eF a b c d e|>.f f|>.f g|>.f i|>.f j|>.f k|>.f l|>.f m|>.f n|>.f o|>.f p|>.f q|>.f r|>.f s|>.f t|>.f u|>.t v tv
def aM6:=fun a b c d e f g i j k l m n o p q r s t u v w=>eF a b c d e|>.f f|>.f g|>.f i|>.f j|>.f k|>.f l|>.f m|>.f n|>.f o|>.f p|>.f q|>.f r|>.f s|>.f t|>.f u|>.f v|>.t w tv
def aM7:=fun a b c d e f g i j k l m n o p q r s t u v w x=>eF a b c d e|>.f f|>.f g|>.f i|>.f j|>.f k|>.f l|>.f m|>.f n|>.f o|>.f p|>.f q|>.f r|>.f s|>.f t|>.f u|>.f v|>.f w|>.t x tv
def aM8:=fun a b c d e f g i j k l m n o p q r s t u v w x y=>eF a b c d e|>.f f|>.f g|>.f i|>.f j|>.f k|>.f l|>.f m|>.f n|>.f o|>.f p|>.f q|>.f r|>.f s|>.f t|>.f u|>.f v|>.f w|>.f x|>.t y tv
def aM9:=fun a b c d e f g i j k l m n o p q r s t u v w x y z=>eF a b c d e|>.f f|>.f g|>.f i|>.f j|>.f k|>.f l|>.f m|>.f n|>.f o|>.f p|>.f q|>.f r|>.f s|>.f t|>.f u|>.f v|>.f w|>.f x|>.f y|>.t z tv
def aNa:=fun a b c d e f g i j k l m n o p q r s t u v w x y z A=>eF a b c d e|>.f f|>.f g|>.f i|>.f j|>.f k|>.f l|>.f m|>.f n|>.f o|>.f p|>.f q|>.f r|>.f s|>.f t|>.f u|>.f v|>.f w|>.f x|>.f y|>.f z|>.t A tv
def aNb:=fun a b c d e f g i j k l m n o p q r s t u v w x y z A B=>eF a b c d e|>.f f|>.f g|>.f i|>.f j|>.f k|>.f l|>.f m|>.f n|>.f o|>.f p|>.f q|>.f r|>.f s|>.f t|>.f u|>.f v|>.f w|>.f x|>.f y|>.f z|>.f A|>.t B tv
def aNc:=fun a b c d e f g i j k l m n o p q r s t u v w x y z A B C=>eF a b c d e|>.f f|>.f g|>.f i|>.f j|>.f k|>.f l|>.f m|>.f n|>.f o|>.f p|>.f q|>.f r|>.f s|>.f t|>.f u|>.f v|>.f w|>.f x|>.f y|>.f z|>.f A|>.f B|>.t C tv
def aNd:=fun a b c d e f g i j k l m n o p q r s t u v w x y z A B C D=>eF a b c d e|>.f f|>.f g|>.f i|>.f j|>.f k|>.f l|>.f m|>.f n|>.f o|>.f p|>.f q|>.f r|>.f s|>.f t|>.f u|>.f v|>.f w|>.f x|>.f y|>.f z|>.f A|>.f B|>.f C|>.t D tv
def aNe:=fun a b c d e f g i j k l m n o p q r s t u v w x y z A B C D F=>eF a b c d e|>.f f|>.f g|>.f i|>.f j|>.f k|>.f l|>.f m|>.f n|>.f o|>.f p|>.f q|>.f r|>.f s|>.f t|>.f u|>.f v|>.f w|>.f x|>.f y|>.f z|>.f A|>.f B|>.f C|>.f D|>.t F tv
def aNf:=fun a b c d e f g i j k l m n o p q r s t u v w x y z A B C D F G=>eF a b c d e|>.f f|>.f g|>.f i|>.f j|>.f k|>.f l|>.f m|>.f n|>.f o|>.f p|>.f q|>.f r|>.f s|>.f t|>.f u|>.f v|>.f w|>.f x|>.f y|>.f z|>.f A|>.f B|>.f C|>.f D|>.f F|>.t G tv
def aNg:=fun a b c d e f g i j k l m n o p q r s t u v w x y z A B C D F G H=>eF a b c d e|>.f f|>.f g|>.f i|>.f j|>.f k|>.f l|>.f m|>.f n|>.f o|>.f p|>.f q|>.f r|>.f s|>.f t|>.f u|>.f v|>.f w|>.f x|>.f y|>.f z|>.f A|>.f B|>.f C|>.f D|>.f F|>.f G|>.t H tv
def aNh:=fun a b c d e f g i j k l m n o p q r s t u v w x y z A B C D F G H I=>eF a b c d e|>.f f|>.f g|>.f i|>.f j|>.f k|>.f l|>.f m|>.f n|>.f o|>.f p|>.f q|>.f r|>.f s|>.f t|>.f u|>.f v|>.f w|>.f x|>.f y|>.f z|>.f A|>.f B|>.f C|>.f D|>.f F|>.f G|>.f H|>.t I tv
def aNi:=fun a b c d e f g i j k l m n o p q r s t u v w x y z A B C D F G H I=>eF a b c d e|>.f f|>.f g|>.f i|>.f j|>.f k|>.f l|>.f m|>.f n|>.f o|>.f p|>.f q|>.f r|>.f s|>.f t|>.f u|>.f v|>.f w|>.f x|>.f y|>.f z|>.f A|>.f B|>.f C|>.f D|>.f F|>.f G|>.f H|>.f I tv
def kL(g e:Int)(b:aE)(d:List Term)(a:List Pat):=tT 0 (aMZ g e b d a)<|.y fun i:Bool=>.y fun f:Bool=>.y fun c:Bool=>.y fun j:Int=>.y fun k:Bool=>gp 7 211 [(.agg [(nI g),(nI e),(aD b),(.ilst 5 (av d) false),(iP a)])] (.tup [(.agg [(bV i),(bV f),(bV c),(nI j)]),(bV k)])<|.b 11 12 k (gm 2 cG d<|.b 5 20 ((d.length:Int) ==j) (.b 3 23 i (.b 9 32 f (.b 9 41 c (.W 17 2 [0,1] (mB g e b d a i f c j))<|gm 2 aK a<|.b 9 3 (!((a.length:Int) ==0)) (gQ 6 2 [((.iface 270 (.agg [])),false)])<|.W 5 2 [0,1] (mB g e b d a i f c j))<|.b 6 38 (aP b.length (aA b) 0 0) (.b 3 41 c (.W 17 2 [0,1] (mB g e b d a i f c j))<|gm 2 aK a<|.b 9 3 (!((a.length:Int) ==0)) (gQ 6 2 [((.iface 270 (.agg [])),false)])<|.W 5 2 [0,1] (mB g e b d a i f c j))<|gQ 21 2 [((.iface 270 (.agg [])),false)])<|.b 6 29 (e==0) (.b 3 32 f (.b 9 41 c (.W 17 2 [0,1] (mB g e b d a i f c j))<|gm 2 aK a<|.b 9 3 (!((a.length:Int) ==0)) (gQ 6 2 [((.iface 270 (.agg [])),false)])<|.W 5 2 [0,1] (mB g e b d a i f c j))<|.b 6 38 (aP b.length (aA b) 0 0) (.b 3 41 c (.W 17 2 [0,1] (mB g e b d a i f c j))<|gm 2 aK a<|.b 9 3 (!((a.length:Int) ==0)) (gQ 6 2 [((.iface 270 (.agg [])),false)])<|.W 5 2 [0,1] (mB g e b d a i f c j))<|gQ 21 2 [((.iface 270 (.agg [])),false)])<|gQ 30 2 [((.iface 270 (.agg [])),false)])<|gQ 39 2 [((.iface 270 (.agg [])),false)])<|gQ 47 2 [((.iface 270 (.agg [])),false)]
def aRr:=fun a b c d e f g i j k l m n o p q=>kL a b c d e f g i j k l|>.t m|>.t n|>.t o|>.t p|>.t q tv
def aRs:=fun a b c d e f g i j k l m n o p q r=>kL a b c d e f g i j k l|>.t m|>.t n|>.t o|>.t p|>.f q|>.t r tv
def aRt:=fun a b c d e f g i j k l m n o p q r=>kL a b c d e f g i j k l|>.t m|>.t n|>.t o|>.t p|>.f q|>.f r tv
def aRu:=fun a b c d e f g i j k l m n o p q r=>kL a b c d e f g i j k l|>.t m|>.t n|>.t o|>.f p|>.t q|>.t r tv
def aRv:=fun a b c d e f g i j k l m n o p q r s=>kL a b c d e f g i j k l|>.t m|>.t n|>.t o|>.f p|>.t q|>.f r|>.t s tv
def aRw:=fun a b c d e f g i j k l m n o p q r s=>kL a b c d e f g i j k l|>.t m|>.t n|>.t o|>.f p|>.t q|>.f r|>.f s tv
def aRx:=fun a b c d e f g i j k l m n o p q=>kL a b c d e f g i j k l|>.t m|>.t n|>.t o|>.f p|>.f q tv
def aRy:=fun a b c d e f g i j k l m n o p q r=>kL a b c d e f g i j k l|>.t m|>.t n|>.f o|>.t p|>.t q|>.t r tv
def aRz:=fun a b c d e f g i j k l m n o p q r s=>kL a b c d e f g i j k l|>.t m|>.t n|>.f o|>.t p|>.t q|>.f r|>.t s tv
def aRA:=fun a b c d e f g i j k l m n o p q r s=>kL a b c d e f g i j k l|>.t m|>.t n|>.f o|>.t p|>.t q|>.f r|>.f s tv
def aNj:=fun a b c d e f g i j k l m n o p q r s=>kL a b c d e f g i j k l|>.t m|>.t n|>.f o|>.t p|>.f q|>.t r|>.t s tv
def aNk:=fun a b c d e f g i j k l m n o p q r s t=>kL a b c d e f g i j k l|>.t m|>.t n|>.f o|>.t p|>.f q|>.t r|>.f s|>.t t tv
def aNl:=fun a b c d e f g i j k l m n o p q r s t=>kL a b c d e f g i j k l|>.t m|>.t n|>.f o|>.t p|>.f q|>.t r|>.f s|>.f t tv
def aNm:=fun a b c d e f g i j k l m n o p q r=>kL a b c d e f g i j k l|>.t m|>.t n|>.f o|>.t p|>.f q|>.f r tv
def aNn:=fun a b c d e f g i j k l m n o p=>kL a b c d e f g i j k l|>.t m|>.t n|>.f o|>.f p tv
def aNo:=fun a b c d e f g i j k l m n=>kL a b c d e f g i j k l|>.t m|>.f n tv
def aNp:=fun a b c d e f g i j k l m=>kL a b c d e f g i j k l|>.f m tv
def nA(a b:Int)(d:aE)(e:List Term)(c:List Pat)(f g i:Bool)(j:Int):=tT 0 (mB a b d e c f g i j)<|.b 12 51 (a==1) (cZ 4 212 [(nI b)]<|fun k=>.b 6 3 (!k) (gQ 6 2 [((.iface 270 (.agg [])),false)])<|.W 6 2 [0,1] (mC a b d e c f g i j))<|.b 6 57 (a==2) (.b 6 62 (b==0) (.W 16 2 [0,1] (mC a b d e c f g i j))<|.b 10 3 (!(b==1)) (gQ 6 2 [((.iface 270 (.agg [])),false)])<|.W 6 2 [0,1] (mC a b d e c f g i j))<|.b 6 68 (a==24) (gd 6 73 (b≥0) (.b 10 3 (!(decide (b<4))) (gQ 6 2 [((.iface 270 (.agg [])),false)])<|.W 6 2 [0,1] (mC a b d e c f g i j))<|gQ 16 2 [((.iface 270 (.agg [])),false)])<|.b 6 79 (a==14) (cZ 4 104 [(aD d)]<|fun k=>.b 6 3 (!k) (gQ 6 2 [((.iface 270 (.agg [])),false)])<|.W 6 2 [0,1] (mC a b d e c f g i j))<|.b 6 85 (a==15) (gm 5 aK c<|gd 2 91 ((c.length:Int) ≥1) (gm 2 aK c<|.b 8 3 (!(decide ((c.length:Int) ≤5))) (gQ 6 2 [((.iface 270 (.agg [])),false)])<|gm 9 aK c<|.W 4 2 [0,1] (aB4 a b d e c f g i j 0))<|gQ 17 2 [((.iface 270 (.agg [])),false)])<|.W 3 2 [0,1] (mC a b d e c f g i j)
def aRB:=fun a b c d e f g i j k l m n=>nA a b c d e f g i j|>.t l k m|>.t n tv
def aRC:=fun a b c d e f g i j k l m n=>nA a b c d e f g i j|>.t l k m|>.f n tv
def aRD:=fun a b c d e f g i j k l m=>nA a b c d e f g i j|>.f k|>.t l|>.t m tv
def aRE:=fun a b c d e f g i j k l m n=>nA a b c d e f g i j|>.f k|>.t l|>.f m|>.t n tv
def aRF:=fun a b c d e f g i j k l m n=>nA a b c d e f g i j|>.f k|>.t l|>.f m|>.f n tv
def aRG:=fun a b c d e f g i j k l m n o=>nA a b c d e f g i j|>.f k|>.f l|>.t m|>.t n|>.t o tv
def aRH:=fun a b c d e f g i j k l m n o=>nA a b c d e f g i j|>.f k|>.f l|>.t m|>.t n|>.f o tv
def aRI:=fun a b c d e f g i j k l m n=>nA a b c d e f g i j|>.f k|>.f l|>.t m|>.f n tv
def aRJ:=fun a b c d e f g i j k l m n o p q=>nA a b c d e f g i j|>.f l|>.f m|>.f n|>.t o k p|>.t q tv
def aRK:=fun a b c d e f g i j k l m n o p q=>nA a b c d e f g i j|>.f l|>.f m|>.f n|>.t o k p|>.f q tv
def aNq:=fun a b c d e f g i j k l m n o p q=>nA a b c d e f g i j|>.f k|>.f l|>.f m|>.f n|>.t o|>.t p|>.t q tv
def aNr:=fun a b c d e f g i j k l m n o p q=>nA a b c d e f g i j|>.f k|>.f l|>.f m|>.f n|>.t o|>.t p|>.f q tv
def aNs:=fun a b c d e f g i j k l m n o p=>nA a b c d e f g i j|>.f k|>.f l|>.f m|>.f n|>.t o|>.f p tv
def aNt:=fun a b c d e f g i j k l m n o=>nA a b c d e f g i j|>.f k|>.f l|>.f m|>.f n|>.f o tv
def aIG(a d:Int)(b:aE)(e:List Term)(f:List Pat)(g c i:Bool)(j:Int):=tT 0 (mC a d b e f g c i j)<|.b 5 112 c (.b 5 116 (a != 14) (cZ 4 58 [(aD b)]<|fun k=>.b 6 3 (!k) (gQ 6 2 [((.iface 270 (.agg [])),false)])<|gE 6 2 (.tup []))<|gE 3 2 (.tup []))<|gE 8 2 (.tup [])
def aRL:=fun a b c d e f g i j k l m n o=>aIG a b c d e f g i j|>.t l|>.t m k n|>.t o tv
def aRM:=fun a b c d e f g i j k l m n o=>aIG a b c d e f g i j|>.t l|>.t m k n|>.f o tv
def aRN:=fun a b c d e f g i j k l=>aIG a b c d e f g i j|>.t k|>.f l tv
def aRO:=fun a b c d e f g i j k=>aIG a b c d e f g i j|>.f k tv
def aNu(c d:Int)(e:aE)(f:List Term)(a:List Pat)(g i j:Bool)(k b:Int):=tT 0 (aB4 c d e f a g i j k b)<|gd 5 102 (b< (a.length:Int)) (aBU 6 a b<|fun l m n o=>gpI 6 213 [(.agg [(nI l),(nI m),(aD n),(iP o)])]<|fun p=>.b 7 3 (!(p==0)) (gQ 6 3 [((.iface 270 (.agg [])),false)])<|gw 8 109 (b+1)<|.W 3 3 [0,1] (aB4 c d e f a g i j k (b+1)))<|.W 3 2 [0,1] (mC c d e f a g i j k)
def aRP:=fun a b c d e f g i j k l m n o p q r s t u=>aNu a b c d e f g i j k|>.t q l m n o r s p t|>.t u tv
def aRQ:=fun a b c d e f g i j k l m n o p q r s t u v=>aNu a b c d e f g i j k|>.t q l m n o r s p t|>.f u v tv
def aRR:=fun a b c d e f g i j k l=>aNu a b c d e f g i j k|>.f l tv
def hY (op:Int) :Bool:=decide (op=1∨op=2∨op=24)
def hJ (op:Int) :Bool:=decide (op=4∨op=5∨op=27∨op=7∨op=14)
def hM (op:Int) :Bool:=decide (op=15)
def iD (op k m:Int) :Int:=
 if op=5∨op=27 then 1 else if op=7 then 2 else if op=8 then 3 else if op=14 then(if 3<k then 3 else k)else if op=15 then 1+m
 else if op=16∨op=17∨op=19∨op=20∨op=23∨op=26∨op=24 then 1
 else if op=6∨op=9∨op=10∨op=11∨op=12∨op=13∨op=18∨op=22 then 2 else 0
def hiT (op:Int) :Bool:=decide (op=1∨op=2∨op=3∨op=21∨op=25∨op=28∨op=4∨op=5∨op=27∨op=7∨op=8∨op=14∨op=15∨op=16∨op=17∨op=19∨op=20∨op=23∨op=26∨op=24∨op=6∨op=9∨op=10∨op=11∨op=12∨op=13∨op=18∨op=22)
theorem bSh_E (t_op t_n : Int)(t_text:aE)(t_kids:List Term)(t_pats:List Pat)(hks:t_kids.length<1000000)(hps:t_pats.length<1000000) :
  Ends PP 0 (start PP 211 [Term.av (.mk t_op t_n t_text t_kids t_pats)]).as (.ret (.tup [.agg [.bool (hY t_op),.bool (hJ t_op),.bool (hM t_op),.int .i64 (iD t_op (length t_kids) (length t_pats))],.bool (hiT t_op)])) (aO [] 0) :=by
 cases hb1: (t_op== (1:Int))with
 | true=>
  exact Ends.eqv (aRh t_op t_n t_text t_kids t_pats   hb1) (by simp_all [hY,hJ,hM,iD,hiT])
 | false =>
  cases hb2: (t_op== (2:Int))with
  | true=>
   exact Ends.eqv (aRi t_op t_n t_text t_kids t_pats   hb1 hb2) (by simp_all [hY,hJ,hM,iD,hiT])
  | false =>
   cases hb3: (t_op== (3:Int))with
   | true=>
    exact Ends.eqv (aRj t_op t_n t_text t_kids t_pats   hb1 hb2 hb3) (by simp_all [hY,hJ,hM,iD,hiT])
   | false =>
    cases hb4: (t_op== (21:Int))with
    | true=>
     exact Ends.eqv (aRk t_op t_n t_text t_kids t_pats   hb1 hb2 hb3 hb4) (by simp_all [hY,hJ,hM,iD,hiT])
    | false =>
     cases hb5: (t_op== (25:Int))with
     | true=>
      exact Ends.eqv (aRl t_op t_n t_text t_kids t_pats   hb1 hb2 hb3 hb4 hb5) (by simp_all [hY,hJ,hM,iD,hiT])
     | false =>
      cases hb6: (t_op== (28:Int))with
      | true=>
       exact Ends.eqv (aRm t_op t_n t_text t_kids t_pats   hb1 hb2 hb3 hb4 hb5 hb6) (by simp_all [hY,hJ,hM,iD,hiT])
      | false =>
       cases hb7: (t_op== (4:Int))with
       | true=>
        exact Ends.eqv (aRn t_op t_n t_text t_kids t_pats   hb1 hb2 hb3 hb4 hb5 hb6 hb7) (by simp_all [hY,hJ,hM,iD,hiT])
       | false =>
        cases hb8: (t_op== (5:Int))with
        | true=>
         exact Ends.eqv (aRo t_op t_n t_text t_kids t_pats   hb1 hb2 hb3 hb4 hb5 hb6 hb7 hb8) (by simp_all [hY,hJ,hM,iD,hiT])
        | false =>
         cases hb9: (t_op== (27:Int))with
         | true=>
          exact Ends.eqv (aRp t_op t_n t_text t_kids t_pats   hb1 hb2 hb3 hb4 hb5 hb6 hb7 hb8 hb9) (by simp_all [hY,hJ,hM,iD,hiT])
         | false =>
          cases hb10: (t_op== (7:Int))with
          | true=>
           exact Ends.eqv (aRq t_op t_n t_text t_kids t_pats   hb1 hb2 hb3 hb4 hb5 hb6 hb7 hb8 hb9 hb10) (by simp_all [hY,hJ,hM,iD,hiT])
          | false =>
           cases hb11: (t_op== (8:Int))with
           | true=>
            exact Ends.eqv (aM0 t_op t_n t_text t_kids t_pats   hb1 hb2 hb3 hb4 hb5 hb6 hb7 hb8 hb9 hb10 hb11) (by simp_all [hY,hJ,hM,iD,hiT])
           | false =>
            cases hb12: (t_op== (14:Int))with
            | true=>
             exact Ends.eqv (aM1 t_op t_n t_text t_kids t_pats   hb1 hb2 hb3 hb4 hb5 hb6 hb7 hb8 hb9 hb10 hb11 hb12) (by simp_all [hY,hJ,hM,iD,hiT])
            | false =>
             cases hb13: (t_op== (15:Int))with
             | true=>
              exact Ends.eqv (aM2 t_op t_n t_text t_kids t_pats   hb1 hb2 hb3 hb4 hb5 hb6 hb7 hb8 hb9 hb10 hb11 hb12 hb13 sdI) (by simp_all [hY,hJ,hM,iD,hiT])
             | false =>
              cases hb14: (t_op== (16:Int))with
              | true=>
               exact Ends.eqv (aM3 t_op t_n t_text t_kids t_pats   hb1 hb2 hb3 hb4 hb5 hb6 hb7 hb8 hb9 hb10 hb11 hb12 hb13 hb14) (by simp_all [hY,hJ,hM,iD,hiT])
              | false =>
               cases hb15: (t_op== (17:Int))with
               | true=>
                exact Ends.eqv (aM4 t_op t_n t_text t_kids t_pats   hb1 hb2 hb3 hb4 hb5 hb6 hb7 hb8 hb9 hb10 hb11 hb12 hb13 hb14 hb15) (by simp_all [hY,hJ,hM,iD,hiT])
               | false =>
                cases hb16: (t_op== (19:Int))with
                | true=>
                 exact Ends.eqv (aM5 t_op t_n t_text t_kids t_pats   hb1 hb2 hb3 hb4 hb5 hb6 hb7 hb8 hb9 hb10 hb11 hb12 hb13 hb14 hb15 hb16) (by simp_all [hY,hJ,hM,iD,hiT])
                | false =>
                 cases hb17: (t_op== (20:Int))with
                 | true=>
                  exact Ends.eqv (aM6 t_op t_n t_text t_kids t_pats   hb1 hb2 hb3 hb4 hb5 hb6 hb7 hb8 hb9 hb10 hb11 hb12 hb13 hb14 hb15 hb16 hb17) (by simp_all [hY,hJ,hM,iD,hiT])
                 | false =>
                  cases hb18: (t_op== (23:Int))with
                  | true=>
                   exact Ends.eqv (aM7 t_op t_n t_text t_kids t_pats   hb1 hb2 hb3 hb4 hb5 hb6 hb7 hb8 hb9 hb10 hb11 hb12 hb13 hb14 hb15 hb16 hb17 hb18) (by simp_all [hY,hJ,hM,iD,hiT])
                  | false =>
                   cases hb19: (t_op== (26:Int))with
                   | true=>
                    exact Ends.eqv (aM8 t_op t_n t_text t_kids t_pats   hb1 hb2 hb3 hb4 hb5 hb6 hb7 hb8 hb9 hb10 hb11 hb12 hb13 hb14 hb15 hb16 hb17 hb18 hb19) (by simp_all [hY,hJ,hM,iD,hiT])
                   | false =>
                    cases hb20: (t_op== (24:Int))with
                    | true=>
                     exact Ends.eqv (aM9 t_op t_n t_text t_kids t_pats   hb1 hb2 hb3 hb4 hb5 hb6 hb7 hb8 hb9 hb10 hb11 hb12 hb13 hb14 hb15 hb16 hb17 hb18 hb19 hb20) (by simp_all [hY,hJ,hM,iD,hiT])
                    | false =>
                     cases hb21: (t_op== (6:Int))with
                     | true=>
                      exact Ends.eqv (aNa t_op t_n t_text t_kids t_pats   hb1 hb2 hb3 hb4 hb5 hb6 hb7 hb8 hb9 hb10 hb11 hb12 hb13 hb14 hb15 hb16 hb17 hb18 hb19 hb20 hb21) (by simp_all [hY,hJ,hM,iD,hiT])
                     | false =>
                      cases hb22: (t_op== (9:Int))with
                      | true=>
                       exact Ends.eqv (aNb t_op t_n t_text t_kids t_pats   hb1 hb2 hb3 hb4 hb5 hb6 hb7 hb8 hb9 hb10 hb11 hb12 hb13 hb14 hb15 hb16 hb17 hb18 hb19 hb20 hb21 hb22) (by simp_all [hY,hJ,hM,iD,hiT])
                      | false =>
                       cases hb23: (t_op== (10:Int))with
                       | true=>
                        exact Ends.eqv (aNc t_op t_n t_text t_kids t_pats   hb1 hb2 hb3 hb4 hb5 hb6 hb7 hb8 hb9 hb10 hb11 hb12 hb13 hb14 hb15 hb16 hb17 hb18 hb19 hb20 hb21 hb22 hb23) (by simp_all [hY,hJ,hM,iD,hiT])
                       | false=>
                        cases hb24: (t_op== (11:Int))with
                        | true=>
                         exact Ends.eqv (aNd t_op t_n t_text t_kids t_pats   hb1 hb2 hb3 hb4 hb5 hb6 hb7 hb8 hb9 hb10 hb11 hb12 hb13 hb14 hb15 hb16 hb17 hb18 hb19 hb20 hb21 hb22 hb23 hb24) (by simp_all [hY,hJ,hM,iD,hiT])
                        | false=>
                         cases hb25: (t_op== (12:Int))with
                         | true=>
                          exact Ends.eqv (aNe t_op t_n t_text t_kids t_pats   hb1 hb2 hb3 hb4 hb5 hb6 hb7 hb8 hb9 hb10 hb11 hb12 hb13 hb14 hb15 hb16 hb17 hb18 hb19 hb20 hb21 hb22 hb23 hb24 hb25) (by simp_all [hY,hJ,hM,iD,hiT])
                         | false=>
                          cases hb26: (t_op== (13:Int))with
                          | true=>
                           exact Ends.eqv (aNf t_op t_n t_text t_kids t_pats   hb1 hb2 hb3 hb4 hb5 hb6 hb7 hb8 hb9 hb10 hb11 hb12 hb13 hb14 hb15 hb16 hb17 hb18 hb19 hb20 hb21 hb22 hb23 hb24 hb25 hb26) (by simp_all [hY,hJ,hM,iD,hiT])
                          | false=>
                           cases hb27: (t_op== (18:Int))with
                           | true=>
                            exact Ends.eqv (aNg t_op t_n t_text t_kids t_pats   hb1 hb2 hb3 hb4 hb5 hb6 hb7 hb8 hb9 hb10 hb11 hb12 hb13 hb14 hb15 hb16 hb17 hb18 hb19 hb20 hb21 hb22 hb23 hb24 hb25 hb26 hb27) (by simp_all [hY,hJ,hM,iD,hiT])
                           | false=>
                            cases hb28: (t_op== (22:Int))with
                            | true=>
                             exact Ends.eqv (aNh t_op t_n t_text t_kids t_pats   hb1 hb2 hb3 hb4 hb5 hb6 hb7 hb8 hb9 hb10 hb11 hb12 hb13 hb14 hb15 hb16 hb17 hb18 hb19 hb20 hb21 hb22 hb23 hb24 hb25 hb26 hb27 hb28) (by simp_all [hY,hJ,hM,iD,hiT])
                            | false=>
                             exact Ends.eqv (aNi t_op t_n t_text t_kids t_pats   hb1 hb2 hb3 hb4 hb5 hb6 hb7 hb8 hb9 hb10 hb11 hb12 hb13 hb14 hb15 hb16 hb17 hb18 hb19 hb20 hb21 hb22 hb23 hb24 hb25 hb26 hb27 hb28) (by simp_all [hY,hJ,hM,iD,hiT])
theorem aNv (o n:Int)(s:aE)(ks:List Term)(ps:List Pat)(hks:ks.length<1000000)(hps:ps.length<1000000) :Pure PP 211 [Term.av (.mk o n s ks ps)] (.tup [.agg [.bool (hY o),.bool (hJ o),.bool (hM o),.int .i64 (iD o (length ks) (length ps))],.bool (hiT o)]) :=
 bC (by kernel_rfl) (by simp [keylessL,fC]) rfl (bSh_E o n s ks ps hks hps)
def aX (hi hn ht hp:Bool)(K n:Int)(s:aE)(k m:Int) :Bool:=hi&&decide (k=K) && (hn||decide (n=0)) && (ht||decide (s= [])) && (hp||decide (m=0))
def aT (op n:Int)(s:aE)(k m:Int) :Bool:=aX (hiT op) (hY op) (hJ op) (hM op) (iD op k m) n s k m
def bT (op n:Int)(s:aE)(m:Int) :Bool:=
 if op=1 then cC n (-1000000000) 1000000000 else if op=2 then cC n 0 1 else if op=24 then cC n 0 3 else if op=14 then cB s else if op=15 then cC m 1 5 else true
def dT (op:Int)(s:aE) :Bool:=if hJ op=true∧op≠14 then dQ s else true
theorem aNw (op n:Int)(s:aE)(k m:Int) :aG op n s k m= (aT op n s k m&&bT op n s m&&dT op s) :=by
 by_cases h1:op=1
 · subst h1;simp [aG,aT,aX,bT,dT,hiT,iD,hY,hJ,hM,aH,Bool.and_assoc,Bool.and_comm,Bool.and_left_comm]
 by_cases h2:op=2
 · subst h2;simp [aG,aT,aX,bT,dT,hiT,iD,hY,hJ,hM,aH,Bool.and_assoc,Bool.and_comm,Bool.and_left_comm]
 by_cases h3:op=3
 · subst h3;simp [aG,aT,aX,bT,dT,hiT,iD,hY,hJ,hM,aH,Bool.and_assoc,Bool.and_comm,Bool.and_left_comm]
 by_cases h21:op=21
 · subst h21;simp [aG,aT,aX,bT,dT,hiT,iD,hY,hJ,hM,aH,Bool.and_assoc,Bool.and_comm,Bool.and_left_comm]
 by_cases h25:op=25
 · subst h25;simp [aG,aT,aX,bT,dT,hiT,iD,hY,hJ,hM,aH,Bool.and_assoc,Bool.and_comm,Bool.and_left_comm]
 by_cases h28:op=28
 · subst h28;simp [aG,aT,aX,bT,dT,hiT,iD,hY,hJ,hM,aH,Bool.and_assoc,Bool.and_comm,Bool.and_left_comm]
 by_cases h4:op=4
 · subst h4;simp [aG,aT,aX,bT,dT,hiT,iD,hY,hJ,hM,aH,Bool.and_assoc,Bool.and_comm,Bool.and_left_comm]
 by_cases h5:op=5
 · subst h5;simp [aG,aT,aX,bT,dT,hiT,iD,hY,hJ,hM,aH,Bool.and_assoc,Bool.and_comm,Bool.and_left_comm]
 by_cases h27:op=27
 · subst h27;simp [aG,aT,aX,bT,dT,hiT,iD,hY,hJ,hM,aH,Bool.and_assoc,Bool.and_comm,Bool.and_left_comm]
 by_cases h7:op=7
 · subst h7;simp [aG,aT,aX,bT,dT,hiT,iD,hY,hJ,hM,aH,Bool.and_assoc,Bool.and_comm,Bool.and_left_comm]
 by_cases h8:op=8
 · subst h8;simp [aG,aT,aX,bT,dT,hiT,iD,hY,hJ,hM,aH,Bool.and_assoc,Bool.and_comm,Bool.and_left_comm]
 by_cases h15:op=15
 · subst h15;simp [aG,aT,aX,bT,dT,hiT,iD,hY,hJ,hM,aH,Bool.and_assoc,Bool.and_comm,Bool.and_left_comm]
 by_cases h16:op=16
 · subst h16;simp [aG,aT,aX,bT,dT,hiT,iD,hY,hJ,hM,aH,Bool.and_assoc,Bool.and_comm,Bool.and_left_comm]
 by_cases h17:op=17
 · subst h17;simp [aG,aT,aX,bT,dT,hiT,iD,hY,hJ,hM,aH,Bool.and_assoc,Bool.and_comm,Bool.and_left_comm]
 by_cases h19:op=19
 · subst h19;simp [aG,aT,aX,bT,dT,hiT,iD,hY,hJ,hM,aH,Bool.and_assoc,Bool.and_comm,Bool.and_left_comm]
 by_cases h20:op=20
 · subst h20;simp [aG,aT,aX,bT,dT,hiT,iD,hY,hJ,hM,aH,Bool.and_assoc,Bool.and_comm,Bool.and_left_comm]
 by_cases h23:op=23
 · subst h23;simp [aG,aT,aX,bT,dT,hiT,iD,hY,hJ,hM,aH,Bool.and_assoc,Bool.and_comm,Bool.and_left_comm]
 by_cases h26:op=26
 · subst h26;simp [aG,aT,aX,bT,dT,hiT,iD,hY,hJ,hM,aH,Bool.and_assoc,Bool.and_comm,Bool.and_left_comm]
 by_cases h24:op=24
 · subst h24;simp [aG,aT,aX,bT,dT,hiT,iD,hY,hJ,hM,aH,Bool.and_assoc,Bool.and_comm,Bool.and_left_comm]
 by_cases h6:op=6
 · subst h6;simp [aG,aT,aX,bT,dT,hiT,iD,hY,hJ,hM,aH,Bool.and_assoc,Bool.and_comm,Bool.and_left_comm]
 by_cases h9:op=9
 · subst h9;simp [aG,aT,aX,bT,dT,hiT,iD,hY,hJ,hM,aH,Bool.and_assoc,Bool.and_comm,Bool.and_left_comm]
 by_cases h10:op=10
 · subst h10;simp [aG,aT,aX,bT,dT,hiT,iD,hY,hJ,hM,aH,Bool.and_assoc,Bool.and_comm,Bool.and_left_comm]
 by_cases h11:op=11
 · subst h11;simp [aG,aT,aX,bT,dT,hiT,iD,hY,hJ,hM,aH,Bool.and_assoc,Bool.and_comm,Bool.and_left_comm]
 by_cases h12:op=12
 · subst h12;simp [aG,aT,aX,bT,dT,hiT,iD,hY,hJ,hM,aH,Bool.and_assoc,Bool.and_comm,Bool.and_left_comm]
 by_cases h13:op=13
 · subst h13;simp [aG,aT,aX,bT,dT,hiT,iD,hY,hJ,hM,aH,Bool.and_assoc,Bool.and_comm,Bool.and_left_comm]
 by_cases h18:op=18
 · subst h18;simp [aG,aT,aX,bT,dT,hiT,iD,hY,hJ,hM,aH,Bool.and_assoc,Bool.and_comm,Bool.and_left_comm]
 by_cases h22:op=22
 · subst h22;simp [aG,aT,aX,bT,dT,hiT,iD,hY,hJ,hM,aH,Bool.and_assoc,Bool.and_comm,Bool.and_left_comm]
 by_cases h14:op=14
 · subst h14;have e: (!decide (3<k) ||decide (k=3)) =decide (k≤3) :=by by_cases h:3<k<;>simp [h] <;>omega
   simp [aG,aT,aX,bT,dT,hiT,iD,hY,hJ,hM,aH,e,Bool.and_assoc,Bool.and_comm,Bool.and_left_comm]
 have hf:aG op n s k m=false:=by simp [aG,h1,h2,h3,h21,h25,h28,h4,h5,h27,h7,h8,h15,h16,h17,h19,h20,h23,h26,h24,h6,h9,h10,h11,h12,h13,h18,h22,h14]
 have hi:hiT op=false:=by simp [hiT,h1,h2,h3,h21,h25,h28,h4,h5,h27,h7,h8,h15,h16,h17,h19,h20,h23,h26,h24,h6,h9,h10,h11,h12,h13,h18,h22,h14]
 rw [hf];simp [aT,aX,hi]
theorem aY2 (t_op t_n:Int)(t_text:aE)(t_kids:List Term)(t_pats:List Pat)(hn0 ht1 hp2:Bool)(hk3:Int)(hht:ht1=hJ t_op) :
  Ends PP 0 (mC t_op t_n t_text t_kids t_pats hn0 ht1 hp2 hk3).as (iO (dT t_op t_text)) (aO [] 0) :=by
 cases ht1 with
 | true=>
  cases hb1: (t_op != (14:Int))with
  | true=>
   cases hb2: (!(dQ t_text))with
   | true=>
    rw [show dT t_op t_text=false by simp_all [dT]];exact aRL t_op t_n t_text t_kids t_pats hn0 true hp2 hk3 (dQ t_text) rfl hb1 (jD t_text) hb2
   | false=>
    rw [show dT t_op t_text=true by simp_all [dT]];exact aRM t_op t_n t_text t_kids t_pats hn0 true hp2 hk3 (dQ t_text) rfl hb1 (jD t_text) hb2
  | false=>
   rw [show dT t_op t_text=true by simp_all [dT]];exact aRN t_op t_n t_text t_kids t_pats hn0 true hp2 hk3  rfl hb1
 | false=>
  rw [show dT t_op t_text=true by simp_all [dT]];exact aRO t_op t_n t_text t_kids t_pats hn0 false hp2 hk3  rfl
theorem aY3 (t_op t_n:Int)(t_text:aE)(t_kids:List Term)(t_pats:List Pat)(hn0 ht1 hp2:Bool)(hk3:Int)(b:Bool)(hno:bT t_op t_n t_text (length t_pats) =false→b=false)
  (h1:bT t_op t_n t_text (length t_pats) =true→t_op≠15→Ends PP 0 (mC t_op t_n t_text t_kids t_pats hn0 ht1 hp2 hk3).as (iO b) (aO [] 0))
  (h2:bT t_op t_n t_text (length t_pats) =true→t_op=15→Ends PP 0 (aB4 t_op t_n t_text t_kids t_pats hn0 ht1 hp2 hk3 0).as (iO b) (aO [] 0)) :
  Ends PP 0 (mB t_op t_n t_text t_kids t_pats hn0 ht1 hp2 hk3).as (iO b) (aO [] 0) :=by
 cases hb1: (t_op== (1:Int))with
 | true=>
  cases hb2: (!(cC t_n (-1000000000) 1000000000))with
  | true=>
   rw [hno (by clear h1 h2 hno;simp_all [bT,cC] <;>omega)];exact aRB t_op t_n t_text t_kids t_pats hn0 ht1 hp2 hk3 (cC t_n (-1000000000) 1000000000) hb1 (tZ t_n) hb2
  | false=>
   exact LeadsM.ends (aRC t_op t_n t_text t_kids t_pats hn0 ht1 hp2 hk3 (cC t_n (-1000000000) 1000000000) hb1 (tZ t_n) hb2) (h1 (by clear h1 h2 hno;simp_all [bT,cC] <;>omega) (by clear h1 h2 hno;simp_all [bT,cC] <;>omega))
 | false =>
  cases hb3: (t_op== (2:Int))with
  | true=>
   cases hb4: (t_n== (0:Int))with
   | true=>
    exact LeadsM.ends (aRD t_op t_n t_text t_kids t_pats hn0 ht1 hp2 hk3  hb1 hb3 hb4) (h1 (by clear h1 h2 hno;simp_all [bT,cC] <;>omega) (by clear h1 h2 hno;simp_all [bT,cC] <;>omega))
   | false=>
    cases hb5: (!(t_n== (1:Int)))with
    | true=>
     rw [hno (by clear h1 h2 hno;simp_all [bT,cC] <;>omega)];exact aRE t_op t_n t_text t_kids t_pats hn0 ht1 hp2 hk3  hb1 hb3 hb4 hb5
    | false=>
     exact LeadsM.ends (aRF t_op t_n t_text t_kids t_pats hn0 ht1 hp2 hk3  hb1 hb3 hb4 hb5) (h1 (by clear h1 h2 hno;simp_all [bT,cC] <;>omega) (by clear h1 h2 hno;simp_all [bT,cC] <;>omega))
  | false=>
   cases hb6: (t_op== (24:Int))with
   | true=>
    cases hb7: (decide (t_n≥ (0:Int)))with
    | true=>
     cases hb8: (!(decide (t_n< (4:Int))))with
     | true=>
      rw [hno (by clear h1 h2 hno;simp_all [bT,cC] <;>omega)];exact aRG t_op t_n t_text t_kids t_pats hn0 ht1 hp2 hk3  hb1 hb3 hb6 hb7 hb8
     | false=>
      exact LeadsM.ends (aRH t_op t_n t_text t_kids t_pats hn0 ht1 hp2 hk3  hb1 hb3 hb6 hb7 hb8) (h1 (by clear h1 h2 hno;simp_all [bT,cC] <;>omega) (by clear h1 h2 hno;simp_all [bT,cC] <;>omega))
    | false=>
     rw [hno (by clear h1 h2 hno;simp_all [bT,cC] <;>omega)];exact aRI t_op t_n t_text t_kids t_pats hn0 ht1 hp2 hk3  hb1 hb3 hb6 hb7
   | false=>
    cases hb9: (t_op== (14:Int))with
    | true=>
     cases hb10: (!(cB t_text))with
     | true=>
      rw [hno (by clear h1 h2 hno;simp_all [bT,cC] <;>omega)];exact aRJ t_op t_n t_text t_kids t_pats hn0 ht1 hp2 hk3 (cB t_text) hb1 hb3 hb6 hb9 (eV t_text) hb10
     | false=>
      exact LeadsM.ends (aRK t_op t_n t_text t_kids t_pats hn0 ht1 hp2 hk3 (cB t_text) hb1 hb3 hb6 hb9 (eV t_text) hb10) (h1 (by clear h1 h2 hno;simp_all [bT,cC] <;>omega) (by clear h1 h2 hno;simp_all [bT,cC] <;>omega))
    | false=>
     cases hb11: (t_op== (15:Int))with
     | true=>
      cases hb12: (decide (((length t_pats:Nat) :Int) ≥ (1:Int)))with
      | true=>
       cases hb13: (!(decide (((length t_pats:Nat) :Int) ≤ (5:Int))))with
       | true=>
        rw [hno (by clear h1 h2 hno;simp_all [bT,cC] <;>omega)];exact aNq t_op t_n t_text t_kids t_pats hn0 ht1 hp2 hk3  hb1 hb3 hb6 hb9 hb11 hb12 hb13
       | false=>
        exact LeadsM.ends (aNr t_op t_n t_text t_kids t_pats hn0 ht1 hp2 hk3  hb1 hb3 hb6 hb9 hb11 hb12 hb13) (h2 (by clear h1 h2 hno;simp_all [bT,cC] <;>omega) (by clear h1 h2 hno;simp_all [bT,cC] <;>omega))
      | false=>
       rw [hno (by clear h1 h2 hno;simp_all [bT,cC] <;>omega)];exact aNs t_op t_n t_text t_kids t_pats hn0 ht1 hp2 hk3  hb1 hb3 hb6 hb9 hb11 hb12
     | false=>
      exact LeadsM.ends (aNt t_op t_n t_text t_kids t_pats hn0 ht1 hp2 hk3  hb1 hb3 hb6 hb9 hb11) (h1 (by clear h1 h2 hno;simp_all [bT,cC] <;>omega) (by clear h1 h2 hno;simp_all [bT,cC] <;>omega))
theorem aY4 (t_op t_n:Int)(t_text:aE)(t_kids:List Term)(t_pats:List Pat)(hi hn ht hp:Bool)(K:Int)(hsh:Pure PP 211 [Term.av (.mk t_op t_n t_text t_kids t_pats)] (.tup [.agg [.bool hn,.bool ht,.bool hp,.int .i64 K],.bool hi]))(b:Bool)(hno:aX hi hn ht hp K t_n t_text (length t_kids) (length t_pats) =false→b=false)
  (hk:aX hi hn ht hp K t_n t_text (length t_kids) (length t_pats) =true→Ends PP 0 (mB t_op t_n t_text t_kids t_pats hn ht hp K).as (iO b) (aO [] 0)) :
  Ends PP 0 (aMZ t_op t_n t_text t_kids t_pats).as (iO b) (aO [] 0) :=by
 cases hb1:hi with
 | true =>
  cases hb2: (((length t_kids:Nat) :Int) ==K)with
  | true =>
   cases hb3:hn with
   | true=>
    cases hb4:ht with
    | true=>
     cases hb5:hp with
     | true=>
      exact LeadsM.ends (aRr t_op t_n t_text t_kids t_pats  hn ht hp K hi hsh hb1 hb2 hb3 hb4 hb5) (hk (by clear hno hk hsh;simp_all [aX,aB,aC]))
     | false=>
      cases hb6: (!(((length t_pats:Nat) :Int) == (0:Int)))with
      | true=>
       rw [hno (by clear hno hk hsh;simp_all [aX,aB,aC])];exact aRs t_op t_n t_text t_kids t_pats  hn ht hp K hi hsh hb1 hb2 hb3 hb4 hb5 hb6
      | false=>
       exact LeadsM.ends (aRt t_op t_n t_text t_kids t_pats  hn ht hp K hi hsh hb1 hb2 hb3 hb4 hb5 hb6) (hk (by clear hno hk hsh;simp_all [aX,aB,aC]))
    | false=>
     cases hb7: (aP (length t_text) (aA t_text) 0 0)with
     | true=>
      cases hb8:hp with
      | true=>
       exact LeadsM.ends (aRu t_op t_n t_text t_kids t_pats  hn ht hp K hi hsh hb1 hb2 hb3 hb4 hb7 hb8) (hk (by clear hno hk hsh;simp_all [aX,aB,aC]))
      | false=>
       cases hb9: (!(((length t_pats:Nat) :Int) == (0:Int)))with
       | true=>
        rw [hno (by clear hno hk hsh;simp_all [aX,aB,aC])];exact aRv t_op t_n t_text t_kids t_pats  hn ht hp K hi hsh hb1 hb2 hb3 hb4 hb7 hb8 hb9
       | false=>
        exact LeadsM.ends (aRw t_op t_n t_text t_kids t_pats  hn ht hp K hi hsh hb1 hb2 hb3 hb4 hb7 hb8 hb9) (hk (by clear hno hk hsh;simp_all [aX,aB,aC]))
     | false=>
      rw [hno (by clear hno hk hsh;simp_all [aX,aB,aC])];exact aRx t_op t_n t_text t_kids t_pats  hn ht hp K hi hsh hb1 hb2 hb3 hb4 hb7
   | false=>
    cases hb10: (t_n== (0:Int))with
    | true=>
     cases hb11:ht with
     | true=>
      cases hb12:hp with
      | true=>
       exact LeadsM.ends (aRy t_op t_n t_text t_kids t_pats  hn ht hp K hi hsh hb1 hb2 hb3 hb10 hb11 hb12) (hk (by clear hno hk hsh;simp_all [aX,aB,aC]))
      | false=>
       cases hb13: (!(((length t_pats:Nat) :Int) == (0:Int)))with
       | true=>
        rw [hno (by clear hno hk hsh;simp_all [aX,aB,aC])];exact aRz t_op t_n t_text t_kids t_pats  hn ht hp K hi hsh hb1 hb2 hb3 hb10 hb11 hb12 hb13
       | false=>
        exact LeadsM.ends (aRA t_op t_n t_text t_kids t_pats  hn ht hp K hi hsh hb1 hb2 hb3 hb10 hb11 hb12 hb13) (hk (by clear hno hk hsh;simp_all [aX,aB,aC]))
     | false=>
      cases hb14: (aP (length t_text) (aA t_text) 0 0)with
      | true=>
       cases hb15:hp with
       | true=>
        exact LeadsM.ends (aNj t_op t_n t_text t_kids t_pats  hn ht hp K hi hsh hb1 hb2 hb3 hb10 hb11 hb14 hb15) (hk (by clear hno hk hsh;simp_all [aX,aB,aC]))
       | false=>
        cases hb16: (!(((length t_pats:Nat) :Int) == (0:Int)))with
        | true=>
         rw [hno (by clear hno hk hsh;simp_all [aX,aB,aC])];exact aNk t_op t_n t_text t_kids t_pats  hn ht hp K hi hsh hb1 hb2 hb3 hb10 hb11 hb14 hb15 hb16
        | false=>
         exact LeadsM.ends (aNl t_op t_n t_text t_kids t_pats  hn ht hp K hi hsh hb1 hb2 hb3 hb10 hb11 hb14 hb15 hb16) (hk (by clear hno hk hsh;simp_all [aX,aB,aC]))
      | false=>
       rw [hno (by clear hno hk hsh;simp_all [aX,aB,aC])];exact aNm t_op t_n t_text t_kids t_pats  hn ht hp K hi hsh hb1 hb2 hb3 hb10 hb11 hb14
    | false=>
     rw [hno (by clear hno hk hsh;simp_all [aX,aB,aC])];exact aNn t_op t_n t_text t_kids t_pats  hn ht hp K hi hsh hb1 hb2 hb3 hb10
  | false=>
   rw [hno (by clear hno hk hsh;simp_all [aX,aB,aC])];exact aNo t_op t_n t_text t_kids t_pats  hn ht hp K hi hsh hb1 hb2
 | false=>
  rw [hno (by clear hno hk hsh;simp_all [aX,aB,aC])];exact aNp t_op t_n t_text t_kids t_pats  hn ht hp K hi hsh hb1
def POT (f:Nat)(args:List AV)(b:Bool) :Prop:=bif b then Pure PP f args (.tup [])else sJ PP f args FL
theorem aHU {f:Nat}{args:List AV}{s:TS}{b:Bool}(e: (start PP f args).as=s.as)(hb:gJ PP f=true)(hk:keylessL args=true)(he:Ends PP 0 s.as (iO b) (aO [] 0)) :POT f args b:=by
 cases b with
 |true=>exact bS e hb hk rfl he
 |false=>exact throws_at hb hk (dV false) (by rw [e];exact he)
theorem aW7 (o n:Int)(s:aE)(ks:List Term)(ps:List Pat)(hn ht hp:Bool)(K:Int)(b:Bool)(hl:ps.length<1000000)(hfit:∀q∈ps,bJ q<1000000)(h1:Ends PP 0 (mC o n s ks ps hn ht hp K).as (iO b) (aO [] 0)) :
  ∀ (qs:List Pat) (i:Nat),ps.drop i=qs→Ends PP 0 (aB4 o n s ks ps hn ht hp K (i:Int)).as (iO (qs.all aAV&&b)) (aO [] 0)
 | [],i,h=>by
  have:=bD h;exact(aRR o n s ks ps hn ht hp K i sd).ends h1
 | .mk f' n' s' ps'::qs,i,h=>by
  obtain⟨g1,g2,g3⟩ :=aW h;have hc:=aMU (.mk f' n' s' ps') (hfit _ (mem_of_getElem? g1));rw [List.all_cons];cases hq:aAV (.mk f' n' s' ps')with
  | true=>
   rw [hq,if_pos rfl]at hc;rw [Bool.true_and];exact(aRQ o n s ks ps hn ht hp K i f' n' s' ps' 0 sd sd sd hc (by simp) sd).ends (aW7 o n s ks ps hn ht hp K b hl hfit h1 qs (i+1) g2)
  | false=>
   rw [hq,if_neg (by simp)]at hc;rw [Bool.false_and,Bool.false_and];exact aRP o n s ks ps hn ht hp K i f' n' s' ps' 2 sd sd sd hc (by simp)
theorem aRS (o n:Int)(s:aE)(ks:List Term)(ps:List Pat)(hks:ks.length<1000000)(hps:ps.length<1000000)(hfit:∀q∈ps,bJ q<1000000) :POT 186 [Term.av (.mk o n s ks ps)] (aG o n s (length ks) (length ps) &&ps.all aAV) :=by
 refine aHU (s:=aMZ o n s ks ps) (by kernel_rfl) (by kernel_rfl) (by simp [keylessL,fC]) ?_;have hD:=aY2 o n s ks ps (hY o) (hJ o) (hM o) (iD o (length ks) (length ps)) rfl;rw [aNw];unfold aT;refine aY4 o n s ks ps (hiT o) (hY o) (hJ o) (hM o) (iD o (length ks) (length ps)) (aNv o n s ks ps hks hps) _ (fun h=>by rw [h];simp) (fun ha=>?_);rw [ha];refine aY3 o n s ks ps _ _ _ _ _ (fun h=>by rw [h];simp) (fun hb h15=>?_) (fun hb h15=>?_)
 · have hm:ps= [] :=by
    have hp:hM o=false:=by simp [hM,h15]
    rw [hp]at ha;simp only [aX,and_eq_true,Bool.false_or,decide_eq_true_eq]at ha;exact List.length_eq_zero_iff.1 (by have:=ha.2;omega)
   subst hm;rw [hb];simpa using hD
 · have hC:=aW7 o n s ks ps (hY o) (hJ o) (hM o) (iD o (length ks) (length ps)) _ hps hfit hD ps 0 rfl;rw [hb,Bool.true_and,Bool.true_and,Bool.and_comm];exact hC
theorem aJN {ks:List Term}{ps:List Pat}(h:iL ks+aZ ps+1<1000000) :∀q∈ps,bJ q<1000000:=fun q hq=>by
 have:∀ (ps:List Pat),q∈ps→bJ q≤aZ ps:=by
  intro ps
  induction ps with
  |nil=>intro h;cases h
  | cons p ps ih=>
   intro h;simp only [aZ];rcases List.mem_cons.1 h with e|h
   ·rw [e];omega
   ·have:=ih h;omega
 have:=this ps hq;omega
theorem aGi (o n:Int)(s:aE)(ks:List Term)(ps:List Pat)(hl:ks.length<1000000)(ih:∀t∈ks,POT 158 [Term.av t] (lB t)) :
  ∀ (ts:List Term) (i:Nat),ks.drop i=ts→Ends PP 0 (aEw o n s ks ps (i:Int)).as (iO (wH ts)) (aO [] 0)
 | [],i,h=>by
  have:=bD h;exact aRd o n s ks ps i sd
 | .mk o' n' s' ks' ps'::ts,i,h=>by
  obtain⟨g1,g2,g3⟩ :=aW h;have hp:=ih _ (mem_of_getElem? g1);rw [wH];cases hb:lB (.mk o' n' s' ks' ps')with
  | true=>
   rw [hb]at hp;rw [Bool.true_and];exact(aRc o n s ks ps i o' n' s' ks' ps' sd sd sd hp sd).ends (aGi o n s ks ps hl ih ts (i+1) g2)
  | false=>
   rw [hb]at hp;rw [Bool.false_and];exact aRb o n s ks ps i o' n' s' ks' ps' sd sd sd hp
mutual
theorem aIH :∀ (t:Term),qF t<1000000→POT 158 [Term.av t] (lB t)
 | .mk o n s ks ps,hf=>by
  simp only [qF]at hf;have:=tY ks;have:=dJ ps;refine aHU (s:=aW3 o n s ks ps) (by kernel_rfl) (by kernel_rfl) (by simp [keylessL,fC]) ?_;have hn:=aRS o n s ks ps (by omega) (by omega) (aJN hf);rw [lB];cases hb: (aG o n s (length ks) (length ps) &&ps.all aAV)with
  | true=>
   rw [hb]at hn;rw [Bool.true_and];exact(aRa o n s ks ps hn).ends (aGi o n s ks ps (by omega) (aII ks (by omega)) ks 0 rfl)
  | false=>
   rw [hb]at hn;rw [Bool.false_and];exact aQ9 o n s ks ps hn
theorem aII :∀ (ts:List Term),iL ts<1000000→∀t∈ts,POT 158 [Term.av t] (lB t)
 | [],_,t,ht=>by cases ht
 | u::ts,hf,t,ht=>by
  simp only [iL]at hf;rcases List.mem_cons.1 ht with e|ht
  ·rw [e];exact aIH u (by omega)
  ·exact aII ts (by omega) t ht
end
def sV (t:Term)(a b d:Int) :Bool:=decide ((dL t:Int) ≤a) &&decide (d+eU t-1≤b)
def GTS (t:Term)(a b d:Int)(r:Bool)(z:Int) :Prop:=Spec PP (.enter 157 [.ptr 0 0,Term.av t,.int .i64 d]) (aO [(0,GC a b,false)] 1) (iO r) (aO [(0,GC z b,false)] 1)
def GT (t:Term)(a b d:Int) :Prop:=∃z,GTS t a b d (sV t a b d) z∧ (sV t a b d=true→z=a-dL t)
def yN (ts:List Term)(c b d:Int) :Bool:=decide ((dS ts:Int) ≤c) &&decide (d+fP ts≤b)
theorem aJO (t:Term)(ts:List Term){c b d:Int}(hdb:d≤b) :yN (t::ts) c b d= (sV t c b (d+1) &&yN ts (c-dL t) b d) :=by
 have hp:=oI t;unfold yN sV;rw [dS,fP,←decide_and,←decide_and,←decide_and,←decide_and];congr 1;apply propext;omega
theorem aIJ (a b:Int)(o n:Int)(s:aE)(ks:List Term)(ps:List Pat)(d:Int)(hd:0≤d)(hd2:d≤1000)(hdb:d≤b)(hl:ks.length<1000000)(ih:∀t∈ks,∀c,0≤c→c≤1000→GT t c b (d+1)) :
  ∀ (ts:List Term) (i:Nat) (c:Int),ks.drop i=ts→0≤c→c≤1000→∃z,Ends PP 1 (aIF a b o n s ks ps d (i:Int) c).as (iO (yN ts c b d)) (aO [(0,GC z b,false)] 1) ∧ (yN ts c b d=true→z=c-dS ts)
 | [],i,c,h,h0,h1=>by
  have:=bD h;have e:yN [] c b d=true:=by simp [yN,dS,fP,h0,hdb]
  rw [e];exact⟨c,aYg a b o n s ks ps d i c sd,fun _=>by simp [dS]⟩
 | .mk o' n' s' ks' ps'::ts,i,c,h,h0,h1=>by
  obtain⟨g1,g2,g3⟩ :=aW h;obtain⟨z,hz,hzz⟩ :=ih _ (mem_of_getElem? g1) c h0 h1;have hp:=oI (.mk o' n' s' ks' ps');rw [aJO _ _ hdb];unfold GTS at hz;cases hb:sV (.mk o' n' s' ks' ps') c b (d+1)with
  | true=>
   have hz1:=hzz hb;rw [hb]at hz;have hle: (dL (.mk o' n' s' ks' ps') :Int) ≤c:=by
    unfold sV at hb;simp only [and_eq_true,decide_eq_true_eq]at hb;exact hb.1
   rw [←hz1,Bool.true_and];obtain⟨z2,hE,hz2⟩ :=aIJ a b o n s ks ps d hd hd2 hdb hl ih ts (i+1) z g2 (by omega) (by omega);refine⟨z2,(aYf a b o n s ks ps d i c o' n' s' ks' ps' z sd sd sd sd (dF (ks:=[0]) hz (by kernel_rfl) (dV true) (by kernel_rfl) (by kernel_rfl) trivial (by kernel_rfl) trivial) sd).ends hE,fun h=>?_⟩;rw [hz2 h,dS];omega
  | false=>
   rw [hb]at hz;rw [Bool.false_and];exact⟨z,aYe a b o n s ks ps d i c o' n' s' ks' ps' z sd sd sd sd (dF (ks:=[0]) hz (by kernel_rfl) (dV false) (by kernel_rfl) (by kernel_rfl) trivial (by kernel_rfl) trivial),fun h=>by cases h⟩
mutual
theorem aIK (b:Int)(hb:0≤b)(hb2:b≤900) :∀ (t:Term) (a d:Int),0≤a→a≤1000→0≤d→d≤b+1→qF t<1000000→GT t a b d
 | .mk o n s ks ps,a,d,h0,h1,h2,h3,hf=>by
  simp only [qF]at hf;have:=tY ks;have e1:dL (.mk o n s ks ps) =dS ks+1:=by rw [dL]
  have e2:eU (.mk o n s ks ps) =fP ks+1:=by rw [eU]
  have E :∃z,Ends PP 1 (aYa a b o n s ks ps d).as (iO (sV (.mk o n s ks ps) a b d)) (aO [(0,GC z b,false)] 1) ∧ (sV (.mk o n s ks ps) a b d=true→z=a-dL (.mk o n s ks ps)) :=by
   by_cases ha:1≤a
   · by_cases hdb:d≤b
     · have r:sV (.mk o n s ks ps) a b d=yN ks (a-1) b d:=by
        unfold sV yN;rw [←decide_and,←decide_and];congr 1;apply propext;omega
       rw [r];obtain⟨z,hE,hz⟩ :=aIJ a b o n s ks ps d h2 (by omega) hdb (by omega) (fun t ht c h0 h1=>aNx b hb hb2 ks (by omega) t ht c (d+1) h0 h1 (by omega) (by omega)) ks 0 (a-1) rfl (by omega) (by omega);exact⟨z,(aYc a b o n s ks ps d sd (by simp;omega) (by simp;omega)).ends hE,fun h=>by rw [hz h];omega⟩
     · have r:sV (.mk o n s ks ps) a b d=false:=by
        unfold sV;rw [←decide_and];exact decide_eq_false (by omega)
       rw [r];exact⟨a-1,aYb a b o n s ks ps d sd (by simp;omega) (by simp;omega),fun h=>by cases h⟩
   · have r:sV (.mk o n s ks ps) a b d=false:=by
      unfold sV;rw [←decide_and];exact decide_eq_false (by omega)
     rw [r];exact⟨a-1,aYd a b o n s ks ps d sd (by simp;omega),fun h=>by cases h⟩
  obtain⟨z,hE,hz⟩ :=E;exact⟨z,⟨(aYa a b o n s ks ps d).as.fr,by kernel_rfl,Eq.mp (by kernel_rfl) hE⟩,hz⟩
theorem aNx (b:Int)(hb:0≤b)(hb2:b≤900) :∀ (ts:List Term),iL ts<1000000→∀t∈ts,∀a d,0≤a→a≤1000→0≤d→d≤b+1→GT t a b d
 | [],_,t,ht=>by cases ht
 | u::ts,hf,t,ht=>by
  simp only [iL]at hf;rcases List.mem_cons.1 ht with e|ht
  ·rw [e];exact fun a d p q r s=>aIK b hb hb2 u a d p q r s (by omega)
  ·exact aNx b hb hb2 ts (by omega) t ht
end
theorem aNy (t:Term)(hf:qF t<1000000) :Pure PP 109 [Term.av t] (.int .i64 (if aAJ t=true then 0 else 2)) :=by
 obtain⟨z,hg,_⟩ :=aIK 14 (by omega) (by omega) t 60 1 (by omega) (by omega) (by omega) (by omega) hf;have hn:=aIH t hf;have e:aAJ t= (sV t 60 14 1&&lB t) :=by
  unfold aAJ sV;congr 1;rw [←decide_and,←decide_and];congr 1;apply propext;omega
 rw [e];unfold GTS at hg;obtain⟨o,n,s,ks,ps⟩ :=t;refine bS (s:=aW4 o n s ks ps) (by kernel_rfl) (by kernel_rfl) (by simp [keylessL,fC]) (by simp [keyless]) ?_;cases hb:sV (.mk o n s ks ps) 60 14 1 with
 | false=>
  rw [hb]at hg;rw [Bool.false_and];exact aRe o n s ks ps z (dF (ks:=[2]) hg (by kernel_rfl) (dV false) (by kernel_rfl) (by kernel_rfl) trivial (by kernel_rfl) trivial)
 | true=>
  rw [hb]at hg;have hg':=dF (ks:=[2]) (n2:=3) (args':=[.ptr 2 0,Term.av (.mk o n s ks ps),.int .i64 1]) (lc:=[(0,.cells (putCells .leaf 0 [.int .i64 o,.int .i64 n,aD s,.ilst 5 (av ks) false,.ilst 4 (Pats.av ps) false]) 5 [] false,false),(1,.cells (putCells .leaf 0 [.bool false]) 1 [] false,false),(2,GC 60 14,false)]) (lc':=[(0,.cells (putCells .leaf 0 [.int .i64 o,.int .i64 n,aD s,.ilst 5 (av ks) false,.ilst 4 (Pats.av ps) false]) 5 [] false,false),(1,.cells (putCells .leaf 0 [.bool false]) 1 [] false,false),(2,GC z 14,false)]) hg (by kernel_rfl) (dV true) (by kernel_rfl) (by kernel_rfl) trivial (by kernel_rfl) trivial;rw [Bool.true_and];cases hF:lB (.mk o n s ks ps)with
  | true=>
   rw [hF]at hn;exact aRg o n s ks ps z hg' hn
  | false=>
   rw [hF]at hn;exact aRf o n s ks ps z hg' hn
def aEx(a b:Int)(c:aE)(d:List Typ)(g e f:Int):TS:=⟨(tf 62 29 [(1,(nI e)),kp 2 0,(4,(nI 0)),(5,(nI f))] [kc f62 244,kl f62 244,.inBlock 0,kc f62 31]),[],[oC 0 [(nI a),(nI b),(aD c),(.ilst 4 (Typs.av d) false)]],1⟩
def cM(b c:Int)(d:aE)(a:List Typ)(e f:Bool)(g:Int):TS:=⟨(tf 115 106 [(1,(bV e)),kp 2 0,(4,(bV false)),(5,(nI (a.length:Int))),(6,(bV f)),(7,(nI g))] [kc f115 500,kl f115 500,.inBlock 1,kc f115 63]),[],[oC 0 [(nI b),(nI c),(aD d),(.ilst 4 (Typs.av a) false)]],1⟩
def aEy(a b:Int)(c:aE)(d:List Typ)(e:Int):TS:=⟨(tf 63 22 [kp 1 0,(2,(bV false)),(3,(nI e))] [kc f63 52,kl f63 52,.inBlock 0,kc f63 7]),[],[oC 0 [(nI a),(nI b),(aD c),(.ilst 4 (Typs.av d) false)]],1⟩
def aW8(b c:Int)(d:aE)(e:List Typ)(a:Int):=tT 0 (start PP 62 [(.agg [(nI b),(nI c),(aD d),(.ilst 4 (Typs.av e) false)]),(nI a)])<|gd 11 7 (a<1) (gE 6 1 (nI (-1)))<|gw 6 9 (a-1)<|.W 9 1 [0] (aEx b c d e a (a-1) 0)
def aRT:=fun a b c d e f=>aW8 a b c d e|>.t f tv
def aRU:=fun a b c d e f g=>aW8 a b c d e|>.f f g tv
def aNz(d e:Int)(f:aE)(a:List Typ)(g b c:Int):=tT 0 (aEx d e f a g b c)<|gm 6 aU a<|gd 2 15 (c< (a.length:Int)) (gd 4 18 (b≥0) (yJ 8 a c<|fun i j k l=>gpI 2 62 [(.agg [(nI i),(nI j),(aD k),(.ilst 4 (Typs.av l) false)]),(nI b)]<|fun m=>gw 6 20 (c+1)<|.W 3 1 [0] (aEx d e f a g m (c+1)))<|gE 8 1 (nI b))<|gE 12 1 (nI b)
def aRV:=fun a b c d e f g i j k l m n o p q r s=>aNz a b c d e f g|>.t n|>.t o i j k l p q m r s tv
def aRW:=fun a b c d e f g i j=>aNz a b c d e f g|>.t i|>.f j tv
def aRX:=fun a b c d e f g i=>aNz a b c d e f g|>.f i tv
def eG(c d:Int)(a:aE)(b:List Typ)(e:Bool):=tT 0 (start PP 115 [(.agg [(nI c),(nI d),(aD a),(.ilst 4 (Typs.av b) false)]),(bV e)])<|gm 9 aU b<|.b 19 13 (c==1) (.b 7 19 ((b.length:Int) ==0) (.b 5 24 (d==0) (.W 14 1 [0] (cM c d a b e (aP a.length (aA a) 0 0) 0))<|.W 14 1 [0] (cM c d a b e false 0))<|.W 19 1 [0] (cM c d a b e false 0))<|.b 6 13 (c==2) (.b 7 19 ((b.length:Int) ==0) (.b 5 24 (d==0) (.W 14 1 [0] (cM c d a b e (aP a.length (aA a) 0 0) 0))<|.W 14 1 [0] (cM c d a b e false 0))<|.W 19 1 [0] (cM c d a b e false 0))<|.b 5 13 (c==3) (.b 5 19 ((b.length:Int) ==0) (.b 5 24 (d==0) (.W 14 1 [0] (cM c d a b e (aP a.length (aA a) 0 0) 0))<|.W 14 1 [0] (cM c d a b e false 0))<|.W 19 1 [0] (cM c d a b e false 0))<|.b 6 29 (c==4) (.b 5 33 ((b.length:Int) ==2) (.b 5 38 (d==0) (.W 14 1 [0] (cM c d a b e (aP a.length (aA a) 0 0) 0))<|.W 14 1 [0] (cM c d a b e false 0))<|.W 19 1 [0] (cM c d a b e false 0))<|.b 7 43 (c==5) (.b 7 49 ((b.length:Int) ==1) (.b 5 54 (d==0) (.W 14 1 [0] (cM c d a b e (aP a.length (aA a) 0 0) 0))<|.W 14 1 [0] (cM c d a b e false 0))<|.W 19 1 [0] (cM c d a b e false 0))<|.b 6 43 (c==6) (.b 7 49 ((b.length:Int) ==1) (.b 5 54 (d==0) (.W 14 1 [0] (cM c d a b e (aP a.length (aA a) 0 0) 0))<|.W 14 1 [0] (cM c d a b e false 0))<|.W 19 1 [0] (cM c d a b e false 0))<|.b 5 43 (c==7) (.b 5 49 ((b.length:Int) ==1) (.b 5 54 (d==0) (.W 14 1 [0] (cM c d a b e (aP a.length (aA a) 0 0) 0))<|.W 14 1 [0] (cM c d a b e false 0))<|.W 19 1 [0] (cM c d a b e false 0))<|.b 6 59 (c==8) (.b 5 63 ((b.length:Int) ==0) (.b 5 68 (d==0) (cZ 2 114 [(aD a)]<|fun f=>.W 11 1 [0] (cM c d a b e f 0))<|.W 14 1 [0] (cM c d a b e false 0))<|.W 19 1 [0] (cM c d a b e false 0))<|.b 6 73 (c==9) (.b 4 76 e (.b 4 80 ((b.length:Int) ==0) (.b 5 85 (aP a.length (aA a) 0 0) (cZ 2 73 [(nI d),(nI 0),(nI 99)]<|fun f=>.W 11 1 [0] (cM c d a b e f 0))<|.W 14 1 [0] (cM c d a b e false 0))<|.W 19 1 [0] (cM c d a b e false 0))<|.W 23 1 [0] (cM c d a b e false 0))<|.W 10 1 [0] (cM c d a b e false 0)
def aRY:=fun a b c d e f g i=>eG a b c d e|>.t f|>.t g|>.t i tv
def aRZ:=fun a b c d e f g i=>eG a b c d e|>.t f|>.t g|>.f i tv
def aR0:=fun a b c d e f g=>eG a b c d e|>.t f|>.f g tv
def aR1:=fun a b c d e f g i j=>eG a b c d e|>.f f|>.t g|>.t i|>.t j tv
def aR2:=fun a b c d e f g i j=>eG a b c d e|>.f f|>.t g|>.t i|>.f j tv
def aR3:=fun a b c d e f g i=>eG a b c d e|>.f f|>.t g|>.f i tv
def aR4:=fun a b c d e f g i j k=>eG a b c d e|>.f f|>.f g|>.t i|>.t j|>.t k tv
def aR5:=fun a b c d e f g i j k=>eG a b c d e|>.f f|>.f g|>.t i|>.t j|>.f k tv
def aR6:=fun a b c d e f g i j=>eG a b c d e|>.f f|>.f g|>.t i|>.f j tv
def aR7:=fun a b c d e f g i j k l=>eG a b c d e|>.f f|>.f g|>.f i|>.t j|>.t k|>.t l tv
def aNA:=fun a b c d e f g i j k l=>eG a b c d e|>.f f|>.f g|>.f i|>.t j|>.t k|>.f l tv
def aNB:=fun a b c d e f g i j k=>eG a b c d e|>.f f|>.f g|>.f i|>.t j|>.f k tv
def aNC:=fun a b c d e f g i j k l m=>eG a b c d e|>.f f|>.f g|>.f i|>.f j|>.t k|>.t l|>.t m tv
def aND:=fun a b c d e f g i j k l m=>eG a b c d e|>.f f|>.f g|>.f i|>.f j|>.t k|>.t l|>.f m tv
def aNE:=fun a b c d e f g i j k l=>eG a b c d e|>.f f|>.f g|>.f i|>.f j|>.t k|>.f l tv
def aNF:=fun a b c d e f g i j k l m n=>eG a b c d e|>.f f|>.f g|>.f i|>.f j|>.f k|>.t l|>.t m|>.t n tv
def aNG:=fun a b c d e f g i j k l m n=>eG a b c d e|>.f f|>.f g|>.f i|>.f j|>.f k|>.t l|>.t m|>.f n tv
def aNH:=fun a b c d e f g i j k l m=>eG a b c d e|>.f f|>.f g|>.f i|>.f j|>.f k|>.t l|>.f m tv
def aNI:=fun a b c d e f g i j k l m n o=>eG a b c d e|>.f f|>.f g|>.f i|>.f j|>.f k|>.f l|>.t m|>.t n|>.t o tv
def aNJ:=fun a b c d e f g i j k l m n o=>eG a b c d e|>.f f|>.f g|>.f i|>.f j|>.f k|>.f l|>.t m|>.t n|>.f o tv
def aNK:=fun a b c d e f g i j k l m n=>eG a b c d e|>.f f|>.f g|>.f i|>.f j|>.f k|>.f l|>.t m|>.f n tv
def aNL:=fun a b c d e f g i j k l m n o p q r=>eG a b c d e|>.f g|>.f i|>.f j|>.f k|>.f l|>.f m|>.f n|>.t o|>.t p|>.t q f r tv
def aNM:=fun a b c d e f g i j k l m n o p=>eG a b c d e|>.f f|>.f g|>.f i|>.f j|>.f k|>.f l|>.f m|>.t n|>.t o|>.f p tv
def aNN:=fun a b c d e f g i j k l m n o=>eG a b c d e|>.f f|>.f g|>.f i|>.f j|>.f k|>.f l|>.f m|>.t n|>.f o tv
def aNO:=fun a b c d e f g i j k l m n o p q r s t=>eG a b c d e|>.f g|>.f i|>.f j|>.f k|>.f l|>.f m|>.f n|>.f o|>.t p|>.t q|>.t r|>.t s f t tv
def aNP:=fun a b c d e f g i j k l m n o p q r=>eG a b c d e|>.f f|>.f g|>.f i|>.f j|>.f k|>.f l|>.f m|>.f n|>.t o|>.t p|>.t q|>.f r tv
def aNQ:=fun a b c d e f g i j k l m n o p q=>eG a b c d e|>.f f|>.f g|>.f i|>.f j|>.f k|>.f l|>.f m|>.f n|>.t o|>.t p|>.f q tv
def aNR:=fun a b c d e f g i j k l m n o p=>eG a b c d e|>.f f|>.f g|>.f i|>.f j|>.f k|>.f l|>.f m|>.f n|>.t o|>.f p tv
def aNS:=fun a b c d e f g i j k l m n o=>eG a b c d e|>.f f|>.f g|>.f i|>.f j|>.f k|>.f l|>.f m|>.f n|>.f o tv
def aNT(e f:Int)(g:aE)(b:List Typ)(d c:Bool)(a:Int):=tT 0 (cM e f g b d c a)<|gd 7 93 (a< (b.length:Int)) (.b 3 95 c (yJ 8 b a<|fun i j k l=>cZ 2 115 [(.agg [(nI i),(nI j),(aD k),(.ilst 4 (Typs.av l) false)]),(bV d)]<|fun m=>gw 6 97 (a+1)<|.W 3 1 [0] (cM e f g b d m (a+1)))<|gE 8 1 (bV c))<|gE 11 1 (bV c)
def aR8:=fun a b c d e f g i j k l m n o p q r s=>aNT a b c d e f g|>.t n|>.t o i j k l p q m r s tv
def aR9:=fun a b c d e f g i j=>aNT a b c d e f g|>.t i|>.f j tv
def aSa:=fun a b c d e f g i=>aNT a b c d e f g|>.f i tv
def aW9(a b:Int)(c:aE)(d:List Typ):=tT 0 (start PP 75 [(.agg [(nI a),(nI b),(aD c),(.ilst 4 (Typs.av d) false)])])<|gpI 8 62 [(.agg [(nI a),(nI b),(aD c),(.ilst 4 (Typs.av d) false)]),(nI 12)]<|fun e=>gd 2 6 (e≥0) (cZ 1 115 [(.agg [(nI a),(nI b),(aD c),(.ilst 4 (Typs.av d) false)]),(bV false)]<|fun f=>gE 4 1 (bV f))<|gE 6 1 (bV false)
def aSb:=fun a b c d e f g i j=>aW9 a b c d e g|>.t i f j tv
def aSc:=fun a b c d e f g=>aW9 a b c d e f|>.f g tv
def aSd (a b:Int)(c:aE)(d:List Typ):=(tT 0 (start PP 63 [(.agg [(nI a),(nI b),(aD c),(.ilst 4 (Typs.av d) false)])])<|.W 12 1 [0] (aEy a b c d 0)) tv
def aNU(d e:Int)(c:aE)(a:List Typ)(b:Int):=tT 0 (aEy d e c a b)<|gm 6 aU a<|gd 2 8 (b< (a.length:Int)) (yJ 9 a b<|fun f g i j=>cZ 1 63 [(.agg [(nI f),(nI g),(aD i),(.ilst 4 (Typs.av j) false)])]<|fun k=>.b 2 17 (!k) (gE 6 1 (bV false))<|gw 6 10 (b+1)<|.W 3 1 [0] (aEy d e c a (b+1)))<|gE 11 1 (bV (decide ((c.length:Int) ≤30)))
def aSe:=fun a b c d e f g i j k l m n o p=>aNU a b c d e|>.t l f g i j m n k o|>.t p tv
def aSf:=fun a b c d e f g i j k l m n o p q=>aNU a b c d e|>.t l f g i j m n k o|>.f p q tv
def aSg:=fun a b c d e f=>aNU a b c d e|>.f f tv
def aXa(a b:Int)(c:aE)(d:List Typ):=tT 0 (start PP 19 [(.agg [(nI a),(nI b),(aD c),(.ilst 4 (Typs.av d) false)])])<|gpI 8 62 [(.agg [(nI a),(nI b),(aD c),(.ilst 4 (Typs.av d) false)]),(nI 16)]<|fun e=>gd 2 6 (e≥0) (cZ 1 63 [(.agg [(nI a),(nI b),(aD c),(.ilst 4 (Typs.av d) false)])]<|fun f=>gE 4 1 (bV f))<|gE 6 1 (bV false)
def aSh:=fun a b c d e f g i j=>aXa a b c d e g|>.t i f j tv
def aSi:=fun a b c d e f g=>aXa a b c d e f|>.f g tv
def aYh(a b c d:Int)(e:aE)(f:List Typ):TS:=cK PP 182 [(.ptr 0 0),(.agg [(nI c),(nI d),(aD e),(.ilst 4 (Typs.av f) false)])] [oC 0 [(nI a),(nI b)]] 1
def aIL(e b f g:Int)(i:aE)(a:List Typ)(c d:Int):TS:=⟨(tf 182 19 [kp 0 0,(9,(.ilst 4 (Typs.av a) false)),(10,(nI (a.length:Int))),(11,(nI c))] [kc f182 60,kl f182 60,.inBlock 0]),[],[oC 0 [(nI d),(nI b)]],1⟩
def aNV(a b:Int)(c:aE)(d:List Typ)(e:Bool):TS:=cK PP 183 [(.agg [(nI a),(nI b),(aD c),(.ilst 4 (Typs.av d) false)]),(bV e)] [] 0
def kW(a b:Int)(c:aE)(d:List Typ)(e:Bool)(f:Int):TS:=⟨(tf 183 77 [(1,(bV e)),kp 2 0,(4,(nI f))] [kc f183 15]),[],[oC 0 [(nI a),(nI b),(aD c),(.ilst 4 (Typs.av d) false)]],1⟩
def sW(d e:Int)(f:aE)(a:List Typ)(b:Bool)(c:Int):TS:=⟨(tf 183 77 [(1,(bV b)),(67,(.ilst 4 (Typs.av a) false)),(68,(nI (a.length:Int))),(69,(nI c))] [kc f183 252,kl f183 252,.inBlock 1]),[],[],0⟩
def aXb(a b:Int)(c:aE)(d:List Typ):TS:=cK PP 108 [(.agg [(nI a),(nI b),(aD c),(.ilst 4 (Typs.av d) false)])] [] 0
def aXc(a b d e:Int)(f:aE)(c:List Typ):=tT 1 (aYh a b d e f c)<|gw 15 8 (a-1)<|gd 11 16 ((a-1) ≥0) (.b 13 3 (!(decide (0≤b))) .x<|gm 12 aU c<|.W 4 2 [] (aIL a b d e f c 0 (a-1)))<|.P 20 2 [] [((.iface 270 (.agg [])),false)] [oC 0 [(nI (a-1)),(nI b)]] 1
def aYi:=fun a b c d e f g i j=>aXc a b c d e f g|>.t i|>.f j tv
def aYj:=fun a b c d e f g i=>aXc a b c d e f g|>.f i tv
def aNW(k a l m:Int)(n:aE)(i:List Typ)(f j:Int):=tT 1 (aIL k a l m n i f j)<|gd 5 12 (f< (i.length:Int)) (yJ 6 i f<|fun b c d e=>.o (.y fun g:Int=>gK 7 (.enter 182 [(.ptr 0 0),(.agg [(nI b),(nI c),(aD d),(.ilst 4 (Typs.av e) false)])]) [oC 0 [(nI j),(nI a)],oC 1 [(nI b),(nI c),(aD d),(.ilst 4 (Typs.av e) false)]] 2 [((.iface 270 (.agg [])),false)] [oC 0 [(nI g),(nI a)],oC 1 [(nI b),(nI c),(aD d),(.ilst 4 (Typs.av e) false)]] 2<|.P 0 2 [] [((.iface 270 (.agg [])),false)] [oC 0 [(nI g),(nI a)]] 1)<|.y fun g:Int=>gk 7 (.enter 182 [(.ptr 0 0),(.agg [(nI b),(nI c),(aD d),(.ilst 4 (Typs.av e) false)])]) [oC 0 [(nI j),(nI a)],oC 1 [(nI b),(nI c),(aD d),(.ilst 4 (Typs.av e) false)]] 2 (.tup []) [oC 0 [(nI g),(nI a)],oC 1 [(nI b),(nI c),(aD d),(.ilst 4 (Typs.av e) false)]] 2<|gw 4 18 (f+1)<|.W 3 2 [] (aIL k a l m n i (f+1) g))<|.E 3 1 [] (.tup []) [oC 0 [(nI j),(nI a)]] 1
def aYk:=fun a b c d e f g i j k l m n o p q r=>aNW a b c d e f g i|>.t o j k l m p q|>.1 n r tv
def aYl:=fun a b c d e f g i j k l m n o p q r s=>aNW a b c d e f g i|>.t o j k l m p q|>.2 n r s tv
def aYm:=fun a b c d e f g i j=>aNW a b c d e f g i|>.f j tv
def nB(a b:Int)(c:aE)(e:List Typ)(d:Bool):=tT 0 (aNV a b c e d)<|.b 21 10 (a==1) (.W 5 1 [0] (kW a b c e d 0))<|.b 6 10 (a==2) (.W 5 1 [0] (kW a b c e d 0))<|.b 5 10 (a==3) (.W 3 1 [0] (kW a b c e d 0))<|.b 6 14 (a==4) (.W 5 1 [0] (kW a b c e d 2))<|.b 7 16 (a==5) (.W 7 1 [0] (kW a b c e d 1))<|.b 6 16 (a==6) (.W 7 1 [0] (kW a b c e d 1))<|.b 5 16 (a==7) (.W 5 1 [0] (kW a b c e d 1))<|.b 6 20 (a==8) (cZ 4 104 [(aD c)]<|fun f=>.b 6 3 (!f) (gQ 6 1 [((.iface 270 (.agg [])),false)])<|.W 6 1 [0] (kW a b c e d 0))<|.b 6 26 (a==9) (.b 4 29 d (gd 5 34 (b≥0) (.b 10 3 (!(decide (b≤99))) (gQ 6 1 [((.iface 270 (.agg [])),false)])<|.W 6 1 [0] (kW a b c e d 0))<|gQ 16 1 [((.iface 270 (.agg [])),false)])<|gQ 21 1 [((.iface 270 (.agg [])),false)])<|gQ 14 1 [((.iface 270 (.agg [])),false)]
def aSj:=fun a b c d e f=>nB a b c d e|>.t f tv
def aSk:=fun a b c d e f g=>nB a b c d e|>.f f|>.t g tv
def aSl:=fun a b c d e f g i=>nB a b c d e|>.f f|>.f g|>.t i tv
def aSm:=fun a b c d e f g i j=>nB a b c d e|>.f f|>.f g|>.f i|>.t j tv
def aSn:=fun a b c d e f g i j k=>nB a b c d e|>.f f|>.f g|>.f i|>.f j|>.t k tv
def aSo:=fun a b c d e f g i j k l=>nB a b c d e|>.f f|>.f g|>.f i|>.f j|>.f k|>.t l tv
def aSp:=fun a b c d e f g i j k l m=>nB a b c d e|>.f f|>.f g|>.f i|>.f j|>.f k|>.f l|>.t m tv
def aSq:=fun a b c d e f g i j k l m n o p q=>nB a b c d e|>.f g|>.f i|>.f j|>.f k|>.f l|>.f m|>.f n|>.t o f p|>.t q tv
def aSr:=fun a b c d e f g i j k l m n o p q=>nB a b c d e|>.f g|>.f i|>.f j|>.f k|>.f l|>.f m|>.f n|>.t o f p|>.f q tv
def aSs:=fun a b c d e f g i j k l m n o p q r=>nB a b c d e|>.f f|>.f g|>.f i|>.f j|>.f k|>.f l|>.f m|>.f n|>.t o|>.t p|>.t q|>.t r tv
def aNX:=fun a b c d e f g i j k l m n o p q r=>nB a b c d e|>.f f|>.f g|>.f i|>.f j|>.f k|>.f l|>.f m|>.f n|>.t o|>.t p|>.t q|>.f r tv
def aNY:=fun a b c d e f g i j k l m n o p q=>nB a b c d e|>.f f|>.f g|>.f i|>.f j|>.f k|>.f l|>.f m|>.f n|>.t o|>.t p|>.f q tv
def aNZ:=fun a b c d e f g i j k l m n o p=>nB a b c d e|>.f f|>.f g|>.f i|>.f j|>.f k|>.f l|>.f m|>.f n|>.t o|>.f p tv
def aN0:=fun a b c d e f g i j k l m n o=>nB a b c d e|>.f f|>.f g|>.f i|>.f j|>.f k|>.f l|>.f m|>.f n|>.f o tv
def aAM(c d:Int)(b:aE)(a:List Typ)(e:Bool)(f:Int):=tT 0 (kW c d b a e f)<|gm 4 aU a<|.b 3 45 ((a.length:Int) ==f) (.b 4 49 (c==9) (.b 10 59 (c==8) (gm 20 aU a<|.W 4 1 [] (sW c d b a e 0))<|.b 11 3 (!(aP b.length (aA b) 0 0)) (gQ 6 1 [((.iface 270 (.agg [])),false)])<|gm 9 aU a<|.W 4 1 [] (sW c d b a e 0))<|.b 6 55 (d==0) (.b 4 59 (c==8) (gm 20 aU a<|.W 4 1 [] (sW c d b a e 0))<|.b 11 3 (!(aP b.length (aA b) 0 0)) (gQ 6 1 [((.iface 270 (.agg [])),false)])<|gm 9 aU a<|.W 4 1 [] (sW c d b a e 0))<|gQ 21 1 [((.iface 270 (.agg [])),false)])<|gQ 31 1 [((.iface 270 (.agg [])),false)]
def aSt:=fun a b c d e f g i j=>aAM a b c d e f|>.t g|>.t i|>.t j tv
def aSu:=fun a b c d e f g i j k=>aAM a b c d e f|>.t g|>.t i|>.f j|>.t k tv
def aSv:=fun a b c d e f g i j k=>aAM a b c d e f|>.t g|>.t i|>.f j|>.f k tv
def aSw:=fun a b c d e f g i j k=>aAM a b c d e f|>.t g|>.f i|>.t j|>.t k tv
def aSx:=fun a b c d e f g i j k l=>aAM a b c d e f|>.t g|>.f i|>.t j|>.f k|>.t l tv
def aSy:=fun a b c d e f g i j k l=>aAM a b c d e f|>.t g|>.f i|>.t j|>.f k|>.f l tv
def aSz:=fun a b c d e f g i j=>aAM a b c d e f|>.t g|>.f i|>.f j tv
def aSA:=fun a b c d e f g=>aAM a b c d e f|>.f g tv
def aN1(d e:Int)(f:aE)(b:List Typ)(c:Bool)(a:Int):=tT 0 (sW d e f b c a)<|gd 5 70 (a< (b.length:Int)) (yJ 6 b a<|fun g i j k=>.o (.i [rn 7,.throws [((.iface 270 (.agg [])),false)]] [hA (sJ PP 183 [(.agg [(nI g),(nI i),(aD j),(.ilst 4 (Typs.av k) false)]),(bV c)] [((.iface 270 (.agg [])),false)])]<|gQ 0 1 [((.iface 270 (.agg [])),false)])<|gp 7 183 [(.agg [(nI g),(nI i),(aD j),(.ilst 4 (Typs.av k) false)]),(bV c)] (.tup [])<|gw 4 76 (a+1)<|.W 3 1 [] (sW d e f b c (a+1)))<|gE 3 0 (.tup [])
def aSB:=fun a b c d e f g i j k l m n o=>aN1 a b c d e f|>.t l g i j k m n|>.1 o tv
def aSC:=fun a b c d e f g i j k l m n o p=>aN1 a b c d e f|>.t l g i j k m n|>.2 o p tv
def aSD:=fun a b c d e f g=>aN1 a b c d e f|>.f g tv
def aN2(a b:Int)(c:aE)(d:List Typ):=tT 0 (aXb a b c d)<|.o (.y fun e:Int=>gK 46 (.enter 182 [(.ptr 4 0),(.agg [(nI a),(nI b),(aD c),(.ilst 4 (Typs.av d) false)])]) [oC 0 [(nI a),(nI b),(aD c),(.ilst 4 (Typs.av d) false)],oC 1 [(nI a),(nI b),(aD c),(.ilst 4 (Typs.av d) false)],oC 2 [(bV false)],oC 3 [(bV false)],oC 4 [(nI 12),(nI 0)]] 5 [((.iface 270 (.agg [])),false)] [oC 0 [(nI a),(nI b),(aD c),(.ilst 4 (Typs.av d) false)],oC 1 [(nI a),(nI b),(aD c),(.ilst 4 (Typs.av d) false)],oC 2 [(bV false)],oC 3 [(bV false)],oC 4 [(nI e),(nI 0)]] 5<|gE 55 6 (bV false))<|.y fun e:Int=>gk 46 (.enter 182 [(.ptr 4 0),(.agg [(nI a),(nI b),(aD c),(.ilst 4 (Typs.av d) false)])]) [oC 0 [(nI a),(nI b),(aD c),(.ilst 4 (Typs.av d) false)],oC 1 [(nI a),(nI b),(aD c),(.ilst 4 (Typs.av d) false)],oC 2 [(bV false)],oC 3 [(bV false)],oC 4 [(nI 12),(nI 0)]] 5 (.tup []) [oC 0 [(nI a),(nI b),(aD c),(.ilst 4 (Typs.av d) false)],oC 1 [(nI a),(nI b),(aD c),(.ilst 4 (Typs.av d) false)],oC 2 [(bV false)],oC 3 [(bV false)],oC 4 [(nI e),(nI 0)]] 5<|.o (.i [rn 4,.throws [((.iface 270 (.agg [])),false)]] [hA (sJ PP 183 [(.agg [(nI a),(nI b),(aD c),(.ilst 4 (Typs.av d) false)]),(bV false)] [((.iface 270 (.agg [])),false)])]<|gE 55 6 (bV false))<|gp 4 183 [(.agg [(nI a),(nI b),(aD c),(.ilst 4 (Typs.av d) false)]),(bV false)] (.tup [])<|gE 43 5 (bV true)
def aSE:=fun a b c d e f=>aN2 a b c d|>.1 e f tv
def aSF:=fun a b c d e f g=>aN2 a b c d|>.2 e f|>.1 g tv
def aSG:=fun a b c d e f g=>aN2 a b c d|>.2 e f|>.2 g tv
def cP (so n:Int)(s:aE)(k:Int)(ho:Bool) :Bool:=
 if so=1∨so=2∨so=3 then decide (k=0) &&decide (n=0) &&decide (s= [])
 else if so=4 then decide (k=2) &&decide (n=0) &&decide (s= [])
 else if so=5∨so=6∨so=7 then decide (k=1) &&decide (n=0) &&decide (s= [])
 else if so=8 then decide (k=0) &&decide (n=0) &&cB s
 else if so=9 then ho&&decide (k=0) &&decide (s= []) &&cC n 0 99
 else false
mutual
def yO (ho:Bool) :Typ→Bool
 | .mk o n s ps=>cP o n s (length ps) ho&&aB5 ho ps
def aB5 (ho:Bool) :List Typ→Bool
 | [] =>true
 |t::ts=>yO ho t&&aB5 ho ts
end
mutual
def bI :Typ→Nat
 | .mk _ _ _ ps=>bP ps+1
def bP :List Typ→Nat
 | [] =>0
 |t::ts=>bI t+bP ts
end
theorem fX :∀ts:List Typ,ts.length≤bP ts
 | [] =>by simp
 | .mk o n s ps::ts=>by have:=fX ts;simp only [bP,bI,List.length_cons];omega
theorem aDt :∀t:Typ,1≤bI t
 | .mk _ _ _ ps=>by simp only [bI];omega
def jG (t:Typ)(left:Int) :Int:=if(bI t:Int) ≤left then left-bI t else -1
def kB (ts:List Typ)(left:Int) :Int:=if left<0 then left else if(bP ts:Int) ≤left then left-bP ts else -1
theorem aEz (t:Typ)(ts:List Typ){left:Int}(h0:0≤left) :kB (t::ts) left=kB ts (jG t left) :=by
 have hp:=aDt t;unfold kB jG;rw [bP];by_cases h1: (bI t:Int) ≤left
 · rw [if_pos h1,if_neg (show ¬left<0 by omega),if_neg (show ¬left- (bI t:Int) <0 by omega)];by_cases h2: (bP ts:Int) ≤left-bI t
   · rw [if_pos h2,if_pos (by omega)];omega
   ·rw [if_neg h2,if_neg (by omega)]
 ·rw [if_neg h1,if_pos (show(-1:Int) <0 by omega),if_neg (show ¬left<0 by omega),if_neg (by omega)]
theorem aGj (o n:Int)(s:aE)(ps:List Typ)(l0:Int)(ih:∀t∈ps,∀left:Int,0≤left→left≤1000→Pure PP 62 [Typ.av t,.int .i64 left] (.int .i64 (jG t left))) :
  ∀ (ts:List Typ) (i:Nat) (left:Int),ps.drop i=ts→ -1≤left→ (i:Int) +left≤1000→Ends PP 0 (aEx o n s ps l0 left (i:Int)).as (.ret (.int .i64 (kB ts left))) (aO [] 0)
 | [],i,left,h,h1,h2=>by
  have:=bD h;have e:kB [] left=left:=by
   unfold kB;by_cases hn:left<0
   ·rw [if_pos hn]
   · rw [if_neg hn,if_pos (by simp only [bP];omega)];simp only [bP];omega
  rw [e];exact aRX o n s ps l0 left i sd
 | .mk o' n' s' ps'::ts,i,left,h,h1,h2=>by
  obtain⟨g1,g2,g3⟩ :=aW h;by_cases h0:0≤left
  · have hp:=aDt (.mk o' n' s' ps');rw [aEz _ _ h0];refine(aRV o n s ps l0 left i o' n' s' ps' (jG (.mk o' n' s' ps') left) sd (by simp;omega) sd sd (ih _ (mem_of_getElem? g1) left h0 (by omega)) sd).ends ?_;exact aGj o n s ps l0 ih ts (i+1) _ g2 (by unfold jG;split<;>omega) (by unfold jG;split<;>omega)
  · have e:∀us,kB us left=left:=fun us=>by unfold kB;rw [if_pos (by omega)]
    rw [e];exact aRW o n s ps l0 left i sd (by simp;omega)
mutual
theorem aB6 :∀ (t:Typ) (left:Int),-1≤left→left≤1000→Pure PP 62 [Typ.av t,.int .i64 left] (.int .i64 (jG t left))
 | .mk o n s ps,left,h1,h2=>by
  have e1:bI (.mk o n s ps) =bP ps+1:=by rw [bI]
  refine bC (by kernel_rfl) (by simp [keylessL,kU,keyless]) rfl ?_;by_cases ha:left<1
  · have e:jG (.mk o n s ps) left= -1:=by unfold jG;rw [if_neg (by omega)]
    rw [e];exact aRT o n s ps left (by simp [ha])
  · have e:jG (.mk o n s ps) left=kB ps (left-1) :=by
     unfold jG kB;rw [if_neg (show ¬left-1<0 by omega)];by_cases hc: (bP ps:Int) ≤left-1
     ·rw [if_pos hc,if_pos (by omega)];omega
     ·rw [if_neg hc,if_neg (by omega)]
    rw [e];refine(aRU o n s ps left (by simp;omega) sd).ends ?_;exact aGj o n s ps left (fun t ht l a b=>aIM ps t ht l (by omega) b) ps 0 (left-1) rfl (by omega) (by omega)
theorem aIM :∀ (ts:List Typ),∀t∈ts,∀left:Int,-1≤left→left≤1000→Pure PP 62 [Typ.av t,.int .i64 left] (.int .i64 (jG t left))
 | [],t,ht=>by cases ht
 | u::ts,t,ht=>by
  rcases List.mem_cons.1 ht with e|ht
  ·rw [e];exact fun left a b=>aB6 u left a b
  ·exact aIM ts t ht
end
theorem aY5 (t_sort t_n:Int)(t_text:aE)(t_parts:List Typ)(ho:Bool)(hl:t_parts.length<1000000)(b:Bool)(hk:∀i:Bool,i=cP t_sort t_n t_text (length t_parts) ho→Ends PP 0 (cM t_sort t_n t_text t_parts ho i 0).as (.ret (.bool b)) (aO [] 0)) :
  Ends PP 0 (start PP 115 [Typ.av (.mk t_sort t_n t_text t_parts),.bool ho]).as (.ret (.bool b)) (aO [] 0) :=by
 cases hb1: (t_sort== (1:Int))with
 | true=>
  cases hb2: (((length t_parts:Nat) :Int) == (0:Int))with
  | true=>
   cases hb3: (t_n== (0:Int))with
   | true=>
    exact LeadsM.ends (aRY t_sort t_n t_text t_parts ho   hb1 hb2 hb3) (hk _ (by clear hk;simp_all [cP,aB,aC]))
   | false=>
    exact LeadsM.ends (aRZ t_sort t_n t_text t_parts ho   hb1 hb2 hb3) (hk _ (by clear hk;simp_all [cP,aB,aC]))
  | false=>
   exact LeadsM.ends (aR0 t_sort t_n t_text t_parts ho   hb1 hb2) (hk _ (by clear hk;simp_all [cP,aB,aC]))
 | false =>
  cases hb4: (t_sort== (2:Int))with
  | true=>
   cases hb5: (((length t_parts:Nat) :Int) == (0:Int))with
   | true=>
    cases hb6: (t_n== (0:Int))with
    | true=>
     exact LeadsM.ends (aR1 t_sort t_n t_text t_parts ho   hb1 hb4 hb5 hb6) (hk _ (by clear hk;simp_all [cP,aB,aC]))
    | false=>
     exact LeadsM.ends (aR2 t_sort t_n t_text t_parts ho   hb1 hb4 hb5 hb6) (hk _ (by clear hk;simp_all [cP,aB,aC]))
   | false=>
    exact LeadsM.ends (aR3 t_sort t_n t_text t_parts ho   hb1 hb4 hb5) (hk _ (by clear hk;simp_all [cP,aB,aC]))
  | false =>
   cases hb7: (t_sort== (3:Int))with
   | true=>
    cases hb8: (((length t_parts:Nat) :Int) == (0:Int))with
    | true=>
     cases hb9: (t_n== (0:Int))with
     | true=>
      exact LeadsM.ends (aR4 t_sort t_n t_text t_parts ho   hb1 hb4 hb7 hb8 hb9) (hk _ (by clear hk;simp_all [cP,aB,aC]))
     | false=>
      exact LeadsM.ends (aR5 t_sort t_n t_text t_parts ho   hb1 hb4 hb7 hb8 hb9) (hk _ (by clear hk;simp_all [cP,aB,aC]))
    | false=>
     exact LeadsM.ends (aR6 t_sort t_n t_text t_parts ho   hb1 hb4 hb7 hb8) (hk _ (by clear hk;simp_all [cP,aB,aC]))
   | false =>
    cases hb10: (t_sort== (4:Int))with
    | true=>
     cases hb11: (((length t_parts:Nat) :Int) == (2:Int))with
     | true=>
      cases hb12: (t_n== (0:Int))with
      | true=>
       exact LeadsM.ends (aR7 t_sort t_n t_text t_parts ho   hb1 hb4 hb7 hb10 hb11 hb12) (hk _ (by clear hk;simp_all [cP,aB,aC]))
      | false=>
       exact LeadsM.ends (aNA t_sort t_n t_text t_parts ho   hb1 hb4 hb7 hb10 hb11 hb12) (hk _ (by clear hk;simp_all [cP,aB,aC]))
     | false=>
      exact LeadsM.ends (aNB t_sort t_n t_text t_parts ho   hb1 hb4 hb7 hb10 hb11) (hk _ (by clear hk;simp_all [cP,aB,aC]))
    | false =>
     cases hb13: (t_sort== (5:Int))with
     | true=>
      cases hb14: (((length t_parts:Nat) :Int) == (1:Int))with
      | true=>
       cases hb15: (t_n== (0:Int))with
       | true=>
        exact LeadsM.ends (aNC t_sort t_n t_text t_parts ho   hb1 hb4 hb7 hb10 hb13 hb14 hb15) (hk _ (by clear hk;simp_all [cP,aB,aC]))
       | false=>
        exact LeadsM.ends (aND t_sort t_n t_text t_parts ho   hb1 hb4 hb7 hb10 hb13 hb14 hb15) (hk _ (by clear hk;simp_all [cP,aB,aC]))
      | false=>
       exact LeadsM.ends (aNE t_sort t_n t_text t_parts ho   hb1 hb4 hb7 hb10 hb13 hb14) (hk _ (by clear hk;simp_all [cP,aB,aC]))
     | false =>
      cases hb16: (t_sort== (6:Int))with
      | true=>
       cases hb17: (((length t_parts:Nat) :Int) == (1:Int))with
       | true=>
        cases hb18: (t_n== (0:Int))with
        | true=>
         exact LeadsM.ends (aNF t_sort t_n t_text t_parts ho   hb1 hb4 hb7 hb10 hb13 hb16 hb17 hb18) (hk _ (by clear hk;simp_all [cP,aB,aC]))
        | false=>
         exact LeadsM.ends (aNG t_sort t_n t_text t_parts ho   hb1 hb4 hb7 hb10 hb13 hb16 hb17 hb18) (hk _ (by clear hk;simp_all [cP,aB,aC]))
       | false=>
        exact LeadsM.ends (aNH t_sort t_n t_text t_parts ho   hb1 hb4 hb7 hb10 hb13 hb16 hb17) (hk _ (by clear hk;simp_all [cP,aB,aC]))
      | false =>
       cases hb19: (t_sort== (7:Int))with
       | true=>
        cases hb20: (((length t_parts:Nat) :Int) == (1:Int))with
        | true=>
         cases hb21: (t_n== (0:Int))with
         | true=>
          exact LeadsM.ends (aNI t_sort t_n t_text t_parts ho   hb1 hb4 hb7 hb10 hb13 hb16 hb19 hb20 hb21) (hk _ (by clear hk;simp_all [cP,aB,aC]))
         | false=>
          exact LeadsM.ends (aNJ t_sort t_n t_text t_parts ho   hb1 hb4 hb7 hb10 hb13 hb16 hb19 hb20 hb21) (hk _ (by clear hk;simp_all [cP,aB,aC]))
        | false=>
         exact LeadsM.ends (aNK t_sort t_n t_text t_parts ho   hb1 hb4 hb7 hb10 hb13 hb16 hb19 hb20) (hk _ (by clear hk;simp_all [cP,aB,aC]))
       | false=>
        cases hb22: (t_sort== (8:Int))with
        | true=>
         cases hb23: (((length t_parts:Nat) :Int) == (0:Int))with
         | true=>
          cases hb24: (t_n== (0:Int))with
          | true=>
           exact LeadsM.ends (aNL t_sort t_n t_text t_parts ho  (cB t_text) hb1 hb4 hb7 hb10 hb13 hb16 hb19 hb22 hb23 hb24 (kF t_text)) (hk _ (by clear hk;simp_all [cP,aB,aC]))
          | false=>
           exact LeadsM.ends (aNM t_sort t_n t_text t_parts ho   hb1 hb4 hb7 hb10 hb13 hb16 hb19 hb22 hb23 hb24) (hk _ (by clear hk;simp_all [cP,aB,aC]))
         | false=>
          exact LeadsM.ends (aNN t_sort t_n t_text t_parts ho   hb1 hb4 hb7 hb10 hb13 hb16 hb19 hb22 hb23) (hk _ (by clear hk;simp_all [cP,aB,aC]))
        | false=>
         cases hb25: (t_sort== (9:Int))with
         | true=>
          cases ho with
          | true=>
           cases hb26: (((length t_parts:Nat) :Int) == (0:Int))with
           | true=>
            cases hb27: (aP (length t_text) (aA t_text) 0 0)with
            | true=>
             exact LeadsM.ends (aNO t_sort t_n t_text t_parts true  (cC t_n 0 99) hb1 hb4 hb7 hb10 hb13 hb16 hb19 hb22 hb25 rfl hb26 hb27 (eT t_n 0 99)) (hk _ (by clear hk;simp_all [cP,aB,aC]))
            | false=>
             exact LeadsM.ends (aNP t_sort t_n t_text t_parts true   hb1 hb4 hb7 hb10 hb13 hb16 hb19 hb22 hb25 rfl hb26 hb27) (hk _ (by clear hk;simp_all [cP,aB,aC]))
           | false=>
            exact LeadsM.ends (aNQ t_sort t_n t_text t_parts true   hb1 hb4 hb7 hb10 hb13 hb16 hb19 hb22 hb25 rfl hb26) (hk _ (by clear hk;simp_all [cP,aB,aC]))
          | false=>
           exact LeadsM.ends (aNR t_sort t_n t_text t_parts false   hb1 hb4 hb7 hb10 hb13 hb16 hb19 hb22 hb25 rfl) (hk _ (by clear hk;simp_all [cP,aB,aC]))
         | false=>
          exact LeadsM.ends (aNS t_sort t_n t_text t_parts ho   hb1 hb4 hb7 hb10 hb13 hb16 hb19 hb22 hb25) (hk _ (by clear hk;simp_all [cP,aB,aC]))
theorem aGk (o n:Int)(s:aE)(ps:List Typ)(ho:Bool)(hl:ps.length<1000000)(ih:∀t∈ps,Pure PP 115 [Typ.av t,.bool ho] (.bool (yO ho t))) :
  ∀ (ts:List Typ) (i:Nat) (b:Bool),ps.drop i=ts→Ends PP 0 (cM o n s ps ho b (i:Int)).as (.ret (.bool (b&&aB5 ho ts))) (aO [] 0)
 | [],i,b,h=>by
  have:=bD h;exact Ends.eqv (aSa o n s ps ho b i sd) (by simp [aB5])
 | .mk o' n' s' ps'::ts,i,b,h=>by
  obtain⟨g1,g2,g3⟩ :=aW h;cases b with
  |false=>exact Ends.eqv (aR9 o n s ps ho false i sd rfl) (by simp)
  | true=>
   refine(aR8 o n s ps ho true i o' n' s' ps' (yO ho (.mk o' n' s' ps')) sd rfl sd sd (ih _ (mem_of_getElem? g1)) sd).ends ?_;exact Ends.eqv (aGk o n s ps ho hl ih ts (i+1) _ g2) (by simp [aB5])
mutual
theorem aGl (ho:Bool) :∀ (t:Typ),bI t<1000000→Pure PP 115 [Typ.av t,.bool ho] (.bool (yO ho t))
 | .mk o n s ps,hf=>by
  refine bC (by kernel_rfl) (by simp [keylessL,kU,keyless]) rfl ?_;simp only [bI]at hf;have:=fX ps;refine aY5 o n s ps ho (by omega) _ (fun i hi=>?_);rw [hi,yO];exact aGk o n s ps ho (by omega) (aIN ho ps (by omega)) ps 0 _ rfl
theorem aIN (ho:Bool) :∀ (ts:List Typ),bP ts<1000000→∀t∈ts,Pure PP 115 [Typ.av t,.bool ho] (.bool (yO ho t))
 | [],_,t,ht=>by cases ht
 | u::ts,hf,t,ht=>by
  simp only [bP]at hf;rcases List.mem_cons.1 ht with e|ht
  ·rw [e];exact aGl ho u (by omega)
  ·exact aIN ho ts (by omega) t ht
end
def sX (t:Typ) :Bool:=decide (bI t≤12) &&yO false t
theorem aB7 (t:Typ) :Pure PP 75 [Typ.av t] (.bool (sX t)) :=by
 have hw:=aB6 t 12 (by omega) (by omega);unfold sX;unfold jG at hw;obtain⟨o,n,s,ps⟩ :=t;refine bC (by kernel_rfl) (by simp [keylessL,kU]) rfl ?_;by_cases h:bI (.mk o n s ps) ≤12
 · rw [if_pos (by omega)]at hw;exact Ends.eqv (aSb o n s ps _ _ hw (by simp;omega) (aGl false (.mk o n s ps) (by omega))) (by simp [h])
 · rw [if_neg (by omega)]at hw;exact Ends.eqv (aSc o n s ps _ hw (by simp)) (by simp [h])
mutual
def wI :Typ→Bool
 | .mk _ _ s ps=>yP ps&&decide (((length s:Nat) :Int) ≤30)
def yP :List Typ→Bool
 | [] =>true
 |t::ts=>wI t&&yP ts
end
theorem aGm (o n:Int)(s:aE)(ps:List Typ)(hl:ps.length<1000000)(ih:∀t∈ps,Pure PP 63 [Typ.av t] (.bool (wI t))) :
  ∀ (ts:List Typ) (i:Nat),ps.drop i=ts→Ends PP 0 (aEy o n s ps (i:Int)).as (.ret (.bool (yP ts&&decide (((length s:Nat) :Int) ≤30)))) (aO [] 0)
 | [],i,h=>by
  have:=bD h;exact Ends.eqv (aSg o n s ps i sd) (by simp [yP])
 | .mk o' n' s' ps'::ts,i,h=>by
  obtain⟨g1,g2,g3⟩ :=aW h;have hp:=ih _ (mem_of_getElem? g1);rw [yP];cases hb:wI (.mk o' n' s' ps')with
  | true=>
   rw [hb]at hp;exact(aSf o n s ps i o' n' s' ps' true sd sd sd hp rfl sd).ends (Ends.eqv (aGm o n s ps hl ih ts (i+1) g2) (by simp))
  | false=>
   rw [hb]at hp;exact Ends.eqv (aSe o n s ps i o' n' s' ps' false sd sd sd hp rfl) (by simp)
mutual
theorem aGn :∀ (t:Typ),bI t<1000000→Pure PP 63 [Typ.av t] (.bool (wI t))
 | .mk o n s ps,hf=>by
  refine bC (by kernel_rfl) (by simp [keylessL,kU]) rfl ?_;simp only [bI]at hf;have:=fX ps;rw [wI];exact(aSd o n s ps).ends (aGm o n s ps (by omega) (aIO ps (by omega)) ps 0 rfl)
theorem aIO :∀ (ts:List Typ),bP ts<1000000→∀t∈ts,Pure PP 63 [Typ.av t] (.bool (wI t))
 | [],_,t,ht=>by cases ht
 | u::ts,hf,t,ht=>by
  simp only [bP]at hf;rcases List.mem_cons.1 ht with e|ht
  ·rw [e];exact aGn u (by omega)
  ·exact aIO ts (by omega) t ht
end
def mD (t:Typ) :Bool:=decide (bI t≤16) &&wI t
def pY (so:Int) :Int:=if so=4 then 2 else if so=5∨so=6∨so=7 then 1 else 0
def eY (so n:Int)(s:aE)(ho:Bool) :Bool:=
 if so=1∨so=2∨so=3∨so=4∨so=5∨so=6∨so=7 then true else if so=8 then cB s else if so=9 then ho&&cC n 0 99 else false
def fY (pv so n:Int)(s:aE)(k:Int) :Bool:=decide (k=pv) && (decide (so=9) ||decide (n=0)) && (decide (so=8) ||decide (s= []))
theorem aJP (so n:Int)(s:aE)(k:Int)(ho:Bool) :cP so n s k ho= (eY so n s ho&&fY (pY so) so n s k) :=by
 by_cases h1:so=1
 · subst h1;simp [cP,eY,fY,pY,Bool.and_assoc,Bool.and_comm,Bool.and_left_comm]
 by_cases h2:so=2
 · subst h2;simp [cP,eY,fY,pY,Bool.and_assoc,Bool.and_comm,Bool.and_left_comm]
 by_cases h3:so=3
 · subst h3;simp [cP,eY,fY,pY,Bool.and_assoc,Bool.and_comm,Bool.and_left_comm]
 by_cases h4:so=4
 · subst h4;simp [cP,eY,fY,pY,Bool.and_assoc,Bool.and_comm,Bool.and_left_comm]
 by_cases h5:so=5
 · subst h5;simp [cP,eY,fY,pY,Bool.and_assoc,Bool.and_comm,Bool.and_left_comm]
 by_cases h6:so=6
 · subst h6;simp [cP,eY,fY,pY,Bool.and_assoc,Bool.and_comm,Bool.and_left_comm]
 by_cases h7:so=7
 · subst h7;simp [cP,eY,fY,pY,Bool.and_assoc,Bool.and_comm,Bool.and_left_comm]
 by_cases h8:so=8
 · subst h8;simp [cP,eY,fY,pY,Bool.and_assoc,Bool.and_comm,Bool.and_left_comm]
 by_cases h9:so=9
 · subst h9;simp [cP,eY,fY,pY,Bool.and_assoc,Bool.and_comm,Bool.and_left_comm]
 simp [cP,eY,h1,h2,h3,h4,h5,h6,h7,h8,h9]
theorem aYn (t_sort t_n:Int)(t_text:aE)(t_parts:List Typ)(ho:Bool)(b:Bool)(hno:eY t_sort t_n t_text ho=false→b=false)(hk:∀pv,eY t_sort t_n t_text ho=true→pv=pY t_sort→Ends PP 0 (kW t_sort t_n t_text t_parts ho pv).as (iO b) (aO [] 0)) :
  Ends PP 0 (aNV t_sort t_n t_text t_parts ho).as (iO b) (aO [] 0) :=by
 cases hb1: (t_sort== (1:Int))with
 | true=>
  exact LeadsM.ends (aSj t_sort t_n t_text t_parts ho   hb1) (hk _ (by clear hno hk;simp_all [eY,pY,cC] <;>omega) (by clear hno hk;simp_all [eY,pY,cC] <;>omega))
 | false =>
  cases hb2: (t_sort== (2:Int))with
  | true=>
   exact LeadsM.ends (aSk t_sort t_n t_text t_parts ho   hb1 hb2) (hk _ (by clear hno hk;simp_all [eY,pY,cC] <;>omega) (by clear hno hk;simp_all [eY,pY,cC] <;>omega))
  | false =>
   cases hb3: (t_sort== (3:Int))with
   | true=>
    exact LeadsM.ends (aSl t_sort t_n t_text t_parts ho   hb1 hb2 hb3) (hk _ (by clear hno hk;simp_all [eY,pY,cC] <;>omega) (by clear hno hk;simp_all [eY,pY,cC] <;>omega))
   | false =>
    cases hb4: (t_sort== (4:Int))with
    | true=>
     exact LeadsM.ends (aSm t_sort t_n t_text t_parts ho   hb1 hb2 hb3 hb4) (hk _ (by clear hno hk;simp_all [eY,pY,cC] <;>omega) (by clear hno hk;simp_all [eY,pY,cC] <;>omega))
    | false =>
     cases hb5: (t_sort== (5:Int))with
     | true=>
      exact LeadsM.ends (aSn t_sort t_n t_text t_parts ho   hb1 hb2 hb3 hb4 hb5) (hk _ (by clear hno hk;simp_all [eY,pY,cC] <;>omega) (by clear hno hk;simp_all [eY,pY,cC] <;>omega))
     | false =>
      cases hb6: (t_sort== (6:Int))with
      | true=>
       exact LeadsM.ends (aSo t_sort t_n t_text t_parts ho   hb1 hb2 hb3 hb4 hb5 hb6) (hk _ (by clear hno hk;simp_all [eY,pY,cC] <;>omega) (by clear hno hk;simp_all [eY,pY,cC] <;>omega))
      | false =>
       cases hb7: (t_sort== (7:Int))with
       | true=>
        exact LeadsM.ends (aSp t_sort t_n t_text t_parts ho   hb1 hb2 hb3 hb4 hb5 hb6 hb7) (hk _ (by clear hno hk;simp_all [eY,pY,cC] <;>omega) (by clear hno hk;simp_all [eY,pY,cC] <;>omega))
       | false=>
        cases hb8: (t_sort== (8:Int))with
        | true=>
         cases hb9: (!(cB t_text))with
         | true=>
          rw [hno (by clear hno hk;simp_all [eY,pY,cC] <;>omega)];exact aSq t_sort t_n t_text t_parts ho  (cB t_text) hb1 hb2 hb3 hb4 hb5 hb6 hb7 hb8 (eV t_text) hb9
         | false=>
          exact LeadsM.ends (aSr t_sort t_n t_text t_parts ho  (cB t_text) hb1 hb2 hb3 hb4 hb5 hb6 hb7 hb8 (eV t_text) hb9) (hk _ (by clear hno hk;simp_all [eY,pY,cC] <;>omega) (by clear hno hk;simp_all [eY,pY,cC] <;>omega))
        | false=>
         cases hb10: (t_sort== (9:Int))with
         | true=>
          cases ho with
          | true=>
           cases hb11: (decide (t_n≥ (0:Int)))with
           | true=>
            cases hb12: (!(decide (t_n≤ (99:Int))))with
            | true=>
             rw [hno (by clear hno hk;simp_all [eY,pY,cC] <;>omega)];exact aSs t_sort t_n t_text t_parts true   hb1 hb2 hb3 hb4 hb5 hb6 hb7 hb8 hb10 rfl hb11 hb12
            | false=>
             exact LeadsM.ends (aNX t_sort t_n t_text t_parts true   hb1 hb2 hb3 hb4 hb5 hb6 hb7 hb8 hb10 rfl hb11 hb12) (hk _ (by clear hno hk;simp_all [eY,pY,cC] <;>omega) (by clear hno hk;simp_all [eY,pY,cC] <;>omega))
           | false=>
            rw [hno (by clear hno hk;simp_all [eY,pY,cC] <;>omega)];exact aNY t_sort t_n t_text t_parts true   hb1 hb2 hb3 hb4 hb5 hb6 hb7 hb8 hb10 rfl hb11
          | false=>
           rw [hno (by clear hno hk;simp_all [eY,pY,cC] <;>omega)];exact aNZ t_sort t_n t_text t_parts false   hb1 hb2 hb3 hb4 hb5 hb6 hb7 hb8 hb10 rfl
         | false=>
          rw [hno (by clear hno hk;simp_all [eY,pY,cC] <;>omega)];exact aN0 t_sort t_n t_text t_parts ho   hb1 hb2 hb3 hb4 hb5 hb6 hb7 hb8 hb10
theorem aY6 (t_sort t_n:Int)(t_text:aE)(t_parts:List Typ)(ho:Bool)(parts4:Int)(b:Bool)(hno:fY parts4 t_sort t_n t_text (length t_parts) =false→b=false)(hk:fY parts4 t_sort t_n t_text (length t_parts) =true→Ends PP 0 (sW t_sort t_n t_text t_parts ho 0).as (iO b) (aO [] 0)) :
  Ends PP 0 (kW t_sort t_n t_text t_parts ho parts4).as (iO b) (aO [] 0) :=by
 cases hb1: (((length t_parts:Nat) :Int) ==parts4)with
 | true=>
  cases hb2: (t_sort== (9:Int))with
  | true=>
   cases hb3: (t_sort== (8:Int))with
   | true=>
    exact LeadsM.ends (aSt t_sort t_n t_text t_parts ho parts4  hb1 hb2 hb3) (hk (by clear hno hk;simp_all [fY,aB,aC]))
   | false=>
    cases hb4: (!(aP (length t_text) (aA t_text) 0 0))with
    | true=>
     rw [hno (by clear hno hk;simp_all [fY,aB,aC])];exact aSu t_sort t_n t_text t_parts ho parts4  hb1 hb2 hb3 hb4
    | false=>
     exact LeadsM.ends (aSv t_sort t_n t_text t_parts ho parts4  hb1 hb2 hb3 hb4) (hk (by clear hno hk;simp_all [fY,aB,aC]))
  | false=>
   cases hb5: (t_n== (0:Int))with
   | true=>
    cases hb6: (t_sort== (8:Int))with
    | true=>
     exact LeadsM.ends (aSw t_sort t_n t_text t_parts ho parts4  hb1 hb2 hb5 hb6) (hk (by clear hno hk;simp_all [fY,aB,aC]))
    | false=>
     cases hb7: (!(aP (length t_text) (aA t_text) 0 0))with
     | true=>
      rw [hno (by clear hno hk;simp_all [fY,aB,aC])];exact aSx t_sort t_n t_text t_parts ho parts4  hb1 hb2 hb5 hb6 hb7
     | false=>
      exact LeadsM.ends (aSy t_sort t_n t_text t_parts ho parts4  hb1 hb2 hb5 hb6 hb7) (hk (by clear hno hk;simp_all [fY,aB,aC]))
   | false=>
    rw [hno (by clear hno hk;simp_all [fY,aB,aC])];exact aSz t_sort t_n t_text t_parts ho parts4  hb1 hb2 hb5
 | false=>
  rw [hno (by clear hno hk;simp_all [fY,aB,aC])];exact aSA t_sort t_n t_text t_parts ho parts4  hb1
theorem aB8 (t:Typ) :Pure PP 19 [Typ.av t] (.bool (mD t)) :=by
 have hw:=aB6 t 16 (by omega) (by omega);unfold mD;unfold jG at hw;obtain⟨o,n,s,ps⟩ :=t;refine bC (by kernel_rfl) (by simp [keylessL,kU]) rfl ?_;by_cases h:bI (.mk o n s ps) ≤16
 · rw [if_pos (by omega)]at hw;exact Ends.eqv (aSh o n s ps _ _ hw (by simp;omega) (aGn (.mk o n s ps) (by omega))) (by simp [h])
 · rw [if_neg (by omega)]at hw;exact Ends.eqv (aSi o n s ps _ hw (by simp)) (by simp [h])
theorem aGo (o n:Int)(s:aE)(ps:List Typ)(ho:Bool)(hl:ps.length<1000000)(ih:∀t∈ps,POT 183 [Typ.av t,.bool ho] (yO ho t)) :
  ∀ (ts:List Typ) (i:Nat),ps.drop i=ts→Ends PP 0 (sW o n s ps ho (i:Int)).as (iO (aB5 ho ts)) (aO [] 0)
 | [],i,h=>by
  have:=bD h;exact aSD o n s ps ho i sd
 | .mk o' n' s' ps'::ts,i,h=>by
  obtain⟨g1,g2,g3⟩ :=aW h;have hp:=ih _ (mem_of_getElem? g1);rw [aB5];cases hb:yO ho (.mk o' n' s' ps')with
  | true=>
   rw [hb]at hp;rw [Bool.true_and];exact(aSC o n s ps ho i o' n' s' ps' sd sd sd hp sd).ends (aGo o n s ps ho hl ih ts (i+1) g2)
  | false=>
   rw [hb]at hp;rw [Bool.false_and];exact aSB o n s ps ho i o' n' s' ps' sd sd sd hp
mutual
theorem aIP (ho:Bool) :∀ (t:Typ),bI t<1000000→POT 183 [Typ.av t,.bool ho] (yO ho t)
 | .mk o n s ps,hf=>by
  simp only [bI]at hf;have:=fX ps;refine aHU (s:=aNV o n s ps ho) (by kernel_rfl) (by kernel_rfl) (by simp [keylessL,kU,keyless]) ?_;rw [yO,aJP];refine aYn o n s ps ho _ (fun h=>by rw [h];simp) (fun pv he hp=>?_);subst hp;rw [he];refine aY6 o n s ps ho _ _ (fun h=>by rw [h];simp) (fun h=>?_);rw [h,Bool.true_and,Bool.true_and];exact aGo o n s ps ho (by omega) (aIQ ho ps (by omega)) ps 0 rfl
theorem aIQ (ho:Bool) :∀ (ts:List Typ),bP ts<1000000→∀t∈ts,POT 183 [Typ.av t,.bool ho] (yO ho t)
 | [],_,t,ht=>by cases ht
 | u::ts,hf,t,ht=>by
  simp only [bP]at hf;rcases List.mem_cons.1 ht with e|ht
  ·rw [e];exact aIP ho u (by omega)
  ·exact aIQ ho ts (by omega) t ht
end
def GKS (p:Typ)(a b:Int) :Prop:=Spec PP (.enter 182 [.ptr 0 0,Typ.av p]) (aO [(0,GC a b,false)] 1) (iO (mI (bI p) a)) (aO [(0,GC (cT (bI p) a) b,false)] 1)
theorem aIR (a b f n:Int)(s:aE)(ps:List Typ)(hl:ps.length<1000000)(ih:∀p∈ps,∀a,0≤a→a≤1000→GKS p a b) :∀ (t:List Typ) (i:Nat) (c:Int),ps.drop i=t→0≤c→c≤1000 →
  Ends PP 1 (aIL a b f n s ps (i:Int) c).as (iO (mI (bP t) c)) (aO [(0,GC (cT (bP t) c) b,false)] 1)
 | [],i,c,h,h0,h1=>by
  have:=bD h;have e1:mI (bP []) c=true:=by simp [mI,bP,h0]
  have e2:cT (bP []) c=c:=by simp [cT,bP,h0]
  rw [e1,e2];exact aYm a b f n s ps i c sd
 | .mk f' n' s' ps'::t,i,c,h,h0,h1=>by
  obtain⟨g1,g2,g3⟩ :=aW h;have hs:=ih _ (mem_of_getElem? g1) c h0 h1;unfold GKS at hs;by_cases hc: (bI (.mk f' n' s' ps') :Int) ≤c
  · have e1:mI (bI (.mk f' n' s' ps')) c=true:=by simp [mI,hc]
    have e2:cT (bI (.mk f' n' s' ps')) c=c-bI (.mk f' n' s' ps') :=by simp [cT,hc]
    rw [e1,e2]at hs;have r1:mI (bP (.mk f' n' s' ps'::t)) c=mI (bP t) (c-bI (.mk f' n' s' ps')) :=by
     unfold mI;rw [bP];congr 1;apply propext;omega
    have r2:cT (bP (.mk f' n' s' ps'::t)) c=cT (bP t) (c-bI (.mk f' n' s' ps')) :=by
     unfold cT;rw [bP];split<;>split<;>omega
    rw [r1,r2];refine(aYl a b f n s ps i c f' n' s' ps' (c-bI (.mk f' n' s' ps')) sd sd sd (dF (ks:=[0]) hs (by kernel_rfl) (dV true) (by kernel_rfl) (by kernel_rfl) trivial (by kernel_rfl) trivial) sd).ends ?_;exact aIR a b f n s ps hl ih t (i+1) _ g2 (by omega) (by omega)
  · have e1:mI (bI (.mk f' n' s' ps')) c=false:=by simp only [mI];exact decide_eq_false hc
    have e2:cT (bI (.mk f' n' s' ps')) c= -1:=by unfold cT;rw [if_neg hc]
    rw [e1,e2]at hs;have r1:mI (bP (.mk f' n' s' ps'::t)) c=false:=by simp only [mI,bP];exact decide_eq_false (by omega)
    have r2:cT (bP (.mk f' n' s' ps'::t)) c= -1:=by unfold cT;rw [bP,if_neg (by omega)]
    rw [r1,r2];exact aYk a b f n s ps i c f' n' s' ps' (-1) sd sd sd (dF (ks:=[0]) hs (by kernel_rfl) (dV false) (by kernel_rfl) (by kernel_rfl) trivial (by kernel_rfl) trivial)
mutual
theorem aIS (b:Int)(hb:0≤b) :∀ (p:Typ) (a:Int),0≤a→a≤1000→bI p<1000000→GKS p a b
 | .mk f n s ps,a,h0,h1,hp=>by
  simp only [bI]at hp;have:=fX ps;refine⟨(aYh a b f n s ps).as.fr,by kernel_rfl,?_⟩;have E:Ends PP 1 (aYh a b f n s ps).as (iO (mI (bI (.mk f n s ps)) a)) (aO [(0,GC (cT (bI (.mk f n s ps)) a) b,false)] 1) :=by
   by_cases ha:1≤a
   · have r1:mI (bI (.mk f n s ps)) a=mI (bP ps) (a-1) :=by
      unfold mI;rw [bI];congr 1;apply propext;omega
     have r2:cT (bI (.mk f n s ps)) a=cT (bP ps) (a-1) :=by
      unfold cT;rw [bI];split<;>split<;>omega
     rw [r1,r2];exact(aYi a b f n s ps sd (by simp;omega) (by simp;omega)).ends (aIR a b f n s ps (by omega) (fun p hp a h0 h1=>aN3 b hb ps (by omega) p hp a h0 h1) ps 0 (a-1) rfl (by omega) (by omega))
   · obtain rfl:a=0:=by omega
     have r1:mI (bI (.mk f n s ps)) 0=false:=by simp only [mI,bI];exact decide_eq_false (by omega)
     have r2:cT (bI (.mk f n s ps)) 0=0-1:=by unfold cT;rw [bI,if_neg (by omega)];rfl
     rw [r1,r2];exact aYj 0 b f n s ps sd (by simp)
  exact Eq.mp (by kernel_rfl) E
theorem aN3 (b:Int)(hb:0≤b) :∀ (ps:List Typ),bP ps<1000000→∀p∈ps,∀a,0≤a→a≤1000→GKS p a b
 | [],_,p,hp=>by cases hp
 | q::ps,h,p,hp=>by
  simp only [bP]at h;rcases List.mem_cons.1 hp with e|hp
  ·rw [e];exact fun a h0 h1=>aIS b hb q a h0 h1 (by omega)
  ·exact aN3 b hb ps (by omega) p hp
end
theorem aB9 (t:Typ)(hf:bI t<1000000) :Pure PP 108 [Typ.av t] (.bool (sX t)) :=by
 have hg:=aIS 0 (by omega) t 12 (by omega) (by omega) hf;have hs:=aIP false t hf;unfold GKS at hg;have e:sX t= (mI (bI t) 12&&yO false t) :=by
  unfold sX mI;congr 2;apply propext;omega
 rw [e];obtain⟨o,n,s,ps⟩ :=t;refine bS (s:=aXb o n s ps) (by kernel_rfl) (by kernel_rfl) (by simp [keylessL,kU]) (by simp [keyless]) ?_;generalize cT (bI (.mk o n s ps)) 12=z at hg;cases hb:mI (bI (.mk o n s ps)) 12 with
 | false=>
  rw [hb]at hg;rw [Bool.false_and];exact aSE o n s ps z (dF (ks:=[4]) hg (by kernel_rfl) (dV false) (by kernel_rfl) (by kernel_rfl) trivial (by kernel_rfl) trivial)
 | true=>
  rw [hb]at hg;rw [Bool.true_and];cases hF:yO false (.mk o n s ps)with
  | true=>
   rw [hF]at hs;exact aSG o n s ps z (dF (ks:=[4]) hg (by kernel_rfl) (dV true) (by kernel_rfl) (by kernel_rfl) trivial (by kernel_rfl) trivial) hs
  | false=>
   rw [hF]at hs;exact aSF o n s ps z (dF (ks:=[4]) hg (by kernel_rfl) (dV true) (by kernel_rfl) (by kernel_rfl) trivial (by kernel_rfl) trivial) hs
end
end Go.Hb
