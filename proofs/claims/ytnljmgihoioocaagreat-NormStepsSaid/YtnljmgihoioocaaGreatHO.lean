/- A machine on abstract values, its soundness, ways, plain laws. -/
import Derived.Test.YtnljmgihoioocaaGreatHM
import Derived.Test.YtnljmgihoioocaaGreatHN
set_option linter.defProp false
set_option linter.unusedVariables false
set_option linter.unusedSimpArgs false
set_option linter.unusedSectionVars false
set_option maxRecDepth 100000
set_option maxHeartbeats 1000000
namespace Go.Hb
open Go.Proofs
noncomputable section
theorem nZ :FitP iM:= ⟨by simp [iM],by simp [iM],by simp [iM],fun x hx=>by simp [iM]at hx⟩
theorem aTe {cons:List Con}{x:Node}(h:FineN cons x)(hk:x.kids.length≤10)(hl:x.pats.length≤900) :bDW x:=by
 refine⟨by omega,?_⟩;have:=aAs x.pats (fun q hq=>by have:= (h.pats q hq).1;omega);omega
mutual
theorem aYL {B:Int}:∀ (t:XT) (a:Nat),FineX B t→∀x∈dS t a,x.pats.length≤900
 | .mk o n ks ps,a,hf,x,h=>by
  simp only [FineX]at hf;simp only [dS,List.mem_cons]at h;rcases h with rfl|h
  ·exact hf.2.2.2.2.2.1.2.1
  ·exact aCs ks (a+1) hf.2.2.2.2.2.2 x h
theorem aCs {B:Int}:∀ (ts:List XT) (a:Nat),FineXs B ts→∀x∈ (bL ts a).2,x.pats.length≤900
 | [],a,_,x,h=>by simp [bL]at h
 | t::ts,a,hf,x,h=>by
  simp only [FineXs]at hf;simp only [bL,List.mem_append]at h;rcases h with h|h
  ·exact aYL t a hf.1 x h
  ·exact aCs ts _ hf.2 x h
end
theorem aTf {B:Int}{ts:List XT}{mn:Int}{cons:List Con}(hf:FineXs B ts)(hw:mG (uG cons) ts)(hs:aK ts≤1000000)(hl:ts.length≤320)(hc:cons.length<1000000) :FitP (fP ts mn cons) :=by
 have hk:=uH ts 0;have hn:=mD ts 0;refine⟨by simp only [fP,aFu];omega,by simp only [fP,aFu];omega,hc,fun x hx=>?_⟩;obtain⟨i,hi,rfl⟩ :=List.getElem_of_mem hx;obtain⟨a1,a2,_⟩ :=yK ts 0 hf hw i _ (List.getElem?_eq_getElem hi);exact aTe a1 a2 (aCs ts 0 hf _ hx)
theorem bB8 {p:Prog}(hs:aE p=true){ts:List XT}(ht:aH p=true→aR p ts p.funs)(node:Int) :FitP (doX p ts node).1:=by
 have hb:=hs;simp only [aE,Bool.and_eq_true,decide_eq_true_eq]at hb;unfold doX;split
 ·exact nZ
 · split
   ·exact nZ
   · rename_i hf;split
     ·exact nZ
     · have hf:aH p=true:=by simpa using hf
       have ht:=ht hf;obtain⟨hp,_,_⟩ :=eE hs hf;have hsz:=mE hs hf ht;have hln:=gC ht;have hfx:=kC (show(400:Int) ≤500000 by decide) (kB hp (gR hf) ts p.funs ht);have hfw:=yJ hp ts p.funs ht;cases hr:atF node ts 0 with
       |go m=>rw [aJq hr];exact nZ
       |past=>rw [aCm hr];exact nZ
       | did ts'=>
        obtain⟨f1,f2⟩ :=aBA hfx (by omega) hr;obtain⟨w1,w2⟩ :=aJI hfw hr;cases hz:aBx 30 p.cons ts'
        case false=>rw [aQC hr hz];exact nZ
        rw [aL7 hr hz];exact aTf f1 w1 (by omega) (by omega) (by omega)
theorem nSteps_calls (p:Prog)(node:Int)(hk:aJ PP 11 [] (.bool true)) :
  ∀ (w:World) (cargs:List Value),VRs (embOf w) [Prog.av p,.int .i64 node] cargs→Calls PP 4 ⟨cargs⟩ w fun e w'=>e= .returned (.bool true) ∧GrownO w w':=by
 have h0:=aC5 p;cases hs:aE p
 case false=>rw [hs]at h0;exact aYJ p node false true h0 rfl hk
 rw [hs]at h0;obtain⟨ts,ht⟩ :∃ts,aH p=true→aR p ts p.funs:=by
  cases hf:aH p
  case false=>exact⟨[],fun h=>by cases h⟩
  obtain⟨hp,_,_⟩ :=eE hs hf;obtain⟨ts,h⟩ :=aWb hp;exact⟨ts,fun _=>h⟩
 have hl: (mF p ts).1.length≤1000:=by
  unfold mF;split
  ·simp
  · split
    ·simp
    · rename_i hf _;have hf:aH p=true:=by simpa using hf
      have h1:=aFA ts 0;have h2:=mE hs hf (ht hf);have hb:=hs;simp only [aE,Bool.and_eq_true,decide_eq_true_eq]at hb;dsimp only;omega
 have a1:=aPn hs ht;have a2:=aTc hs ht;have a3:=bBU hs ht node;have a4:=aTd hs ht node;have a5:=aF6 (mF p ts).1 hl;have a6:=aPf (doX p ts node).1 (bB8 hs ht node);exact aYK p node true (mF p ts).1 (mF p ts).2 (mF p ts).1 (mF p ts).2 (doX p ts node).1 (doX p ts node).2 (doX p ts node).1 (doX p ts node).2 true true true h0 rfl a1 a2 a3 a4 (by simp) a5 rfl (by simp) a6 rfl hk
end
end Go.Hb
