/-
  OWN WORK (V115, H41, V116, V117, H42, V118, H44, V119, V120, H45, V121, H43, V122, V123, V124, V125, V126, H46): a machine on abstract values, its soundness, ways through the text (the ways WRITTEN BY A PROGRAM), plain laws.
-/
import Derived.Test.YtabmpnmmkeieiaaGreatHF
import Derived.Test.YtabmpnmmkeieiaaGreatHG
import Derived.Test.YtabmpnmmkeieiaaGreatHI
import Derived.Test.YtabmpnmmkeieiaaGreatHJ
import Derived.Test.YtabmpnmmkeieiaaGreatHK
set_option linter.defProp false
set_option linter.unusedVariables false
set_option linter.unusedSimpArgs false
set_option linter.unusedSectionVars false
set_option maxRecDepth 100000
namespace Go.Hb
open Go.Proofs
set_option maxHeartbeats 4000000
noncomputable section
def ckn (cs:List Con)(s:aE)(k:Int) :Bool:=decide (0≤nC s cs 0) && (match cs[(nC s cs 0).toNat]? with|some c=>decide (c.args=k) |none=>false)
mutual
def knP (cs:List Con) :Pat→Bool
 | .mk f _ s ps=> (if f=6 then ckn cs s (List.length ps)else true) &&bCA cs ps
def bCA (cs:List Con) :List Pat→Bool
 | [] =>true
 |p::ps=>knP cs p&&bCA cs ps
end
mutual
def knT (fs:List aE)(cs:List Con) :Term→List aE→Bool
 | .mk o _ s ks ps,env=>if o=4 then jG env s||jG fs s else(if o=14 then ckn cs s (List.length ks)else true) &&ps.all (knP cs) &&bCB fs cs o s ps ks 0 env
def bCB (fs:List aE)(cs:List Con)(o:Int)(s:aE)(ps:List Pat) :List Term→Nat→List aE→Bool
 | [],_,_=>true
 |t::ts,i,env=>knT fs cs t (env++uJ o s ps i) &&bCB fs cs o s ps ts (i+1) env
end
abbrev BC (fs:List aE)(cs:List Con) :AObj:=.cells (putCells .leaf 0 [.ilst 1 (List.map aC fs) false,.ilst 2 (List.map Con.av cs) false,.nils]) 3 [] false
theorem aKK {cs:List Con}{s:aE}(h:0≤nC s cs 0) :∃c,cs[(nC s cs 0).toNat]?=some c:=by
 rcases aCm s cs 0 (by omega)with e| ⟨_,_,d,hd,_⟩
 ·omega
 ·rw [Int.sub_zero]at hd;exact⟨d,hd⟩
def KPS (fs:List aE)(cs:List Con)(p:Pat) :Prop:=Spec PP (.enter 114 [.ptr 0 0,Pat.av p]) (aG [(0,BC fs cs,false)] 1) (.ret (.bool (knP cs p))) (aG [(0,BC fs cs,false)] 1)
theorem klB (b:Bool) :aN7 (.ret (.bool b)) :=rfl
theorem aKL (fs:List aE)(cs:List Con)(f n:Int)(s:aE)(ps:List Pat)(hl:ps.length<1000000)(ih:∀p∈ps,KPS fs cs p) :∀ (t:List Pat) (i:Nat),ps.drop i=t →
  Ends PP 1 (aEo fs cs f n s ps (i:Int)).as (.ret (.bool (bCA cs t))) (aG [(0,BC fs cs,false)] 1)
 | [],i,h=>by
  have:=bD h;exact bCn fs cs f n s ps i sd
 | .mk f' n' s' ps'::t,i,h=>by
  obtain⟨g1,g2,g3⟩ :=bB h;have hs:=ih _ (List.mem_of_getElem? g1);unfold KPS at hs;rw [bCA];have hs':=dD (ks:=[0]) (n2:=2) (args':=[.ptr 0 0,Pat.av (.mk f' n' s' ps')]) (lc:=[(0,BC fs cs,false),(1,.cells (putCells .leaf 0 [.int .i64 f,.int .i64 n,aC s,.ilst 4 (Pats.av ps) false]) 4 [] false,false)]) (lc':=[(0,BC fs cs,false),(1,.cells (putCells .leaf 0 [.int .i64 f,.int .i64 n,aC s,.ilst 4 (Pats.av ps) false]) 4 [] false,false)]) hs (by kernel_rfl) (klB _) (by kernel_rfl) (by kernel_rfl) trivial (by kernel_rfl) trivial (by kernel_rfl) (by kernel_rfl) (by kernel_rfl) (by kernel_rfl) (by kernel_rfl) (by kernel_rfl) (by kernel_rfl) (by kernel_rfl);cases hb:knP cs (.mk f' n' s' ps')with
  | true=>
   rw [hb]at hs';rw [Bool.true_and];exact(bCm fs cs f n s ps i f' n' s' ps' true sd sd sd hs' rfl sd).ends (aKL fs cs f n s ps hl ih t (i+1) g2)
  | false=>
   rw [hb]at hs';rw [Bool.false_and];exact bCl fs cs f n s ps i f' n' s' ps' false sd sd sd hs' rfl
mutual
theorem aKM (fs:List aE)(cs:List Con)(hc:cs.length<1000000) :∀p:Pat,aP p<1000000→KPS fs cs p
 | .mk f n s ps,hp=>by
  simp only [aP]at hp;have:=cL ps;refine⟨(aWo fs cs f n s ps).as.fr,by kernel_rfl,?_⟩;have E :Ends PP 1 (aWo fs cs f n s ps).as (.ret (.bool (knP cs (.mk f n s ps)))) (aG [(0,BC fs cs,false)] 1) :=by
   have L:=aKL fs cs f n s ps (by omega) (aOV fs cs hc ps (by omega)) ps 0 rfl;rw [knP];by_cases h6:f=6
   · rw [if_pos h6];unfold ckn;by_cases h0:0≤nC s cs 0
     · obtain⟨c,hcc⟩ :=aKK h0;rw [hcc,decide_eq_true h0,Bool.true_and];by_cases ha:c.args= (List.length ps:Int)
       · simp only [ha,decide_true,Bool.true_and];exact(bCj fs cs f n s ps _ c (by simp [h6]) (sJ cs s hc) (by simp;omega) h0 hcc (by simp [ha])).ends L
       · simp only [ha,decide_false,Bool.false_and];exact bCi fs cs f n s ps _ c (by simp [h6]) (sJ cs s hc) (by simp;omega) h0 hcc (by simpa using ha)
     · rw [decide_eq_false h0,Bool.false_and,Bool.false_and];exact bCh fs cs f n s ps _ (by simp [h6]) (sJ cs s hc) (by simp;omega)
   · rw [if_neg h6,Bool.true_and];exact(bCk fs cs f n s ps (by simp [h6])).ends L
  exact Eq.mp (by kernel_rfl) E
theorem aOV (fs:List aE)(cs:List Con)(hc:cs.length<1000000) :∀ps:List Pat,aK ps<1000000→∀p∈ps,KPS fs cs p
 | [],_,p,hp=>by cases hp
 | q::ps,h,p,hp=>by
  simp only [aK]at h;rcases List.mem_cons.1 hp with e|hp
  ·rw [e];exact aKM fs cs hc q (by omega)
  ·exact aOV fs cs hc ps (by omega) p hp
end
abbrev aOW (o n:Int)(s:aE)(ks:List Term)(ps:List Pat) :AObj:=.cells (putCells .leaf 0 [.int .i64 o,.int .i64 n,aC s,.ilst 5 (Terms.av ks) false,.ilst 4 (Pats.av ps) false]) 5 [] false
def KTS (fs:List aE)(cs:List Con)(t:Term)(env:List aE) :Prop:=Spec PP (.enter 52 [.ptr 0 0,Term.av t,.ilst 1 (List.map aC env) false]) (aG [(0,BC fs cs,false)] 1) (.ret (.bool (knT fs cs t env))) (aG [(0,BC fs cs,false)] 1)
theorem aQ2 {ps:List Pat}(h:∀p∈ps,aP p≤1000)(o:Int)(s:aE)(k:Nat) : (uJ o s ps k).length≤1000:=by
 unfold uJ;split
 ·simp
 · split
   ·split<;>simp
   · split
     · cases k with
       |zero=>simp
       | succ j=>
        simp only;cases hp:ps[j]? with
        |none=>simp
        | some p=>
         have:=zN p;have:=h p (List.mem_of_getElem? hp);simp only;omega
     ·simp
theorem bIk (fs:List aE)(cs:List Con)(o n:Int)(s:aE)(ks:List Term)(ps:List Pat)(env:List aE)(hl:ks.length≤900)(h15:o=15→ks.length≤ps.length+1)(hps:∀p∈ps,aP p≤1000)(he:env.length≤900000)
  (ih:∀t∈ks,∀e:List aE,e.length≤env.length+1000→KTS fs cs t e) :∀ (ts:List Term) (i:Nat),ks.drop i=ts →
  Ends PP 1 (aEq fs cs o n s ks ps env (i:Int)).as (.ret (.bool (bCB fs cs o s ps ts i env))) (aG [(0,BC fs cs,false)] 1)
 | [],i,h=>by
  have:=bD h;exact bCz fs cs o n s ks ps env i sd
 | .mk o' n' s' ks' ps'::ts,i,h=>by
  obtain⟨g1,g2,g3⟩ :=bB h;have hi:= (List.getElem?_eq_some_iff.1 g1).1;have hbl:=aQ2 hps o s i;have hb:=aWt o n s ks ps i (by omega) (fun h=>by have:=h15 h;omega) hps;have hw:=aWs env (uJ o s ps i) (by omega);have hs:=ih _ (List.mem_of_getElem? g1) (env++uJ o s ps i) (by simp;omega);unfold KTS at hs;rw [bCB];have hs':=dD (ks:=[0]) (n2:=2) (args':=[.ptr 0 0,Term.av (.mk o' n' s' ks' ps'),.ilst 1 (List.map aC (env++uJ o s ps i)) false]) (lc:=[(0,BC fs cs,false),(1,aOW o n s ks ps,false)]) (lc':=[(0,BC fs cs,false),(1,aOW o n s ks ps,false)]) hs (by kernel_rfl) (klB _) (by kernel_rfl) (by kernel_rfl) trivial (by kernel_rfl) trivial (by kernel_rfl) (by kernel_rfl) (by kernel_rfl) (by kernel_rfl) (by kernel_rfl) (by kernel_rfl) (by kernel_rfl) (by kernel_rfl);cases hb2:knT fs cs (.mk o' n' s' ks' ps') (env++uJ o s ps i)with
  | true=>
   rw [hb2]at hs';rw [Bool.true_and];exact(bCy fs cs o n s ks ps env i o' n' s' ks' ps' _ _ true sd sd sd hb hw hs' rfl sd).ends (bIk fs cs o n s ks ps env hl h15 hps he ih ts (i+1) g2)
  | false=>
   rw [hb2]at hs';rw [Bool.false_and];exact bCx fs cs o n s ks ps env i o' n' s' ks' ps' _ _ false sd sd sd hb hw hs' rfl
theorem bIl (fs:List aE)(cs:List Con)(o n:Int)(s:aE)(ks:List Term)(ps:List Pat)(env:List aE)(hc:cs.length<1000000)(hl:ps.length<1000000)(hps:∀p∈ps,aP p≤1000)(b:Bool)
  (hk:Ends PP 1 (aEq fs cs o n s ks ps env 0).as (.ret (.bool b)) (aG [(0,BC fs cs,false)] 1)) :∀ (qs:List Pat) (i:Nat),ps.drop i=qs →
  Ends PP 1 (aEp fs cs o n s ks ps env (i:Int)).as (.ret (.bool (qs.all (knP cs) &&b))) (aG [(0,BC fs cs,false)] 1)
 | [],i,h=>by
  have:=bD h;exact(bCw fs cs o n s ks ps env i sd).ends hk
 | .mk f' n' s' ps'::qs,i,h=>by
  obtain⟨g1,g2,g3⟩ :=bB h;have hm:=List.mem_of_getElem? g1;have hs:=aKM fs cs hc _ (by have:=hps _ hm;omega:aP (.mk f' n' s' ps') <1000000);unfold KPS at hs;rw [List.all_cons];have hs':=dD (ks:=[0]) (n2:=2) (args':=[.ptr 0 0,Pat.av (.mk f' n' s' ps')]) (lc:=[(0,BC fs cs,false),(1,aOW o n s ks ps,false)]) (lc':=[(0,BC fs cs,false),(1,aOW o n s ks ps,false)]) hs (by kernel_rfl) (klB _) (by kernel_rfl) (by kernel_rfl) trivial (by kernel_rfl) trivial (by kernel_rfl) (by kernel_rfl) (by kernel_rfl) (by kernel_rfl) (by kernel_rfl) (by kernel_rfl) (by kernel_rfl) (by kernel_rfl);cases hb:knP cs (.mk f' n' s' ps')with
  | true=>
   rw [hb]at hs';rw [Bool.true_and];exact(bCv fs cs o n s ks ps env i f' n' s' ps' true sd sd sd hs' rfl sd).ends (bIl fs cs o n s ks ps env hc hl hps b hk qs (i+1) g2)
  | false=>
   rw [hb]at hs';rw [Bool.false_and,Bool.false_and];exact bCu fs cs o n s ks ps env i f' n' s' ps' false sd sd sd hs' rfl
theorem bCC {o n:Int}{s:aE}{k m:Int}(h:aI o n s k m=true)(h15:o=15) :k=1+m:=by
 subst h15;simp [aI]at h;exact h.1.2
mutual
theorem aWu (fs:List aE)(cs:List Con)(hc:cs.length<1000000)(hf:fs.length<1000000) :∀ (t:Term) (env:List aE),hJ t≤900→tsm t=true→mZ t=true→env.length+1000*iK t≤900000→KTS fs cs t env
 | .mk o n s ks ps,env,hz,hs,hF,he=>by
  simp only [hJ]at hz;simp only [iK]at he;have hkl:=zR ks;rw [tsm]at hs;simp only [Bool.and_eq_true,decide_eq_true_eq]at hs;obtain⟨⟨⟨_,hpl⟩,hsp⟩,hsk⟩ :=hs;rw [mZ]at hF;simp only [Bool.and_eq_true]at hF;obtain⟨⟨hH,_⟩,hFk⟩ :=hF
  have hps:∀p∈ps,aP p≤1000:=fun p hp=>by
   have:=List.all_eq_true.1 hsp p hp;simp only [pL,Bool.and_eq_true,decide_eq_true_eq]at this;omega
  refine⟨(aWp fs cs o n s ks ps env).as.fr,by kernel_rfl,?_⟩;have E : Ends PP 1 (aWp fs cs o n s ks ps env).as (.ret (.bool (knT fs cs (.mk o n s ks ps) env))) (aG [(0,BC fs cs,false)] 1) :=by
   have L1:=bIk fs cs o n s ks ps env (by omega) (fun h=>by have:=bCC hH h;omega) hps (by omega) (fun t ht e hel=>aOX fs cs hc hf ks (by omega) hsk hFk t ht e (by omega)) ks 0 rfl;have L:=bIl fs cs o n s ks ps env hc (by omega) hps _ L1 ps 0 rfl;rw [knT];by_cases h4:o=4
   · rw [if_pos h4];have h1:=xK env s (by omega);cases hb:jG env s with
     | true=>
      rw [hb]at h1;exact bCo fs cs o n s ks ps env true (by simp [h4]) h1 rfl
     | false=>
      rw [hb]at h1;rw [Bool.false_or];exact bCp fs cs o n s ks ps env false _ (by simp [h4]) h1 rfl (xK fs s hf)
   · rw [if_neg h4];by_cases h14:o=14
     · rw [if_pos h14];unfold ckn;by_cases h0:0≤nC s cs 0
       · obtain⟨c,hcc⟩ :=aKK h0;rw [hcc,decide_eq_true h0,Bool.true_and];by_cases ha:c.args= (List.length ks:Int)
         · simp only [ha,decide_true,Bool.true_and];exact(bCs fs cs o n s ks ps env _ c (by simp [h4]) (by simp [h14]) (sJ cs s hc) (by simp;omega) h0 hcc (by simp [ha])).ends L
         · simp only [ha,decide_false,Bool.false_and];exact bCr fs cs o n s ks ps env _ c (by simp [h4]) (by simp [h14]) (sJ cs s hc) (by simp;omega) h0 hcc (by simpa using ha)
       · rw [decide_eq_false h0,Bool.false_and,Bool.false_and,Bool.false_and];exact bCq fs cs o n s ks ps env _ (by simp [h4]) (by simp [h14]) (sJ cs s hc) (by simp;omega)
     · rw [if_neg h14,Bool.true_and];exact(bCt fs cs o n s ks ps env (by simp [h4]) (by simp [h14])).ends L
  exact Eq.mp (by kernel_rfl) E
theorem aOX (fs:List aE)(cs:List Con)(hc:cs.length<1000000)(hf:fs.length<1000000) :∀ (ts:List Term),eW ts≤900→aNm ts=true→uC ts=true→∀t∈ts,∀env:List aE,env.length+1000*fR ts≤900000→KTS fs cs t env
 | [],_,_,_,t,ht=>by cases ht
 | u::ts,hz,hs,hF,t,ht=>by
  simp only [eW]at hz;rw [aNm,Bool.and_eq_true]at hs;rw [uC,Bool.and_eq_true]at hF;rcases List.mem_cons.1 ht with e|ht
  ·rw [e];exact fun env he=>aWu fs cs hc hf u env (by omega) hs.1 hF.1 (by simp only [fR]at he;omega)
  ·exact fun env he=>aOX fs cs hc hf ts (by omega) hs.2 hF.2 t ht env (by simp only [fR]at he;omega)
end
end
end Go.Hb
namespace Go.Hb
open Go.Proofs
noncomputable section
open Go.Proofs Tryz
end
end Go.Hb
namespace Go.Hb
open Go.Proofs
set_option maxHeartbeats 4000000
noncomputable section
structure WS where
 l:List Con
 mc:List (aE×Int)
 ar:List Int
end
end Go.Hb
namespace Go.Hb
open Go.Proofs
noncomputable section
def dV (n:Int) :aE:=[UInt8.ofNat n.toNat]
theorem oS {n:Int}(h:0≤n)(h2:n<256) :fF [.int .u8 n] =some (aC (dV n)) :=by
 have:n.toNat<256:=by omega
 simp only [fF,aAk,h,h2,and_self,if_true];simp [aC,dV,aB,UInt8.toNat_ofNat,Nat.mod_eq_of_lt this]
theorem wrap_u8 {n:Int}(h:0≤n)(h2:n<256) :IntKind.u8.wrap n=n:=by
 unfold IntKind.wrap;simp [IntKind.signed,IntKind.bits];omega
theorem bFf {n:Int}(h:0≤n)(h2:n≤1000000000000) :rN PP .quo 3 (.int .i64 n) (.int .i64 26) false true=some (.int .i64 (Int.tdiv n 26)) :=by
 have e:Int.tdiv n 26=n / 26:=Int.tdiv_eq_ediv_of_nonneg h;simp only [rN,aBf,if_true];rw [e];have:uT .i64 (n / 26) =n / 26:=sd;rw [this];simp
theorem bFg {n:Int}:rN PP .rem 3 (.int .i64 n) (.int .i64 26) false true=some (.int .i64 (Int.tmod n 26)) :=by
 simp [rN,aBf]
theorem yU :∀ (a b:aE),aB (a++b) =aB a+256 ^ a.length*aB b
 | [],b=>by simp [aB]
 | x::a,b=>by
  simp only [List.cons_append,aB,yU a b,List.length_cons,Nat.pow_succ];rw [Nat.mul_add,Nat.mul_comm (256 ^ a.length) 256,Nat.mul_assoc];omega
theorem aIa (a b:aE) :aB (a++b) =aB a % 256 ^ a.length+256 ^ a.length*aB b:=by
 rw [yU,Nat.mod_eq_of_lt (aAP a)]
theorem aOY {a b:aE}(h:a.length+b.length≤1000000000) :rN PP .add 9 (aC a) (aC b) false false=some (aC (a++b)) :=by
 have hb:Nat.ble (a.length+b.length) 1000000000=true:=by rw [Nat.ble_eq];exact h
 simp only [rN,aC,aGu,hb,cond,List.length_append,aIa];rfl
end
end Go.Hb
namespace Go.Hb
open Go.Proofs
noncomputable section
def bFh(a:Int):=tT 0 (start PP 200 [(nI a)])<|gd 10 4 (a<26) (gw 5 6 (97+a)<|.i [rn 1,.set 7 (.int .u8 (97+a))] [.a ((IntKind.u8.wrap (97+a)) = (97+a)) (congrArg (AV.int .u8))]<|.i [rn 1,.ans (.ev (aC (dV (97+a))))] [hA (fF [(.int .u8 (97+a))] =some (aC (dV (97+a))))]<|gE 3 1 (aC (dV (97+a))))<|.y fun b:aE=>.i [rn 3,.reg (.d::.ans (.ev (nI (Int.tdiv a 26)))::.d::.pure (aC b)::.d::.ans (.ev (nI (Int.tmod a 26)))::rd 3 [.own (aC (dV (IntKind.u8.wrap (IntKind.i64.wrap (97+ (Int.tmod a 26)))))),.ans (.ev (aC (b++ (dV (IntKind.u8.wrap (IntKind.i64.wrap (97+ (Int.tmod a 26)))))))),.d])] [hA (rN PP .quo 3 (nI a) (nI 26) false true=some (nI (Int.tdiv a 26))),hA (Pure PP 200 [(nI (IntKind.i64.wrap ((Int.tdiv a 26) -1)))] (aC b)),hA (rN PP .rem 3 (nI a) (nI 26) false true=some (nI (Int.tmod a 26))),hA (fF [(.int .u8 (IntKind.u8.wrap (IntKind.i64.wrap (97+ (Int.tmod a 26)))))] =some (aC (dV (IntKind.u8.wrap (IntKind.i64.wrap (97+ (Int.tmod a 26))))))),hA (rN PP .add 9 (aC b) (aC (dV (IntKind.u8.wrap (IntKind.i64.wrap (97+ (Int.tmod a 26)))))) false false=some (aC (b++ (dV (IntKind.u8.wrap (IntKind.i64.wrap (97+ (Int.tmod a 26)))))))),hr (AV.int .u8 (IntKind.u8.wrap (IntKind.i64.wrap (97+ (Int.tmod a 26))))),hr (AV.int .u8 (IntKind.u8.wrap (IntKind.i64.wrap (97+ (Int.tmod a 26)))))]<|gE 1 1 (aC (b++ (dV (IntKind.u8.wrap (IntKind.i64.wrap (97+ (Int.tmod a 26)))))))
def bCD:=fun a b c d e=>bFh a|>.t b c d e tv
def bCE:=fun a b c d e f g i=>bFh a|>.f c b d e f g i tv
def bFi(a:Int):=tT 0 (start PP 247 [(nI a)])<|gd 10 4 (a<26) (gw 5 6 (97+a)<|.i [rn 1,.set 7 (.int .u8 (97+a))] [.a ((IntKind.u8.wrap (97+a)) = (97+a)) (congrArg (AV.int .u8))]<|.i [rn 1,.ans (.ev (aC (dV (97+a))))] [hA (fF [(.int .u8 (97+a))] =some (aC (dV (97+a))))]<|gE 3 1 (aC (dV (97+a))))<|.i [rn 5,.ans (.ev (nI (Int.tdiv a 26)))] [hA (rN PP .quo 3 (nI a) (nI 26) false true=some (nI (Int.tdiv a 26)))]<|gw 1 12 ((Int.tdiv a 26) -1)<|gpS 0 247 [(nI ((Int.tdiv a 26) -1))]<|fun b=>.i [rn 1,.ans (.ev (nI (Int.tmod a 26)))] [hA (rN PP .rem 3 (nI a) (nI 26) false true=some (nI (Int.tmod a 26)))]<|gpS 0 247 [(nI (Int.tmod a 26))]<|fun c=>.i [.ans (.ev (aC (b++c)))] [hA (rN PP .add 9 (aC b) (aC c) false false=some (aC (b++c)))]<|gE 3 0 (aC (b++c))
def bCF:=fun a b c d e=>bFi a|>.t b c d e tv
def bCG:=fun a b c d e f g i j k=>bFi a|>.f d e f b g i c j k tv
end
end Go.Hb
namespace Go.Hb
open Go.Proofs
set_option maxHeartbeats 2000000
noncomputable section
def eX (n:Nat) :aE:=if h:n<26 then dV (97+n)else eX (n / 26-1) ++dV (97+ (n % 26:Nat))
termination_by n
decreasing_by omega
theorem oK {n:Nat}(h:n<26) :eX n=dV (97+n) :=by rw [eX];simp [h]
theorem uK {n:Nat}(h:¬n<26) :eX n=eX (n / 26-1) ++dV (97+ (n % 26:Nat)) :=by rw [eX];simp [h]
theorem aKN :∀ (n:Nat),(eX n).length≤n+1:=by
 intro n
 induction n using Nat.strongRecOn with
 | ind n ih=>
  by_cases h:n<26
  ·rw [oK h];simp [dV]
  · rw [uK h];have:=ih (n / 26-1) (by omega);simp only [List.length_append,dV,List.length_cons,List.length_nil];omega
theorem aWv :∀ (n:Nat),n≤1000000000→Pure PP 200 [.int .i64 (n:Int)] (aC (eX n)) :=by
 intro n
 induction n using Nat.strongRecOn with
 | ind n ih=>
  intro hn;by_cases h:n<26
  · rw [oK h];exact aM (by kernel_rfl) rfl rfl (bCD n (by simp;omega) sd (wrap_u8 (by omega) (by omega)) (oS (by omega) (by omega)))
  · rw [uK h];have e1:Int.tdiv (n:Int) 26= ((n / 26:Nat) :Int) :=by rw [Int.tdiv_eq_ediv_of_nonneg (by omega)];omega
    have e2:Int.tmod (n:Int) 26= ((n % 26:Nat) :Int) :=by rw [Int.tmod_eq_emod_of_nonneg (by omega)];omega
    have e3:IntKind.i64.wrap (Int.tdiv (n:Int) 26-1) = ((n / 26-1:Nat) :Int) :=by
     rw [e1];have: ((n / 26-1:Nat) :Int) = ((n / 26:Nat) :Int) -1:=by omega
     rw [this];exact sd
    have e4:IntKind.u8.wrap (IntKind.i64.wrap (97+Int.tmod (n:Int) 26)) =97+ ((n % 26:Nat) :Int) :=by
     rw [e2];have:IntKind.i64.wrap (97+ ((n % 26:Nat) :Int)) =97+ ((n % 26:Nat) :Int) :=sd;rw [this];exact wrap_u8 (by omega) (by omega)
    have hl:=aKN (n / 26-1);have h0:=bCE n (eX (n / 26-1)) (by simp;omega) (bFf (by omega) (by omega)) (by rw [e3];exact ih _ (by omega) (by omega)) bFg (by rw [e4];exact oS (by omega) (by omega)) (aOY (by rw [e4];simp [dV];omega));rw [e4]at h0;exact aM (by kernel_rfl) rfl rfl h0
theorem aKO :∀ (n:Nat),n≤1000000000→Pure PP 247 [.int .i64 (n:Int)] (aC (eX n)) :=by
 intro n
 induction n using Nat.strongRecOn with
 | ind n ih=>
  intro hn;by_cases h:n<26
  · rw [oK h];exact aM (by kernel_rfl) rfl rfl (bCF n (by simp;omega) sd (wrap_u8 (by omega) (by omega)) (oS (by omega) (by omega)))
  · rw [uK h];have e1:Int.tdiv (n:Int) 26= ((n / 26:Nat) :Int) :=by rw [Int.tdiv_eq_ediv_of_nonneg (by omega)];omega
    have e2:Int.tmod (n:Int) 26= ((n % 26:Nat) :Int) :=by rw [Int.tmod_eq_emod_of_nonneg (by omega)];omega
    have e3:Int.tdiv (n:Int) 26-1= ((n / 26-1:Nat) :Int) :=by rw [e1];omega
    have hl:=aKN (n / 26-1);have h0:=bCG n (eX (n / 26-1)) (eX (n % 26)) (by simp;omega) (bFf (by omega) (by omega)) (by rw [e3];exact sd) (by rw [e3];exact ih _ (by omega) (by omega)) bFg (by rw [e2];exact ih _ (by omega) (by omega)) (aOY (by rw [oK (show n % 26<26 by omega)];simp [dV];omega));rw [oK (show n % 26<26 by omega)]at h0;exact aM (by kernel_rfl) rfl rfl h0
end
end Go.Hb
namespace Go.Hb
open Go.Proofs
noncomputable section
open Go.Proofs Tryz
def bFj(a b:Int)(c:aE)(d:List Pat)(e:List Con)(f:List aE)(g:Int):TS:=bW PP 150 [(.agg [(nI a),(nI b),(aC c),(iP d)]),(iC e),(iS f),(nI g)] [] 0
def zW(a c:Int)(d:aE)(e:List Pat)(f:List Con)(g:List aE)(m:Int)(i:aE)(j k l:Int)(b:List Pat):TS:=⟨(tf 150 68 [(1,(iC f)),(2,(iS g)),(3,(nI k)),kp 4 0,kp 8 1,(9,(nI 0)),kp 10 2,(11,(nI l))] [kc f150 500,kl f150 500,.inBlock 0,kc f150 63]),[],[oC 0 [(nI a),(nI c),(aC d),(iP e)],oC 1 [(nI 0),(nI 0),(.str 0 0),.nils],oC 2 [(nI a),(nI j),(aC i),(.gl 3 4 0 b.length false)],oL 3 4 (Pats.av b)],4⟩
def bFk(a:Prog)(b c:List aE)(d e:Int)(f:aE)(g:List Pat)(i:Int):TS:=bW PP 143 [(.agg [(iN a.nodes),(iI a.funs),(nI a.main),(iC a.cons),(iS b),(iS c)]),(.agg [(nI d),(nI e),(aC f),(iP g)]),(nI i)] [] 0
def aBJ(a:Prog)(d e:List aE)(f l:Int)(m:aE)(b:List Pat)(n:Int)(g:aE)(i j k:Int)(c:List Pat):TS:=⟨(tf 143 65 [(2,(nI i)),kp 3 0,kp 6 1,(7,(nI 0)),kp 8 2,(43,(iP b)),(44,(nI (b.length:Int))),(45,(nI k))] [kc f143 244,kl f143 244,.inBlock 1,kc f143 31]),[],[oC 0 [(iN a.nodes),(iI a.funs),(nI a.main),(iC a.cons),(iS d),(iS e)],oC 1 [(nI 0),(nI 0),(.str 0 0),.nils],oC 2 [(nI f),(nI j),(aC g),(.gl 3 4 0 c.length false)],oL 3 4 (Pats.av c)],4⟩
def aNq(a:Prog)(b:Int)(c d:List aE)(e:Int):TS:=bW PP 82 [(Prog.av a),(nI b),(iS c),(iS d),(nI e)] [] 0
def lH(a:Prog)(o:Int)(c d:List aE)(e f g:Int)(i:List Int)(j:List Pat)(k:Int)(l:aE)(m n:Int)(b:List Pat):TS:=⟨(tf 82 121 [(2,(iS c)),(3,(iS d)),(4,(nI e)),kp 5 0,kp 10 1,kp 11 2,kp 12 3,(13,(nI n))] [kc f82 500,kl f82 500,.inBlock 1,kc f82 63]),[],[oC 0 [(iN a.nodes),(iI a.funs),(nI a.main),(iC a.cons)],oC 1 [(nI 0),(nI 0),(.str 0 0),.nils,.nils],oC 2 [(nI f),(nI g),(iI i),(iP j)],oC 3 [(nI k),(nI m),(aC l),(.gl 4 5 0 ([] :List Term).length false),(.gl 5 4 0 b.length false)],oL 4 5 (Terms.av ([] :List Term)),oL 5 4 (Pats.av b)],6⟩
def aA7(a:Prog)(p:Int)(d e:List aE)(f g i:Int)(j:List Int)(k:List Pat)(l m:Int)(n:aE)(b:List Pat)(o:Int)(c:List Term):TS:=⟨(tf 82 121 [(2,(iS d)),(3,(iS e)),(4,(nI f)),kp 5 0,kp 10 1,kp 11 2,kp 12 3,(16,(nI o))] [kc f82 1012,kl f82 1012,.inBlock 3,kc f82 127]),[],[oC 0 [(iN a.nodes),(iI a.funs),(nI a.main),(iC a.cons)],oC 1 [(nI 0),(nI 0),(.str 0 0),.nils,.nils],oC 2 [(nI g),(nI i),(iI j),(iP k)],oC 3 [(nI l),(nI m),(aC n),(.gl 4 5 0 c.length false),(.gl 5 4 0 b.length false)],oL 4 5 (Terms.av c),oL 5 4 (Pats.av b)],6⟩
def aWw(a:Prog)(b c:List aE)(d e:Int):TS:=bW PP 79 [(.agg [(iN a.nodes),(iI a.funs),(nI a.main),(iC a.cons),(iS b),(iS c)]),(nI d),(nI e)] [] 0
def pX(a:Prog)(c d:List aE)(q e:Int)(f:List Pat)(g i j:Int)(k:List Int)(l:List Pat)(m:Int)(n:aE)(o p:Int)(b:List Pat):TS:=⟨(tf 79 117 [(2,(nI e)),kp 3 0,kp 6 1,kp 7 2,kp 8 3,(74,(iP f)),(75,(nI g)),(76,(nI p))] [kc f79 500,kl f79 500,.inBlock 1,kc f79 63]),[],[oC 0 [(iN a.nodes),(iI a.funs),(nI a.main),(iC a.cons),(iS c),(iS d)],oC 1 [(nI 0),(nI 0),(.str 0 0),.nils,.nils],oC 2 [(nI i),(nI j),(iI k),(iP l)],oC 3 [(nI m),(nI o),(aC n),(.gl 4 5 0 ([] :List Term).length false),(.gl 5 4 0 b.length false)],oL 4 5 (Terms.av ([] :List Term)),oL 5 4 (Pats.av b)],6⟩
def aEs(a:Prog)(e f:List aE)(q g:Int)(b:List Int)(i j k:Int)(l:List Pat)(m n:Int)(o:aE)(c:List Pat)(p:Int)(d:List Term):TS:=⟨(tf 79 117 [(2,(nI g)),kp 3 0,kp 6 1,kp 7 2,kp 8 3,(95,(iI b)),(96,(nI i)),(97,(nI p))] [kc f79 1012,kl f79 1012,.inBlock 3,kc f79 127]),[],[oC 0 [(iN a.nodes),(iI a.funs),(nI a.main),(iC a.cons),(iS e),(iS f)],oC 1 [(nI 0),(nI 0),(.str 0 0),.nils,.nils],oC 2 [(nI j),(nI k),(iI b),(iP l)],oC 3 [(nI m),(nI n),(aC o),(.gl 4 5 0 d.length false),(.gl 5 4 0 c.length false)],oL 4 5 (Terms.av d),oL 5 4 (Pats.av c)],6⟩
def aWx(c a:Int)(g:aE)(i:List Pat)(d:List Con)(f:List aE)(b:Int):=tT 0 (bFj c a g i d f b)<|.b 23 21 (c==2) (gX aC 5 f b<|fun e=>gw 7 28 (b+1)<|.b 9 31 (c==6) (.y fun j:Con=>.i [rn 1,.reg (rd 3 (.ans (.idx (Con.av j))::rd 6 []))] [hA (0≤a),.a (((d)[a.toNat]?) =some j) (cN (f:=Con.av)),hr (aC j.name),hr (aC j.name),hr (nI a),hr (nI a)]<|.i [rn 7,.cnil 2 3 4] []<|gu 0 3 (Pats.av ([] :List Pat))<|gv 0 2 3 (.gl 3 4 0 ([] :List Pat).length false)<|.W 0 4 [0,1,2,3] (zW c a g i d f b j.name 0 (b+1) 0 ([] :List Pat)))<|.i [rn 9,.cnil 2 3 4] []<|gu 0 3 (Pats.av ([] :List Pat))<|gv 0 2 3 (.gl 3 4 0 ([] :List Pat).length false)<|.W 0 4 [0,1,2,3] (zW c a g i d f b e a (b+1) 0 ([] :List Pat)))<|.b 9 31 (c==6) (.y fun e:Con=>.i [rn 1,.reg (rd 3 (.ans (.idx (Con.av e))::rd 6 []))] [hA (0≤a),.a (((d)[a.toNat]?) =some e) (cN (f:=Con.av)),hr (aC e.name),hr (aC e.name),hr (nI a),hr (nI a)]<|.i [rn 7,.cnil 2 3 4] []<|gu 0 3 (Pats.av ([] :List Pat))<|gv 0 2 3 (.gl 3 4 0 ([] :List Pat).length false)<|.W 0 4 [0,1,2,3] (zW c a g i d f b e.name 0 b 0 ([] :List Pat)))<|.i [rn 9,.cnil 2 3 4] []<|gu 0 3 (Pats.av ([] :List Pat))<|gv 0 2 3 (.gl 3 4 0 ([] :List Pat).length false)<|.W 0 4 [0,1,2,3] (zW c a g i d f b (strOf []) a b 0 ([] :List Pat))
def bCH:=fun a b c d e f g i j k l m n=>aWx a b c d e f g|>.t j i k l m|>.f n ⟨bL,trivial⟩
def bCI:=fun a b c d e f g i j k l m=>aWx a b c d e f g|>.f j|>.t k i l m ⟨bL,trivial⟩
def bCJ:=fun a b c d e f g i j=>aWx a b c d e f g|>.f i|>.f j ⟨bL,trivial⟩
def bFl(d o:Int)(p:aE)(a:List Pat)(e:List Con)(f:List aE)(q:Int)(g:aE)(i j b:Int)(c:List Pat):=tT 0 (zW d o p a e f q g i j b c)<|gm 6 aF a<|gd 2 44 (b< (a.length:Int)) (mW 9 a b<|fun s t u v=>.y fun k:Int=>.y fun l:Int=>.y fun m:aE=>.y fun n:List Pat=>.y fun r:Int=>gp 4 150 [(.agg [(nI s),(nI t),(aC u),(iP v)]),(iC e),(iS f),(nI j)] (.tup [(.agg [(nI k),(nI l),(aC m),(iP n)]),(nI r)])<|gA 13 aF c [(Pat.mk k l m n)]<|gw 11 46 (b+1)<|.W 3 7 [0,1,2,6] (zW d o p a e f q g i r (b+1) (c++ [(Pat.mk k l m n)])))<|gY 10 1 3 3 4 aF bL c false<|gE 0 4 (.tup [(.agg [(nI d),(nI i),(aC g),(iP c)]),(nI j)])
def bCK:=fun a b c d e f g i j k l m n o p q r s t u v w x y z A B=>bFl a b c d e f g i j k l m|>.t w n o p q x y r s t u v z A B ⟨bL,trivial⟩
def bCL:=fun a b c d e f g i j k l m n=>bFl a b c d e f g i j k l m|>.f n tv
def aWy(c:Prog)(i g:List aE)(f a:Int)(j:aE)(d:List Pat)(b:Int):=tT 0 (bFk c i g f a j d b)<|.b 29 19 (f==2) (gX aC 6 g b<|fun e=>gw 7 28 (b+1)<|gm 8 aF d<|.i [rn 4,.cnil 3 3 4] []<|gu 0 4 (Pats.av ([] :List Pat))<|gv 0 3 3 (.gl 4 4 0 ([] :List Pat).length false)<|.W 0 5 [0,2,3,4] (aBJ c i g f a j d b e (b+1) a 0 ([] :List Pat)))<|.b 6 29 (f==6) (.y fun e:Con=>.i [rn 1,.reg (rd 6 (.ans (.idx (Con.av e))::rd 6 []))] [hA (0≤a),.a (((c.cons)[a.toNat]?) =some e) (cN (f:=Con.av)),hr (aC e.name),hr (aC e.name),hr (nI a),hr (nI a),hr (AV.ilst 2 (jC c.cons) false),hr (AV.ilst 2 (jC c.cons) false)]<|gm 6 aF d<|.i [rn 4,.cnil 3 3 4] []<|gu 0 4 (Pats.av ([] :List Pat))<|gv 0 3 3 (.gl 4 4 0 ([] :List Pat).length false)<|.W 0 5 [0,2,3,4] (aBJ c i g f a j d b e.name b 0 0 ([] :List Pat)))<|gm 8 aF d<|.i [rn 4,.cnil 3 3 4] []<|gu 0 4 (Pats.av ([] :List Pat))<|gv 0 3 3 (.gl 4 4 0 ([] :List Pat).length false)<|.W 0 5 [0,2,3,4] (aBJ c i g f a j d b (strOf []) b a 0 ([] :List Pat))
def bCM:=fun a b c d e f g i j k l m n=>aWy a b c d e f g i|>.t k j l m n ⟨bL,trivial⟩
def bCN:=fun a b c d e f g i j k l m n=>aWy a b c d e f g i|>.f k|>.t l j m n ⟨bL,trivial⟩
def bCO:=fun a b c d e f g i j k=>aWy a b c d e f g i|>.f j|>.f k ⟨bL,trivial⟩
def bFm(a:Prog)(e f:List aE)(g p:Int)(q:aE)(d:List Pat)(r:Int)(i:aE)(j k b:Int)(c:List Pat):=tT 0 (aBJ a e f g p q d r i j k b c)<|gd 5 46 (b< (d.length:Int)) (mW 6 d b<|fun t u v w=>.y fun l:Int=>.y fun m:Int=>.y fun n:aE=>.y fun o:List Pat=>.y fun s:Int=>gp 13 143 [(.agg [(iN a.nodes),(iI a.funs),(nI a.main),(iC a.cons),(iS e),(iS f)]),(.agg [(nI t),(nI u),(aC v),(iP w)]),(nI j)] (.tup [(.agg [(nI l),(nI m),(aC n),(iP o)]),(nI s)])<|gA 11 aF c [(Pat.mk l m n o)]<|gw 6 62 (b+1)<|.W 3 8 [0,1,2,7] (aBJ a e f g p q d r i s k (b+1) (c++ [(Pat.mk l m n o)])))<|gY 10 1 3 3 4 aF bL c false<|gE 0 4 (.tup [(.agg [(nI g),(nI k),(aC i),(iP c)]),(nI j)])
def bCP:=fun a b c d e f g i j k l m n o p q r s t u v w x y z A B C=>bFm a b c d e f g i j k l m n|>.t x o p q r y z s t u v w A B C ⟨bL,trivial⟩
def bCQ:=fun a b c d e f g i j k l m n o=>bFm a b c d e f g i j k l m n|>.f o tv
def aEt(c:Prog)(f:Int)(g d:List aE)(e:Int):=tT 0 (aNq c f g d e)<|gX Node.av 10 c.nodes f<|fun a=>.b 26 29 (a.op==4) (gd 12 34 (a.n<0) (gw 6 38 ((-1:Int) -a.n)<|gX aC 0 g ((-1:Int) -a.n)<|fun b=>.i [rn 12,.cnil 3 4 4] []<|gu 0 4 (Pats.av ([] :List Pat))<|gv 0 3 4 (.gl 4 4 0 ([] :List Pat).length false)<|.i [.cnil 3 3 5] []<|gu 0 5 (Terms.av ([] :List Term))<|gv 0 3 3 (.gl 5 5 0 ([] :List Term).length false)<|.W 0 6 [0,1,2,3,5,4] (lH c f g d e a.op a.n a.kids a.pats a.op b 0 0 ([] :List Pat)))<|gX aC 5 d a.n<|fun b=>.i [rn 12,.cnil 3 4 4] []<|gu 0 4 (Pats.av ([] :List Pat))<|gv 0 3 4 (.gl 4 4 0 ([] :List Pat).length false)<|.i [.cnil 3 3 5] []<|gu 0 5 (Terms.av ([] :List Term))<|gv 0 3 3 (.gl 5 5 0 ([] :List Term).length false)<|.W 0 6 [0,1,2,3,5,4] (lH c f g d e a.op a.n a.kids a.pats a.op b 0 0 ([] :List Pat)))<|.b 6 48 (a.op==14) (.y fun b:Con=>.i [rn 1,.reg (rd 4 (.ans (.idx (Con.av b))::rd 6 []))] [hA (0≤a.n),.a (((c.cons)[a.n.toNat]?) =some b) (cN (f:=Con.av)),hr (aC b.name),hr (aC b.name),hr (nI a.n),hr (nI a.n),hr (AV.ilst 2 (jC c.cons) false),hr (AV.ilst 2 (jC c.cons) false)]<|.i [rn 8,.cnil 3 4 4] []<|gu 0 4 (Pats.av ([] :List Pat))<|gv 0 3 4 (.gl 4 4 0 ([] :List Pat).length false)<|.i [.cnil 3 3 5] []<|gu 0 5 (Terms.av ([] :List Term))<|gv 0 3 3 (.gl 5 5 0 ([] :List Term).length false)<|.W 0 6 [0,1,2,3,5,4] (lH c f g d e a.op a.n a.kids a.pats a.op b.name 0 0 ([] :List Pat)))<|.b 7 59 (a.op==5) (gX aC 6 d e<|fun b=>.i [rn 12,.cnil 3 4 4] []<|gu 0 4 (Pats.av ([] :List Pat))<|gv 0 3 4 (.gl 4 4 0 ([] :List Pat).length false)<|.i [.cnil 3 3 5] []<|gu 0 5 (Terms.av ([] :List Term))<|gv 0 3 3 (.gl 5 5 0 ([] :List Term).length false)<|.W 0 6 [0,1,2,3,5,4] (lH c f g d e a.op a.n a.kids a.pats a.op b a.n 0 ([] :List Pat)))<|.b 6 59 (a.op==27) (gX aC 6 d e<|fun b=>.i [rn 12,.cnil 3 4 4] []<|gu 0 4 (Pats.av ([] :List Pat))<|gv 0 3 4 (.gl 4 4 0 ([] :List Pat).length false)<|.i [.cnil 3 3 5] []<|gu 0 5 (Terms.av ([] :List Term))<|gv 0 3 3 (.gl 5 5 0 ([] :List Term).length false)<|.W 0 6 [0,1,2,3,5,4] (lH c f g d e a.op a.n a.kids a.pats a.op b a.n 0 ([] :List Pat)))<|.b 5 59 (a.op==7) (gX aC 4 d e<|fun b=>.i [rn 12,.cnil 3 4 4] []<|gu 0 4 (Pats.av ([] :List Pat))<|gv 0 3 4 (.gl 4 4 0 ([] :List Pat).length false)<|.i [.cnil 3 3 5] []<|gu 0 5 (Terms.av ([] :List Term))<|gv 0 3 3 (.gl 5 5 0 ([] :List Term).length false)<|.W 0 6 [0,1,2,3,5,4] (lH c f g d e a.op a.n a.kids a.pats a.op b a.n 0 ([] :List Pat)))<|.i [rn 10,.cnil 3 4 4] []<|gu 0 4 (Pats.av ([] :List Pat))<|gv 0 3 4 (.gl 4 4 0 ([] :List Pat).length false)<|.i [.cnil 3 3 5] []<|gu 0 5 (Terms.av ([] :List Term))<|gv 0 3 3 (.gl 5 5 0 ([] :List Term).length false)<|.W 0 6 [0,1,2,3,5,4] (lH c f g d e a.op a.n a.kids a.pats a.op (strOf []) a.n 0 ([] :List Pat))
def aWz:=fun a b c d e f g i j k l m n o=>aEt a b c d e f i j|>.t k|>.t l m g n o ⟨cY,⟨bL,trivial⟩⟩
def aWA:=fun a b c d e f g i j k l m n=>aEt a b c d e f i j|>.t k|>.f l g m n ⟨cY,⟨bL,trivial⟩⟩
def aWB:=fun a b c d e f g i j k l m n=>aEt a b c d e f i j|>.f k|>.t l g m n ⟨cY,⟨bL,trivial⟩⟩
def aWC:=fun a b c d e f g i j k l m n o=>aEt a b c d e f i j|>.f k|>.f l|>.t m g n o ⟨cY,⟨bL,trivial⟩⟩
def aWD:=fun a b c d e f g i j k l m n o p=>aEt a b c d e f i j|>.f k|>.f l|>.f m|>.t n g o p ⟨cY,⟨bL,trivial⟩⟩
def aWE:=fun a b c d e f g i j k l m n o p q=>aEt a b c d e f i j|>.f k|>.f l|>.f m|>.f n|>.t o g p q ⟨cY,⟨bL,trivial⟩⟩
def aWF:=fun a b c d e f g i j k l m n=>aEt a b c d e f g i|>.f j|>.f k|>.f l|>.f m|>.f n ⟨cY,⟨bL,trivial⟩⟩
def bFn(c:Prog)(l:Int)(m d:List aE)(e n o:Int)(p:List Int)(a:List Pat)(q:Int)(r:aE)(s b:Int)(f:List Pat):=tT 0 (lH c l m d e n o p a q r s b f)<|gm 6 aF a<|gd 2 72 (b< (a.length:Int)) (.y fun t:Int=>.y fun u:Int=>.y fun v:aE=>.y fun w:List Pat=>.y fun g:Int=>.y fun i:Int=>.y fun j:aE=>.y fun k:List Pat=>.y fun x:Int=>.i [rn 5,.reg (rd 3 (.ans (.idx (Pat.av (Pat.mk t u v w)))::rd 5 (.pure (.tup [(.agg [(nI g),(nI i),(aC j),(iP k)]),(nI x)])::rd 6 [])))] [hA (0≤b),.a (((a)[b.toNat]?) =some (Pat.mk t u v w)) (dY aF),hA (Pure PP 150 [(.agg [(nI t),(nI u),(aC v),(iP w)]),(iC c.cons),(iS d),(nI e)] (.tup [(.agg [(nI g),(nI i),(aC j),(iP k)]),(nI x)]))]<|gA 5 aF f [(Pat.mk g i j k)]<|gw 7 74 (b+1)<|.W 3 9 [0,1,2,3,4,8] (lH c l m d e n o p a q r s (b+1) (f++ [(Pat.mk g i j k)])))<|.W 9 6 [0,1,2,3,4,5] (aA7 c l m d e n o p a q s r f 0 ([] :List Term))
def aWG:=fun a b c d e f g i j k l m n o p q r s t u v w x y z A B C D=>bFn a b c d e f g i j k l m n o|>.t y p q r s t u v w x z A B C D ⟨cY,⟨bL,trivial⟩⟩
def aWH:=fun a b c d e f g i j k l m n o p=>bFn a b c d e f g i j k l m n o|>.f p ⟨cY,⟨bL,trivial⟩⟩
def bFo(j:Prog)(w:Int)(m n:List aE)(o p q:Int)(b:List Int)(r:List Pat)(s t:Int)(u:aE)(l:List Pat)(i:Int)(a:List Term):=tT 0 (aA7 j w m n o p q b r s t u l i a)<|gl 6 dF b<|gd 2 98 (i< (b.length:Int)) (.y fun k:Int=>.y fun v:Int=>.y fun c:Int=>.y fun d:Int=>.y fun e:aE=>.y fun f:List Term=>.y fun g:List Pat=>.i [rn 4,.reg (rd 6 (.ans (.idx (dF k))::rd 6 [.pure (nI v),.d,.pure (.agg [(nI c),(nI d),(aC e),(.ilst 5 (Terms.av f) false),(iP g)]),.d,.app (Terms.av (a++ [(Term.mk c d e f g)])) (a++ [(Term.mk c d e f g)]).length,.d,.d]))] [hA (0≤i),.a (((b)[i.toNat]?) =some k) (cN (f:=dF)),hA (Pure PP 151 [(.agg [(nI p),(nI q),(iI b),(iP r)]),(nI i)] (nI v)),hA (Pure PP 82 [(Prog.av j),(nI k),(iS m),(iS n),(nI (IntKind.i64.wrap (o+v)))] (.agg [(nI c),(nI d),(aC e),(.ilst 5 (Terms.av f) false),(iP g)])),hB bS a,hA (List.length (a++ [(Term.mk c d e f g)]) ≤1000000),hC bS a [(Term.mk c d e f g)],hE bS a [(Term.mk c d e f g)],hr (nI k),hr (nI k),hr (AV.ilst 1 (jI b) false),hr (AV.ilst 1 (jI b) false),hr (Prog.av j),hr (Prog.av j),hr (AV.gl 4 5 0 a.length false),hr (AV.gl 4 5 0 a.length false),hr (AV.gl 4 5 0 a.length false)]<|gw 4 100 (i+1)<|.W 3 8 [0,1,2,3,7,5] (aA7 j w m n o p q b r s t u l (i+1) (a++ [(Term.mk c d e f g)])))<|gY 8 1 3 4 5 bS cY a false<|gY 0 1 4 5 4 aF bL l false<|gE 0 6 (.agg [(nI s),(nI t),(aC u),(.ilst 5 (Terms.av a) false),(iP l)])
def aWI:=fun a b c d e f g i j k l m n o p q r s t u v w x y z A B C D=>bFo a b c d e f g i j k l m n o p|>.t x q r s t u v w y z A B C D ⟨cY,⟨bL,trivial⟩⟩
def aWJ:=fun a b c d e f g i j k l m n o p q=>bFo a b c d e f g i j k l m n o p|>.f q tv
def aEu(c:Prog)(f d:List aE)(g e:Int):=tT 0 (aWw c f d g e)<|gX Node.av 12 c.nodes g<|fun a=>.b 26 29 (a.op==4) (gd 12 34 (a.n<0) (gw 7 39 ((-1:Int) -a.n)<|gX aC 0 f ((-1:Int) -a.n)<|fun b=>gm 10 aF a.pats<|.i [rn 4,.cnil 3 4 4] []<|gu 0 4 (Pats.av ([] :List Pat))<|gv 0 3 4 (.gl 4 4 0 ([] :List Pat).length false)<|.i [.cnil 3 3 5] []<|gu 0 5 (Terms.av ([] :List Term))<|gv 0 3 3 (.gl 5 5 0 ([] :List Term).length false)<|.W 0 6 [0,1,2,3,5,4] (pX c f d g e a.pats (a.pats.length:Int) a.op a.n a.kids a.pats a.op b 0 0 ([] :List Pat)))<|gX aC 6 d a.n<|fun b=>gm 10 aF a.pats<|.i [rn 4,.cnil 3 4 4] []<|gu 0 4 (Pats.av ([] :List Pat))<|gv 0 3 4 (.gl 4 4 0 ([] :List Pat).length false)<|.i [.cnil 3 3 5] []<|gu 0 5 (Terms.av ([] :List Term))<|gv 0 3 3 (.gl 5 5 0 ([] :List Term).length false)<|.W 0 6 [0,1,2,3,5,4] (pX c f d g e a.pats (a.pats.length:Int) a.op a.n a.kids a.pats a.op b 0 0 ([] :List Pat)))<|.b 6 50 (a.op==14) (.y fun b:Con=>.i [rn 1,.reg (rd 6 (.ans (.idx (Con.av b))::rd 6 []))] [hA (0≤a.n),.a (((c.cons)[a.n.toNat]?) =some b) (cN (f:=Con.av)),hr (aC b.name),hr (aC b.name),hr (nI a.n),hr (nI a.n),hr (AV.ilst 2 (jC c.cons) false),hr (AV.ilst 2 (jC c.cons) false)]<|gm 6 aF a.pats<|.i [rn 4,.cnil 3 4 4] []<|gu 0 4 (Pats.av ([] :List Pat))<|gv 0 3 4 (.gl 4 4 0 ([] :List Pat).length false)<|.i [.cnil 3 3 5] []<|gu 0 5 (Terms.av ([] :List Term))<|gv 0 3 3 (.gl 5 5 0 ([] :List Term).length false)<|.W 0 6 [0,1,2,3,5,4] (pX c f d g e a.pats (a.pats.length:Int) a.op a.n a.kids a.pats a.op b.name 0 0 ([] :List Pat)))<|.b 7 63 (a.op==5) (gX aC 7 d e<|fun b=>gm 10 aF a.pats<|.i [rn 4,.cnil 3 4 4] []<|gu 0 4 (Pats.av ([] :List Pat))<|gv 0 3 4 (.gl 4 4 0 ([] :List Pat).length false)<|.i [.cnil 3 3 5] []<|gu 0 5 (Terms.av ([] :List Term))<|gv 0 3 3 (.gl 5 5 0 ([] :List Term).length false)<|.W 0 6 [0,1,2,3,5,4] (pX c f d g e a.pats (a.pats.length:Int) a.op a.n a.kids a.pats a.op b a.n 0 ([] :List Pat)))<|.b 6 63 (a.op==27) (gX aC 7 d e<|fun b=>gm 10 aF a.pats<|.i [rn 4,.cnil 3 4 4] []<|gu 0 4 (Pats.av ([] :List Pat))<|gv 0 3 4 (.gl 4 4 0 ([] :List Pat).length false)<|.i [.cnil 3 3 5] []<|gu 0 5 (Terms.av ([] :List Term))<|gv 0 3 3 (.gl 5 5 0 ([] :List Term).length false)<|.W 0 6 [0,1,2,3,5,4] (pX c f d g e a.pats (a.pats.length:Int) a.op a.n a.kids a.pats a.op b a.n 0 ([] :List Pat)))<|.b 5 63 (a.op==7) (gX aC 5 d e<|fun b=>gm 10 aF a.pats<|.i [rn 4,.cnil 3 4 4] []<|gu 0 4 (Pats.av ([] :List Pat))<|gv 0 3 4 (.gl 4 4 0 ([] :List Pat).length false)<|.i [.cnil 3 3 5] []<|gu 0 5 (Terms.av ([] :List Term))<|gv 0 3 3 (.gl 5 5 0 ([] :List Term).length false)<|.W 0 6 [0,1,2,3,5,4] (pX c f d g e a.pats (a.pats.length:Int) a.op a.n a.kids a.pats a.op b a.n 0 ([] :List Pat)))<|gm 8 aF a.pats<|.i [rn 4,.cnil 3 4 4] []<|gu 0 4 (Pats.av ([] :List Pat))<|gv 0 3 4 (.gl 4 4 0 ([] :List Pat).length false)<|.i [.cnil 3 3 5] []<|gu 0 5 (Terms.av ([] :List Term))<|gv 0 3 3 (.gl 5 5 0 ([] :List Term).length false)<|.W 0 6 [0,1,2,3,5,4] (pX c f d g e a.pats (a.pats.length:Int) a.op a.n a.kids a.pats a.op (strOf []) a.n 0 ([] :List Pat))
def bCR:=fun a b c d e f g i j k l m n o=>aEu a b c d e f i j|>.t k|>.t l m g n o ⟨cY,⟨bL,trivial⟩⟩
def bCS:=fun a b c d e f g i j k l m n=>aEu a b c d e f i j|>.t k|>.f l g m n ⟨cY,⟨bL,trivial⟩⟩
def bCT:=fun a b c d e f g i j k l m n=>aEu a b c d e f i j|>.f k|>.t l g m n ⟨cY,⟨bL,trivial⟩⟩
def bCU:=fun a b c d e f g i j k l m n o=>aEu a b c d e f i j|>.f k|>.f l|>.t m g n o ⟨cY,⟨bL,trivial⟩⟩
def bCV:=fun a b c d e f g i j k l m n o p=>aEu a b c d e f i j|>.f k|>.f l|>.f m|>.t n g o p ⟨cY,⟨bL,trivial⟩⟩
def bCW:=fun a b c d e f g i j k l m n o p q=>aEu a b c d e f i j|>.f k|>.f l|>.f m|>.f n|>.t o g p q ⟨cY,⟨bL,trivial⟩⟩
def bCX:=fun a b c d e f g i j k l m n=>aEu a b c d e f g i|>.f j|>.f k|>.f l|>.f m|>.f n ⟨cY,⟨bL,trivial⟩⟩
def bFp(a:Prog)(d e:List aE)(i f:Int)(j:List Pat)(k l m:Int)(b:List Int)(n:List Pat)(o:Int)(p:aE)(q c:Int)(g:List Pat):=tT 0 (pX a d e i f j k l m b n o p q c g)<|gd 5 77 (c<k) (mW 6 j c<|fun v w x y=>.y fun r:Int=>.y fun s:Int=>.y fun t:aE=>.y fun u:List Pat=>.y fun z:Int=>gp 9 143 [(.agg [(iN a.nodes),(iI a.funs),(nI a.main),(iC a.cons),(iS d),(iS e)]),(.agg [(nI v),(nI w),(aC x),(iP y)]),(nI f)] (.tup [(.agg [(nI r),(nI s),(aC t),(iP u)]),(nI z)])<|gA 12 aF g [(Pat.mk r s t u)]<|gw 6 93 (c+1)<|.W 3 10 [0,1,2,3,4,9] (pX a d e i f j k l m b n o p q (c+1) (g++ [(Pat.mk r s t u)])))<|gl 7 dF b<|.W 4 6 [0,1,2,3,4,5] (aEs a d e i f b (b.length:Int) l m n o q p g 0 ([] :List Term))
def bCY:=fun a b c d e f g i j k l m n o p q r s t u v w x y z A B C D F G=>bFp a b c d e f g i j k l m n o p q|>.t A r s t u B C v w x y z D F G ⟨cY,⟨bL,trivial⟩⟩
def bCZ:=fun a b c d e f g i j k l m n o p q r=>bFp a b c d e f g i j k l m n o p q|>.f r ⟨cY,⟨bL,trivial⟩⟩
def bFq(a:Prog)(j k:List aE)(w n:Int)(l:List Int)(o p q:Int)(r:List Pat)(s t:Int)(u:aE)(m:List Pat)(i:Int)(b:List Term):=tT 0 (aEs a j k w n l o p q r s t u m i b)<|gd 5 98 (i<o) (gX dF 7 l i<|fun x=>.y fun v:Int=>.y fun c:Int=>.y fun d:Int=>.y fun e:aE=>.y fun f:List Term=>.y fun g:List Pat=>.i [rn 4,.reg (rd 7 [.pure (nI v),.d,.pure (.agg [(nI c),(nI d),(aC e),(.ilst 5 (Terms.av f) false),(iP g)]),.d,.app (Terms.av (b++ [(Term.mk c d e f g)])) (b++ [(Term.mk c d e f g)]).length,.d,.d])] [hA (Pure PP 141 [(.agg [(nI p),(nI q),(iI l),(iP r)]),(nI i)] (nI v)),hA (Pure PP 79 [(.agg [(iN a.nodes),(iI a.funs),(nI a.main),(iC a.cons),(iS j),(iS k)]),(nI x),(nI (IntKind.i64.wrap (n+v)))] (.agg [(nI c),(nI d),(aC e),(.ilst 5 (Terms.av f) false),(iP g)])),hB bS b,hA (List.length (b++ [(Term.mk c d e f g)]) ≤1000000),hC bS b [(Term.mk c d e f g)],hE bS b [(Term.mk c d e f g)],hr (AV.agg [(iN a.nodes),(iI a.funs),(nI a.main),(iC a.cons),(iS j),(iS k)]),hr (AV.agg [(iN a.nodes),(iI a.funs),(nI a.main),(iC a.cons),(iS j),(iS k)]),hr (AV.gl 4 5 0 b.length false),hr (AV.gl 4 5 0 b.length false),hr (AV.gl 4 5 0 b.length false)]<|gw 3 115 (i+1)<|.W 3 8 [0,1,2,3,7,5] (aEs a j k w n l o p q r s t u m (i+1) (b++ [(Term.mk c d e f g)])))<|gY 8 1 3 4 5 bS cY b false<|gY 0 1 4 5 4 aF bL m false<|gE 0 6 (.agg [(nI s),(nI t),(aC u),(.ilst 5 (Terms.av b) false),(iP m)])
def bC0:=fun a b c d e f g i j k l m n o p q r s t u v w x y z A B C D F=>bFq a b c d e f g i j k l m n o p q|>.t y r z A s t u v w x B C D F ⟨cY,⟨bL,trivial⟩⟩
def bC1:=fun a b c d e f g i j k l m n o p q r=>bFq a b c d e f g i j k l m n o p q|>.f r tv
end
end Go.Hb
namespace Go.Hb
open Go.Proofs
set_option maxHeartbeats 4000000
noncomputable section
def hdN (cl:List Con)(pl:List aE)(f n k:Int) :Option (Int×aE×Int) :=
 if f=2 then if 0≤k then match pl[k.toNat]? with
  |some s=>some (n,s,k+1)
  |none=>none else none
 else if f=6 then if 0≤n then match cl[n.toNat]? with
  |some c=>some (0,c.name,k)
  |none=>none else none
 else some (n,[],k)
mutual
def zX (cl:List Con)(pl:List aE) :Pat→Int→Option (Pat×Int)
 | .mk f n _ ps,k=>match hdN cl pl f n k with
  | some h=>match kN cl pl ps h.2.2 with
   |some r=>some (.mk f h.1 h.2.1 r.1,r.2)
   |none=>none
  |none=>none
def kN (cl:List Con)(pl:List aE) :List Pat→Int→Option (List Pat×Int)
 | [],k=>some ([],k)
 | p::ps,k=>match zX cl pl p k with
  | some q=>match kN cl pl ps q.2 with
   |some r=>some (q.1::r.1,r.2)
   |none=>none
  |none=>none
end
abbrev NP (cl:List Con)(pl:List aE)(q:Pat) :Prop:=∀k r,zX cl pl q k=some r→Pure PP 150 [Pat.av q,.ilst 2 (List.map Con.av cl) false,.ilst 1 (List.map aC pl) false,.int .i64 k] (.tup [Pat.av r.1,.int .i64 r.2])
theorem aA8 (f n:Int)(s:aE)(ps:List Pat)(cl:List Con)(pl:List aE)(k0:Int)(t':aE)(n':Int)(hl:ps.length<1000000)(ih:∀q∈ps,NP cl pl q) :
  ∀ (t:List Pat) (i:Nat) (k:Int) (acc:List Pat) (r:List Pat×Int),ps.drop i=t→kN cl pl t k=some r→acc.length=i →
   Ends PP 0 (zW f n s ps cl pl k0 t' n' k (i:Int) acc).as (.ret (.tup [.agg [.int .i64 f,.int .i64 n',aC t',.ilst 4 (Pats.av (acc++r.1)) false],.int .i64 r.2])) (aG [] 0)
 | [],i,k,acc,r,h,hr,ha=>by
  have:=bD h;rw [kN]at hr;cases hr;rw [List.append_nil];exact bCL f n s ps cl pl k0 t' n' k i acc sd
 | .mk f' n1 s' ps'::t,i,k,acc,r,h,hr,ha=>by
  obtain⟨g1,g2,g3⟩ :=bB h;rw [kN]at hr;split at hr
  · rename_i q hq;split at hr
    · rename_i r' hr';cases hr;obtain⟨⟨a1,a2,a3,a4⟩,a5⟩ :=q;refine(bCK f n s ps cl pl k0 t' n' k i acc f' n1 s' ps' a1 a2 a3 a4 a5 sd sd sd (ih _ (List.mem_of_getElem? g1) _ _ hq) (by simp;omega) sd).ends ?_;have:=aA8 f n s ps cl pl k0 t' n' hl ih t (i+1) a5 (acc++ [.mk a1 a2 a3 a4]) r' g2 hr' (by simp;omega);rw [List.append_assoc]at this;exact this
    ·cases hr
  ·cases hr
mutual
theorem aKP (cl:List Con)(pl:List aE)(hpl:pl.length≤1000000000) :∀ (q:Pat),aP q<1000000→NP cl pl q
 | .mk f n s ps,hp,k,r,h=>by
  simp only [aP]at hp;have:=cL ps;refine bM (s:=bFj f n s ps cl pl k) (by kernel_rfl) (by kernel_rfl) (by simp [AV.keylessL,AV.keyless,fC]) (by simp [AV.keyless,AV.keylessL,fC]) ?_;rw [zX]at h;unfold hdN at h;have ih:=aOZ cl pl hpl ps (by omega);by_cases hf:f=2
  · rw [if_pos hf]at h;by_cases hk:0≤k
    · rw [if_pos hk]at h;cases hs:pl[k.toNat]? with
      |none=>rw [hs]at h;cases h
      | some y=>
       rw [hs]at h;simp only at h;split at h
       · rename_i r' hr';cases h;have hb:= (List.getElem?_eq_some_iff.1 hs).1;exact(bCH f n s ps cl pl k y (by simp [hf]) hk hs sd (by simp [hf])).ends (aA8 f n s ps cl pl k y n (by omega) ih ps 0 (k+1) [] r' rfl hr' rfl)
       ·cases h
    ·rw [if_neg hk]at h;cases h
  · rw [if_neg hf]at h;by_cases hf6:f=6
    · rw [if_pos hf6]at h;by_cases hk:0≤n
      · rw [if_pos hk]at h;cases hs:cl[n.toNat]? with
        |none=>rw [hs]at h;cases h
        | some y=>
         rw [hs]at h;simp only at h;split at h
         · rename_i r' hr';cases h;exact(bCI f n s ps cl pl k y (by simp [hf]) (by simp [hf6]) hk hs).ends (aA8 f n s ps cl pl k y.name 0 (by omega) ih ps 0 k [] r' rfl hr' rfl)
         ·cases h
      ·rw [if_neg hk]at h;cases h
    · rw [if_neg hf6]at h;simp only at h;split at h
      · rename_i r' hr';cases h;exact(bCJ f n s ps cl pl k (by simp [hf]) (by simp [hf6])).ends (aA8 f n s ps cl pl k [] n (by omega) ih ps 0 k [] r' rfl hr' rfl)
      ·cases h
theorem aOZ (cl:List Con)(pl:List aE)(hpl:pl.length≤1000000000) :∀ (ps:List Pat),aK ps<1000000→∀q∈ps,NP cl pl q
 | [],_,q,hq=>by cases hq
 | p::ps,h,q,hq=>by
  simp only [aK]at h;rcases List.mem_cons.1 hq with e|hq
  ·rw [e];exact aKP cl pl hpl p (by omega)
  ·exact aOZ cl pl hpl ps (by omega) q hq
end
abbrev XV (p:Prog)(fl pl:List aE) :AV:=.agg [.ilst 4 (List.map Node.av p.nodes) false,.ilst 1 (List.map dF p.funs) false,.int .i64 p.main,.ilst 2 (List.map Con.av p.cons) false,.ilst 1 (List.map aC fl) false,.ilst 1 (List.map aC pl) false]
abbrev NB (p:Prog)(fl pl:List aE)(q:Pat) :Prop:=∀k r,zX p.cons pl q k=some r→Pure PP 143 [XV p fl pl,Pat.av q,.int .i64 k] (.tup [Pat.av r.1,.int .i64 r.2])
theorem aA9 (p:Prog)(fl pl:List aE)(f n:Int)(s:aE)(ps:List Pat)(k0:Int)(t':aE)(n':Int)(hl:ps.length<1000000)(ih:∀q∈ps,NB p fl pl q) :
  ∀ (t:List Pat) (i:Nat) (k:Int) (acc:List Pat) (r:List Pat×Int),ps.drop i=t→kN p.cons pl t k=some r→acc.length=i →
   Ends PP 0 (aBJ p fl pl f n s ps k0 t' k n' (i:Int) acc).as (.ret (.tup [.agg [.int .i64 f,.int .i64 n',aC t',.ilst 4 (Pats.av (acc++r.1)) false],.int .i64 r.2])) (aG [] 0)
 | [],i,k,acc,r,h,hr,ha=>by
  have:=bD h;rw [kN]at hr;cases hr;rw [List.append_nil];exact bCQ p fl pl f n s ps k0 t' k n' i acc sd
 | .mk f' n1 s' ps'::t,i,k,acc,r,h,hr,ha=>by
  obtain⟨g1,g2,g3⟩ :=bB h;rw [kN]at hr;split at hr
  · rename_i q hq;split at hr
    · rename_i r' hr';cases hr;obtain⟨⟨a1,a2,a3,a4⟩,a5⟩ :=q;refine(bCP p fl pl f n s ps k0 t' k n' i acc f' n1 s' ps' a1 a2 a3 a4 a5 sd sd sd (ih _ (List.mem_of_getElem? g1) _ _ hq) (by simp;omega) sd).ends ?_;have:=aA9 p fl pl f n s ps k0 t' n' hl ih t (i+1) a5 (acc++ [.mk a1 a2 a3 a4]) r' g2 hr' (by simp;omega);rw [List.append_assoc]at this;exact this
    ·cases hr
  ·cases hr
mutual
theorem aKQ (p:Prog)(fl pl:List aE)(hx:AV.keyless (XV p fl pl) =true)(hpl:pl.length≤1000000000) :∀ (q:Pat),aP q<1000000→NB p fl pl q
 | .mk f n s ps,hp,k,r,h=>by
  simp only [aP]at hp;have:=cL ps;refine bM (s:=bFk p fl pl f n s ps k) (by kernel_rfl) (by kernel_rfl) (by simp only [AV.keylessL,hx,fC];rfl) (by simp [AV.keyless,AV.keylessL,fC]) ?_;rw [zX]at h;unfold hdN at h;have ih:=aO0 p fl pl hx hpl ps (by omega);by_cases hf:f=2
  · rw [if_pos hf]at h;by_cases hk:0≤k
    · rw [if_pos hk]at h;cases hs:pl[k.toNat]? with
      |none=>rw [hs]at h;cases h
      | some y=>
       rw [hs]at h;simp only at h;split at h
       · rename_i r' hr';cases h;have hb:= (List.getElem?_eq_some_iff.1 hs).1;exact(bCM p fl pl f n s ps k y (by simp [hf]) hk hs sd).ends (aA9 p fl pl f n s ps k y n (by omega) ih ps 0 (k+1) [] r' rfl hr' rfl)
       ·cases h
    ·rw [if_neg hk]at h;cases h
  · rw [if_neg hf]at h;by_cases hf6:f=6
    · rw [if_pos hf6]at h;by_cases hk:0≤n
      · rw [if_pos hk]at h;cases hs:p.cons[n.toNat]? with
        |none=>rw [hs]at h;cases h
        | some y=>
         rw [hs]at h;simp only at h;split at h
         · rename_i r' hr';cases h;exact(bCN p fl pl f n s ps k y (by simp [hf]) (by simp [hf6]) hk hs).ends (aA9 p fl pl f n s ps k y.name 0 (by omega) ih ps 0 k [] r' rfl hr' rfl)
         ·cases h
      ·rw [if_neg hk]at h;cases h
    · rw [if_neg hf6]at h;simp only at h;split at h
      · rename_i r' hr';cases h;exact(bCO p fl pl f n s ps k (by simp [hf]) (by simp [hf6])).ends (aA9 p fl pl f n s ps k [] n (by omega) ih ps 0 k [] r' rfl hr' rfl)
      ·cases h
theorem aO0 (p:Prog)(fl pl:List aE)(hx:AV.keyless (XV p fl pl) =true)(hpl:pl.length≤1000000000) :∀ (ps:List Pat),aK ps<1000000→∀q∈ps,NB p fl pl q
 | [],_,q,hq=>by cases hq
 | p'::ps,h,q,hq=>by
  simp only [aK]at h;rcases List.mem_cons.1 hq with e|hq
  ·rw [e];exact aKQ p fl pl hx hpl p' (by omega)
  ·exact aO0 p fl pl hx hpl ps (by omega) q hq
end
end
end Go.Hb
namespace Go.Hb
open Go.Proofs
set_option maxHeartbeats 4000000
noncomputable section
def hdT (p:Prog)(fl pl:List aE)(x:Node)(sz:Int) :Option (Int×aE) :=
 if x.op=4 then if x.n<0 then match fl[(-1-x.n).toNat]? with
   |some s=>some (0,s)
   |none=>none else match pl[x.n.toNat]? with
   |some s=>some (0,s)
   |none=>none
 else if x.op=14 then if 0≤x.n then match p.cons[x.n.toNat]? with
  |some c=>some (0,c.name)
  |none=>none else none
 else if x.op=5∨x.op=27∨x.op=7 then match pl[sz.toNat]? with
  |some s=>some (x.n,s)
  |none=>none
 else some (x.n,[])
def kO (cl:List Con)(pl:List aE)(sz:Int) :List Pat→Option (List Pat)
 | [] =>some []
 | p::ps=>match zX cl pl p sz with
  | some q=>match kO cl pl sz ps with
   |some qs=>some (q.1::qs)
   |none=>none
  |none=>none
def kP (g:Int→Int→Option Term)(x:Node)(sz:Int) :List Int→Nat→Option (List Term)
 | [],_=>some []
 | c::cs,i=>match g c (sz+bJ x i)with
  | some t=>match kP g x sz cs (i+1)with
   |some ts=>some (t::ts)
   |none=>none
  |none=>none
def gV (p:Prog)(fl pl:List aE) :Nat→Int→Int→Option Term
 |0,_,_=>none
 | d +1,a,sz=>if 0≤a∧0≤sz∧sz≤1000000000 then match p.nodes[a.toNat]? with
  | some x=>match hdT p fl pl x sz with
   | some h=>match kO p.cons pl sz x.pats with
    | some qs=>match kP (gV p fl pl d) x sz x.kids 0 with
     |some ts=>some (.mk x.op h.1 h.2 ts qs)
     |none=>none
    |none=>none
   |none=>none
  |none=>none else none
structure TB (p:Prog) (fl pl:List aE) (A:Nat) :Prop where
 fl:fl.length≤1000000000
 pl:pl.length≤1000000000
 ks:∀x∈p.nodes,x.kids.length<1000000∧x.pats.length<1000000∧∀q∈x.pats,aP q<1000000
 ad:∀x∈p.nodes,∀i:Nat,i<x.kids.length→Pure PP A [Node.av x,.int .i64 (i:Int)] (.int .i64 (bJ x i))
 kl:AV.keyless (PA p) =true
theorem aEv {p:Prog}{fl pl:List aE}{d:Nat}{a sz:Int}{t:Term}(h:gV p fl pl d a sz=some t) :0≤sz∧sz≤1000000000:=by
 cases d with
 |zero=>rw [gV]at h;cases h
 | succ d=>
  rw [gV]at h;split at h
  ·rename_i g;exact⟨g.2.1,g.2.2⟩
  ·cases h
theorem bFs {p:Prog}{fl pl:List aE}(h:AV.keyless (PA p) =true) :AV.keyless (XV p fl pl) =true:=by
 simp only [AV.keyless,AV.keylessL,Bool.and_eq_true,Bool.and_true]at h ⊢
theorem aGb (p:Prog)(fl pl:List aE)(hb:TB p fl pl 151)(a sz:Int)(x:Node)(hx:x∈p.nodes)(n':Int)(s:aE) :
  ∀ (t:List Pat) (i:Nat) (acc qs:List Pat),x.pats.drop i=t→kO p.cons pl sz t=some qs→acc.length=i →
   LeadsM PP 0 (lH p a fl pl sz  x.op x.n x.kids x.pats x.op s n' (i:Int) acc).as (aA7 p a fl pl sz x.op x.n x.kids x.pats x.op n' s (acc++qs) 0 ([] :List Term)).as
 | [],i,acc,qs,h,hq,ha=>by
  have:=bD h;rw [kO]at hq;cases hq;rw [List.append_nil];exact aWH p a fl pl sz  x.op x.n x.kids x.pats x.op s n' i acc sd
 | .mk f' n1 s' ps'::t,i,acc,qs,h,hq,ha=>by
  obtain⟨g1,g2,g3⟩ :=bB h;obtain⟨b1,b2,b3⟩ :=hb.ks x hx;rw [kO]at hq;split at hq
  · rename_i q hq1;split at hq
    · rename_i qs' hq';cases hq;obtain⟨⟨a1,a2,a3,a4⟩,a5⟩ :=q;refine(aWG p a fl pl sz  x.op x.n x.kids x.pats x.op s n' i acc f' n1 s' ps' a1 a2 a3 a4 a5 sd sd sd (aKP p.cons pl hb.pl _ (b3 _ (List.mem_of_getElem? g1)) _ _ hq1) (by simp;omega) sd).trans ?_;have:=aGb p fl pl hb a sz x hx n' s t (i+1) (acc++ [.mk a1 a2 a3 a4]) qs' g2 hq' (by simp;omega);rw [List.append_assoc]at this;exact this
    ·cases hq
  ·cases hq
theorem aGc (p:Prog)(fl pl:List aE)(hb:TB p fl pl 151)(a sz:Int)(x:Node)(hx:x∈p.nodes)(n':Int)(s:aE)(qs:List Pat)(d:Nat)
  (hs:0≤sz∧sz≤1000000000) (ih:∀c sz' t,gV p fl pl d c sz'=some t→Pure PP 82 [PA p,.int .i64 c,.ilst 1 (List.map aC fl) false,.ilst 1 (List.map aC pl) false,.int .i64 sz'] (Term.av t)) :
  ∀ (t:List Int) (i:Nat) (acc ts:List Term),x.kids.drop i=t→kP (gV p fl pl d) x sz t i=some ts→acc.length=i →
   Ends PP 0 (aA7 p a fl pl sz x.op x.n x.kids x.pats x.op n' s qs (i:Int) acc).as (.ret (.agg [.int .i64 x.op,.int .i64 n',aC s,.ilst 5 (Terms.av (acc++ts)) false,.ilst 4 (Pats.av qs) false])) (aG [] 0)
 | [],i,acc,ts,h,hk,ha=>by
  have:=bD h;rw [kP]at hk;cases hk;rw [List.append_nil];exact aWJ p a fl pl sz x.op x.n x.kids x.pats x.op n' s qs (i:Int) acc sd
 | c ::t,i,acc,ts,h,hk,ha=>by
  obtain⟨g1,g2,g3⟩ :=bB h;obtain⟨b1,b2,b3⟩ :=hb.ks x hx;rw [kP]at hk;split at hk
  · rename_i t1 h1;split at hk
    · rename_i ts' hk';cases hk;have hr:=aEv h1;have hp:=ih _ _ _ h1;obtain⟨a1,a2,a3,a4,a5⟩ :=t1;have e:IntKind.i64.wrap (sz+bJ x i) =sz+bJ x i:=wrap64 (by omega) (by omega);refine(aWI p a fl pl sz x.op x.n x.kids x.pats x.op n' s qs (i:Int) acc c (bJ x i) a1 a2 a3 a4 a5 sd sd sd (hb.ad x hx i g3) (by rw [e];exact hp) (by simp;omega) sd).ends ?_;have:=aGc p fl pl hb a sz x hx n' s qs d hs ih t (i+1) (acc++ [.mk a1 a2 a3 a4 a5]) ts' g2 hk' (by simp;omega);rw [List.append_assoc]at this;exact this
    ·cases hk
  ·cases hk
theorem rNd5_pure (p : Prog)(fl pl:List aE)(hb:TB p fl pl 151) :∀ (d:Nat) (c sz':Int) (t:Term),gV p fl pl d c sz'=some t→Pure PP 82 [PA p,.int .i64 c,.ilst 1 (List.map aC fl) false,.ilst 1 (List.map aC pl) false,.int .i64 sz'] (Term.av t)
 |0,_,_,_,h=>by rw [gV]at h;cases h
 | d + 1, a, sz, t, h =>by
  rw [gV]at h;split at h
  · rename_i hr;cases hx:p.nodes[a.toNat]? with
    |none=>rw [hx]at h;cases h
    | some x =>
     rw [hx]at h;simp only at h;have hm:=List.mem_of_getElem? hx;cases hh:hdT p fl pl x sz with
     |none=>rw [hh]at h;cases h
     | some hd =>
      rw [hh]at h;simp only at h;split at h
      · rename_i qs hq;split at h
        · rename_i ts hk;cases h;obtain⟨n',s⟩ :=hd;have ih:=rNd5_pure p fl pl hb d;have hfl:=hb.fl;have hpl:=hb.pl;refine bM (s:=aNq p a fl pl sz) (by kernel_rfl) (by kernel_rfl) (by simp only [AV.keylessL,hb.kl];simp [AV.keyless]) (eF _) ?_;have go : LeadsM PP 0 (aNq p a fl pl sz).as (lH p a fl pl sz  x.op x.n x.kids x.pats x.op s n' ((0:Nat) :Int) []).as:=by
           unfold hdT at hh;by_cases h4:x.op=4
           · rw [if_pos h4]at hh;by_cases hn:x.n<0
             · rw [if_pos hn]at hh;cases hy:fl[(-1-x.n).toNat]? with
               |none=>rw [hy]at hh;cases hh
               | some y=>
                rw [hy]at hh;cases hh;have:= (List.getElem?_eq_some_iff.1 hy).1;exact aWz p a fl pl sz x _ hr.1 hx (by simp [h4]) (by simp [hn]) (wrap64 (by omega) (by omega)) (by omega) hy
             · rw [if_neg hn]at hh;cases hy:pl[x.n.toNat]? with
               |none=>rw [hy]at hh;cases hh
               | some y=>
                rw [hy]at hh;cases hh;exact aWA p a fl pl sz x _ hr.1 hx (by simp [h4]) (by simp;omega) (by omega) hy
           · rw [if_neg h4]at hh;by_cases h14:x.op=14
             · rw [if_pos h14]at hh;by_cases hn:0≤x.n
               · rw [if_pos hn]at hh;cases hy:p.cons[x.n.toNat]? with
                 |none=>rw [hy]at hh;cases hh
                 | some y=>
                  rw [hy]at hh;cases hh;exact aWB p a fl pl sz x _ hr.1 hx (by simp [h4]) (by simp [h14]) hn hy
               ·rw [if_neg hn]at hh;cases hh
             · rw [if_neg h14]at hh;by_cases hb3:x.op=5∨x.op=27∨x.op=7
               · rw [if_pos hb3]at hh;cases hy:pl[sz.toNat]? with
                 |none=>rw [hy]at hh;cases hh
                 | some y=>
                  rw [hy]at hh;cases hh;by_cases h5:x.op=5
                  ·exact aWC p a fl pl sz x _ hr.1 hx (by simp [h4]) (by simp [h14]) (by simp [h5]) hr.2.1 hy
                  · by_cases h27:x.op=27
                    ·exact aWD p a fl pl sz x _ hr.1 hx (by simp [h4]) (by simp [h14]) (by simp [h5]) (by simp [h27]) hr.2.1 hy
                    · have h7:x.op=7:=by omega
                      exact aWE p a fl pl sz x _ hr.1 hx (by simp [h4]) (by simp [h14]) (by simp [h5]) (by simp [h27]) (by simp [h7]) hr.2.1 hy
               · rw [if_neg hb3]at hh;cases hh;exact aWF p a fl pl sz x hr.1 hx (by simp [h4]) (by simp [h14]) (by simp;omega) (by simp;omega) (by simp;omega)
          exact(go.trans (aGb p fl pl hb a sz x hm n' s x.pats 0 [] qs rfl hq rfl)).ends (aGc p fl pl hb a sz x hm n' s qs d hr.2 ih x.kids 0 [] ts rfl hk rfl)
        ·cases h
      ·cases h
  ·cases h
theorem aKR (p:Prog)(fl pl:List aE)(hb:TB p fl pl 141)(a sz:Int)(x:Node)(hx:x∈p.nodes)(n':Int)(s:aE) :
  ∀ (t:List Pat) (i:Nat) (acc qs:List Pat),x.pats.drop i=t→kO p.cons pl sz t=some qs→acc.length=i →
   LeadsM PP 0 (pX p fl pl a sz x.pats ((List.length x.pats:Nat) :Int) x.op x.n x.kids x.pats x.op s n' (i:Int) acc).as (aEs p fl pl a sz x.kids ((List.length x.kids:Nat) :Int) x.op x.n x.pats x.op n' s (acc++qs) 0 ([] :List Term)).as
 | [],i,acc,qs,h,hq,ha=>by
  have:=bD h;rw [kO]at hq;cases hq;rw [List.append_nil];exact bCZ p fl pl a sz x.pats ((List.length x.pats:Nat) :Int) x.op x.n x.kids x.pats x.op s n' i acc sd
 | .mk f' n1 s' ps'::t,i,acc,qs,h,hq,ha=>by
  obtain⟨g1,g2,g3⟩ :=bB h;obtain⟨b1,b2,b3⟩ :=hb.ks x hx;rw [kO]at hq;split at hq
  · rename_i q hq1;split at hq
    · rename_i qs' hq';cases hq;obtain⟨⟨a1,a2,a3,a4⟩,a5⟩ :=q;refine(bCY p fl pl a sz x.pats ((List.length x.pats:Nat) :Int) x.op x.n x.kids x.pats x.op s n' i acc f' n1 s' ps' a1 a2 a3 a4 a5 sd sd sd (aKQ p fl pl (bFs hb.kl) hb.pl _ (b3 _ (List.mem_of_getElem? g1)) _ _ hq1) (by simp;omega) sd).trans ?_;have:=aKR p fl pl hb a sz x hx n' s t (i+1) (acc++ [.mk a1 a2 a3 a4]) qs' g2 hq' (by simp;omega);rw [List.append_assoc]at this;exact this
    ·cases hq
  ·cases hq
theorem aKS (p:Prog)(fl pl:List aE)(hb:TB p fl pl 141)(a sz:Int)(x:Node)(hx:x∈p.nodes)(n':Int)(s:aE)(qs:List Pat)(d:Nat)
  (hs:0≤sz∧sz≤1000000000) (ih:∀c sz' t,gV p fl pl d c sz'=some t→Pure PP 79 [XV p fl pl,.int .i64 c,.int .i64 sz'] (Term.av t)) :
  ∀ (t:List Int) (i:Nat) (acc ts:List Term),x.kids.drop i=t→kP (gV p fl pl d) x sz t i=some ts→acc.length=i →
   Ends PP 0 (aEs p fl pl a sz x.kids ((List.length x.kids:Nat) :Int) x.op x.n x.pats x.op n' s qs (i:Int) acc).as (.ret (.agg [.int .i64 x.op,.int .i64 n',aC s,.ilst 5 (Terms.av (acc++ts)) false,.ilst 4 (Pats.av qs) false])) (aG [] 0)
 | [],i,acc,ts,h,hk,ha=>by
  have:=bD h;rw [kP]at hk;cases hk;rw [List.append_nil];exact bC1 p fl pl a sz x.kids ((List.length x.kids:Nat) :Int) x.op x.n x.pats x.op n' s qs (i:Int) acc sd
 | c ::t,i,acc,ts,h,hk,ha=>by
  obtain⟨g1,g2,g3⟩ :=bB h;obtain⟨b1,b2,b3⟩ :=hb.ks x hx;rw [kP]at hk;split at hk
  · rename_i t1 h1;split at hk
    · rename_i ts' hk';cases hk;have hr:=aEv h1;have hp:=ih _ _ _ h1;obtain⟨a1,a2,a3,a4,a5⟩ :=t1;have e:IntKind.i64.wrap (sz+bJ x i) =sz+bJ x i:=wrap64 (by omega) (by omega);refine(bC0 p fl pl a sz x.kids ((List.length x.kids:Nat) :Int) x.op x.n x.pats x.op n' s qs (i:Int) acc c (bJ x i) a1 a2 a3 a4 a5 sd sd sd (hb.ad x hx i g3) (by rw [e];exact hp) (by simp;omega) sd).ends ?_;have:=aKS p fl pl hb a sz x hx n' s qs d hs ih t (i+1) (acc++ [.mk a1 a2 a3 a4 a5]) ts' g2 hk' (by simp;omega);rw [List.append_assoc]at this;exact this
    ·cases hk
  ·cases hk
theorem bSt_pure (p : Prog)(fl pl:List aE)(hb:TB p fl pl 141) :∀ (d:Nat) (c sz':Int) (t:Term),gV p fl pl d c sz'=some t→Pure PP 79 [XV p fl pl,.int .i64 c,.int .i64 sz'] (Term.av t)
 |0,_,_,_,h=>by rw [gV]at h;cases h
 | d + 1, a, sz, t, h =>by
  rw [gV]at h;split at h
  · rename_i hr;cases hx:p.nodes[a.toNat]? with
    |none=>rw [hx]at h;cases h
    | some x =>
     rw [hx]at h;simp only at h;have hm:=List.mem_of_getElem? hx;cases hh:hdT p fl pl x sz with
     |none=>rw [hh]at h;cases h
     | some hd =>
      rw [hh]at h;simp only at h;split at h
      · rename_i qs hq;split at h
        · rename_i ts hk;cases h;obtain⟨n',s⟩ :=hd;have ih:=bSt_pure p fl pl hb d;have hfl:=hb.fl;have hpl:=hb.pl;refine bM (s:=aWw p fl pl a sz) (by kernel_rfl) (by kernel_rfl) (by simp only [AV.keylessL,bFs hb.kl];rfl) (eF _) ?_;have go : LeadsM PP 0 (aWw p fl pl a sz).as (pX p fl pl a sz x.pats ((List.length x.pats:Nat) :Int) x.op x.n x.kids x.pats x.op s n' ((0:Nat) :Int) []).as:=by
           unfold hdT at hh;by_cases h4:x.op=4
           · rw [if_pos h4]at hh;by_cases hn:x.n<0
             · rw [if_pos hn]at hh;cases hy:fl[(-1-x.n).toNat]? with
               |none=>rw [hy]at hh;cases hh
               | some y=>
                rw [hy]at hh;cases hh;have:= (List.getElem?_eq_some_iff.1 hy).1;exact bCR p fl pl a sz x _ hr.1 hx (by simp [h4]) (by simp [hn]) (wrap64 (by omega) (by omega)) (by omega) hy
             · rw [if_neg hn]at hh;cases hy:pl[x.n.toNat]? with
               |none=>rw [hy]at hh;cases hh
               | some y=>
                rw [hy]at hh;cases hh;exact bCS p fl pl a sz x _ hr.1 hx (by simp [h4]) (by simp;omega) (by omega) hy
           · rw [if_neg h4]at hh;by_cases h14:x.op=14
             · rw [if_pos h14]at hh;by_cases hn:0≤x.n
               · rw [if_pos hn]at hh;cases hy:p.cons[x.n.toNat]? with
                 |none=>rw [hy]at hh;cases hh
                 | some y=>
                  rw [hy]at hh;cases hh;exact bCT p fl pl a sz x _ hr.1 hx (by simp [h4]) (by simp [h14]) hn hy
               ·rw [if_neg hn]at hh;cases hh
             · rw [if_neg h14]at hh;by_cases hb3:x.op=5∨x.op=27∨x.op=7
               · rw [if_pos hb3]at hh;cases hy:pl[sz.toNat]? with
                 |none=>rw [hy]at hh;cases hh
                 | some y=>
                  rw [hy]at hh;cases hh;by_cases h5:x.op=5
                  ·exact bCU p fl pl a sz x _ hr.1 hx (by simp [h4]) (by simp [h14]) (by simp [h5]) hr.2.1 hy
                  · by_cases h27:x.op=27
                    ·exact bCV p fl pl a sz x _ hr.1 hx (by simp [h4]) (by simp [h14]) (by simp [h5]) (by simp [h27]) hr.2.1 hy
                    · have h7:x.op=7:=by omega
                      exact bCW p fl pl a sz x _ hr.1 hx (by simp [h4]) (by simp [h14]) (by simp [h5]) (by simp [h27]) (by simp [h7]) hr.2.1 hy
               · rw [if_neg hb3]at hh;cases hh;exact bCX p fl pl a sz x hr.1 hx (by simp [h4]) (by simp [h14]) (by simp;omega) (by simp;omega) (by simp;omega)
          exact(go.trans (aKR p fl pl hb a sz x hm n' s x.pats 0 [] qs rfl hq rfl)).ends (aKS p fl pl hb a sz x hm n' s qs d hr.2 ih x.kids 0 [] ts rfl hk rfl)
        ·cases h
      ·cases h
  ·cases h
end
end Go.Hb
namespace Go.Hb
open Go.Proofs
noncomputable section
open Go.Proofs Tryz
def sK(a b:Int)(c:aE)(d:List Pat)(e f:Int):TS:=⟨(tf 202 24 [kp 1 0,(2,(nI 0)),(3,(nI e)),(4,(nI f))] [kc f202 244,kl f202 244,.inBlock 0,kc f202 31]),[],[oC 0 [(nI a),(nI b),(aC c),(iP d)]],1⟩
def xT(a:Prog)(c:Int)(b:List Int):TS:=⟨(tf 201 67 [kp 1 0,(2,.nils),(3,(.gl 1 1 0 b.length true)),(4,(nI c))] [kc f201 116,kl f201 116,.inBlock 0,kc f201 15]),[],[oC 0 [(iN a.nodes),(iI a.funs),(nI a.main),(iC a.cons)],oL 1 1 (jI b)],2⟩
def sL(a:Prog)(b:List Int)(c:Int):TS:=⟨(tf 201 67 [kp 1 0,(2,.nils),(3,(.gl 1 1 0 b.length true)),(5,(nI c))] [kc f201 244,kl f201 244,.inBlock 2,kc f201 31]),[],[oC 0 [(iN a.nodes),(iI a.funs),(nI a.main),(iC a.cons)],oL 1 1 (jI b)],2⟩
def xU(a:Prog)(b:List Int)(c d:Int):TS:=⟨(tf 201 67 [kp 1 0,(2,.nils),(3,(.gl 1 1 0 b.length true)),(5,(nI d)),(6,(nI c))] [kc f201 15652,kl f201 15652,.inBlock 4,.inBlock 3,kc f201 979,kl f201 244,.inBlock 2,kc f201 31]),[],[oC 0 [(iN a.nodes),(iI a.funs),(nI a.main),(iC a.cons)],oL 1 1 (jI b)],2⟩
def aGd(a:Node)(b:Int):=tT 0 (start PP 151 [(Node.av a),(nI b)])<|.b 18 7 (a.op==5) (gE 8 1 (nI 1))<|.b 5 7 (a.op==27) (gE 6 1 (nI 1))<|.b 6 10 (a.op==7) (gE 7 1 (nI b))<|.b 6 13 (a.op==15) (gd 6 16 (b>0) (gw 7 20 (b-1)<|mW 0 a.pats (b-1)<|fun c d e f=>gpI 1 202 [(.agg [(nI c),(nI d),(aC e),(iP f)])]<|fun g=>gE 3 1 (nI g))<|gE 8 1 (nI 0))<|gE 8 1 (nI 0)
def aQ3:=fun a b c=>aGd a b|>.t c tv
def aQ4:=fun a b c d=>aGd a b|>.f c|>.t d tv
def aQ5:=fun a b c d e=>aGd a b|>.f c|>.f d|>.t e tv
def aQ6:=fun a b c d e f g i j k l m n o p q=>aGd a b|>.f i|>.f j|>.f k|>.t l|>.t m n c d e f o p g q tv
def aQ7:=fun a b c d e f g=>aGd a b|>.f c|>.f d|>.f e|>.t f|>.f g tv
def aQ8:=fun a b c d e f=>aGd a b|>.f c|>.f d|>.f e|>.f f tv
def bFt(a b:Int)(c:aE)(d:List Pat):=tT 0 (start PP 202 [(.agg [(nI a),(nI b),(aC c),(iP d)])])<|.b 16 7 (a==2) (.W 11 1 [0] (sK a b c d 1 0))<|.W 9 1 [0] (sK a b c d 0 0)
def aNr:=fun a b c d e=>bFt a b c d|>.t e tv
def aNs:=fun a b c d e=>bFt a b c d|>.f e tv
def bFu(d e:Int)(f:aE)(a:List Pat)(c b:Int):=tT 0 (sK d e f a c b)<|gm 6 aF a<|gd 2 12 (b< (a.length:Int)) (mW 9 a b<|fun i j k l=>gpI 1 202 [(.agg [(nI i),(nI j),(aC k),(iP l)])]<|fun g=>gw 1 22 (c+g)<|gw 6 14 (b+1)<|.W 3 1 [0] (sK d e f a (c+g) (b+1)))<|gE 8 1 (nI c)
def aNt:=fun a b c d e f g i j k l m n o p q r=>bFu a b c d e f|>.t m g i j k n o l p q r tv
def aNu:=fun a b c d e f g=>bFu a b c d e f|>.f g tv
def aNv (a:Prog):=fun b=>(tT 0 (start PP 201 [(Prog.av a)])<|gl 9 Node.av a.nodes<|.i [.mk a.nodes.length] [hr ((a.nodes.length:Nat) :Int),hr ((a.nodes.length:Nat) :Int),hA (a.nodes.length<100000)]<|.i [.lset 1 (jI (List.replicate a.nodes.length (0:Int)))] [.q (p:=List.replicate a.nodes.length (dF (0:Int)) = (jI (List.replicate a.nodes.length (0:Int)))) (aHh _ _ _)]<|.i [.set 10 (.gl 1 1 0 (List.replicate a.nodes.length (0:Int)).length true)] [.q (p:=(AV.gl 1 1 0 a.nodes.length true) = (.gl 1 1 0 (List.replicate a.nodes.length (0:Int)).length true)) (cG (List.length_replicate ..).symm)]<|.W 9 2 [0,1] (xT a 0 (List.replicate a.nodes.length (0:Int)))) b ⟨kk,trivial⟩
def bFv(c:Prog)(d:Int)(a:List Int):=tT 0 (xT c d a)<|gl 6 dF c.funs<|gd 2 15 (d< (c.funs.length:Int)) (gX dF 9 c.funs d<|fun b=>.i [rn 1,.ans (.ix)] [hA (0≤b),hA (b< (a.length:Int))]<|.y fun e:Int=>.i [.st (dF e) (dF 1)] [.a (((a)[b.toNat]?) =some e) (iT (f:=dF)),hr (some (dF 1))]<|.i [.lset 1 (jI (List.set a b.toNat 1))] [.q (p:=(jI a).set (0+b.toNat) (dF 1) = (jI (List.set a b.toNat 1))) (pI _ _ _ _)]<|.i [.set 3 (.gl 1 1 0 (List.set a b.toNat 1).length true)] [.q (p:=(AV.gl 1 1 0 a.length true) = (.gl 1 1 0 (List.set a b.toNat 1).length true)) (cG (List.length_set ..).symm)]<|.i [.set 18 (.gl 1 1 0 (List.set a b.toNat 1).length true)] [.q (p:=(AV.gl 1 1 0 a.length true) = (.gl 1 1 0 (List.set a b.toNat 1).length true)) (cG (List.length_set ..).symm)]<|gw 5 17 (d+1)<|.W 3 2 [0,1] (xT c (d+1) (List.set a b.toNat 1)))<|.W 9 2 [0,1] (sL c a 0)
def aNw:=fun a b c d e f g i j k l m=>bFv a b c|>.t f d g i j k e l m ⟨kk,trivial⟩
def aNx:=fun a b c d=>bFv a b c|>.f d ⟨kk,trivial⟩
def bFw(a:Prog)(b:List Int)(c:Int):=tT 0 (sL a b c)<|gl 6 Node.av a.nodes<|gd 2 29 (c< (a.nodes.length:Int)) (.W 10 2 [0,1] (xU a b 0 c))<|gz 8 2 1 1 dF b true<|gE 0 2 (.ilst 1 (jI b) true)
def aNy:=fun a b c d=>bFw a b c|>.t d ⟨kk,trivial⟩
def aNz:=fun a b c d=>bFw a b c|>.f d tv
def bFx(g:Prog)(a:List Int)(i d:Int):=tT 0 (xU g a i d)<|gX Node.av 7 g.nodes d<|fun f=>gl 2 dF f.kids<|gd 2 40 (i< (f.kids.length:Int)) (.y fun c:Int=>.y fun b:Int=>.y fun e:Int=>.y fun j:Int=>.i [rn 4,.regA (rd 4 (.ans (.idx (Node.av f))::rd 3 (.ans (.idx (dF c))::rd 3 (.ans (.ix)::.ans (.idx (dF b))::rd 3 [.ans (.idx (Node.av f)),.d,.d,.pure (nI e),.d,.ans (.ix),.st (dF j) (dF (IntKind.i64.wrap (b+e)))])))) [(some (.idx (dF b))),none,none,none]] [hA (0≤d),.a (((g.nodes)[d.toNat]?) =some f) (cN (f:=Node.av)),hA (0≤i),.a (((f.kids)[i.toNat]?) =some c) (cN (f:=dF)),hA (0≤d),hA (d< (a.length:Int)),.a (((a)[d.toNat]?) =some b) (iT (f:=dF)),hA (0≤d),.a (((g.nodes)[d.toNat]?) =some f) (cN (f:=Node.av)),hA (Pure PP 151 [(Node.av f),(nI i)] (nI e)),hA (0≤c),hA (c< (a.length:Int)),.a (((a)[c.toNat]?) =some j) (iT (f:=dF)),hr (some (dF (IntKind.i64.wrap (b+e)))),hr (nI b),.a (((a)[d.toNat]?) =some b) (iT (f:=dF)),hr (nI b),.a (((a)[d.toNat]?) =some b) (iT (f:=dF)),hr (nI c),hr (nI c),hr (AV.ilst 1 (jI f.kids) false),hr (AV.ilst 1 (jI f.kids) false),hr (AV.ilst 4 (jN g.nodes) false),hr (AV.ilst 4 (jN g.nodes) false)]<|.i [.lset 1 (jI (List.set a c.toNat (IntKind.i64.wrap (b+e))))] [.q (p:=(jI a).set (0+c.toNat) (dF (IntKind.i64.wrap (b+e))) = (jI (List.set a c.toNat (IntKind.i64.wrap (b+e))))) (pI _ _ _ _)]<|.i [.set 3 (.gl 1 1 0 (List.set a c.toNat (IntKind.i64.wrap (b+e))).length true)] [.q (p:=(AV.gl 1 1 0 a.length true) = (.gl 1 1 0 (List.set a c.toNat (IntKind.i64.wrap (b+e))).length true)) (cG (List.length_set ..).symm)]<|.i [.set 43 (.gl 1 1 0 (List.set a c.toNat (IntKind.i64.wrap (b+e))).length true)] [.q (p:=(AV.gl 1 1 0 a.length true) = (.gl 1 1 0 (List.set a c.toNat (IntKind.i64.wrap (b+e))).length true)) (cG (List.length_set ..).symm)]<|.i [.set 53 (.gl 1 1 0 (List.set a c.toNat (IntKind.i64.wrap (b+e))).length true)] [.q (p:=(AV.gl 1 1 0 a.length true) = (.gl 1 1 0 (List.set a c.toNat (IntKind.i64.wrap (b+e))).length true)) (cG (List.length_set ..).symm)]<|gw 4 42 (i+1)<|.W 3 2 [0,1] (xU g (List.set a c.toNat (IntKind.i64.wrap (b+e))) (i+1) d))<|gw 6 31 (d+1)<|.W 3 2 [0,1] (sL g a (d+1))
def aNA:=fun d e f g i j k l m a b n o p q c r s t u v=>bFx d e f g i a b|>.t n j k l m a b o p a q c a b r s t u c c v ⟨kk,trivial⟩
def aNB:=fun a b c d e f g i j=>bFx a b c d e f g|>.f i j ⟨kk,trivial⟩
end
end Go.Hb
namespace Go.Hb
open Go.Proofs
set_option maxHeartbeats 4000000
noncomputable section
mutual
def rnm :Pat→Int
 | .mk f _ _ ps=> (if f=2 then 1 else 0) +wR ps
def wR :List Pat→Int
 | [] =>0
 |p::ps=>rnm p+wR ps
end
mutual
theorem aNC :∀p,0≤rnm p∧rnm p≤aP p
 | .mk f _ _ ps=>by
  have:=xW ps;simp only [rnm,aP];split<;>omega
theorem xW :∀ps,0≤wR ps∧wR ps≤aK ps
 | [] =>by simp [wR,aK]
 | p::ps=>by
  have:=aNC p;have:=xW ps;simp only [wR,aK];omega
end
mutual
theorem aWL (cons:List Con) :∀p,cT cons p=true→bnm p=rnm p
 | .mk f n s ps,h=>by
  simp only [cT,Bool.and_eq_true]at h;have:=aWM cons ps h.2;simp only [bnm,rnm];by_cases g:f=2
  · have hk:=h.1;subst g;simp only [dA]at hk;simp at hk;obtain⟨⟨hk,_⟩,_⟩ :=hk;subst hk;simp [wR]
  ·rw [if_neg g,if_neg g,this];omega
theorem aWM (cons:List Con) :∀ps,cB cons ps=true→aCD ps=wR ps
 | [],_=>rfl
 | p::ps,h=>by
  simp only [cB,Bool.and_eq_true]at h;simp only [aCD,wR,aWL cons p h.1,aWM cons ps h.2]
end
theorem wS (f n:Int)(s:aE)(ps:List Pat)(hl:ps.length<1000000)(ih:∀p∈ps,Pure PP 202 [Pat.av p] (.int .i64 (rnm p))) :
  ∀ (t:List Pat) (i:Nat) (a:Int),0≤a→a+wR t≤1000000→ps.drop i=t→Ends PP 0 (sK f n s ps a (i:Int)).as (.ret (.int .i64 (a+wR t))) (aG [] 0)
 | [],i,a,_,_,h=>by
  have:=bD h;exact Ends.eqv (aNu f n s ps a i sd) (by simp [wR])
 | .mk f' n' s' ps'::t,i,a,ha,hb,h=>by
  obtain⟨g1,g2,g3⟩ :=bB h;have ihp:=ih _ (List.mem_of_getElem? g1);have b1:=aNC (.mk f' n' s' ps');have b2:=xW t;rw [wR]at hb ⊢;refine(aNt f n s ps a i f' n' s' ps' _ sd sd sd ihp sd sd).ends ?_;exact Ends.eqv (wS f n s ps hl ih t (i+1) (a+rnm (.mk f' n' s' ps')) (by omega) (by omega) g2) (by rw [Int.add_assoc])
mutual
theorem aCn :∀ (p:Pat),aP p<100000→Pure PP 202 [Pat.av p] (.int .i64 (rnm p))
 | .mk f n s ps,h=>by
  refine aM (by kernel_rfl) (by simp [AV.keylessL,fC]) rfl ?_;simp only [aP]at h;have:=cL ps;have b:=xW ps;by_cases g:f=2
  · subst g;refine(aNr 2 n s ps rfl).ends ?_;exact Ends.eqv (wS 2 n s ps (by omega) (zY ps (by omega)) ps 0 1 (by omega) (by omega) rfl) (by simp [rnm])
  · refine(aNs f n s ps (by simpa using g)).ends ?_;exact Ends.eqv (wS f n s ps (by omega) (zY ps (by omega)) ps 0 0 (by omega) (by omega) rfl) (by simp [rnm,g])
theorem zY :∀ (ps:List Pat),aK ps<100000→∀p∈ps,Pure PP 202 [Pat.av p] (.int .i64 (rnm p))
 | [],_,p,hp=>by cases hp
 | q::ps,h,p,hp=>by
  simp only [aK]at h;rcases List.mem_cons.1 hp with e|hp
  ·rw [e];exact aCn q (by omega)
  ·exact zY ps (by omega) p hp
end
theorem aEw {cons:List Con}{x:Node}(hf:FineN cons x){k:Int}(h0:0≤k)(h1:k<x.kids.length)(hk:x.kids.length≤10) :Pure PP 151 [Node.av x,.int .i64 k] (.int .i64 (bJ x k)) :=by
 refine aM (by kernel_rfl) rfl rfl ?_;by_cases g5:x.op=5
 ·exact Ends.eqv (aQ3 x k (by simp [g5])) (by simp [bJ,g5])
 · by_cases g27:x.op=27
   ·exact Ends.eqv (aQ4 x k (by simp [g5]) (by simp [g27])) (by simp [bJ,g27])
   · by_cases g7:x.op=7
     · have:=hf.let2 g7;refine Ends.eqv (aQ5 x k (by simp [g5]) (by simp [g27]) (by simp [g7])) ?_;by_cases gk:k=1
       ·simp [bJ,g7,gk]
       · have:k=0:=by omega
         simp [bJ,g7,this]
     · by_cases g15:x.op=15
       · by_cases gk:k>0
         · have hl:=hf.mat g15;obtain⟨q,hq⟩ :∃q,x.pats[(k-1).toNat]?=some q:= ⟨_,List.getElem?_eq_getElem (by omega)⟩;obtain⟨f,n,s,ps⟩ :=q;have hpo:=hf.pats _ (List.mem_of_getElem? hq);have hp:=aCn (.mk f n s ps) (by omega);rw [←aWL cons _ hpo.2]at hp;exact Ends.eqv (aQ6 x k f n s ps _ (by simp [g5]) (by simp [g27]) (by simp [g7]) (by simp [g15]) (by simpa using gk) sd (by omega) hq hp) (by rw [aBG g15 gk hq])
         ·exact Ends.eqv (aQ7 x k (by simp [g5]) (by simp [g27]) (by simp [g7]) (by simp [g15]) (by simpa using gk)) (by simp [bJ,g15,gk])
       ·exact Ends.eqv (aQ8 x k (by simp [g5]) (by simp [g27]) (by simp [g7]) (by simp [g15])) (by simp [bJ,g5,g27,g7,g15])
def upTo (B:Int)(l:List Int) :Prop:=∀z∈l,0≤z∧z≤B
theorem hR {E:Emb}{e:Nat}{xs:List AV}{cv:Value}(h:VR E (.ilst e xs true) cv) :VR E (.ilst e xs false) cv:=by
 simp only [VR]at h ⊢;obtain⟨vs,h1,h2,h3⟩ :=h;refine⟨vs,h1,h2,?_⟩;rcases h3 with⟨a1,a,cap,a2,a3,a4⟩ | ⟨k,a,cap,C,a1,a2,a3,a4,a5⟩
 ·exact .inl ⟨a1,a,cap,a2,a3,fun e=> (by cases e)⟩
 ·exact .inr ⟨k,a,cap,C,a1,a2,a3,fun e=> (by cases e),a5⟩
theorem aWN {B:Int}{l:List Int}(h:upTo B l){i:Nat}(hi:i<l.length) :0≤l.getD i 0∧l.getD i 0≤B:=by
 rw [List.getD_eq_getElem?_getD,List.getElem?_eq_getElem hi];exact h _ (List.getElem_mem hi)
theorem aKU {B C:Int}{l:List Int}(h:upTo B l)(hBC:B≤C){i:Nat}{z:Int}(h0:0≤z)(h1:z≤C) :upTo C (l.set i z) :=fun k hk=>by
 rcases List.mem_or_eq_of_mem_set hk with g|g
 ·have:=h k g;omega
 ·rw [g];exact⟨h0,h1⟩
theorem aQ9 {B C:Int}{l:List Int}(h:upTo B l)(hBC:B≤C) :upTo C l:=fun k hk=>by have:=h k hk;omega
theorem bIm {p:Prog}(hp:FineP p){i:Nat}{x:Node}(hx:p.nodes[i]?=some x){res:AV}{h':Hp} :
  ∀ (t:List Int) (j:Nat) (l:List Int) (B:Int),l.length=p.nodes.length→0≤B→upTo B l→B+12*t.length≤1000000→x.kids.drop j=t →
   (upTo (B+12*t.length) (kD x i j t l) →Ends PP 0 (sL p (kD x i j t l) ((i:Int) +1)).as (.ret res) h') →Ends PP 0 (xU p l (j:Int) (i:Int)).as (.ret res) h'
 | [],j,l,B,hl,h0,hB,hb,h,hk=>by
  have:=bD h;have hi:= (List.getElem?_eq_some_iff.1 hx).1;have hn:=hp.small;refine(aNB p l j i x sd sd sd sd).ends (hk ?_);simpa [kD]using hB
 | k::t,j,l,B,hl,h0,hB,hb,h,hk=>by
  obtain⟨g1,g2,g3⟩ :=bB h;obtain⟨hf,hk10,hks⟩ :=hp.node _ _ hx;have hk':=hks k (List.mem_of_getElem? g1);have hi:= (List.getElem?_eq_some_iff.1 hx).1;have hn:=hp.small;have ha:=sH hf (j:Int);have hz:=aWN hB (i:=i) (by omega);have hli:l[i]?=some (l.getD i 0) :=by rw [List.getD_eq_getElem?_getD,List.getElem?_eq_getElem (by omega)];rfl
  obtain⟨y,hy⟩ :∃y,l[k.toNat]?=some y:= ⟨_,List.getElem?_eq_getElem (by omega)⟩;simp only [List.length_cons]at hb;have ew:IntKind.i64.wrap (l.getD i 0+bJ x j) =l.getD i 0+bJ x j:=wrap64 (by omega) (by omega);have st:=aNA p l j i x k (l.getD i 0) (bJ x j) y sd sd sd sd sd (by omega) sd (aEw hf (by omega) (by omega) hk10) (by omega) (by omega) hy sd;rw [ew]at st;refine st.ends ?_;refine bIm hp hx t (j+1) (l.set k.toNat (l.getD i 0+bJ x j)) (B+12) (by simpa using hl) (by omega) (aKU hB (by omega) (by omega) (by omega)) (by omega) g2 (fun hu=>?_);have:=hk (by rw [kD];exact aQ9 hu (by simp only [List.length_cons];omega));rw [kD]at this;exact this
theorem rS1 {p:Prog}(hp:FineP p) :∀ (t:List Node) (i:Nat) (l:List Int) (B:Int),l.length=p.nodes.length→0≤B→upTo B l→B+120*t.length≤1000000→p.nodes.drop i=t →
  Ends PP 0 (sL p l (i:Int)).as (.ret (.ilst 1 (List.map dF (jO i t l)) true)) (aG [] 0)
 | [],i,l,B,hl,h0,hB,hb,h=>by
  have:=bD h;exact aNz p l i sd
 | x::t,i,l,B,hl,h0,hB,hb,h=>by
  obtain⟨g1,g2,g3⟩ :=bB h;obtain⟨hf,hk10,hks⟩ :=hp.node _ _ g1;simp only [List.length_cons]at hb;refine(aNy p l i sd).ends ?_;refine bIm hp g1 x.kids 0 l B hl h0 hB (by omega) rfl (fun hu=>?_);rw [jO];exact rS1 hp t (i+1) _ (B+12*x.kids.length) (by rw [uH,hl]) (by omega) hu (by omega) g2
theorem rS0 {p:Prog}(hp:FineP p) :∀ (t:List Int) (i:Nat) (l:List Int),l.length=p.nodes.length→upTo 1 l→p.funs.drop i=t →
  Ends PP 0 (xT p (i:Int) l).as (.ret (.ilst 1 (List.map dF (jO 0 p.nodes (rK t l))) true)) (aG [] 0)
 | [],i,l,hl,hB,h=>by
  have:=bD h;have hn:=hp.small;refine(aNx p i l sd).ends ?_;exact rS1 hp p.nodes 0 l 1 hl (by omega) hB (by omega) rfl
 | a::t,i,l,hl,hB,h=>by
  obtain⟨g1,g2,g3⟩ :=bB h;have ha:=hp.funs a (List.mem_of_getElem? g1);have hf:=hp.fsmall;obtain⟨y,hy⟩ :∃y,l[a.toNat]?=some y:= ⟨_,List.getElem?_eq_getElem (by omega)⟩;refine(aNw p i l a y sd sd sd (by omega) (by omega) hy sd).ends ?_;exact rS0 hp t (i+1) _ (by simpa using hl) (aKU hB (by omega) (by omega) (by omega)) g2
theorem aKV {p:Prog}(hp:FineP p) :Pure PP 201 [Prog.av p] (.ilst 1 (List.map dF (fD p)) false) :=by
 refine aM (by kernel_rfl) rfl rfl ?_;have hn:=hp.small;refine Ends.val ?_ (fun E cv=>hR);refine(aNv p (by omega)).ends ?_;exact rS0 hp p.funs 0 _ (by simp) (fun z hz=>by have:= (List.mem_replicate.1 hz).2;omega) rfl
end
end Go.Hb
namespace Go.Hb
open Go.Proofs
noncomputable section
open Go.Proofs Tryz
def aIb(a b:Int)(c:aE)(d:List Term)(e:List Pat)(f g:Int)(i:aE)(j:List Term)(k:List Pat)(l:Int):TS:=⟨(tf 28 82 [kp 2 0,kp 3 1,(4,(bV false)),(5,(nI l))] [kc f28 116,kl f28 116,.inBlock 0,kc f28 15]),[],[oC 0 [(nI a),(nI b),(aC c),(.ilst 5 (Terms.av d) false),(iP e)],oC 1 [(nI f),(nI g),(aC i),(.ilst 5 (Terms.av j) false),(iP k)]],2⟩
def aEx(a b:Int)(c:aE)(d:List Term)(e:List Pat)(f g:Int)(i:aE)(j:List Term)(k:List Pat)(l:Int):TS:=⟨(tf 28 82 [kp 2 0,kp 3 1,(4,(bV false)),(6,(nI l))] [kc f28 244,kl f28 244,.inBlock 2,kc f28 31]),[],[oC 0 [(nI a),(nI b),(aC c),(.ilst 5 (Terms.av d) false),(iP e)],oC 1 [(nI f),(nI g),(aC i),(.ilst 5 (Terms.av j) false),(iP k)]],2⟩
def bFy(a:Int):TS:=bW PP 148 [(nI a)] [] 0
def aEy(b c:Int)(a:List aE):TS:=⟨(tf 148 20 [(0,(nI b)),(2,.nils),(3,(.gl 0 1 0 a.length false)),(4,(nI c))] [kc f148 116,kl f148 116,.inBlock 0,kc f148 15]),[],[oL 0 1 (List.map aC a)],1⟩
def aIc(d:Prog)(a:List Int)(b c:Int):TS:=⟨(tf 149 21 [(2,(nI 0)),(3,(nI b)),(4,(iI a)),(5,(nI c))] [kc f149 244,kl f149 244,.inBlock 0,kc f149 31]),[],[],0⟩
def bFz(a:Prog):TS:=bW PP 81 [(Prog.av a)] [] 0
def bIn(g i:Int)(a:aE)(b:List Term)(c:List Pat)(j k:Int)(d:aE)(e:List Term)(f:List Pat):=tT 0 (start PP 28 [(.agg [(nI g),(nI i),(aC a),(.ilst 5 (Terms.av b) false),(iP c)]),(.agg [(nI j),(nI k),(aC d),(.ilst 5 (Terms.av e) false),(iP f)])])<|.b 15 12 (g != j) (gE 38 2 (bV false))<|.b 7 19 (i != k) (gE 31 2 (bV false))<|.b 7 26 (!(aQ a.length (aB a) d.length (aB d))) (gE 24 2 (bV false))<|gm 2 bS b<|gm 2 bS e<|.b 3 35 ((b.length:Int) != (e.length:Int)) (gE 15 2 (bV false))<|gm 2 aF c<|gm 2 aF f<|.b 3 43 ((c.length:Int) != (f.length:Int)) (gE 6 2 (bV false))<|.W 9 2 [0,1] (aIb g i a b c j k d e f 0)
def bC2:=fun a b c d e f g i j k l m n o p=>bIn a b c d e f g i j k|>.f l|>.f m|>.f n|>.f o|>.f p tv
def bFA(d e:Int)(f:aE)(g:List Term)(b:List Pat)(i j:Int)(k:aE)(l:List Term)(c:List Pat)(a:Int):=tT 0 (aIb d e f g b i j k l c a)<|gm 6 aF b<|gd 2 48 (a< (b.length:Int)) (.y fun m:Int=>.y fun n:Int=>.y fun o:aE=>.y fun p:List Pat=>.y fun q:Int=>.y fun r:Int=>.y fun s:aE=>.y fun t:List Pat=>.y fun u:Bool=>.i [rn 5,.reg (rd 3 (.ans (.idx (Pat.av (Pat.mk m n o p)))::rd 4 [.ans (.idx (Pat.av (Pat.mk q r s t))),.d,.pure (bV u),.d]))] [hA (0≤a),.a (((b)[a.toNat]?) =some (Pat.mk m n o p)) (dY aF),hA (0≤a),.a (((c)[a.toNat]?) =some (Pat.mk q r s t)) (dY aF),hA (Pure PP 88 [(.agg [(nI m),(nI n),(aC o),(iP p)]),(.agg [(nI q),(nI r),(aC s),(iP t)])] (bV u))]<|.b 0 62 (!u) (gE 6 2 (bV false))<|gw 6 50 (a+1)<|.W 3 2 [0,1] (aIb d e f g b i j k l c (a+1)))<|.W 9 2 [0,1] (aEx d e f g b i j k l c 0)
def bC3:=fun b c d e f g i j k l m n o p q r s t u v w a x y z A B=>bFA b c d e f g i j k l m|>.t w n o p q r s t u v a x a y z|>.f A B tv
def bC4:=fun a b c d e f g i j k l m=>bFA a b c d e f g i j k l|>.f m tv
def bFB(p q:Int)(r:aE)(b:List Term)(s:List Pat)(t u:Int)(v:aE)(c:List Term)(w:List Pat)(a:Int):=tT 0 (aEx p q r b s t u v c w a)<|gm 6 bS b<|gd 2 67 (a< (b.length:Int)) (.y fun d:Int=>.y fun e:Int=>.y fun f:aE=>.y fun g:List Term=>.y fun i:List Pat=>.y fun j:Int=>.y fun k:Int=>.y fun l:aE=>.y fun m:List Term=>.y fun n:List Pat=>.y fun o:Bool=>.i [rn 5,.reg (rd 3 (.ans (.idx (Term.av (Term.mk d e f g i)))::rd 4 [.ans (.idx (Term.av (Term.mk j k l m n))),.d,.pure (bV o),.d]))] [hA (0≤a),.a (((b)[a.toNat]?) =some (Term.mk d e f g i)) (dY bS),hA (0≤a),.a (((c)[a.toNat]?) =some (Term.mk j k l m n)) (dY bS),hA (Pure PP 28 [(.agg [(nI d),(nI e),(aC f),(.ilst 5 (Terms.av g) false),(iP i)]),(.agg [(nI j),(nI k),(aC l),(.ilst 5 (Terms.av m) false),(iP n)])] (bV o))]<|.b 0 81 (!o) (gE 6 2 (bV false))<|gw 6 69 (a+1)<|.W 3 2 [0,1] (aEx p q r b s t u v c w (a+1)))<|gE 7 2 (bV true)
def bC5:=fun b c d e f g i j k l m n o p q r s t u v w x y a z A B C D=>bFB b c d e f g i j k l m|>.t y n o p q r s t u v w x a z a A B|>.f C D tv
def bC6:=fun a b c d e f g i j k l m=>bFB a b c d e f g i j k l|>.f m tv
def bC7 (a:Int):=(tT 0 (bFy a)<|.i [rn 15,.nilL 3 1] []<|gu 0 0 (List.map aC ([] :List aE))<|gs 0 3 (.gl 0 1 0 ([] :List aE).length false)<|.W 0 1 [0] (aEy a 0 ([] :List aE))) ⟨kk,trivial⟩
def aWO(c a:Int)(b:List aE):=tT 0 (aEy c a b)<|gd 8 8 ((b.length:Int) <c) (gpS 7 200 [(nI a)]<|fun e=>cP 0 59 [(aC e)]<|fun f=>.b 1 13 f (gpS 4 200 [(nI a)]<|fun d=>ga 1 aC b [d]<|gw 6 10 (a+1)<|.W 3 3 [2] (aEy c (a+1) (b++ [d])))<|gw 6 10 (a+1)<|.W 3 1 [0] (aEy c (a+1) b))<|gz 8 2 0 1 aC b false<|gE 0 1 (iS b)
def bC8:=fun a b c d e f g i j k l m n=>aWO a b c|>.t g d i e j|>.t k f l m n ⟨kk,trivial⟩
def bC9:=fun a b c d e f g i j k=>aWO a b c|>.t f d g e i|>.f j k ⟨kk,trivial⟩
def bDa:=fun a b c d=>aWO a b c|>.f d tv
def bDb (b:Prog):=fun a c=>(tT 0 (start PP 149 [(Prog.av b)])<|.y fun a:List Int=>gp 12 201 [(Prog.av b)] (iI a)<|.W 9 1 [] (aIc b a 0 0)) a c tv
def bFC(d:Prog)(a:List Int)(c b:Int):=tT 0 (aIc d a c b)<|gl 5 dF a<|gd 2 11 (b< (a.length:Int)) (gX dF 8 a b<|fun e=>gw 8 13 (b+1)<|.W 3 0 [] (aIc d a (if e>c then e else c) (b+1)))<|gE 8 0 (nI c)
def bDc:=fun a b c d e f g i j=>bFC a b c d|>.t f e g i j tv
def bDd:=fun a b c d e=>bFC a b c d|>.f e tv
def bDe (a:Prog):=fun c b d g i e f j k l m=>(tT 0 (bFz a)<|.y fun c:Int=>.y fun b:List aE=>.y fun d:aE=>.i [rn 7,.reg [.d,.d,.ans (.len (a.funs.length:Int)),.d,.pure (nI c),.d,.d,.pure (iS b),.d],rn 5,aL a.funs,.ans (.ev (iS (List.take ((a.funs.length:Int).toNat) b))),.appN (List.map aC (List.take ((a.funs.length:Int).toNat) b)) (List.take ((a.funs.length:Int).toNat) b).length,rn 7,.ans (.ix),.st (aC d) (aC (strOf [109,97,105,110])),.lset 1 (List.map aC (List.set (List.take ((a.funs.length:Int).toNat) b) a.main.toNat (strOf [109,97,105,110]))),.set 19 (.gl 1 1 0 (List.set (List.take ((a.funs.length:Int).toNat) b) a.main.toNat (strOf [109,97,105,110])).length false),.set 5 (.gl 1 1 0 (List.set (List.take ((a.funs.length:Int).toNat) b) a.main.toNat (strOf [109,97,105,110])).length false),.set 20 (.gl 1 1 0 (List.set (List.take ((a.funs.length:Int).toNat) b) a.main.toNat (strOf [109,97,105,110])).length false),rn 2,.reg (rd 4 [.ans (.len (a.funs.length:Int)),.ans (.ev (iS (List.drop ((a.funs.length:Int).toNat) b))),.d,.d])] [hl dF a.funs,hA (Pure PP 149 [(Prog.av a)] (nI c)),hA (Pure PP 148 [(nI (IntKind.i64.wrap ((IntKind.i64.wrap ((a.funs.length:Int) +c)) +30)))] (iS b)),.q (p:=(nI ((jI a.funs).length:Int)) = (nI (a.funs.length:Int))) (congrArg (AV.int .i64) (aI2 _ _)),.q (p:=(nI ((jI a.funs).length:Int)) = (nI (a.funs.length:Int))) (congrArg (AV.int .i64) (aI2 _ _)),hr (AV.ilst 1 (jI a.funs) false),hr (AV.ilst 1 (jI a.funs) false),hl dF a.funs,.a (0≤ (a.funs.length:Int) ∧ (a.funs.length:Int).toNat≤List.length b) (p':=aDE PP 92 (iS b) none (some (nI (a.funs.length:Int))) (iS (List.take ((a.funs.length:Int).toNat) b))) fun⟨ha,hb⟩=>(aI0 (k:= (a.funs.length:Int)) (by kernel_rfl) ha hb),hA ((List.take ((a.funs.length:Int).toNat) b).length≤1000000),hr (List.map aC (List.take ((a.funs.length:Int).toNat) b)),.q (p:=List.length (List.map aC (List.take ((a.funs.length:Int).toNat) b)) = (List.take ((a.funs.length:Int).toNat) b).length) (List.length_map ..),hA (0≤a.main),hA (a.main< (((List.take ((a.funs.length:Int).toNat) b).length:Nat) :Int)),.a ((((List.take ((a.funs.length:Int).toNat) b))[a.main.toNat]?) =some d) (iT (f:=aC)),hr (some (aC (strOf [109,97,105,110]))),.q (p:=(List.map aC (List.take ((a.funs.length:Int).toNat) b)).set (0+a.main.toNat) (aC (strOf [109,97,105,110])) = (List.map aC (List.set (List.take ((a.funs.length:Int).toNat) b) a.main.toNat (strOf [109,97,105,110])))) (pI _ _ _ _),.q (p:=(AV.gl 1 1 0 (List.take ((a.funs.length:Int).toNat) b).length false) = (.gl 1 1 0 (List.set (List.take ((a.funs.length:Int).toNat) b) a.main.toNat (strOf [109,97,105,110])).length false)) (cG (List.length_set ..).symm),.q (p:=(AV.gl 1 1 0 (List.take ((a.funs.length:Int).toNat) b).length false) = (.gl 1 1 0 (List.set (List.take ((a.funs.length:Int).toNat) b) a.main.toNat (strOf [109,97,105,110])).length false)) (cG (List.length_set ..).symm),.q (p:=(AV.gl 1 1 0 (List.take ((a.funs.length:Int).toNat) b).length false) = (.gl 1 1 0 (List.set (List.take ((a.funs.length:Int).toNat) b) a.main.toNat (strOf [109,97,105,110])).length false)) (cG (List.length_set ..).symm),hl dF a.funs,.a (0≤ (a.funs.length:Int) ∧ (a.funs.length:Int).toNat≤List.length b) (p':=aDE PP 92 (iS b) (some (nI (a.funs.length:Int))) none (iS (List.drop ((a.funs.length:Int).toNat) b))) fun⟨ha,hb⟩=>(aDF (k:= (a.funs.length:Int)) (by kernel_rfl) ha hb)]<|gz 1 2 1 1 aC (List.set (List.take ((a.funs.length:Int).toNat) b) a.main.toNat (strOf [109,97,105,110])) false<|gE 0 2 (.tup [(iS (List.set (List.take ((a.funs.length:Int).toNat) b) a.main.toNat (strOf [109,97,105,110]))),(iS (List.drop ((a.funs.length:Int).toNat) b))])) c b d g i ⟨e,f⟩ j k l m ⟨e,f⟩ tv
def aO1(a:Prog)(b:Int):=tT 0 (start PP 25 [(Prog.av a),(nI b)])<|cP 10 18 [(Prog.av a)]<|fun l=>.b 2 12 (!l) (gE 17 2 (.tup [(.agg [(nI 0),(nI 0),(.str 0 0),.nils,.nils]),(nI 2)]))<|gl 3 dF a.funs<|gw 1 17 ((a.funs.length:Int) -1)<|cP 0 65 [(nI b),(nI 0),(nI ((a.funs.length:Int) -1))]<|fun m=>.b 3 20 (!m) (gE 8 2 (.tup [(.agg [(nI 0),(nI 0),(.str 0 0),.nils,.nils]),(nI 2)]))<|.y fun j:List aE=>.y fun k:List aE=>gp 5 81 [(Prog.av a)] (.tup [(iS j),(iS k)])<|.y fun i:Int=>.y fun c:Int=>.y fun d:Int=>.y fun e:aE=>.y fun f:List Term=>.y fun g:List Pat=>.i [rn 7,.reg (rd 4 (.ans (.idx (dF i))::rd 3 [.pure (.agg [(nI c),(nI d),(aC e),(.ilst 5 (Terms.av f) false),(iP g)]),.d,.d]))] [hA (0≤b),.a (((a.funs)[b.toNat]?) =some i) (cN (f:=dF)),hA (Pure PP 82 [(Prog.av a),(nI i),(iS j),(iS k),(nI 1)] (.agg [(nI c),(nI d),(aC e),(.ilst 5 (Terms.av f) false),(iP g)]))]<|cP 4 15 [(.agg [(nI c),(nI d),(aC e),(.ilst 5 (Terms.av f) false),(iP g)])]<|fun n=>.b 2 38 (!n) (gE 8 3 (.tup [(.agg [(nI 0),(nI 0),(.str 0 0),.nils,.nils]),(nI 3)]))<|gE 9 3 (.tup [(.agg [(nI c),(nI d),(aC e),(.ilst 5 (Terms.av f) false),(iP g)]),(nI 0)])
def bDf:=fun a b c d e=>aO1 a b c d|>.t e tv
def bDg:=fun a b c d e f g i j=>aO1 a b c e|>.f f g d i|>.t j tv
def bDh:=fun a b c d e f g i j k l m n o p q r s t u v w x y=>aO1 a b c o|>.f p q d r|>.f s e f t g i j k l m u v w n x|>.t y tv
def bDi:=fun a b c d e f g i j k l m n o p q r s t u v w x y=>aO1 a b c o|>.f p q d r|>.f s e f t g i j k l m u v w n x|>.f y tv
end
end Go.Hb
namespace Go.Hb
open Go.Proofs
set_option maxHeartbeats 4000000
noncomputable section
def lZ :Nat→Nat
 |0=>0
 |k+1=>26+26*lZ k
theorem aGe :∀ (k n:Nat),lZ k≤n→k+1≤ (eX n).length
 | 0,n,_=>by
  by_cases h:n<26
  ·rw [oK h];simp [dV]
  ·rw [uK h];simp [dV]
 | k+1,n,h=>by
  simp only [lZ]at h;rw [uK (by omega)];have:=aGe k (n / 26-1) (by omega);simp only [List.length_append,dV,List.length_cons,List.length_nil];omega
theorem aEz :∀ (k n:Nat),n<lZ (k+1) → (eX n).length≤k+1
 | 0,n,h=>by
  simp only [lZ]at h;rw [oK (by omega)];simp [dV]
 | k +1,n,h=>by
  by_cases h2:n<26
  ·rw [oK h2];simp [dV]
  · rw [uK h2];rw [lZ]at h;have:=aEz k (n / 26-1) (by omega);simp only [List.length_append,dV,List.length_cons,List.length_nil];omega
theorem aGf {r:Nat}(h:r<26) :eT (dV (97+ (r:Int))) =true:=by
 have e: (97+ (r:Int)).toNat=97+r:=by omega
 have e2: (97+r) % 256=97+r:=Nat.mod_eq_of_lt (by omega);simp only [dV,eT,List.all_cons,List.all_nil,Bool.and_true,rI,e,UInt8.toNat_ofNat',Bool.and_eq_true,decide_eq_true_eq];have e3: (97+r) % 2 ^ 8=97+r:=Nat.mod_eq_of_lt (by omega);rw [e3];omega
theorem aND :∀ (n:Nat),eT (eX n) =true:=by
 intro n
 induction n using Nat.strongRecOn with
 | ind n ih=>
  by_cases h:n<26
  ·rw [oK h];exact aGf h
  · rw [uK h];have h1:=ih (n / 26-1) (by omega);have h2:=aGf (r:=n % 26) (by omega);unfold eT at h1 h2 ⊢;rw [List.all_append,h1,h2];rfl
theorem aWP :∀k∈kwL,k.length≤6:=by
 intro k hk;have:kwL.all (fun k=>decide (k.length≤6)) =true:=by kernel_rfl
 exact of_decide_eq_true (List.all_eq_true.1 this k hk)
theorem aBK {n:Nat}(h1:lZ 6≤n)(h2:n<lZ 8) :dE (eX n) =true:=by
 have a:=aGe 6 n h1;have b:=aEz 7 n h2;have c:jG kwL (eX n) =false:=by
  cases h:jG kwL (eX n)with
  |false=>rfl
  | true=>
   unfold jG at h;obtain⟨w,hw,e⟩ :=List.any_eq_true.1 h;have e:=of_decide_eq_true e;have:=aWP w hw;have: (eX n).length=w.length:=by rw [e]
   omega
 unfold dE;rw [c,aND];simp;omega
def fZ :Nat→Nat→Nat→List aE
 |0,_,_=>[]
 |_+1,_,0=>[]
 |f+1,i,m+1=>bif dE (eX i)then eX i::fZ f (i+1) m else fZ f (i+1) (m+1)
theorem aEA :∀ (f i m:Nat) (l:List aE),(lZ 6-i) +m≤f→i+f≤900000000→l.length+m≤1000000 →
  Ends PP 0 (aEy ((l.length+m:Nat) :Int) (i:Int) l).as (.ret (.ilst 1 (List.map aC (l++fZ f i m)) false)) (aG [] 0)
 | f,i,0,l,h,hb,hl=>by
  have e:fZ f i 0= [] :=by cases f<;>rfl
  rw [e,List.append_nil];exact bDa _ i l sd
 |0,i,m+1,l,h,hb,hl=>by omega
 | f +1,i,m+1,l,h,hb,hl=>by
  have hp:=aWv i (by omega);have hn:=sF (eX i);rw [fZ];cases hg:dE (eX i)with
  | true=>
   rw [hg]at hn;refine(bC8 _ i l (eX i) true (eX i) sd hp hn rfl hp (by simp;omega) sd).ends ?_;have:=aEA f (i+1) m (l++ [eX i]) (by omega) (by omega) (by simp;omega);rw [List.append_assoc,show((l++ [eX i]).length+m:Nat) =l.length+ (m+1)by simp;omega]at this;exact this
  | false=>
   rw [hg]at hn;have hi:i<lZ 6:=by
    refine Classical.byContradiction fun hc=>?_;have h8:lZ 8=217180147158:=by kernel_rfl
    rw [aBK (by omega) (by rw [h8];omega)]at hg;cases hg
   refine(bC9 _ i l (eX i) false sd hp hn rfl sd).ends ?_;exact aEA f (i+1) (m+1) l (by omega) (by omega) hl
def dW (n:Nat) :List aE:=fZ (lZ 6+n) 0 n
theorem aWQ (n:Nat)(h:n≤1000000) :Pure PP 148 [.int .i64 (n:Int)] (.ilst 1 (List.map aC (dW n)) false) :=by
 have h6:lZ 6=321272406:=by kernel_rfl
 refine bM (s:=bFy n) (by kernel_rfl) (by kernel_rfl) rfl (by simp [AV.keyless]) ?_;have:=aEA (lZ 6+n) 0 n [] (by omega) (by rw [h6];omega) (by simpa using h);rw [List.length_nil,Nat.zero_add]at this;exact(bC7 n).ends this
end
end Go.Hb
namespace Go.Hb
open Go.Proofs
set_option maxHeartbeats 4000000
noncomputable section
def aFi :List Int→Int→Int
 | [],n=>n
 |y::t,n=>aFi t (if y>n then y else n)
theorem aId :∀ (t:List Int) (n:Int),n≤aFi t n
 | [],n=>Int.le_refl _
 | y::t,n=>by
  rw [aFi];have:=aId t (if y>n then y else n);split at this<;>rename_i h<;>simp only [h,if_true,if_false] <;>omega
theorem aKW (p:Prog)(l:List Int)(hl:l.length<1000000) :∀ (t:List Int) (i:Nat) (n:Int),l.drop i=t→Ends PP 0 (aIc p l n (i:Int)).as (.ret (.int .i64 (aFi t n))) (aG [] 0)
 | [],i,n,h=>by
  have:=bD h;exact bDd p l n i sd
 | y::t,i,n,h=>by
  obtain⟨g1,g2,g3⟩ :=bB h;rw [aFi];exact(bDc p l n i y sd sd sd sd).ends (aKW p l hl t (i+1) _ g2)
def lL (p:Prog) :Int:=aFi (fD p) 0
theorem aKX (p:Prog) :0≤lL p:=aId _ _
theorem aWR {p:Prog}(hp:FineP p)(hl: (fD p).length<1000000) :Pure PP 149 [PA p] (.int .i64 (lL p)) :=by
 refine aM (by kernel_rfl) rfl rfl ?_;exact(bDb p (fD p) (aKV hp)).ends (aKW p (fD p) hl (fD p) 0 0 rfl)
theorem zZ :∀ (f i m:Nat),(lZ 6-i) +m≤f→i+f≤900000000→ (fZ f i m).length=m
 |f,i,0,_,_=>by cases f<;>rfl
 |0,i,m+1,h,_=>by omega
 | f +1,i,m+1,h,hb=>by
  rw [fZ];cases hg:dE (eX i)with
  | true=>
   simp only [cond,List.length_cons];rw [zZ f (i+1) m (by omega) (by omega)]
  | false=>
   have hi:i<lZ 6:=by
    refine Classical.byContradiction fun hc=>?_;have h8:lZ 8=217180147158:=by kernel_rfl
    rw [aBK (by omega) (by rw [h8];omega)]at hg;cases hg
   simp only [cond];rw [zZ f (i+1) (m+1) (by omega) (by omega)]
theorem gB (n:Nat)(h:n≤1000000) : (dW n).length=n:=by
 have h6:lZ 6=321272406:=by kernel_rfl
 exact zZ _ 0 n (by omega) (by rw [h6];omega)
def nD (p:Prog) :List aE:=dW (p.funs.length+ (lL p).toNat+30)
theorem aWS {p:Prog}(hp:FineP p)(hl: (fD p).length<1000000)(hm:0≤p.main∧p.main<p.funs.length)(hd:lL p≤900000)(hf:p.funs.length≤10000)(hk:AV.keyless (PA p) =true) :
  Pure PP 81 [PA p] (.tup [.ilst 1 (List.map aC (((nD p).take p.funs.length).set p.main.toNat (strOf [109,97,105,110]))) false,.ilst 1 (List.map aC ((nD p).drop p.funs.length)) false]) :=by
 have h0:=aKX p;have hn: (nD p).length=p.funs.length+ (lL p).toNat+30:=gB _ (by omega);have e1:IntKind.i64.wrap (((List.length p.funs:Nat) :Int) +lL p) = ((List.length p.funs:Nat) :Int) +lL p:=wrap64 (by omega) (by omega);have e2:IntKind.i64.wrap ((((List.length p.funs:Nat) :Int) +lL p) +30) = ((p.funs.length+ (lL p).toNat+30:Nat) :Int) :=by
  rw [wrap64 (by omega) (by omega)];omega
 have ht: ((nD p).take p.funs.length).length=p.funs.length:=by rw [List.length_take,hn];omega
 obtain⟨y2,hy⟩ :∃y2,((nD p).take p.funs.length)[p.main.toNat]?=some y2:= ⟨_,List.getElem?_eq_getElem (by rw [ht];omega)⟩;refine bM (s:=bFz p) (by kernel_rfl) (by kernel_rfl) (by simp only [AV.keylessL,hk];rfl) (by simp [AV.keyless,AV.keylessL]) ?_;have h:=bDe p (lL p) (nD p) y2 (aWR hp hl) (by rw [e1,e2];exact aWQ _ (by omega)) (by omega) (by rw [Int.toNat_natCast,hn];omega) (by rw [Int.toNat_natCast,ht];omega) hm.1 (by rw [Int.toNat_natCast,ht];exact hm.2) (by rw [Int.toNat_natCast];exact hy);rw [Int.toNat_natCast]at h;exact h
end
end Go.Hb
namespace Go.Hb
open Go.Proofs
set_option maxHeartbeats 4000000
noncomputable section
abbrev TZ :AV:=.agg [(.int .i64 0),(.int .i64 0),(.str 0 0),.nils,.nils]
def bDj (t:Term) :AV:=bif lF t then .tup [Term.av t,.int .i64 0]else .tup [TZ,.int .i64 3]
theorem bDk {p:Prog}(hs:aN p=true)(hf:bC p=false)(f:Int) :Pure PP 25 [PA p,.int .i64 f] (.tup [TZ,.int .i64 2]) :=by
 have h:=oG p hs;rw [hf]at h;exact aM (by kernel_rfl) (by simp [AV.keylessL,AV.keyless]) rfl (bDf p f false h rfl)
theorem bDl {p:Prog}(hs:aN p=true)(hf:bC p=true){f:Int}(hl:p.funs.length≤1000000)(hi:aW f 0 ((p.funs.length:Int) -1) =false) :Pure PP 25 [PA p,.int .i64 f] (.tup [TZ,.int .i64 2]) :=by
 have h:=oG p hs;rw [hf]at h;have h2:=aY f 0 ((p.funs.length:Int) -1);rw [hi]at h2;exact aM (by kernel_rfl) (by simp [AV.keylessL,AV.keyless]) rfl (bDg p f true false h rfl sd h2 rfl)
theorem bG9 {p:Prog}(hs:aN p=true)(hf:bC p=true){f:Int}(hl:p.funs.length≤1000000)(hi:aW f 0 ((p.funs.length:Int) -1) =true){fl pl:List aE}
  (hc:Pure PP 81 [PA p] (.tup [.ilst 1 (List.map aC fl) false,.ilst 1 (List.map aC pl) false])) (hb:TB p fl pl 151) {a:Int} (ha:p.funs[f.toNat]?=some a) {d:Nat} {t:Term} (ht:gV p fl pl d a 1=some t) (hta:mY t<1000000) :
  Pure PP 25 [PA p,.int .i64 f] (bDj t) :=by
 have h:=oG p hs;rw [hf]at h;have h2:=aY f 0 ((p.funs.length:Int) -1);rw [hi]at h2;have h3:=rNd5_pure p fl pl hb d a 1 t ht;have h4:=aUO t hta;have h0:0≤f:= ((inB_iff ..).1 hi).1;unfold bDj;cases hg:lF t with
 | true=>
  rw [hg]at h4;have hk:=eF t;obtain⟨t1,t2,t3,t4,t5⟩ :=t;exact aM (by kernel_rfl) (by simp [AV.keylessL,AV.keyless]) (by simp only [cond,AV.keyless,AV.keylessL,hk];rfl) (bDi p f true true fl pl a t1 t2 t3 t4 t5 true h rfl sd h2 rfl hc h0 ha h3 h4 rfl)
 | false=>
  rw [hg]at h4;obtain⟨t1,t2,t3,t4,t5⟩ :=t;exact aM (by kernel_rfl) (by simp [AV.keylessL,AV.keyless]) rfl (bDh p f true true fl pl a t1 t2 t3 t4 t5 false h rfl sd h2 rfl hc h0 ha h3 h4 rfl)
end
end Go.Hb
namespace Go.Hb
open Go.Proofs
set_option maxHeartbeats 4000000
noncomputable section
theorem uL {p:Prog}(hs:aN p=true){x:Node}(hx:x∈p.nodes) :x.kids.length≤10∧x.pats.length≤10:=by
 simp only [aN,Bool.and_eq_true]at hs;have:=List.all_eq_true.1 hs.2 x hx;simp only [bQ,Bool.and_eq_true,decide_eq_true_eq]at this;exact this.1
theorem aKY (p:Prog) :AV.keyless (PA p) =true:=by simp [AV.keyless,AV.keylessL]
theorem bI1 {p:Prog}(hs:aN p=true)(hf:bC p=true){fl pl:List aE}(h1:fl.length≤1000000000)(h2:pl.length≤1000000000) :TB p fl pl 151:=by
 have hp:=qV hs hf;refine⟨h1,h2,fun x hx=>?_,fun x hx i hi=>?_,aKY p⟩
 · obtain⟨i,hi⟩ :=List.getElem?_of_mem hx;have:=uL hs hx;obtain⟨g,_⟩ :=hp.node i x hi;exact⟨by omega,by omega,fun q hq=>by have:= (g.pats q hq).1;omega⟩
 · obtain⟨j,hj⟩ :=List.getElem?_of_mem hx;have:=uL hs hx;obtain⟨g,_⟩ :=hp.node j x hj;exact aEw g (by omega) (by omega) this.1
theorem bIo {p:Prog}(hs:aN p=true)(hf:bC p=true){fl pl:List aE}(h1:fl.length≤1000000000)(h2:pl.length≤1000000000) :TB p fl pl 141:=by
 have hp:=qV hs hf;refine⟨h1,h2,fun x hx=>?_,fun x hx i hi=>?_,aKY p⟩
 · obtain⟨i,hi⟩ :=List.getElem?_of_mem hx;have:=uL hs hx;obtain⟨g,_⟩ :=hp.node i x hi;exact⟨by omega,by omega,fun q hq=>by have:= (g.pats q hq).1;omega⟩
 · obtain⟨j,hj⟩ :=List.getElem?_of_mem hx;have:=uL hs hx;obtain⟨g,_⟩ :=hp.node j x hj;exact zQ g (by omega) (by omega) this.1
end
end Go.Hb
namespace Go.Hb
open Go.Proofs
noncomputable section
structure Spk where
 prog:Prog
 funs:List aE
 places:List aE
def Spk.av (x:Spk) :AV:=.agg [.ilst 4 (List.map Node.av x.prog.nodes) false,.ilst 1 (List.map dF x.prog.funs) false,.int .i64 x.prog.main,.ilst 2 (List.map Con.av x.prog.cons) false,.ilst 1 (List.map aC x.funs) false,.ilst 1 (List.map aC x.places) false]
end
end Go.Hb
namespace Go.Hb
open Go.Proofs
noncomputable section
open Go.Proofs Tryz
def bFD(a:Prog)(b:Int):TS:=bW PP 142 [(Prog.av a),(nI b)] [] 0
def aEB(a:Prog)(c d e:Int)(b:List aE):TS:=⟨(tf 142 50 [(1,(nI c)),(4,.nils),(5,.nils),kp 6 0,(7,(.gl 1 1 0 b.length false)),(8,.nils),(20,(nI (a.funs.length:Int))),(21,(nI d))] [kc f142 244,kl f142 244,.inBlock 0,kc f142 31]),[],[oC 0 [(iN a.nodes),(iI a.funs),(nI a.main),(iC a.cons),(nI e)],oL 1 1 (List.map aC b)],2⟩
def aEC(a:Prog)(c d e f:Int)(b:List aE):TS:=⟨(tf 196 19 [kp 0 0,(2,(.str 0 0))] [kc f196 12,kl f196 12,.inBlock 0]),[(tf 142 50 [(1,(nI c)),(4,.nils),(5,.nils),kp 6 0,(7,(.gl 1 1 0 b.length false)),(8,.nils),(9,(nI e)),(20,(nI (a.funs.length:Int))),(21,(nI f)),kp 24 0] [ko f142 15666 1,kc f142 15667,.inBlock 1,kc f142 1959,kl f142 244,.inBlock 0,kc f142 31])],[oC 0 [(iN a.nodes),(iI a.funs),(nI a.main),(iC a.cons),(nI d)],oL 1 1 (List.map aC b)],2⟩
def aIe(a:Prog)(d e:Int)(b:List aE)(f:Int)(c:List aE):TS:=⟨(tf 142 50 [(4,.nils),(5,.nils),kp 6 0,(7,(.gl 1 1 0 b.length false)),(8,(.gl 2 1 0 c.length false)),(39,(nI d)),(40,(nI f))] [kc f142 500,kl f142 500,.inBlock 2,kc f142 63]),[],[oC 0 [(iN a.nodes),(iI a.funs),(nI a.main),(iC a.cons),(nI e)],oL 1 1 (List.map aC b),oL 2 1 (List.map aC c)],3⟩
def aIf(a:Prog)(d e f:Int)(c b:List aE):TS:=⟨(tf 196 19 [kp 0 0,(2,(.str 0 0))] [kc f196 12,kl f196 12,.inBlock 0]),[(tf 142 50 [(4,.nils),(5,.nils),kp 6 0,(7,(.gl 1 1 0 c.length false)),(8,(.gl 2 1 0 b.length false)),(39,(nI d)),(40,(nI f)),(42,(.gl 2 1 0 b.length false)),kp 43 0] [ko f142 8012 2,.inBlock 3,kc f142 4007,kl f142 500,.inBlock 2,kc f142 63])],[oC 0 [(iN a.nodes),(iI a.funs),(nI a.main),(iC a.cons),(nI e)],oL 1 1 (List.map aC c),oL 2 1 (List.map aC b)],3⟩
def aKZ(a:Prog)(b:Int):TS:=bW PP 24 [(Prog.av a),(nI b)] [] 0
def bDm (a:Prog)(b:Int):=(tT 0 (bFD a b)<|gl 27 dF a.funs<|.i [rn 4,.nilL 7 1] []<|gu 0 2 (List.map aC ([] :List aE))<|gs 0 7 (.gl 2 1 0 ([] :List aE).length false)<|.W 0 3 [1,2] (aEB a b 0 0 ([] :List aE))) ⟨kk,trivial⟩
def bFE(a:Prog)(c b d:Int)(e:List aE):=tT 0 (aEB a c b d e)<|gd 5 22 (b< (a.funs.length:Int)) (.W 19 2 [0,1] (aEC a c d b b e))<|.i [rn 10,.nilL 8 1] []<|gu 0 2 (List.map aC ([] :List aE))<|gs 0 8 (.gl 2 1 0 ([] :List aE).length false)<|.W 0 3 [0,1,2] (aIe a c d e 0 ([] :List aE))
def aO2:=fun a b c d e f=>bFE a b c d e|>.t f ⟨kk,trivial⟩
def bDn:=fun a b c d e f=>bFE a b c d e|>.f f ⟨kk,⟨kk,trivial⟩⟩
def aWT(d:Prog)(e a f b:Int)(c:List aE):=tT 0 (aEC d e a f b c)<|gpS 7 247 [(nI a)]<|fun g=>gw 9 13 (a+1)<|cP 7 103 [(aC g)]<|fun i=>.b 1 17 i (.b 22 33 (f==d.main) (ga 8 aC c [(strOf [109,97,105,110])]<|gw 5 38 (b+1)<|.W 3 4 [0,3] (aEB d e (b+1) (a+1) (c++ [(strOf [109,97,105,110])])))<|ga 6 aC c [g]<|gw 5 38 (b+1)<|.W 3 4 [0,3] (aEB d e (b+1) (a+1) (c++ [g])))<|.W 4 2 [0,1] (aEC d e (a+1) f b c)
def bDo:=fun a b c d e f g i j k l m n o p=>aWT a b c d e f g j k i l|>.t m|>.t n o p ⟨kk,trivial⟩
def bDp:=fun a b c d e f g i j k l m n o p=>aWT a b c d e f g j k i l|>.t m|>.f n o p ⟨kk,trivial⟩
def bDq:=fun a b c d e f g i j k l m=>aWT a b c d e f g j k i l|>.f m ⟨kk,trivial⟩
def bFF(e:Prog)(c f:Int)(a:List aE)(d:Int)(b:List aE):=tT 0 (aIe e c f a d b)<|gd 5 41 (d<c) (.W 14 3 [0,1,2] (aIf e c f d a b))<|gz 10 4 1 1 aC a false<|gz 0 5 2 1 aC b false<|gE 0 3 (.tup [(iS a),(iS b)])
def aO3:=fun a b c d e f g=>bFF a b c d e f|>.t g ⟨kk,⟨kk,trivial⟩⟩
def aO4:=fun a b c d e f g=>bFF a b c d e f|>.f g tv
def bFG(d:Prog)(e a b:Int)(f c:List aE):=tT 0 (aIf d e a b f c)<|gpS 7 247 [(nI a)]<|fun g=>gw 9 13 (a+1)<|cP 7 103 [(aC g)]<|fun i=>.b 1 17 i (ga 9 aC c [g]<|gw 5 47 (b+1)<|.W 3 5 [0,1,4] (aIe d e (a+1) f (b+1) (c++ [g])))<|.W 4 3 [0,1,2] (aIf d e (a+1) b f c)
def bDr:=fun a b c d e f g i j k l m n o=>bFG a b c d e f g j k i l|>.t m n o ⟨kk,⟨kk,trivial⟩⟩
def bDs:=fun a b c d e f g i j k l m=>bFG a b c d e f g j k i l|>.f m ⟨kk,⟨kk,trivial⟩⟩
def aK0(b:Prog)(c:Int):=tT 0 (aKZ b c)<|gpI 10 32 [(Prog.av b)]<|fun k=>.b 2 10 (k != 0) (.i [rn 17,.cnilI 1 3 5] []<|.i [.cnilI 1 4 4] []<|gE 0 2 (.tup [(.agg [(nI 0),(nI 0),(.str 0 0),(.ilst 5 (Terms.av ([] :List Term)) true),(.ilst 4 (Pats.av ([] :List Pat)) true)]),(nI 2)]))<|gl 3 dF b.funs<|gw 1 15 ((b.funs.length:Int) -1)<|gd 11 10 (c≥0) (.b 11 18 (!(decide (c≤ ((b.funs.length:Int) -1)))) (.i [rn 8,.cnilI 1 3 5] []<|.i [.cnilI 1 4 4] []<|gE 0 2 (.tup [(.agg [(nI 0),(nI 0),(.str 0 0),(.ilst 5 (Terms.av ([] :List Term)) true),(.ilst 4 (Pats.av ([] :List Pat)) true)]),(nI 2)]))<|.y fun a:Spk=>.y fun d:Int=>.y fun e:Int=>.y fun f:Int=>.y fun g:aE=>.y fun i:List Term=>.y fun j:List Pat=>.i [rn 3,.reg (.d::.d::.pure (.agg [(iN a.prog.nodes),(iI a.prog.funs),(nI a.prog.main),(iC a.prog.cons),(iS a.funs),(iS a.places)])::rd 3 [.ans (.idx (dF d)),.d,.pure (.agg [(nI e),(nI f),(aC g),(.ilst 5 (Terms.av i) false),(iP j)]),.d,.d])] [hA (Pure PP 78 [(Prog.av b)] (.agg [(iN a.prog.nodes),(iI a.prog.funs),(nI a.prog.main),(iC a.prog.cons),(iS a.funs),(iS a.places)])),hA (0≤c),.a (((b.funs)[c.toNat]?) =some d) (cN (f:=dF)),hA (Pure PP 79 [(.agg [(iN a.prog.nodes),(iI a.prog.funs),(nI a.prog.main),(iC a.prog.cons),(iS a.funs),(iS a.places)]),(nI d),(nI 1)] (.agg [(nI e),(nI f),(aC g),(.ilst 5 (Terms.av i) false),(iP j)])),hr (nI d),hr (nI d),hr (AV.ilst 1 (jI b.funs) false),hr (AV.ilst 1 (jI b.funs) false)]<|gpI 4 80 [(.agg [(nI e),(nI f),(aC g),(.ilst 5 (Terms.av i) false),(iP j)])]<|fun l=>.b 2 31 (l != 0) (.i [rn 8,.cnilI 1 3 5] []<|.i [.cnilI 1 4 4] []<|gE 0 3 (.tup [(.agg [(nI 0),(nI 0),(.str 0 0),(.ilst 5 (Terms.av ([] :List Term)) true),(.ilst 4 (Pats.av ([] :List Pat)) true)]),(nI 3)]))<|gE 9 3 (.tup [(.agg [(nI e),(nI f),(aC g),(.ilst 5 (Terms.av i) false),(iP j)]),(nI 0)]))<|.i [rn 19,.cnilI 1 3 5] []<|.i [.cnilI 1 4 4] []<|gE 0 2 (.tup [(.agg [(nI 0),(nI 0),(.str 0 0),(.ilst 5 (Terms.av ([] :List Term)) true),(.ilst 4 (Pats.av ([] :List Pat)) true)]),(nI 2)])
def bDt:=fun a b c d e=>aK0 a b c d|>.t e tv
def bDu:=fun a b c d e f g i=>aK0 a b c d|>.f e f|>.t g|>.t i tv
def bDv:=fun a b c d e f g i j k l m n o p q r s t u v w=>aK0 a b c m|>.f n o|>.t p|>.f q d e f g i j k r s t u l v|>.t w tv
def bDw:=fun a b c d e f g i j k l m n o p q r s t u v w=>aK0 a b c m|>.f n o|>.t p|>.f q d e f g i j k r s t u l v|>.f w tv
def bDx:=fun a b c d e f g=>aK0 a b c d|>.f e f|>.f g tv
end
end Go.Hb
