/- A machine on abstract values, its soundness, ways, plain laws. -/
import Derived.Test.YtfaikcecgpcimaaGreatHF
import Derived.Test.YtfaikcecgpcimaaGreatHG
import Derived.Test.YtfaikcecgpcimaaGreatHH
set_option linter.defProp false
set_option linter.unusedVariables false
set_option linter.unusedSimpArgs false
set_option linter.unusedSectionVars false
set_option maxRecDepth 100000
set_option maxHeartbeats 8000000
namespace Go.Hb
open Bool (and_eq_true)
open List (all_cons getD_eq_getElem?_getD length length_cons map mem_of_getElem? replicate)
open Go.Proofs Tryz
noncomputable section
mutual
def aY8 :Term→Nat
 | .mk _ _ _ ks _=>aSU ks+1
def aSU :List Term→Nat
 | [] =>0
 |t::ts=>aY8 t+aSU ts
end
def kN (m:List (Int×Int))(n:Int) :Int:= (dU n m).getD 0
mutual
def nX (mc:List (Int×Int)) :Pat→Pat
 | .mk f n t ps=>.mk f (if f=6 then kN mc n else n) t (dX mc ps)
def dX (mc:List (Int×Int)) :List Pat→List Pat
 | [] =>[]
 |p::ps=>nX mc p::dX mc ps
end
section
variable (mf mc:List (Int×Int))
end
def eD (to:List Int)(k:Int) :Int:=to.getD k.toNat 0
def vS :List aC→List (aC×Bool) →List (aC×Bool)
 | [],m=>m
 |x::t,m=>vS t (bX x true m)
theorem aAX (l:List aC)(hl:l.length<1000000) :∀ (t:List aC) (i:Nat) (m:List (aC×Bool)),l.drop i=t→Ends PP 0 (sJ l (i:Int) m).as (.ret (.bool (decide ((vS t m).length=l.length)))) (aG [] 0)
 | [],i,m,h=>by
  have:=bD h;refine Ends.eqv (aJ3 l i m sd) ?_;have: (((length m:Nat) :Int) == ((length l:Nat) :Int)) =decide (m.length=l.length) :=by
   by_cases k:m.length=l.length<;>simp [k] <;>omega
  rw [this];rfl
 | x::t,i,m,h=>by
  obtain⟨g1,g2,g3⟩ :=bC h;refine(aJ2 l i m x sd sd sd sd).ends ?_;exact aAX l hl t (i+1) _ g2
theorem aEi {k:aC}{v w:Bool}:∀ {m:List (aC×Bool)},dU k m=some w→ (bX k v m).map Prod.fst=m.map Prod.fst
 | [],h=>by cases h
 | e::m,h=>by
  unfold dU at h;unfold bX;split at h
  ·rename_i hk;rw [if_pos hk];simp [hk]
  ·rename_i hk;rw [if_neg hk];simp [aEi h]
theorem aEj {k:aC}{v:Bool}:∀ {m:List (aC×Bool)},dU k m=none→ (bX k v m).map Prod.fst=m.map Prod.fst++ [k]
 | [],_=>rfl
 | e::m,h=>by
  unfold dU at h;unfold bX;split at h
  ·cases h
  ·rename_i hk;rw [if_neg hk];simp [aEj h]
theorem aEk {k:aC}:∀ {m:List (aC×Bool)},(dU k m).isSome=bL (m.map Prod.fst) k
 | [] =>rfl
 | e ::m=>by
  unfold dU;split
  ·rename_i hk;simp [bL,hk]
  · rename_i hk;have:¬e.1=k:=fun h=>hk h.symm;rw [aEk];simp [bL,this]
theorem aF4 :∀ (t:List aC) (m:List (aC×Bool)),(vS t m).length≤m.length+t.length
 | [],m=>by simp [vS]
 | x::t,m=>by
  have a:=aF4 t (bX x true m);have b: (bX x true m).length≤m.length+1:=by
   cases h:dU x m with
   |none=>have:=congrArg length (aEj (v:=true) h);simp at this;omega
   |some w=>have:=congrArg length (aEi (v:=true) h);simp at this;omega
  simp only [vS,length_cons];omega
theorem aEl :∀ (t:List aC) (m:List (aC×Bool)),(vS t m).length=m.length+t.length↔cK (m.map Prod.fst) t=true
 | [],m=>by simp [vS,cK]
 | x::t,m=>by
  simp only [vS,cK];cases h:dU x m with
  | some w=>
   have e:=aEi (v:=true) h;have hs:bL (m.map Prod.fst) x=true:=by rw [←aEk,h];rfl
   have a:=aF4 t (bX x true m);have b:=congrArg length e;simp only [List.length_map]at b;rw [hs];constructor
   ·intro g;simp only [length_cons]at g;omega
   ·intro g;simp at g
  | none=>
   have e:=aEj (v:=true) h;have hs:bL (m.map Prod.fst) x=false:=by rw [←aEk,h];rfl
   have ih:=aEl t (bX x true m);have b:=congrArg length e;simp only [List.length_map,List.length_append,List.length_singleton]at b;rw [hs,←e];simp only [Bool.not_false,Bool.true_and,length_cons];rw [←ih,b];omega
theorem aHY (l:List aC)(hl:l.length<1000000) :Pure PP 244 [.ilst 1 (map aB l) false] (.bool (cN l)) :=by
 refine aQ (by kernel_rfl) rfl rfl ((aJ1 l).ends (Ends.eqv (aAX l hl l 0 [] rfl) ?_));have:=aEl l [];simp only [List.length_nil,Nat.zero_add,List.map_nil]at this;congr 1;cases k:cN l with
 |true=>exact decide_eq_true (this.2 k)
 |false=>exact decide_eq_false fun g=>by have:=this.1 g;unfold cN at k;rw [k]at this;cases this
theorem aF5 (l:List Con)(hl:l.length<1000000) :∀ (t:List Con) (i:Nat),l.drop i=t→Ends PP 0 (aCU l (i:Int)).as (.ret (.bool (t.all fC))) (aG [] 0)
 | [],i,h=>by
  have:=bD h;exact Ends.eqv (aSu l i sd) (by simp)
 | c::t,i,h=>by
  obtain⟨g1,g2,g3⟩ :=bC h;have hq:=aPU c;cases k:fC c with
  |false=>rw [k]at hq;exact Ends.eqv (aSs l i c false sd sd sd hq rfl) (by simp [k])
  | true=>
   rw [k]at hq;refine(aSt l i c true sd sd sd hq rfl sd).ends ?_;exact Ends.eqv (aF5 l hl t (i+1) g2) (by simp [k])
theorem aP2 (l:List Con)(hl:l.length<1000000) :Pure PP 242 [.ilst 2 (map Con.av l) false,.func 243 [] []] (.bool (l.all fC)) :=
 aQ (by kernel_rfl) rfl rfl ((aSr l).ends (aF5 l hl l 0 rfl))
theorem aF6 (l:List Node)(p:Prog)(hl:l.length<1000000)(ih:∀x∈l,Pure PP 248 [Prog.av p,Node.av x] (.bool (bH p x))) :∀ (t:List Node) (i:Nat),l.drop i=t→Ends PP 0 (aCT l p (i:Int)).as (.ret (.bool (t.all (bH p)))) (aG [] 0)
 | [],i,h=>by
  have:=bD h;exact Ends.eqv (aSq l p i sd) (by simp)
 | c::t,i,h=>by
  obtain⟨g1,g2,g3⟩ :=bC h;have hq:=ih c (mem_of_getElem? g1);cases k:bH p c with
  |false=>rw [k]at hq;exact Ends.eqv (aSo l p i c false sd sd sd hq rfl) (by simp [k])
  | true=>
   rw [k]at hq;refine(aSp l p i c true sd sd sd hq rfl sd).ends ?_;exact Ends.eqv (aF6 l p hl ih t (i+1) g2) (by simp [k])
theorem aP3 (l:List Node)(p:Prog)(hl:l.length<1000000)(ih:∀x∈l,Pure PP 248 [Prog.av p,Node.av x] (.bool (bH p x))) :Pure PP 247 [.ilst 4 (map Node.av l) false,.func 248 [Prog.av p] []] (.bool (l.all (bH p))) :=
 aQ (by kernel_rfl) rfl rfl ((aSn l p).ends (aF6 l p hl ih l 0 rfl))
def one (k:Int) :Bool:=decide (k=1)
theorem aF7 (l:List Int)(hl:l.length<1000000) :∀ (t:List Int) (i:Nat),l.drop i=t→Ends PP 0 (aCV l (i:Int)).as (.ret (.bool (t.all one))) (aG [] 0)
 | [],i,h=>by
  have:=bD h;exact Ends.eqv (aSy l i sd) (by simp)
 | c ::t,i,h=>by
  obtain⟨g1,g2,g3⟩ :=bC h;by_cases k:c=1
  · refine(aSx l i c sd sd sd (by simp [k]) sd).ends ?_;exact Ends.eqv (aF7 l hl t (i+1) g2) (by simp [k,one])
  ·exact Ends.eqv (aSw l i c sd sd sd (by simp [k])) (by simp [k,one])
theorem aP4 (l:List Int)(hl:l.length<1000000) :Pure PP 249 [.ilst 1 (map aP l) true,.func 250 [] []] (.bool (l.all one)) :=
 aQ (by kernel_rfl) rfl rfl ((aSv l).ends (aF7 l hl l 0 rfl))
theorem aF8 (l:List Con)(hl:l.length<100000) :∀ (t:List Con) (i:Nat),l.drop i=t→Ends PP 0 (aCW l (i:Int) (bE (l.take i))).as (.ret (.ilst 1 (map aB (bE l)) false)) (aG [] 0)
 | [],i,h=>by
  have hi:=bD h;have e:bE (l.take i) =bE l:=by rw [List.take_of_length_le hi]
  rw [e];exact aSB l i _ sd
 | c::t,i,h=>by
  obtain⟨g1,g2,g3⟩ :=bC h;have e:bE (l.take i) ++ [c.name] =bE (l.take (i+1)) :=by
   rw [List.take_add_one,g1];simp [bE]
  refine(aSA l i (bE (l.take i)) c sd sd sd (by simp [bE];omega) sd).ends ?_;rw [e];exact aF8 l hl t (i+1) g2
theorem aP5 (l:List Con)(hl:l.length<100000) :Pure PP 245 [.ilst 2 (map Con.av l) false,.func 246 [] []] (.ilst 1 (map aB (bE l)) false) :=
 aQ (by kernel_rfl) rfl rfl ((aSz l).ends (aF8 l hl l 0 rfl))
def mD (lo n:Int) :List Int→List Int→Option (List Int)
 | [],c=>some c
 |k::ks,c=>if cX k lo (n-1) =true then mD lo n ks (c.set k.toNat (c.getD k.toNat 0+1))else none
def kZ (p:Prog) :Nat→List Node→List Int→Option (List Int)
 |_,[],c=>some c
 | i,x::t,c=>match mD ((i:Int) +1) (p.nodes.length:Int) x.kids c with
   |some d=>kZ p (i+1) t d
   |none=>none
def oZ :Option (List Int) →Bool
 |some c=>c.all one
 |none=>false
def below (b:Int)(c:List Int) :Prop:=∀k∈c,0≤k∧k≤b
theorem aBK {b:Int}{c:List Int}(h:below b c){i:Nat}{z:Int}(hz:c[i]?=some z) :0≤z∧z≤b:=h z (mem_of_getElem? hz)
theorem aF9 {b:Int}{c:List Int}(h:below b c){i:Nat}{z:Int}(hz:c[i]?=some z) :below (b+1) (c.set i (z+1)) :=fun k hk=>by
 rcases List.mem_or_eq_of_mem_set hk with g|g
 ·have:=h k g;omega
 ·have:=aBK h hz;omega
theorem bF2 (p:Prog)(i:Nat)(hi:i<p.nodes.length)(hn:p.nodes.length≤1000)(ks:List Int)(hk:ks.length≤1000)(K:List Int→Bool)(B:Int)(hB:0≤B)(hB2:B≤1000000)
  (hb:∀v:List Int,v.length=p.nodes.length→below (B+ks.length) v→Ends PP 0 (nR p v ((i:Int) +1)).as (.ret (.bool (K v))) (aG [] 0)) :
  ∀ (t:List Int) (k:Nat) (c:List Int),c.length=p.nodes.length→k≤ks.length→below (B+k) c→ks.drop k=t→Ends PP 0 (sL p ks (ks.length:Int) c (k:Int) (i:Int) (i:Int)).as (.ret (.bool (match mD ((i:Int) +1) p.nodes.length t c with|some v=>K v|none=>false))) (aG [] 0)
 | [],k,c,hc,hkl,hbl,h=>by
  have:=bD h;have e:k=ks.length:=by omega
  subst e;refine(aKk p ks ks.length c ks.length i i sd sd).ends ?_;exact hb c hc hbl
 | y ::t,k,c,hc,hkl,hbl,h=>by
  obtain⟨g1,g2,g3⟩ :=bC h;have hin:=fE y ((i:Int) +1) ((p.nodes.length:Int) -1);cases k1:cX y ((i:Int) +1) ((p.nodes.length:Int) -1)with
  | false=>
   rw [k1]at hin;exact Ends.eqv (aKi p ks ks.length c k i i y false sd sd sd sd sd hin rfl) (by simp [mD,k1])
  | true=>
   rw [k1]at hin;have hy:=inB_iff.1 k1;obtain⟨z,hz⟩ :∃z,c[y.toNat]?=some z:= ⟨_,List.getElem?_eq_getElem (by omega)⟩;have hzb:=aBK hbl hz;refine(aKj p ks ks.length c k i i y true z sd sd sd sd sd hin rfl (by omega) (by omega) hz sd sd).ends ?_;have e:c.getD y.toNat 0=z:=by rw [getD_eq_getElem?_getD,hz];rfl
   have ei:mD ((i:Int) +1) p.nodes.length (y::t) c=mD ((i:Int) +1) p.nodes.length t (c.set y.toNat (z+1)) :=by
    rw [mD,if_pos k1,e]
   rw [ei];refine bF2 p i hi hn ks hk K B hB hB2 hb t (k+1) (c.set y.toNat (z+1)) (by simpa using hc) (by omega) ?_ g2;have:=aF9 hbl hz;intro q hq;have:=this q hq
   push_cast
   omega
def sN :List Node→Nat
 | [] =>0
 |x::t=>x.kids.length+sN t
theorem aEm :∀ (t:List Node),(∀x∈t,x.kids.length≤10) →sN t≤10*t.length
 | [],_=>by simp [sN]
 | x::t,h=>by
  have a:=aEm t (fun y hy=>h y (List.mem_cons_of_mem _ hy));have b:=h x (List.mem_cons_self ..);simp only [sN,length_cons];omega
theorem bF1 (p:Prog)(hp:aN p=true)(hn:p.nodes.length≤1000) :∀ (t:List Node) (i:Nat) (c:List Int) (B:Int),0≤B→B+sN t≤100000→c.length=p.nodes.length→below B c→p.nodes.drop i=t →
  Ends PP 0 (nR p c (i:Int)).as (.ret (.bool (oZ (kZ p i t c)))) (aG [] 0)
 | [],i,c,B,h0,h1,hc,hb,h=>by
  have:=bD h;exact Ends.eqv (aKh p c i _ sd (aP4 c (by omega))) rfl
 | x::t,i,c,B,h0,h1,hc,hb,h=>by
  obtain⟨g1,g2,g3⟩ :=bC h;have hx:aV x=true:=by
   simp only [aN,and_eq_true]at hp;exact List.all_eq_true.1 hp.2 x (mem_of_getElem? g1)
  simp only [aV,and_eq_true,decide_eq_true_eq]at hx;simp only [sN]at h1;refine(aKg p c i x sd sd sd).ends ?_;refine Ends.eqv (bF2 p i g3 hn x.kids (by omega) (fun v=>oZ (kZ p (i+1) t v)) B h0 (by omega) (fun v hv hbv=>bF1 p hp hn t (i+1) v (B+x.kids.length) (by omega) (by omega) hv hbv g2) x.kids 0 c hc (by omega) (by simpa using hb) rfl) ?_;rw [kZ];cases mD ((i:Int) +1) (p.nodes.length:Int) x.kids c<;>rfl
theorem bF0 (p:Prog)(hp:aN p=true)(hn:p.nodes.length≤1000)(hks:sN p.nodes≤10000)(hf:p.funs.length≤1000) :∀ (t:List Int) (i:Nat) (c:List Int),i≤p.funs.length→c.length=p.nodes.length→below (i:Int) c→p.funs.drop i=t →
  Ends PP 0 (sK p (i:Int) c).as (.ret (.bool (match mD 0 p.nodes.length t c with|some v=>oZ (kZ p 0 p.nodes v) |none=>false))) (aG [] 0)
 | [],i,c,hi,hc,hb,h=>by
  have:=bD h;refine(aKf p i c sd).ends ?_;exact bF1 p hp hn p.nodes 0 c i (by omega) (by omega) hc hb rfl
 | y ::t,i,c,hi,hc,hb,h=>by
  obtain⟨g1,g2,g3⟩ :=bC h;have hin:=fE y 0 ((p.nodes.length:Int) -1);cases k1:cX y 0 ((p.nodes.length:Int) -1)with
  | false=>
   rw [k1]at hin;exact Ends.eqv (aKd p i c y false sd sd sd sd hin rfl) (by simp [mD,k1])
  | true=>
   rw [k1]at hin;have hy:=inB_iff.1 k1;obtain⟨z,hz⟩ :∃z,c[y.toNat]?=some z:= ⟨_,List.getElem?_eq_getElem (by omega)⟩;have hzb:=aBK hb hz;refine(aKe p i c y true z sd sd sd sd hin rfl (by omega) (by omega) hz sd sd).ends ?_;have e:c.getD y.toNat 0=z:=by rw [getD_eq_getElem?_getD,hz];rfl
   have ei:mD 0 p.nodes.length (y::t) c=mD 0 p.nodes.length t (c.set y.toNat (z+1)) :=by
    rw [mD,if_pos k1,e]
   rw [ei];refine bF0 p hp hn hks hf t (i+1) (c.set y.toNat (z+1)) (by omega) (by simpa using hc) ?_ g2;have:=aF9 hb hz;intro q hq;have:=this q hq
   push_cast
   omega
def dC (p:Prog) :Bool:=
 dW p&&decide (p.cons.length≤20) &&p.cons.all fC&&cN (bE p.cons) &&p.nodes.all (bH p) &&
  (match mD 0 (p.nodes.length:Int) p.funs (replicate p.nodes.length 0)with
  |some v=>oZ (kZ p 0 p.nodes v)
  |none=>false)
theorem aKu {p:Prog}(hp:aN p=true) :∀x∈p.nodes,x.kids.length≤10∧x.pats.length≤10:=fun x hx=>by
 simp only [aN,and_eq_true]at hp;have:=List.all_eq_true.1 hp.2 x hx;simp only [aV,and_eq_true,decide_eq_true_eq]at this;exact this.1
theorem aHZ (p:Prog)(hp:aN p=true) :Pure PP 200 [Prog.av p] (.bool (dC p)) :=by
 refine aQ (by kernel_rfl) rfl rfl ?_;have hs:=hp;simp only [aN,and_eq_true,decide_eq_true_eq]at hs;obtain⟨⟨⟨⟨s1,s2⟩,s3⟩,_⟩,_⟩ :=hs;have hno:=aKu hp;by_cases k0:p.nodes.length≤300
 · by_cases k1 :1≤p.funs.length
   · by_cases k2:p.funs.length≤p.nodes.length
     · have kk :cX (p.funs.length:Int) 1 (p.nodes.length:Int) =true:=inB_iff.2 ⟨by omega,by omega⟩;by_cases k3:p.cons.length≤20
       · have hi:=fE p.main 0 ((p.funs.length:Int) -1);cases k4:cX p.main 0 ((p.funs.length:Int) -1)with
         | false=>
          rw [k4]at hi;exact Ends.eqv (aJ8 p false sd sd sd sd sd hi rfl) (by simp [dC,dW,k4])
         | true =>
          rw [k4]at hi;have hh:dW p=true:=by simp [dW,k0,kk,k4]
          have hc:=aP2 p.cons (by omega);cases k5:p.cons.all fC with
          | false=>
           rw [k5]at hc;exact Ends.eqv (aJ9 p true false sd sd sd sd sd hi rfl hc rfl) (by simp only [dC,k5,Bool.and_false,Bool.false_and])
          | true=>
           rw [k5]at hc;have hm:=aP5 p.cons (by omega);have hd:=aHY (bE p.cons) (by simp [bE];omega);cases k6:cN (bE p.cons)with
           | false=>
            rw [k6]at hd;exact Ends.eqv (aKa p true true (bE p.cons) false sd sd sd sd sd hi rfl hc rfl hm hd rfl) (by simp only [dC,k6,Bool.and_false,Bool.false_and])
           | true=>
            rw [k6]at hd;have hn:=aP3 p.nodes p (by omega) (fun x hx=>aM2 p x (by omega) (by omega) (hno x hx).2 (hno x hx).1);cases k7:p.nodes.all (bH p)with
            | false=>
             rw [k7]at hn;exact Ends.eqv (aKb p true true (bE p.cons) true false sd sd sd sd sd hi rfl hc rfl hm hd rfl hn rfl) (by simp only [dC,k7,Bool.and_false,Bool.false_and])
            | true=>
             rw [k7]at hn;refine(aKc p true true (bE p.cons) true true sd sd sd sd sd hi rfl hc rfl hm hd rfl hn rfl (by omega)).ends ?_;have hks:=aEm p.nodes (fun x hx=> (hno x hx).1);refine Ends.eqv (bF0 p hp (by omega) (by omega) (by omega) p.funs 0 _ (by omega) (by simp) ?_ rfl) ?_
             · intro q hq;have:= (List.mem_replicate.1 hq).2;omega
             ·simp only [dC,hh,decide_eq_true k3,k5,k6,k7,Bool.true_and] <;>rfl
       ·exact Ends.eqv (aJ7 p sd sd sd sd) (by simp [dC,k3])
     · have kk:cX (p.funs.length:Int) 1 (p.nodes.length:Int) =false:=inB_not.2 (by omega);exact Ends.eqv (aJ6 p sd sd sd) (by simp [dC,dW,kk])
   · have kk:cX (p.funs.length:Int) 1 (p.nodes.length:Int) =false:=inB_not.2 (by omega);exact Ends.eqv (aJ5 p sd sd) (by simp [dC,dW,kk])
 ·exact Ends.eqv (aJ4 p sd) (by simp [dC,dW,k0])
theorem aKv (p:Prog)(hp:aN p=true) :Pure PP 138 [Prog.av p] (.int .i64 (checkN (dC p))) :=by
 refine aQ (by kernel_rfl) rfl rfl ?_;have h:=aHZ p hp;cases k:dC p with
 |false=>rw [k]at h;exact aMX p false h rfl
 |true=>rw [k]at h;exact aMY p true h rfl
def cnt (b:Bool) :Int:=if b=true then 1 else 0
def sO (u:List Bool) :List Int:=u.map cnt
def zS (c:List Int) :Prop:= (∃ (i:Nat) (z:Int),c[i]?=some z∧2≤z) ∧∀z∈c,0≤z
theorem aKw {c:List Int}(h:zS c) :c.all one=false:=by
 obtain⟨⟨i,z,h1,h2⟩,_⟩ :=h;cases k:c.all one with
 |false=>rfl
 | true=>
  have:=List.all_eq_true.1 k z (mem_of_getElem? h1);simp only [one,decide_eq_true_eq]at this;omega
theorem aM3 {c:List Int}{j:Nat}(h:zS c) :zS (c.set j (c.getD j 0+1)) :=by
 obtain⟨⟨i,z,h1,h2⟩,h3⟩ :=h;have hi:= (List.getElem?_eq_some_iff.1 h1).1;refine⟨⟨i,if j=i then z+1 else z,?_,by split<;>omega⟩,fun q hq=>?_⟩
 · rw [List.getElem?_set];by_cases e:j=i
   · subst e;rw [if_pos rfl,if_pos hi,if_pos rfl,getD_eq_getElem?_getD,h1];rfl
   ·rw [if_neg e,if_neg e];exact h1
 · rcases List.mem_or_eq_of_mem_set hq with g|g
   ·exact h3 q g
   · rw [g,getD_eq_getElem?_getD];cases k:c[j]? with
     |none=>simp
     |some w=>have:=h3 w (mem_of_getElem? k);simp;omega
theorem vT {lo n:Int}:∀ {ks c:List Int} {d:List Int},zS c→mD lo n ks c=some d→zS d
 | [],c,d,h,e=>by simp only [mD,Option.some.injEq]at e;rw [←e];exact h
 | k::ks,c,d,h,e=>by
  simp only [mD]at e;split at e
  ·exact vT (aM3 h) e
  ·cases e
theorem aKx (u:List Bool) :∀z∈sO u,0≤z:=fun z hz=>by
 obtain⟨b,_,rfl⟩ :=List.mem_map.1 hz;cases b<;>simp [cnt]
theorem zT {lo n:Int}(hlo:0≤lo) :∀ (ks:List Int) (u:List Bool),n≤u.length →
  (∀v,marks lo n ks u=some v→mD lo n ks (sO u) =some (sO v)) ∧ (marks lo n ks u=none→∀d,mD lo n ks (sO u) =some d→zS d)
 | [],u,hn=>by
  simp only [marks,mD,Option.some.injEq];exact⟨fun v e=>by rw [e],fun e=>by cases e⟩
 | k :: ks,u,hn=>by
  simp only [marks,mD];by_cases h1:cX k lo (n-1) =true
  · have hk:=inB_iff.1 h1;have hlt:k.toNat<u.length:=by omega
    have hget:u[k.toNat]?=some u[k.toNat] :=List.getElem?_eq_getElem hlt;have hc: (sO u).getD k.toNat 0=cnt u[k.toNat] :=by
     rw [getD_eq_getElem?_getD,sO,List.getElem?_map,hget];rfl
    rw [if_pos h1];cases hb:u[k.toNat]with
    | false=>
     rw [hb]at hget hc;rw [if_pos ⟨h1,hget⟩];have e: (sO u).set k.toNat ((sO u).getD k.toNat 0+1) =sO (u.set k.toNat true) :=by
      rw [hc,sO,sO,List.map_set];rfl
     rw [e];exact zT hlo ks (u.set k.toNat true) (by simpa using hn)
    | true=>
     rw [hb]at hget hc;rw [if_neg (by rw [hget];simp)];refine And.intro (fun v e=>nomatch e) (fun _ d e=>vT (And.intro ⟨k.toNat,2,?_,by omega⟩ ?_) e)
     ·rw [hc,List.getElem?_set_self (by simp [sO];exact hlt)];rfl
     · intro z hz;rcases List.mem_or_eq_of_mem_set hz with g|g
       ·exact aKx u z g
       ·rw [g,hc];simp [cnt]
  · rw [if_neg h1,if_neg (fun g=>h1 g.1)];exact And.intro (fun v e=>nomatch e) (fun _ d e=>nomatch e)
theorem pM (p:Prog) :∀ (t:List Node) (i:Nat) (c:List Int),zS c→oZ (kZ p i t c) =false
 | [],i,c,h=>by rw [kZ];exact aKw h
 | x::t,i,c,h=>by
  rw [kZ];cases e:mD ((i:Int) +1) (p.nodes.length:Int) x.kids c with
  |none=>rfl
  |some d=>exact pM p t (i+1) d (vT h e)
theorem aGa :∀ (u:List Bool),(sO u).all one=u.all fun b=>b
 | [] =>rfl
 | b::u=>by
  have:=aGa u;simp only [sO,List.map_cons,all_cons]at this ⊢;rw [this];cases b<;>simp [cnt,one]
theorem aKy (p:Prog) :∀ (t:List Node) (i:Nat) (u:List Bool),u.length=p.nodes.length→t.all (bH p) =true→allT (cS p i t u) =oZ (kZ p i t (sO u))
 | [],i,u,hu,_=>by simp only [cS,kZ,allT,oZ,aGa]
 | x::t,i,u,hu,ha=>by
  simp only [all_cons,and_eq_true]at ha;obtain⟨m1,m2⟩ :=zT (lo:= (i:Int) +1) (n:= (p.nodes.length:Int)) (by omega) x.kids u (by omega);simp only [cS,kZ,if_pos ha.1];cases hm:marks ((i:Int) +1) (p.nodes.length:Int) x.kids u with
  | some v=>
   rw [m1 v hm];exact aKy p t (i+1) v (by rw [kX hm,hu]) ha.2
  | none=>
   cases hi:mD ((i:Int) +1) (p.nodes.length:Int) x.kids (sO u)with
   |none=>rfl
   |some d=>exact(pM p t (i+1) d (m2 hm d hi)).symm
theorem aAY (p:Prog) :∀ (t:List Node) (i:Nat) (u:List Bool),t.all (bH p) =false→allT (cS p i t u) =false
 | [],i,u,h=>by simp at h
 | x ::t,i,u,h=>by
  simp only [cS];by_cases hx:bH p x=true
  · rw [if_pos hx];have ht:t.all (bH p) =false:=by simpa [hx]using h
    cases marks ((i:Int) +1) (p.nodes.length:Int) x.kids u with
    |none=>rfl
    |some v=>exact aAY p t (i+1) v ht
  ·rw [if_neg hx];rfl
theorem aP6 (p:Prog) :dC p=aY p:=by
 have e1:dC p= (dW p&&vQ p.cons&& (p.nodes.all (bH p) && (match mD 0 (p.nodes.length:Int) p.funs (replicate p.nodes.length 0)with
  |some v=>oZ (kZ p 0 p.nodes v)
  |none=>false))) :=by
  unfold dC vQ;cases dW p<;>cases p.cons.all fC<;>cases cN (bE p.cons) <;>cases p.nodes.all (bH p) <;>cases decide (p.cons.length≤20) <;>simp
 rw [e1,aY];congr 1;have ez:replicate p.nodes.length (0:Int) =sO (replicate p.nodes.length false) :=by rw [sO,List.map_replicate];rfl
 rw [ez];obtain⟨m1,m2⟩ :=zT (lo:=0) (n:= (p.nodes.length:Int)) (by omega) p.funs (replicate p.nodes.length false) (by simp);cases hm:marks 0 (p.nodes.length:Int) p.funs (replicate p.nodes.length false)with
 | some v=>
  rw [m1 v hm];cases ha:p.nodes.all (bH p)with
  |true=>simp only [Bool.true_and];exact(aKy p p.nodes 0 v (by rw [kX hm];simp) ha).symm
  |false=>simp only [Bool.false_and];exact(aAY p p.nodes 0 v ha).symm
 | none=>
  simp only;cases hi:mD 0 (p.nodes.length:Int) p.funs (sO (replicate p.nodes.length false))with
  |none=>simp
  |some d=>simp only [pM p p.nodes 0 d (m2 hm d hi),Bool.and_false]
theorem Ends.val {P:Program}{m:Nat}{s:AS}{v v':AV}{h':Hp}(h:Ends P m s (.ret v) h')(hv:∀E cv,VR E v cv→VR E v' cv) :Ends P m s (.ret v') h':=fun hm E fr ccs w f fs r cl base=>by
 obtain⟨cl',w',E',s1,⟨cv,e,g⟩,r2,x2⟩ :=h hm E fr ccs w f fs r cl base;exact⟨cl',w',E',s1,⟨cv,e,hv _ _ g⟩,r2,x2⟩
mutual
def bnm :Pat→Int
 | .mk f _ _ ps=>if f=2 then 1 else bA4 ps
def bA4 :List Pat→Int
 | [] =>0
 |p::ps=>bnm p+bA4 ps
end
def aKz (x:Node)(k:Int) :Int:=
 if x.op=5∨x.op=27∨ (x.op=7∧k=1)then 1
 else if x.op=15∧k>0 then(match x.pats[(k-1).toNat]? with|some q=>bnm q|none=>0)else 0
structure FineN (cons:List Con) (x:Node) :Prop where
 pats:∀q∈x.pats,cC q≤12∧cD cons q=true
 mat:x.op=15→x.kids.length=1+x.pats.length
 let2:x.op=7→x.kids.length=2
theorem aCZ {p:Prog}{x:Node}(h:bH p x=true) :FineN p.cons x:=by
 simp only [bH,and_eq_true,decide_eq_true_eq]at h;obtain⟨⟨_,h2⟩,h3⟩ :=h;refine⟨fun q hq=>?_,fun e=>?_,fun e=>?_⟩
 · have:=List.all_eq_true.1 h2 q hq;simpa [gB]using this
 ·rw [e]at h3;simp [dG]at h3;omega
 ·rw [e]at h3;simp [dG]at h3;omega
structure FineP (p:Prog) :Prop where
 small:p.nodes.length≤320
 fsmall:p.funs.length≤320
 node:∀ (i:Nat) (x:Node),p.nodes[i]?=some x→FineN p.cons x∧x.kids.length≤10∧∀k∈x.kids,(i:Int) <k∧k<p.nodes.length
 funs:∀f∈p.funs,0≤f∧f<p.nodes.length
section
variable (p :Prog) (mf mc:List (Int×Int))
variable {p mf mc}
end
theorem lA {P:Program}{f:Nat}{args args':List AV}{v v':AV}{l l' lc lc':List (Nat×AObj×Bool)}{m nb nb' n2 n3:Nat}{ks:List Nat}
  (h0:aFM P m (.enter f args) (aG l nb) (.ret v) (aG l' nb')) (e3:nb'-m+n2=n3) (ev:AV.ren (nO m n2 ks) v=v') (hargs:AV.renL (eF 0 nb n2 ks) args=args') (hm:Nat.ble m nb=true) (hm':Nat.ble m nb'=true)
  (hin:dI 0 ⟨⟨0,0,[],[],[],.run,.normal,none⟩,[],l,nb⟩ ks=true) (hl:vG (aG lc n2) (eF 0 nb n2 ks) l=iV (eF 0 nb n2 ks) l) (hkl:iW l)
  (hl':vG (aG lc' n3) (nO m n2 ks) l'=iV (nO m n2 ks) l') (hkl':iW l') (hpl:zK l'=true:=by kernel_rfl) (hk':hQ nb' l'=true:=by kernel_rfl)
  (hx:hQ n2 lc=true:=by kernel_rfl) (hx':hQ n3 lc'=true:=by kernel_rfl) (hlt:ks.all (fun k=>Nat.blt k n2) =true:=by kernel_rfl) (hout:aDG (namesT (nO m n2 ks) l') ks (aG lc n2) lc'=rY lc':=by kernel_rfl) (hll:rY l'= (l'.map fun p=> (aG l' nb').look p.1) :=by kernel_rfl) :
  Spec P (.enter f args') (aG lc n2) (.ret v') (aG lc' n3) :=by
 subst e3 ev;exact aRb h0 hargs hm hm' hin hl hkl hl' hkl' hpl hk' hx hx' hlt hout hll
def bN (mf mc:List (Int×Int))(op n:Int) :Int:=if op=4 then(if 0≤n then n else -1-kN mf (-1-n))else if op=14 then kN mc n else n
def dN (mf mc:List (Int×Int))(to:List Int)(x:Node) :Node:= ⟨x.op,bN mf mc x.op x.n,x.kids.map (eD to),dX mc x.pats⟩
def nOk (mf:List (Int×Int))(x:Node) :Prop:=aX x.pats<1000000∧ (x.op=4→x.n<0→ -1000000000≤x.n∧ -1000000000≤kN mf (-1-x.n) ∧kN mf (-1-x.n) ≤1000000000)
def wB (p:Prog)(mf mc:List (Int×Int))(to:List Int) :Nat→Int→List Node
 |0,_=>[]
 | f+1,a=>match p.nodes[a.toNat]? with
  |some x=>dN mf mc to x:: (x.kids.map (wB p mf mc to f)).flatten
  |none=>[]
section
variable (p :Prog) (mf mc:List (Int×Int)) (to:List Int)
variable {p mf mc to}
end
def aM4 (p:Prog)(mf mc:List (Int×Int))(to:List Int)(f:Nat) :List Node:= (p.funs.map (wB p mf mc to f)).flatten
section
variable {p :Prog} {mf mc:List (Int×Int)}
end
def sM :Nat→List (Int×Int)
 |0=>[]
 |n+1=>bX (n:Int) (n:Int) (sM n)
theorem qH {α β:Type}[DecidableEq α](k k':α)(v:β) :∀ (l:List (α×β)),dU k (bX k' v l) =if k=k' then some v else dU k l
 | [] =>by simp [bX,dU]
 | e ::l=>by
  simp only [bX];split
  · rename_i h;subst h;simp only [dU];split<;>rfl
  · rename_i h;simp only [dU,qH k k' v l];by_cases h1:k=e.1
    · subst h1;rw [if_pos rfl,if_pos rfl,if_neg (fun e=>h e.symm)]
    ·rw [if_neg h1,if_neg h1]
theorem aSV :∀ (n:Nat) (i:Int),0≤i→i<n→dU i (sM n) =some i
 |0,i,h0,h1=>by omega
 | n+1,i,h0,h1=>by
  rw [sM,qH];by_cases h:i= (n:Int)
  ·rw [if_pos h,h]
  ·rw [if_neg h];exact aSV n i h0 (by omega)
theorem aKA {n:Nat}{i:Int}(h0:0≤i)(h1:i<n) :kN (sM n) i=i:=by unfold kN;rw [aSV n i h0 h1];rfl
theorem aP7 {P:Program}{m:Nat}{s:AS}{v v':AV}{h':Hp}(h:Ends P m s (.ret v) h')(hv:∀ (E:Emb) (cv:Value),VR E v cv→VR E v' cv) :Ends P m s (.ret v') h':=fun hm E fr ccs w f fs r cl base=>by
 obtain⟨cl',w',E',s1,⟨cv,rfl,g2⟩,r2,x2⟩ :=h hm E fr ccs w f fs r cl base;exact⟨_,w',E',s1,⟨cv,rfl,hv E' cv g2⟩,r2,x2⟩
theorem sP {E:Emb}{e:Nat}{xs:List AV}{cv:Value}(h:VR E (.ilst e xs true) cv) :VR E (.ilst e xs false) cv:=by
 simp only [VR]at h ⊢;obtain⟨vs,h1,h2,h3⟩ :=h;refine⟨vs,h1,h2,?_⟩;rcases h3 with⟨rfl,a,cap,rfl,g,_⟩ | ⟨k,a,cap,C,g1,g2,g3,_,g5⟩
 ·exact .inl ⟨rfl,a,cap,rfl,g,fun hh=>by cases hh⟩
 ·exact .inr ⟨k,a,cap,C,g1,g2,g3,(fun hh=>by cases hh),g5⟩
section
variable {p :Prog}
end
end
end Go.Hb
