/- A machine on abstract values, its soundness, ways, plain laws. -/
import Derived.Test.YtfaikcecgpcimaaGreatHF
import Derived.Test.YtfaikcecgpcimaaGreatHG
import Derived.Test.YtfaikcecgpcimaaGreatHH
set_option linter.defProp false
set_option linter.unusedVariables false
set_option linter.unusedSimpArgs false
set_option linter.unusedSectionVars false
set_option maxRecDepth 100000
set_option maxHeartbeats 8000000
namespace Go.Hb
open Bool (and_eq_true)
open List (all_cons getD_eq_getElem?_getD length length_cons map mem_of_getElem? replicate)
open Go.Proofs Tryz
noncomputable section
mutual
def bBZ :Term→Nat
 | .mk _ _ _ ks _=>aUT ks+1
def aUT :List Term→Nat
 | [] =>0
 |t::ts=>bBZ t+aUT ts
end
def lQ (m:List (Int×Int))(n:Int) :Int:= (eA n m).getD 0
mutual
def zG (mc:List (Int×Int)) :Pat→Pat
 | .mk f n t ps=>.mk f (if f=6 then lQ mc n else n) t (fZ mc ps)
def fZ (mc:List (Int×Int)) :List Pat→List Pat
 | [] =>[]
 |p::ps=>zG mc p::fZ mc ps
end
section
variable (mf mc:List (Int×Int))
end
def fB (to:List Int)(k:Int) :Int:=to.getD k.toNat 0
def xM :List aB→List (aB×Bool) →List (aB×Bool)
 | [],m=>m
 |x::t,m=>xM t (bY x true m)
theorem aBT (l:List aB)(hl:l.length<1000000) :∀ (t:List aB) (i:Nat) (m:List (aB×Bool)),l.drop i=t→Ends PP 0 (tZ l (i:Int) m).as (.ret (.bool (decide ((xM t m).length=l.length)))) (aD [] 0)
 | [],i,m,h=>by
  have:=bA h;refine Ends.eqv (aLA l i m sd) ?_;have: (((length m:Nat) :Int) == ((length l:Nat) :Int)) =decide (m.length=l.length) :=by
   by_cases k:m.length=l.length<;>simp [k] <;>omega
  rw [this];rfl
 | x::t,i,m,h=>by
  obtain⟨g1,g2,g3⟩ :=aY h;refine(aLz l i m x sd sd sd sd).ends ?_;exact aBT l hl t (i+1) _ g2
theorem aFv {k:aB}{v w:Bool}:∀ {m:List (aB×Bool)},eA k m=some w→ (bY k v m).map Prod.fst=m.map Prod.fst
 | [],h=>by cases h
 | e::m,h=>by
  unfold eA at h;unfold bY;split at h
  ·rename_i hk;rw [if_pos hk];simp [hk]
  ·rename_i hk;rw [if_neg hk];simp [aFv h]
theorem aFw {k:aB}{v:Bool}:∀ {m:List (aB×Bool)},eA k m=none→ (bY k v m).map Prod.fst=m.map Prod.fst++ [k]
 | [],_=>rfl
 | e::m,h=>by
  unfold eA at h;unfold bY;split at h
  ·cases h
  ·rename_i hk;rw [if_neg hk];simp [aFw h]
theorem aFx {k:aB}:∀ {m:List (aB×Bool)},(eA k m).isSome=aV (m.map Prod.fst) k
 | [] =>rfl
 | e ::m=>by
  unfold eA;split
  ·rename_i hk;simp [aV,hk]
  · rename_i hk;have:¬e.1=k:=fun h=>hk h.symm;rw [aFx];simp [aV,this]
theorem aHm :∀ (t:List aB) (m:List (aB×Bool)),(xM t m).length≤m.length+t.length
 | [],m=>by simp [xM]
 | x::t,m=>by
  have a:=aHm t (bY x true m);have b: (bY x true m).length≤m.length+1:=by
   cases h:eA x m with
   |none=>have:=congrArg length (aFw (v:=true) h);simp at this;omega
   |some w=>have:=congrArg length (aFv (v:=true) h);simp at this;omega
  simp only [xM,length_cons];omega
theorem aFy :∀ (t:List aB) (m:List (aB×Bool)),(xM t m).length=m.length+t.length↔cR (m.map Prod.fst) t=true
 | [],m=>by simp [xM,cR]
 | x::t,m=>by
  simp only [xM,cR];cases h:eA x m with
  | some w=>
   have e:=aFv (v:=true) h;have hs:aV (m.map Prod.fst) x=true:=by rw [←aFx,h];rfl
   have a:=aHm t (bY x true m);have b:=congrArg length e;simp only [List.length_map]at b;rw [hs];constructor
   ·intro g;simp only [length_cons]at g;omega
   ·intro g;simp at g
  | none=>
   have e:=aFw (v:=true) h;have hs:aV (m.map Prod.fst) x=false:=by rw [←aFx,h];rfl
   have ih:=aFy t (bY x true m);have b:=congrArg length e;simp only [List.length_map,List.length_append,List.length_singleton]at b;rw [hs,←e];simp only [Bool.not_false,Bool.true_and,length_cons];rw [←ih,b];omega
theorem aJq (l:List aB)(hl:l.length<1000000) :Pure PP 244 [.ilst 1 (map aA l) false] (.bool (cA l)) :=by
 refine aU (by kernel_rfl) rfl rfl ((aLy l).ends (Ends.eqv (aBT l hl l 0 [] rfl) ?_));have:=aFy l [];simp only [List.length_nil,Nat.zero_add,List.map_nil]at this;congr 1;cases k:cA l with
 |true=>exact decide_eq_true (this.2 k)
 |false=>exact decide_eq_false fun g=>by have:=this.1 g;unfold cA at k;rw [k]at this;cases this
theorem aHn (l:List Con)(hl:l.length<1000000) :∀ (t:List Con) (i:Nat),l.drop i=t→Ends PP 0 (aD8 l (i:Int)).as (.ret (.bool (t.all fW))) (aD [] 0)
 | [],i,h=>by
  have:=bA h;exact Ends.eqv (aUt l i sd) (by simp)
 | c::t,i,h=>by
  obtain⟨g1,g2,g3⟩ :=aY h;have hq:=aRS c;cases k:fW c with
  |false=>rw [k]at hq;exact Ends.eqv (aUr l i c false sd sd sd hq rfl) (by simp [k])
  | true=>
   rw [k]at hq;refine(aUs l i c true sd sd sd hq rfl sd).ends ?_;exact Ends.eqv (aHn l hl t (i+1) g2) (by simp [k])
theorem aR0 (l:List Con)(hl:l.length<1000000) :Pure PP 242 [.ilst 2 (map Con.av l) false,.func 243 [] []] (.bool (l.all fW)) :=
 aU (by kernel_rfl) rfl rfl ((aUq l).ends (aHn l hl l 0 rfl))
theorem aHo (l:List Node)(p:Prog)(hl:l.length<1000000)(ih:∀x∈l,Pure PP 248 [Prog.av p,Node.av x] (.bool (bH p x))) :∀ (t:List Node) (i:Nat),l.drop i=t→Ends PP 0 (aD7 l p (i:Int)).as (.ret (.bool (t.all (bH p)))) (aD [] 0)
 | [],i,h=>by
  have:=bA h;exact Ends.eqv (aUp l p i sd) (by simp)
 | c::t,i,h=>by
  obtain⟨g1,g2,g3⟩ :=aY h;have hq:=ih c (mem_of_getElem? g1);cases k:bH p c with
  |false=>rw [k]at hq;exact Ends.eqv (aUn l p i c false sd sd sd hq rfl) (by simp [k])
  | true=>
   rw [k]at hq;refine(aUo l p i c true sd sd sd hq rfl sd).ends ?_;exact Ends.eqv (aHo l p hl ih t (i+1) g2) (by simp [k])
theorem aR1 (l:List Node)(p:Prog)(hl:l.length<1000000)(ih:∀x∈l,Pure PP 248 [Prog.av p,Node.av x] (.bool (bH p x))) :Pure PP 247 [.ilst 4 (map Node.av l) false,.func 248 [Prog.av p] []] (.bool (l.all (bH p))) :=
 aU (by kernel_rfl) rfl rfl ((aUm l p).ends (aHo l p hl ih l 0 rfl))
def one (k:Int) :Bool:=decide (k=1)
theorem aHp (l:List Int)(hl:l.length<1000000) :∀ (t:List Int) (i:Nat),l.drop i=t→Ends PP 0 (aD9 l (i:Int)).as (.ret (.bool (t.all one))) (aD [] 0)
 | [],i,h=>by
  have:=bA h;exact Ends.eqv (aUx l i sd) (by simp)
 | c ::t,i,h=>by
  obtain⟨g1,g2,g3⟩ :=aY h;by_cases k:c=1
  · refine(aUw l i c sd sd sd (by simp [k]) sd).ends ?_;exact Ends.eqv (aHp l hl t (i+1) g2) (by simp [k,one])
  ·exact Ends.eqv (aUv l i c sd sd sd (by simp [k])) (by simp [k,one])
theorem aR2 (l:List Int)(hl:l.length<1000000) :Pure PP 249 [.ilst 1 (map aP l) true,.func 250 [] []] (.bool (l.all one)) :=
 aU (by kernel_rfl) rfl rfl ((aUu l).ends (aHp l hl l 0 rfl))
theorem aHq (l:List Con)(hl:l.length<100000) :∀ (t:List Con) (i:Nat),l.drop i=t→Ends PP 0 (aEa l (i:Int) (bG (l.take i))).as (.ret (.ilst 1 (map aA (bG l)) false)) (aD [] 0)
 | [],i,h=>by
  have hi:=bA h;have e:bG (l.take i) =bG l:=by rw [List.take_of_length_le hi]
  rw [e];exact aUA l i _ sd
 | c::t,i,h=>by
  obtain⟨g1,g2,g3⟩ :=aY h;have e:bG (l.take i) ++ [c.name] =bG (l.take (i+1)) :=by
   rw [List.take_add_one,g1];simp [bG]
  refine(aUz l i (bG (l.take i)) c sd sd sd (by simp [bG];omega) sd).ends ?_;rw [e];exact aHq l hl t (i+1) g2
theorem aR3 (l:List Con)(hl:l.length<100000) :Pure PP 245 [.ilst 2 (map Con.av l) false,.func 246 [] []] (.ilst 1 (map aA (bG l)) false) :=
 aU (by kernel_rfl) rfl rfl ((aUy l).ends (aHq l hl l 0 rfl))
def nH (lo n:Int) :List Int→List Int→Option (List Int)
 | [],c=>some c
 |k::ks,c=>if cT k lo (n-1) =true then nH lo n ks (c.set k.toNat (c.getD k.toNat 0+1))else none
def mB (p:Prog) :Nat→List Node→List Int→Option (List Int)
 |_,[],c=>some c
 | i,x::t,c=>match nH ((i:Int) +1) (p.nodes.length:Int) x.kids c with
   |some d=>mB p (i+1) t d
   |none=>none
def qK :Option (List Int) →Bool
 |some c=>c.all one
 |none=>false
def below (b:Int)(c:List Int) :Prop:=∀k∈c,0≤k∧k≤b
theorem aCM {b:Int}{c:List Int}(h:below b c){i:Nat}{z:Int}(hz:c[i]?=some z) :0≤z∧z≤b:=h z (mem_of_getElem? hz)
theorem aHr {b:Int}{c:List Int}(h:below b c){i:Nat}{z:Int}(hz:c[i]?=some z) :below (b+1) (c.set i (z+1)) :=fun k hk=>by
 rcases List.mem_or_eq_of_mem_set hk with g|g
 ·have:=h k g;omega
 ·have:=aCM h hz;omega
theorem bF2 (p:Prog)(i:Nat)(hi:i<p.nodes.length)(hn:p.nodes.length≤1000)(ks:List Int)(hk:ks.length≤1000)(K:List Int→Bool)(B:Int)(hB:0≤B)(hB2:B≤1000000)
  (hb:∀v:List Int,v.length=p.nodes.length→below (B+ks.length) v→Ends PP 0 (pH p v ((i:Int) +1)).as (.ret (.bool (K v))) (aD [] 0)) :
  ∀ (t:List Int) (k:Nat) (c:List Int),c.length=p.nodes.length→k≤ks.length→below (B+k) c→ks.drop k=t→Ends PP 0 (uB p ks (ks.length:Int) c (k:Int) (i:Int) (i:Int)).as (.ret (.bool (match nH ((i:Int) +1) p.nodes.length t c with|some v=>K v|none=>false))) (aD [] 0)
 | [],k,c,hc,hkl,hbl,h=>by
  have:=bA h;have e:k=ks.length:=by omega
  subst e;refine(aLR p ks ks.length c ks.length i i sd sd).ends ?_;exact hb c hc hbl
 | y ::t,k,c,hc,hkl,hbl,h=>by
  obtain⟨g1,g2,g3⟩ :=aY h;have hin:=fY y ((i:Int) +1) ((p.nodes.length:Int) -1);cases k1:cT y ((i:Int) +1) ((p.nodes.length:Int) -1)with
  | false=>
   rw [k1]at hin;exact Ends.eqv (aLP p ks ks.length c k i i y false sd sd sd sd sd hin rfl) (by simp [nH,k1])
  | true=>
   rw [k1]at hin;have hy:=inB_iff.1 k1;obtain⟨z,hz⟩ :∃z,c[y.toNat]?=some z:= ⟨_,List.getElem?_eq_getElem (by omega)⟩;have hzb:=aCM hbl hz;refine(aLQ p ks ks.length c k i i y true z sd sd sd sd sd hin rfl (by omega) (by omega) hz sd sd).ends ?_;have e:c.getD y.toNat 0=z:=by rw [getD_eq_getElem?_getD,hz];rfl
   have ei:nH ((i:Int) +1) p.nodes.length (y::t) c=nH ((i:Int) +1) p.nodes.length t (c.set y.toNat (z+1)) :=by
    rw [nH,if_pos k1,e]
   rw [ei];refine bF2 p i hi hn ks hk K B hB hB2 hb t (k+1) (c.set y.toNat (z+1)) (by simpa using hc) (by omega) ?_ g2;have:=aHr hbl hz;intro q hq;have:=this q hq
   push_cast
   omega
def uC :List Node→Nat
 | [] =>0
 |x::t=>x.kids.length+uC t
theorem aFz :∀ (t:List Node),(∀x∈t,x.kids.length≤10) →uC t≤10*t.length
 | [],_=>by simp [uC]
 | x::t,h=>by
  have a:=aFz t (fun y hy=>h y (List.mem_cons_of_mem _ hy));have b:=h x (List.mem_cons_self ..);simp only [uC,length_cons];omega
theorem bF1 (p:Prog)(hp:aJ p=true)(hn:p.nodes.length≤1000) :∀ (t:List Node) (i:Nat) (c:List Int) (B:Int),0≤B→B+uC t≤100000→c.length=p.nodes.length→below B c→p.nodes.drop i=t →
  Ends PP 0 (pH p c (i:Int)).as (.ret (.bool (qK (mB p i t c)))) (aD [] 0)
 | [],i,c,B,h0,h1,hc,hb,h=>by
  have:=bA h;exact Ends.eqv (aLO p c i _ sd (aR2 c (by omega))) rfl
 | x::t,i,c,B,h0,h1,hc,hb,h=>by
  obtain⟨g1,g2,g3⟩ :=aY h;have hx:aX x=true:=by
   simp only [aJ,and_eq_true]at hp;exact List.all_eq_true.1 hp.2 x (mem_of_getElem? g1)
  simp only [aX,and_eq_true,decide_eq_true_eq]at hx;simp only [uC]at h1;refine(aLN p c i x sd sd sd).ends ?_;refine Ends.eqv (bF2 p i g3 hn x.kids (by omega) (fun v=>qK (mB p (i+1) t v)) B h0 (by omega) (fun v hv hbv=>bF1 p hp hn t (i+1) v (B+x.kids.length) (by omega) (by omega) hv hbv g2) x.kids 0 c hc (by omega) (by simpa using hb) rfl) ?_;rw [mB];cases nH ((i:Int) +1) (p.nodes.length:Int) x.kids c<;>rfl
theorem bF0 (p:Prog)(hp:aJ p=true)(hn:p.nodes.length≤1000)(hks:uC p.nodes≤10000)(hf:p.funs.length≤1000) :∀ (t:List Int) (i:Nat) (c:List Int),i≤p.funs.length→c.length=p.nodes.length→below (i:Int) c→p.funs.drop i=t →
  Ends PP 0 (uA p (i:Int) c).as (.ret (.bool (match nH 0 p.nodes.length t c with|some v=>qK (mB p 0 p.nodes v) |none=>false))) (aD [] 0)
 | [],i,c,hi,hc,hb,h=>by
  have:=bA h;refine(aLM p i c sd).ends ?_;exact bF1 p hp hn p.nodes 0 c i (by omega) (by omega) hc hb rfl
 | y ::t,i,c,hi,hc,hb,h=>by
  obtain⟨g1,g2,g3⟩ :=aY h;have hin:=fY y 0 ((p.nodes.length:Int) -1);cases k1:cT y 0 ((p.nodes.length:Int) -1)with
  | false=>
   rw [k1]at hin;exact Ends.eqv (aLK p i c y false sd sd sd sd hin rfl) (by simp [nH,k1])
  | true=>
   rw [k1]at hin;have hy:=inB_iff.1 k1;obtain⟨z,hz⟩ :∃z,c[y.toNat]?=some z:= ⟨_,List.getElem?_eq_getElem (by omega)⟩;have hzb:=aCM hb hz;refine(aLL p i c y true z sd sd sd sd hin rfl (by omega) (by omega) hz sd sd).ends ?_;have e:c.getD y.toNat 0=z:=by rw [getD_eq_getElem?_getD,hz];rfl
   have ei:nH 0 p.nodes.length (y::t) c=nH 0 p.nodes.length t (c.set y.toNat (z+1)) :=by
    rw [nH,if_pos k1,e]
   rw [ei];refine bF0 p hp hn hks hf t (i+1) (c.set y.toNat (z+1)) (by omega) (by simpa using hc) ?_ g2;have:=aHr hb hz;intro q hq;have:=this q hq
   push_cast
   omega
def dK (p:Prog) :Bool:=
 eB p&&decide (p.cons.length≤20) &&p.cons.all fW&&cA (bG p.cons) &&p.nodes.all (bH p) &&
  (match nH 0 (p.nodes.length:Int) p.funs (replicate p.nodes.length 0)with
  |some v=>qK (mB p 0 p.nodes v)
  |none=>false)
theorem aL0 {p:Prog}(hp:aJ p=true) :∀x∈p.nodes,x.kids.length≤10∧x.pats.length≤10:=fun x hx=>by
 simp only [aJ,and_eq_true]at hp;have:=List.all_eq_true.1 hp.2 x hx;simp only [aX,and_eq_true,decide_eq_true_eq]at this;exact this.1
theorem aJr (p:Prog)(hp:aJ p=true) :Pure PP 200 [Prog.av p] (.bool (dK p)) :=by
 refine aU (by kernel_rfl) rfl rfl ?_;have hs:=hp;simp only [aJ,and_eq_true,decide_eq_true_eq]at hs;obtain⟨⟨⟨⟨s1,s2⟩,s3⟩,_⟩,_⟩ :=hs;have hno:=aL0 hp;by_cases k0:p.nodes.length≤300
 · by_cases k1 :1≤p.funs.length
   · by_cases k2:p.funs.length≤p.nodes.length
     · have kk :cT (p.funs.length:Int) 1 (p.nodes.length:Int) =true:=inB_iff.2 ⟨by omega,by omega⟩;by_cases k3:p.cons.length≤20
       · have hi:=fY p.main 0 ((p.funs.length:Int) -1);cases k4:cT p.main 0 ((p.funs.length:Int) -1)with
         | false=>
          rw [k4]at hi;exact Ends.eqv (aLF p false sd sd sd sd sd hi rfl) (by simp [dK,eB,k4])
         | true =>
          rw [k4]at hi;have hh:eB p=true:=by simp [eB,k0,kk,k4]
          have hc:=aR0 p.cons (by omega);cases k5:p.cons.all fW with
          | false=>
           rw [k5]at hc;exact Ends.eqv (aLG p true false sd sd sd sd sd hi rfl hc rfl) (by simp only [dK,k5,Bool.and_false,Bool.false_and])
          | true=>
           rw [k5]at hc;have hm:=aR3 p.cons (by omega);have hd:=aJq (bG p.cons) (by simp [bG];omega);cases k6:cA (bG p.cons)with
           | false=>
            rw [k6]at hd;exact Ends.eqv (aLH p true true (bG p.cons) false sd sd sd sd sd hi rfl hc rfl hm hd rfl) (by simp only [dK,k6,Bool.and_false,Bool.false_and])
           | true=>
            rw [k6]at hd;have hn:=aR1 p.nodes p (by omega) (fun x hx=>aOH p x (by omega) (by omega) (hno x hx).2 (hno x hx).1);cases k7:p.nodes.all (bH p)with
            | false=>
             rw [k7]at hn;exact Ends.eqv (aLI p true true (bG p.cons) true false sd sd sd sd sd hi rfl hc rfl hm hd rfl hn rfl) (by simp only [dK,k7,Bool.and_false,Bool.false_and])
            | true=>
             rw [k7]at hn;refine(aLJ p true true (bG p.cons) true true sd sd sd sd sd hi rfl hc rfl hm hd rfl hn rfl (by omega)).ends ?_;have hks:=aFz p.nodes (fun x hx=> (hno x hx).1);refine Ends.eqv (bF0 p hp (by omega) (by omega) (by omega) p.funs 0 _ (by omega) (by simp) ?_ rfl) ?_
             · intro q hq;have:= (List.mem_replicate.1 hq).2;omega
             ·simp only [dK,hh,decide_eq_true k3,k5,k6,k7,Bool.true_and] <;>rfl
       ·exact Ends.eqv (aLE p sd sd sd sd) (by simp [dK,k3])
     · have kk:cT (p.funs.length:Int) 1 (p.nodes.length:Int) =false:=inB_not.2 (by omega);exact Ends.eqv (aLD p sd sd sd) (by simp [dK,eB,kk])
   · have kk:cT (p.funs.length:Int) 1 (p.nodes.length:Int) =false:=inB_not.2 (by omega);exact Ends.eqv (aLC p sd sd) (by simp [dK,eB,kk])
 ·exact Ends.eqv (aLB p sd) (by simp [dK,eB,k0])
theorem aL1 (p:Prog)(hp:aJ p=true) :Pure PP 138 [Prog.av p] (.int .i64 (checkN (dK p))) :=by
 refine aU (by kernel_rfl) rfl rfl ?_;have h:=aJr p hp;cases k:dK p with
 |false=>rw [k]at h;exact aOC p false h rfl
 |true=>rw [k]at h;exact aOD p true h rfl
def cnt (b:Bool) :Int:=if b=true then 1 else 0
def uD (u:List Bool) :List Int:=u.map cnt
def aAV (c:List Int) :Prop:= (∃ (i:Nat) (z:Int),c[i]?=some z∧2≤z) ∧∀z∈c,0≤z
theorem aL2 {c:List Int}(h:aAV c) :c.all one=false:=by
 obtain⟨⟨i,z,h1,h2⟩,_⟩ :=h;cases k:c.all one with
 |false=>rfl
 | true=>
  have:=List.all_eq_true.1 k z (mem_of_getElem? h1);simp only [one,decide_eq_true_eq]at this;omega
theorem aOI {c:List Int}{j:Nat}(h:aAV c) :aAV (c.set j (c.getD j 0+1)) :=by
 obtain⟨⟨i,z,h1,h2⟩,h3⟩ :=h;have hi:= (List.getElem?_eq_some_iff.1 h1).1;refine⟨⟨i,if j=i then z+1 else z,?_,by split<;>omega⟩,fun q hq=>?_⟩
 · rw [List.getElem?_set];by_cases e:j=i
   · subst e;rw [if_pos rfl,if_pos hi,if_pos rfl,getD_eq_getElem?_getD,h1];rfl
   ·rw [if_neg e,if_neg e];exact h1
 · rcases List.mem_or_eq_of_mem_set hq with g|g
   ·exact h3 q g
   · rw [g,getD_eq_getElem?_getD];cases k:c[j]? with
     |none=>simp
     |some w=>have:=h3 w (mem_of_getElem? k);simp;omega
theorem xN {lo n:Int}:∀ {ks c:List Int} {d:List Int},aAV c→nH lo n ks c=some d→aAV d
 | [],c,d,h,e=>by simp only [nH,Option.some.injEq]at e;rw [←e];exact h
 | k::ks,c,d,h,e=>by
  simp only [nH]at e;split at e
  ·exact xN (aOI h) e
  ·cases e
theorem aL3 (u:List Bool) :∀z∈uD u,0≤z:=fun z hz=>by
 obtain⟨b,_,rfl⟩ :=List.mem_map.1 hz;cases b<;>simp [cnt]
theorem aAW {lo n:Int}(hlo:0≤lo) :∀ (ks:List Int) (u:List Bool),n≤u.length →
  (∀v,marks lo n ks u=some v→nH lo n ks (uD u) =some (uD v)) ∧ (marks lo n ks u=none→∀d,nH lo n ks (uD u) =some d→aAV d)
 | [],u,hn=>by
  simp only [marks,nH,Option.some.injEq];exact⟨fun v e=>by rw [e],fun e=>by cases e⟩
 | k :: ks,u,hn=>by
  simp only [marks,nH];by_cases h1:cT k lo (n-1) =true
  · have hk:=inB_iff.1 h1;have hlt:k.toNat<u.length:=by omega
    have hget:u[k.toNat]?=some u[k.toNat] :=List.getElem?_eq_getElem hlt;have hc: (uD u).getD k.toNat 0=cnt u[k.toNat] :=by
     rw [getD_eq_getElem?_getD,uD,List.getElem?_map,hget];rfl
    rw [if_pos h1];cases hb:u[k.toNat]with
    | false=>
     rw [hb]at hget hc;rw [if_pos ⟨h1,hget⟩];have e: (uD u).set k.toNat ((uD u).getD k.toNat 0+1) =uD (u.set k.toNat true) :=by
      rw [hc,uD,uD,List.map_set];rfl
     rw [e];exact aAW hlo ks (u.set k.toNat true) (by simpa using hn)
    | true=>
     rw [hb]at hget hc;rw [if_neg (by rw [hget];simp)];refine And.intro (fun v e=>nomatch e) (fun _ d e=>xN (And.intro ⟨k.toNat,2,?_,by omega⟩ ?_) e)
     ·rw [hc,List.getElem?_set_self (by simp [uD];exact hlt)];rfl
     · intro z hz;rcases List.mem_or_eq_of_mem_set hz with g|g
       ·exact aL3 u z g
       ·rw [g,hc];simp [cnt]
  · rw [if_neg h1,if_neg (fun g=>h1 g.1)];exact And.intro (fun v e=>nomatch e) (fun _ d e=>nomatch e)
theorem qX (p:Prog) :∀ (t:List Node) (i:Nat) (c:List Int),aAV c→qK (mB p i t c) =false
 | [],i,c,h=>by rw [mB];exact aL2 h
 | x::t,i,c,h=>by
  rw [mB];cases e:nH ((i:Int) +1) (p.nodes.length:Int) x.kids c with
  |none=>rfl
  |some d=>exact qX p t (i+1) d (xN h e)
theorem aHs :∀ (u:List Bool),(uD u).all one=u.all fun b=>b
 | [] =>rfl
 | b::u=>by
  have:=aHs u;simp only [uD,List.map_cons,all_cons]at this ⊢;rw [this];cases b<;>simp [cnt,one]
theorem aL4 (p:Prog) :∀ (t:List Node) (i:Nat) (u:List Bool),u.length=p.nodes.length→t.all (bH p) =true→allT (cY p i t u) =qK (mB p i t (uD u))
 | [],i,u,hu,_=>by simp only [cY,mB,allT,qK,aHs]
 | x::t,i,u,hu,ha=>by
  simp only [all_cons,and_eq_true]at ha;obtain⟨m1,m2⟩ :=aAW (lo:= (i:Int) +1) (n:= (p.nodes.length:Int)) (by omega) x.kids u (by omega);simp only [cY,mB,if_pos ha.1];cases hm:marks ((i:Int) +1) (p.nodes.length:Int) x.kids u with
  | some v=>
   rw [m1 v hm];exact aL4 p t (i+1) v (by rw [lZ hm,hu]) ha.2
  | none=>
   cases hi:nH ((i:Int) +1) (p.nodes.length:Int) x.kids (uD u)with
   |none=>rfl
   |some d=>exact(qX p t (i+1) d (m2 hm d hi)).symm
theorem aBU (p:Prog) :∀ (t:List Node) (i:Nat) (u:List Bool),t.all (bH p) =false→allT (cY p i t u) =false
 | [],i,u,h=>by simp at h
 | x ::t,i,u,h=>by
  simp only [cY];by_cases hx:bH p x=true
  · rw [if_pos hx];have ht:t.all (bH p) =false:=by simpa [hx]using h
    cases marks ((i:Int) +1) (p.nodes.length:Int) x.kids u with
    |none=>rfl
    |some v=>exact aBU p t (i+1) v ht
  ·rw [if_neg hx];rfl
theorem aR4 (p:Prog) :dK p=aR p:=by
 have e1:dK p= (eB p&&xJ p.cons&& (p.nodes.all (bH p) && (match nH 0 (p.nodes.length:Int) p.funs (replicate p.nodes.length 0)with
  |some v=>qK (mB p 0 p.nodes v)
  |none=>false))) :=by
  unfold dK xJ;cases eB p<;>cases p.cons.all fW<;>cases cA (bG p.cons) <;>cases p.nodes.all (bH p) <;>cases decide (p.cons.length≤20) <;>simp
 rw [e1,aR];congr 1;have ez:replicate p.nodes.length (0:Int) =uD (replicate p.nodes.length false) :=by rw [uD,List.map_replicate];rfl
 rw [ez];obtain⟨m1,m2⟩ :=aAW (lo:=0) (n:= (p.nodes.length:Int)) (by omega) p.funs (replicate p.nodes.length false) (by simp);cases hm:marks 0 (p.nodes.length:Int) p.funs (replicate p.nodes.length false)with
 | some v=>
  rw [m1 v hm];cases ha:p.nodes.all (bH p)with
  |true=>simp only [Bool.true_and];exact(aL4 p p.nodes 0 v (by rw [lZ hm];simp) ha).symm
  |false=>simp only [Bool.false_and];exact(aBU p p.nodes 0 v ha).symm
 | none=>
  simp only;cases hi:nH 0 (p.nodes.length:Int) p.funs (uD (replicate p.nodes.length false))with
  |none=>simp
  |some d=>simp only [qX p p.nodes 0 d (m2 hm d hi),Bool.and_false]
theorem Ends.val {P:Program}{m:Nat}{s:AS}{v v':AV}{h':Hp}(h:Ends P m s (.ret v) h')(hv:∀E cv,VR E v cv→VR E v' cv) :Ends P m s (.ret v') h':=fun hm E fr ccs w f fs r cl base=>by
 obtain⟨cl',w',E',s1,⟨cv,e,g⟩,r2,x2⟩ :=h hm E fr ccs w f fs r cl base;exact⟨cl',w',E',s1,⟨cv,e,hv _ _ g⟩,r2,x2⟩
mutual
def bnm :Pat→Int
 | .mk f _ _ ps=>if f=2 then 1 else bEg ps
def bEg :List Pat→Int
 | [] =>0
 |p::ps=>bnm p+bEg ps
end
def aL5 (x:Node)(k:Int) :Int:=
 if x.op=5∨x.op=27∨ (x.op=7∧k=1)then 1
 else if x.op=15∧k>0 then(match x.pats[(k-1).toNat]? with|some q=>bnm q|none=>0)else 0
structure FineN (cons:List Con) (x:Node) :Prop where
 pats:∀q∈x.pats,cU q≤12∧dE cons q=true
 mat:x.op=15→x.kids.length=1+x.pats.length
 let2:x.op=7→x.kids.length=2
theorem yX {p:Prog}{x:Node}(h:bH p x=true) :FineN p.cons x:=by
 simp only [bH,and_eq_true,decide_eq_true_eq]at h;obtain⟨⟨_,h2⟩,h3⟩ :=h;refine⟨fun q hq=>?_,fun e=>?_,fun e=>?_⟩
 · have:=List.all_eq_true.1 h2 q hq;simpa [iD]using this
 ·rw [e]at h3;simp [dO]at h3;omega
 ·rw [e]at h3;simp [dO]at h3;omega
structure FineP (p:Prog) :Prop where
 small:p.nodes.length≤320
 fsmall:p.funs.length≤320
 node:∀ (i:Nat) (x:Node),p.nodes[i]?=some x→FineN p.cons x∧x.kids.length≤10∧∀k∈x.kids,(i:Int) <k∧k<p.nodes.length
 funs:∀f∈p.funs,0≤f∧f<p.nodes.length
section
variable (p :Prog) (mf mc:List (Int×Int))
variable {p mf mc}
end
theorem fM {P:Program}{f:Nat}{args args':List AV}{v v':AV}{l l' lc lc':List (Nat×AObj×Bool)}{m nb nb' n2 n3:Nat}{ks:List Nat}
  (h0:vL P m (.enter f args) (aD l nb) (.ret v) (aD l' nb')) (e3:nb'-m+n2=n3) (ev:AV.ren (pC m n2 ks) v=v') (hargs:AV.renL (eO 0 nb n2 ks) args=args') (hm:Nat.ble m nb=true) (hm':Nat.ble m nb'=true)
  (hin:dD 0 ⟨⟨0,0,[],[],[],.run,.normal,none⟩,[],l,nb⟩ ks=true) (hl:vN (aD lc n2) (eO 0 nb n2 ks) l=jM (eO 0 nb n2 ks) l) (hkl:iY l)
  (hl':vN (aD lc' n3) (pC m n2 ks) l'=jM (pC m n2 ks) l') (hkl':iY l') (hpl:aAN l'=true:=by kernel_rfl) (hk':iW nb' l'=true:=by kernel_rfl)
  (hx:iW n2 lc=true:=by kernel_rfl) (hx':iW n3 lc'=true:=by kernel_rfl) (hlt:ks.all (fun k=>Nat.blt k n2) =true:=by kernel_rfl) (hout:aET (namesT (pC m n2 ks) l') ks (aD lc n2) lc'=tN lc':=by kernel_rfl) (hll:tN l'= (l'.map fun p=> (aD l' nb').look p.1) :=by kernel_rfl) :
  Spec P (.enter f args') (aD lc n2) (.ret v') (aD lc' n3) :=by
 subst e3 ev;exact aTd h0 hargs hm hm' hin hl hkl hl' hkl' hpl hk' hx hx' hlt hout hll
def bN (mf mc:List (Int×Int))(op n:Int) :Int:=if op=4 then(if 0≤n then n else -1-lQ mf (-1-n))else if op=14 then lQ mc n else n
def dV (mf mc:List (Int×Int))(to:List Int)(x:Node) :Node:= ⟨x.op,bN mf mc x.op x.n,x.kids.map (fB to),fZ mc x.pats⟩
def nOk (mf:List (Int×Int))(x:Node) :Prop:=bE x.pats<1000000∧ (x.op=4→x.n<0→ -1000000000≤x.n∧ -1000000000≤lQ mf (-1-x.n) ∧lQ mf (-1-x.n) ≤1000000000)
def wB (p:Prog)(mf mc:List (Int×Int))(to:List Int) :Nat→Int→List Node
 |0,_=>[]
 | f+1,a=>match p.nodes[a.toNat]? with
  |some x=>dV mf mc to x:: (x.kids.map (wB p mf mc to f)).flatten
  |none=>[]
section
variable (p :Prog) (mf mc:List (Int×Int)) (to:List Int)
variable {p mf mc to}
end
def aOJ (p:Prog)(mf mc:List (Int×Int))(to:List Int)(f:Nat) :List Node:= (p.funs.map (wB p mf mc to f)).flatten
section
variable {p :Prog} {mf mc:List (Int×Int)}
end
def bB0(a:List Con):TS:=cI PP 143 [(iC a)] [] 0
def bEh(a:List Con):TS:=⟨(tf 143 8 [(0,(iC a)),(2,.nils),(3,(iC a))] [ko f143 12 1,kc f143 13,kc f143 7]),[],[],0⟩
def bDj(a:List Con):TS:=⟨(tf 143 8 [(0,(iC a)),(2,.nils),(3,.nils)] [ko f143 12 1,kc f143 13,kc f143 7]),[],[],0⟩
def bDk(a:List Con)(b:Addr)(c d:Nat):TS:=⟨(tf 143 8 [(0,(iC a)),(2,.nils),(3,(.val (Value.slice (some b) c d)))] [ko f143 12 1,kc f143 13,kc f143 7]),[],[],0⟩
def bEi (a:List Con):=(tT 0 (bB0 a)<|.W 8 0 [] (bEh a)) tv
def bEj (a:List Con):=(tT 0 (bDj a)<|.i [rn 8,.nilI 2 2] []<|gE 0 0 (.ilst 2 (jC ([] :List Con)) true)) tv
def bEk (a:List Con)(b:Addr)(c d:Nat):=fun e=>(tT 0 (bDk a b c d)<|.i [rn 8,.toL 5 true []] [.q (p:=getCells (putCells .leaf 0 []) 0 (0*2) =some []) rfl,hr true]<|gu 0 0 (jC ([] :List Con))<|gs 0 5 (.gl 0 2 0 ([] :List Con).length true)<|ga 0 Con.av ([] :List Con) a<|gz 3 2 1 2 Con.av (([] :List Con) ++a) false<|gE 0 2 (iC (([] :List Con) ++a))) e tv
def sM :Nat→List (Int×Int)
 |0=>[]
 |n+1=>bY (n:Int) (n:Int) (sM n)
theorem rQ {α β:Type}[DecidableEq α](k k':α)(v:β) :∀ (l:List (α×β)),eA k (bY k' v l) =if k=k' then some v else eA k l
 | [] =>by simp [bY,eA]
 | e ::l=>by
  simp only [bY];split
  · rename_i h;subst h;simp only [eA];split<;>rfl
  · rename_i h;simp only [eA,rQ k k' v l];by_cases h1:k=e.1
    · subst h1;rw [if_pos rfl,if_pos rfl,if_neg (fun e=>h e.symm)]
    ·rw [if_neg h1,if_neg h1]
theorem aUU :∀ (n:Nat) (i:Int),0≤i→i<n→eA i (sM n) =some i
 |0,i,h0,h1=>by omega
 | n+1,i,h0,h1=>by
  rw [sM,rQ];by_cases h:i= (n:Int)
  ·rw [if_pos h,h]
  ·rw [if_neg h];exact aUU n i h0 (by omega)
theorem aL6 {n:Nat}{i:Int}(h0:0≤i)(h1:i<n) :lQ (sM n) i=i:=by unfold lQ;rw [aUU n i h0 h1];rfl
theorem aHt {P:Program}{m:Nat}{s:AS}{v v':AV}{h':Hp}(h:Ends P m s (.ret v) h')(hv:∀ (E:Emb) (cv:Value),VR E v cv→VR E v' cv) :Ends P m s (.ret v') h':=fun hm E fr ccs w f fs r cl base=>by
 obtain⟨cl',w',E',s1,⟨cv,rfl,g2⟩,r2,x2⟩ :=h hm E fr ccs w f fs r cl base;exact⟨_,w',E',s1,⟨cv,rfl,hv E' cv g2⟩,r2,x2⟩
theorem nW {E:Emb}{e:Nat}{xs:List AV}{cv:Value}(h:VR E (.ilst e xs true) cv) :VR E (.ilst e xs false) cv:=by
 simp only [VR]at h ⊢;obtain⟨vs,h1,h2,h3⟩ :=h;refine⟨vs,h1,h2,?_⟩;rcases h3 with⟨rfl,a,cap,rfl,g,_⟩ | ⟨k,a,cap,C,g1,g2,g3,_,g5⟩
 ·exact .inl ⟨rfl,a,cap,rfl,g,fun hh=>by cases hh⟩
 ·exact .inr ⟨k,a,cap,C,g1,g2,g3,(fun hh=>by cases hh),g5⟩
theorem aOK (xs:List Con)(h:xs.length≤1000000) :Pure PP 143 [.ilst 2 (map Con.av xs) false] (.ilst 2 (map Con.av xs) false) :=by
 refine dT (s:=bB0 xs) (by kernel_rfl) (by kernel_rfl) (by simp [AV.keylessL,AV.keyless]) (by simp [AV.keyless]) ((bEi xs).ends ?_);refine aKx (j:=3) (e:=2) (ex:=false) (xs:=map Con.av xs) (by kernel_rfl) (fun hx=>?_) (fun a n c=>?_)
 · have hx:xs= [] :=by simpa using hx
   subst hx;have h1:=aHt (bEj []) (fun E cv hv=>nW hv);exact Eq.mp (by kernel_rfl) h1
 · have h1:=bEk xs a n c (by simpa using h);rw [List.nil_append]at h1;exact Eq.mp (by kernel_rfl) h1
section
variable {p :Prog}
end
end
end Go.Hb

set_option linter.defProp false
set_option linter.unusedVariables false
set_option linter.unusedSimpArgs false
set_option linter.unusedSectionVars false
set_option maxRecDepth 100000
set_option maxHeartbeats 8000000
namespace Go.Hb
open Go.Proofs Tryz
noncomputable section
def pre (p:Prog) :Nat→Int→List Int
 |0,_=>[]
 | f+1,a=>match p.nodes[a.toNat]? with
  |some x=>a:: (x.kids.map (pre p f)).flatten
  |none=>[]
def xO :List Int→Int→List Int→List Int
 |l,_,[] =>l
 |l,n,b::bs=>xO (l.set b.toNat n) (n+1) bs
theorem aFA :∀ (xs l:List Int) (n:Int) (m:Nat),(∀x∈xs,x.toNat≠m) → (xO l n xs)[m]?=l[m]?
 | [],l,n,m,h=>rfl
 | x::xs,l,n,m,h=>by
  rw [xO,aFA xs _ _ m (fun y hy=>h y (List.mem_cons_of_mem _ hy))];exact List.getElem?_set_ne (h x (List.mem_cons_self ..))
theorem aCN :∀ (xs l:List Int) (n:Int),xs.Nodup→ (∀x∈xs,0≤x∧x<l.length) →∀ (i:Nat) (b:Int),xs[i]?=some b→fB (xO l n xs) b=n+i
 | [],l,n,_,_,i,b,h=>by simp at h
 | x ::xs,l,n,hd,hr,i,b,h=>by
  have hd:=List.nodup_cons.1 hd;have hx:=hr x (List.mem_cons_self ..);cases i with
  | zero=>
   simp only [List.getElem?_cons_zero,Option.some.injEq]at h;subst h;unfold fB
   rw [xO,List.getD_eq_getElem?_getD,aFA xs _ _ x.toNat (fun y hy e=>hd.1 (by
    have:=hr y (List.mem_cons_of_mem _ hy);have:y=x:=by omega
    exact this ▸ hy)),List.getElem?_set_self (by omega)]
   simp
  | succ i=>
   simp only [List.getElem?_cons_succ]at h;rw [xO,aCN xs (l.set x.toNat n) (n+1) hd.2 (fun y hy=>by rw [List.length_set];exact hr y (List.mem_cons_of_mem _ hy)) i b h];omega
section
variable {p :Prog}
theorem xP (hp:FineP p){f:Nat}{a:Int}(ha:0≤a)(hn:a<p.nodes.length)(hf:p.nodes.length-a.toNat≤f) :∃x g,f=g+1∧p.nodes[a.toNat]?=some x∧pre p f a=a:: (x.kids.map (pre p g)).flatten:=by
 cases f with
 |zero=>omega
 | succ g=>
  obtain⟨x,hx⟩ :∃x,p.nodes[a.toNat]?=some x:= ⟨_,List.getElem?_eq_getElem (by omega)⟩;exact⟨x,g,rfl,hx,by rw [pre,hx]⟩
theorem aJs (mf mc:List (Int×Int))(to:List Int) :∀ (f:Nat) (a:Int),(wB p mf mc to f a).length= (pre p f a).length
 |0,a=>rfl
 | f+1,a=>by
  rw [wB,pre];cases hx:p.nodes[a.toNat]? with
  | some x=>
   simp only [List.length_cons,List.length_flatten,List.map_map];congr 2;exact List.map_congr_left (fun k _=>aJs mf mc to f k)
  |none=>rfl
end
end
end Go.Hb
