/- A machine on abstract values, its soundness, ways, plain laws. -/
import Derived.Test.YtfaikcecgpcimaaGreatHF
import Derived.Test.YtfaikcecgpcimaaGreatHG
import Derived.Test.YtfaikcecgpcimaaGreatHH
set_option linter.defProp false
set_option linter.unusedVariables false
set_option linter.unusedSimpArgs false
set_option linter.unusedSectionVars false
set_option maxRecDepth 100000
set_option maxHeartbeats 8000000
namespace Go.Hb
open Bool (and_eq_true)
open List (all_cons getD_eq_getElem?_getD length length_cons map mem_of_getElem? replicate)
open Go.Proofs Tryz
noncomputable section
mutual
def aVT :Term→Nat
 | .mk _ _ _ ks _=>aQ1 ks+1
def aQ1 :List Term→Nat
 | [] =>0
 |t::ts=>aVT t+aQ1 ts
end
def mF (m:List (Int×Int))(n:Int) :Int:= (fU n m).getD 0
mutual
def vS (mc:List (Int×Int)) :Pat→Pat
 | .mk f n t ps=>.mk f (if f=6 then mF mc n else n) t (fK mc ps)
def fK (mc:List (Int×Int)) :List Pat→List Pat
 | [] =>[]
 |p::ps=>vS mc p::fK mc ps
end
section
variable (mf mc:List (Int×Int))
end
def kF (to:List Int)(k:Int) :Int:=to.getD k.toNat 0
def uM :List Str→List (Str×Bool) →List (Str×Bool)
 | [],m=>m
 |x::t,m=>uM t (dQ x true m)
theorem aAi (l:List Str)(hl:l.length<1000000) :∀ (t:List Str) (i:Nat) (m:List (Str×Bool)),l.drop i=t→Ends PP 0 (rK l (i:Int) m).as (.ret (.bool (decide ((uM t m).length=l.length)))) (aE [] 0)
 | [],i,m,h=>by
  have:=bK h;refine Ends.eqv (aIL l i m sd) ?_;have: (((length m:Nat) :Int) == ((length l:Nat) :Int)) =decide (m.length=l.length) :=by
   by_cases k:m.length=l.length<;>simp [k] <;>omega
  rw [this];rfl
 | x::t,i,m,h=>by
  obtain⟨g1,g2,g3⟩ :=bJ h;refine(aIK l i m x sd sd sd sd).ends ?_;exact aAi l hl t (i+1) _ g2
theorem aDr {k:Str}{v w:Bool}:∀ {m:List (Str×Bool)},fU k m=some w→ (dQ k v m).map Prod.fst=m.map Prod.fst
 | [],h=>by cases h
 | e::m,h=>by
  unfold fU at h;unfold dQ;split at h
  ·rename_i hk;rw [if_pos hk];simp [hk]
  ·rename_i hk;rw [if_neg hk];simp [aDr h]
theorem aDs {k:Str}{v:Bool}:∀ {m:List (Str×Bool)},fU k m=none→ (dQ k v m).map Prod.fst=m.map Prod.fst++ [k]
 | [],_=>rfl
 | e::m,h=>by
  unfold fU at h;unfold dQ;split at h
  ·cases h
  ·rename_i hk;rw [if_neg hk];simp [aDs h]
theorem aDt {k:Str}:∀ {m:List (Str×Bool)},(fU k m).isSome=bO (m.map Prod.fst) k
 | [] =>rfl
 | e ::m=>by
  unfold fU;split
  ·rename_i hk;simp [bO,hk]
  · rename_i hk;have:¬e.1=k:=fun h=>hk h.symm;rw [aDt];simp [bO,this]
theorem aEU :∀ (t:List Str) (m:List (Str×Bool)),(uM t m).length≤m.length+t.length
 | [],m=>by simp [uM]
 | x::t,m=>by
  have a:=aEU t (dQ x true m);have b: (dQ x true m).length≤m.length+1:=by
   cases h:fU x m with
   |none=>have:=congrArg length (aDs (v:=true) h);simp at this;omega
   |some w=>have:=congrArg length (aDr (v:=true) h);simp at this;omega
  simp only [uM,length_cons];omega
theorem aDu :∀ (t:List Str) (m:List (Str×Bool)),(uM t m).length=m.length+t.length↔cB (m.map Prod.fst) t=true
 | [],m=>by simp [uM,cB]
 | x::t,m=>by
  simp only [uM,cB];cases h:fU x m with
  | some w=>
   have e:=aDr (v:=true) h;have hs:bO (m.map Prod.fst) x=true:=by rw [←aDt,h];rfl
   have a:=aEU t (dQ x true m);have b:=congrArg length e;simp only [List.length_map]at b;rw [hs];constructor
   ·intro g;simp only [length_cons]at g;omega
   ·intro g;simp at g
  | none=>
   have e:=aDs (v:=true) h;have hs:bO (m.map Prod.fst) x=false:=by rw [←aDt,h];rfl
   have ih:=aDu t (dQ x true m);have b:=congrArg length e;simp only [List.length_map,List.length_append,List.length_singleton]at b;rw [hs,←e];simp only [Bool.not_false,Bool.true_and,length_cons];rw [←ih,b];omega
theorem aGK (l:List Str)(hl:l.length<1000000) :Pure PP 244 [.ilst 1 (map avS l) false] (.bool (eI l)) :=by
 refine aN (by kernel_rfl) rfl rfl ((aIJ l).ends (Ends.eqv (aAi l hl l 0 [] rfl) ?_));have:=aDu l [];simp only [List.length_nil,Nat.zero_add,List.map_nil]at this;congr 1;cases k:eI l with
 |true=>exact decide_eq_true (this.2 k)
 |false=>exact decide_eq_false fun g=>by have:=this.1 g;unfold eI at k;rw [k]at this;cases this
theorem aEV (l:List Con)(hl:l.length<1000000) :∀ (t:List Con) (i:Nat),l.drop i=t→Ends PP 0 (aCh l (i:Int)).as (.ret (.bool (t.all eK))) (aE [] 0)
 | [],i,h=>by
  have:=bK h;exact Ends.eqv (aQN l i sd) (by simp)
 | c::t,i,h=>by
  obtain⟨g1,g2,g3⟩ :=bJ h;have hq:=aOd c;cases k:eK c with
  |false=>rw [k]at hq;exact Ends.eqv (aQL l i c false sd sd sd hq rfl) (by simp [k])
  | true=>
   rw [k]at hq;refine(aQM l i c true sd sd sd hq rfl sd).ends ?_;exact Ends.eqv (aEV l hl t (i+1) g2) (by simp [k])
theorem aOh (l:List Con)(hl:l.length<1000000) :Pure PP 242 [.ilst 2 (map Con.av l) false,.func 243 [] []] (.bool (l.all eK)) :=
 aN (by kernel_rfl) rfl rfl ((aQK l).ends (aEV l hl l 0 rfl))
theorem aEW (l:List Node)(p:Prog)(hl:l.length<1000000)(ih:∀x∈l,Pure PP 248 [Prog.av p,Node.av x] (.bool (aZ p x))) :∀ (t:List Node) (i:Nat),l.drop i=t→Ends PP 0 (aCg l p (i:Int)).as (.ret (.bool (t.all (aZ p)))) (aE [] 0)
 | [],i,h=>by
  have:=bK h;exact Ends.eqv (aQJ l p i sd) (by simp)
 | c::t,i,h=>by
  obtain⟨g1,g2,g3⟩ :=bJ h;have hq:=ih c (mem_of_getElem? g1);cases k:aZ p c with
  |false=>rw [k]at hq;exact Ends.eqv (aQH l p i c false sd sd sd hq rfl) (by simp [k])
  | true=>
   rw [k]at hq;refine(aQI l p i c true sd sd sd hq rfl sd).ends ?_;exact Ends.eqv (aEW l p hl ih t (i+1) g2) (by simp [k])
theorem aOi (l:List Node)(p:Prog)(hl:l.length<1000000)(ih:∀x∈l,Pure PP 248 [Prog.av p,Node.av x] (.bool (aZ p x))) :Pure PP 247 [.ilst 4 (map Node.av l) false,.func 248 [Prog.av p] []] (.bool (l.all (aZ p))) :=
 aN (by kernel_rfl) rfl rfl ((aQG l p).ends (aEW l p hl ih l 0 rfl))
def one (k:Int) :Bool:=decide (k=1)
theorem aEX (l:List Int)(hl:l.length<1000000) :∀ (t:List Int) (i:Nat),l.drop i=t→Ends PP 0 (aCi l (i:Int)).as (.ret (.bool (t.all one))) (aE [] 0)
 | [],i,h=>by
  have:=bK h;exact Ends.eqv (aQR l i sd) (by simp)
 | c ::t,i,h=>by
  obtain⟨g1,g2,g3⟩ :=bJ h;by_cases k:c=1
  · refine(aQQ l i c sd sd sd (by simp [k]) sd).ends ?_;exact Ends.eqv (aEX l hl t (i+1) g2) (by simp [k,one])
  ·exact Ends.eqv (aQP l i c sd sd sd (by simp [k])) (by simp [k,one])
theorem aOj (l:List Int)(hl:l.length<1000000) :Pure PP 249 [.ilst 1 (map bC l) true,.func 250 [] []] (.bool (l.all one)) :=
 aN (by kernel_rfl) rfl rfl ((aQO l).ends (aEX l hl l 0 rfl))
theorem aEY (l:List Con)(hl:l.length<100000) :∀ (t:List Con) (i:Nat),l.drop i=t→Ends PP 0 (aCj l (i:Int) (aU (l.take i))).as (.ret (.ilst 1 (map avS (aU l)) false)) (aE [] 0)
 | [],i,h=>by
  have hi:=bK h;have e:aU (l.take i) =aU l:=by rw [List.take_of_length_le hi]
  rw [e];exact aQU l i _ sd
 | c::t,i,h=>by
  obtain⟨g1,g2,g3⟩ :=bJ h;have e:aU (l.take i) ++ [c.name] =aU (l.take (i+1)) :=by
   rw [List.take_add_one,g1];simp [aU]
  refine(aQT l i (aU (l.take i)) c sd sd sd (by simp [aU];omega) sd).ends ?_;rw [e];exact aEY l hl t (i+1) g2
theorem aOk (l:List Con)(hl:l.length<100000) :Pure PP 245 [.ilst 2 (map Con.av l) false,.func 246 [] []] (.ilst 1 (map avS (aU l)) false) :=
 aN (by kernel_rfl) rfl rfl ((aQS l).ends (aEY l hl l 0 rfl))
def lH (lo n:Int) :List Int→List Int→Option (List Int)
 | [],c=>some c
 |k::ks,c=>if cR k lo (n-1) =true then lH lo n ks (c.set k.toNat (c.getD k.toNat 0+1))else none
def kG (p:Prog) :Nat→List Node→List Int→Option (List Int)
 |_,[],c=>some c
 | i,x::t,c=>match lH ((i:Int) +1) (p.nodes.length:Int) x.kids c with
   |some d=>kG p (i+1) t d
   |none=>none
def oJ :Option (List Int) →Bool
 |some c=>c.all one
 |none=>false
def below (b:Int)(c:List Int) :Prop:=∀k∈c,0≤k∧k≤b
theorem aA4 {b:Int}{c:List Int}(h:below b c){i:Nat}{z:Int}(hz:c[i]?=some z) :0≤z∧z≤b:=h z (mem_of_getElem? hz)
theorem aEZ {b:Int}{c:List Int}(h:below b c){i:Nat}{z:Int}(hz:c[i]?=some z) :below (b+1) (c.set i (z+1)) :=fun k hk=>by
 rcases List.mem_or_eq_of_mem_set hk with g|g
 ·have:=h k g;omega
 ·have:=aA4 h hz;omega
theorem bF2 (p:Prog)(i:Nat)(hi:i<p.nodes.length)(hn:p.nodes.length≤1000)(ks:List Int)(hk:ks.length≤1000)(K:List Int→Bool)(B:Int)(hB:0≤B)(hB2:B≤1000000)
  (hb:∀v:List Int,v.length=p.nodes.length→below (B+ks.length) v→Ends PP 0 (mY p v ((i:Int) +1)).as (.ret (.bool (K v))) (aE [] 0)) :
  ∀ (t:List Int) (k:Nat) (c:List Int),c.length=p.nodes.length→k≤ks.length→below (B+k) c→ks.drop k=t→Ends PP 0 (rN p ks (ks.length:Int) c (k:Int) (i:Int) (i:Int)).as (.ret (.bool (match lH ((i:Int) +1) p.nodes.length t c with|some v=>K v|none=>false))) (aE [] 0)
 | [],k,c,hc,hkl,hbl,h=>by
  have:=bK h;have e:k=ks.length:=by omega
  subst e;refine(aI2 p ks ks.length c ks.length i i sd sd).ends ?_;exact hb c hc hbl
 | y ::t,k,c,hc,hkl,hbl,h=>by
  obtain⟨g1,g2,g3⟩ :=bJ h;have hin:=eO y ((i:Int) +1) ((p.nodes.length:Int) -1);cases k1:cR y ((i:Int) +1) ((p.nodes.length:Int) -1)with
  | false=>
   rw [k1]at hin;exact Ends.eqv (aI0 p ks ks.length c k i i y false sd sd sd sd sd hin rfl) (by simp [lH,k1])
  | true=>
   rw [k1]at hin;have hy:=inB_iff.1 k1;obtain⟨z,hz⟩ :∃z,c[y.toNat]?=some z:= ⟨_,List.getElem?_eq_getElem (by omega)⟩;have hzb:=aA4 hbl hz;refine(aI1 p ks ks.length c k i i y true z sd sd sd sd sd hin rfl (by omega) (by omega) hz sd sd).ends ?_;have e:c.getD y.toNat 0=z:=by rw [getD_eq_getElem?_getD,hz];rfl
   have ei:lH ((i:Int) +1) p.nodes.length (y::t) c=lH ((i:Int) +1) p.nodes.length t (c.set y.toNat (z+1)) :=by
    rw [lH,if_pos k1,e]
   rw [ei];refine bF2 p i hi hn ks hk K B hB hB2 hb t (k+1) (c.set y.toNat (z+1)) (by simpa using hc) (by omega) ?_ g2;have:=aEZ hbl hz;intro q hq;have:=this q hq
   push_cast
   omega
def rO :List Node→Nat
 | [] =>0
 |x::t=>x.kids.length+rO t
theorem aDv :∀ (t:List Node),(∀x∈t,x.kids.length≤10) →rO t≤10*t.length
 | [],_=>by simp [rO]
 | x::t,h=>by
  have a:=aDv t (fun y hy=>h y (List.mem_cons_of_mem _ hy));have b:=h x (List.mem_cons_self ..);simp only [rO,length_cons];omega
theorem bF1 (p:Prog)(hp:aH p=true)(hn:p.nodes.length≤1000) :∀ (t:List Node) (i:Nat) (c:List Int) (B:Int),0≤B→B+rO t≤100000→c.length=p.nodes.length→below B c→p.nodes.drop i=t →
  Ends PP 0 (mY p c (i:Int)).as (.ret (.bool (oJ (kG p i t c)))) (aE [] 0)
 | [],i,c,B,h0,h1,hc,hb,h=>by
  have:=bK h;exact Ends.eqv (aIZ p c i _ sd (aOj c (by omega))) rfl
 | x::t,i,c,B,h0,h1,hc,hb,h=>by
  obtain⟨g1,g2,g3⟩ :=bJ h;have hx:aQ x=true:=by
   simp only [aH,and_eq_true]at hp;exact List.all_eq_true.1 hp.2 x (mem_of_getElem? g1)
  simp only [aQ,and_eq_true,decide_eq_true_eq]at hx;simp only [rO]at h1;refine(aIY p c i x sd sd sd).ends ?_;refine Ends.eqv (bF2 p i g3 hn x.kids (by omega) (fun v=>oJ (kG p (i+1) t v)) B h0 (by omega) (fun v hv hbv=>bF1 p hp hn t (i+1) v (B+x.kids.length) (by omega) (by omega) hv hbv g2) x.kids 0 c hc (by omega) (by simpa using hb) rfl) ?_;rw [kG];cases lH ((i:Int) +1) (p.nodes.length:Int) x.kids c<;>rfl
theorem bF0 (p:Prog)(hp:aH p=true)(hn:p.nodes.length≤1000)(hks:rO p.nodes≤10000)(hf:p.funs.length≤1000) :∀ (t:List Int) (i:Nat) (c:List Int),i≤p.funs.length→c.length=p.nodes.length→below (i:Int) c→p.funs.drop i=t →
  Ends PP 0 (rM p (i:Int) c).as (.ret (.bool (match lH 0 p.nodes.length t c with|some v=>oJ (kG p 0 p.nodes v) |none=>false))) (aE [] 0)
 | [],i,c,hi,hc,hb,h=>by
  have:=bK h;refine(aIX p i c sd).ends ?_;exact bF1 p hp hn p.nodes 0 c i (by omega) (by omega) hc hb rfl
 | y ::t,i,c,hi,hc,hb,h=>by
  obtain⟨g1,g2,g3⟩ :=bJ h;have hin:=eO y 0 ((p.nodes.length:Int) -1);cases k1:cR y 0 ((p.nodes.length:Int) -1)with
  | false=>
   rw [k1]at hin;exact Ends.eqv (aIV p i c y false sd sd sd sd hin rfl) (by simp [lH,k1])
  | true=>
   rw [k1]at hin;have hy:=inB_iff.1 k1;obtain⟨z,hz⟩ :∃z,c[y.toNat]?=some z:= ⟨_,List.getElem?_eq_getElem (by omega)⟩;have hzb:=aA4 hb hz;refine(aIW p i c y true z sd sd sd sd hin rfl (by omega) (by omega) hz sd sd).ends ?_;have e:c.getD y.toNat 0=z:=by rw [getD_eq_getElem?_getD,hz];rfl
   have ei:lH 0 p.nodes.length (y::t) c=lH 0 p.nodes.length t (c.set y.toNat (z+1)) :=by
    rw [lH,if_pos k1,e]
   rw [ei];refine bF0 p hp hn hks hf t (i+1) (c.set y.toNat (z+1)) (by omega) (by simpa using hc) ?_ g2;have:=aEZ hb hz;intro q hq;have:=this q hq
   push_cast
   omega
def cU (p:Prog) :Bool:=
 dK p&&decide (p.cons.length≤20) &&p.cons.all eK&&eI (aU p.cons) &&p.nodes.all (aZ p) &&
  (match lH 0 (p.nodes.length:Int) p.funs (replicate p.nodes.length 0)with
  |some v=>oJ (kG p 0 p.nodes v)
  |none=>false)
theorem aI7 {p:Prog}(hp:aH p=true) :∀x∈p.nodes,x.kids.length≤10∧x.pats.length≤10:=fun x hx=>by
 simp only [aH,and_eq_true]at hp;have:=List.all_eq_true.1 hp.2 x hx;simp only [aQ,and_eq_true,decide_eq_true_eq]at this;exact this.1
theorem aGL (p:Prog)(hp:aH p=true) :Pure PP 200 [Prog.av p] (.bool (cU p)) :=by
 refine aN (by kernel_rfl) rfl rfl ?_;have hs:=hp;simp only [aH,and_eq_true,decide_eq_true_eq]at hs;obtain⟨⟨⟨⟨s1,s2⟩,s3⟩,_⟩,_⟩ :=hs;have hno:=aI7 hp;by_cases k0:p.nodes.length≤300
 · by_cases k1 :1≤p.funs.length
   · by_cases k2:p.funs.length≤p.nodes.length
     · have kk :cR (p.funs.length:Int) 1 (p.nodes.length:Int) =true:=inB_iff.2 ⟨by omega,by omega⟩;by_cases k3:p.cons.length≤20
       · have hi:=eO p.main 0 ((p.funs.length:Int) -1);cases k4:cR p.main 0 ((p.funs.length:Int) -1)with
         | false=>
          rw [k4]at hi;exact Ends.eqv (aIQ p false sd sd sd sd sd hi rfl) (by simp [cU,dK,k4])
         | true =>
          rw [k4]at hi;have hh:dK p=true:=by simp [dK,k0,kk,k4]
          have hc:=aOh p.cons (by omega);cases k5:p.cons.all eK with
          | false=>
           rw [k5]at hc;exact Ends.eqv (aIR p true false sd sd sd sd sd hi rfl hc rfl) (by simp only [cU,k5,Bool.and_false,Bool.false_and])
          | true=>
           rw [k5]at hc;have hm:=aOk p.cons (by omega);have hd:=aGK (aU p.cons) (by simp [aU];omega);cases k6:eI (aU p.cons)with
           | false=>
            rw [k6]at hd;exact Ends.eqv (aIS p true true (aU p.cons) false sd sd sd sd sd hi rfl hc rfl hm hd rfl) (by simp only [cU,k6,Bool.and_false,Bool.false_and])
           | true=>
            rw [k6]at hd;have hn:=aOi p.nodes p (by omega) (fun x hx=>aLz p x (by omega) (by omega) (hno x hx).2 (hno x hx).1);cases k7:p.nodes.all (aZ p)with
            | false=>
             rw [k7]at hn;exact Ends.eqv (aIT p true true (aU p.cons) true false sd sd sd sd sd hi rfl hc rfl hm hd rfl hn rfl) (by simp only [cU,k7,Bool.and_false,Bool.false_and])
            | true=>
             rw [k7]at hn;refine(aIU p true true (aU p.cons) true true sd sd sd sd sd hi rfl hc rfl hm hd rfl hn rfl (by omega)).ends ?_;have hks:=aDv p.nodes (fun x hx=> (hno x hx).1);refine Ends.eqv (bF0 p hp (by omega) (by omega) (by omega) p.funs 0 _ (by omega) (by simp) ?_ rfl) ?_
             · intro q hq;have:= (List.mem_replicate.1 hq).2;omega
             ·simp only [cU,hh,decide_eq_true k3,k5,k6,k7,Bool.true_and] <;>rfl
       ·exact Ends.eqv (aIP p sd sd sd sd) (by simp [cU,k3])
     · have kk:cR (p.funs.length:Int) 1 (p.nodes.length:Int) =false:=inB_not.2 (by omega);exact Ends.eqv (aIO p sd sd sd) (by simp [cU,dK,kk])
   · have kk:cR (p.funs.length:Int) 1 (p.nodes.length:Int) =false:=inB_not.2 (by omega);exact Ends.eqv (aIN p sd sd) (by simp [cU,dK,kk])
 ·exact Ends.eqv (aIM p sd) (by simp [cU,dK,k0])
theorem aI8 (p:Prog)(hp:aH p=true) :Pure PP 138 [Prog.av p] (.int .i64 (checkN (cU p))) :=by
 refine aN (by kernel_rfl) rfl rfl ?_;have h:=aGL p hp;cases k:cU p with
 |false=>rw [k]at h;exact aLv p false h rfl
 |true=>rw [k]at h;exact aLw p true h rfl
def cnt (b:Bool) :Int:=if b=true then 1 else 0
def rP (u:List Bool) :List Int:=u.map cnt
def yJ (c:List Int) :Prop:= (∃ (i:Nat) (z:Int),c[i]?=some z∧2≤z) ∧∀z∈c,0≤z
theorem aI9 {c:List Int}(h:yJ c) :c.all one=false:=by
 obtain⟨⟨i,z,h1,h2⟩,_⟩ :=h;cases k:c.all one with
 |false=>rfl
 | true=>
  have:=List.all_eq_true.1 k z (mem_of_getElem? h1);simp only [one,decide_eq_true_eq]at this;omega
theorem aLA {c:List Int}{j:Nat}(h:yJ c) :yJ (c.set j (c.getD j 0+1)) :=by
 obtain⟨⟨i,z,h1,h2⟩,h3⟩ :=h;have hi:= (List.getElem?_eq_some_iff.1 h1).1;refine⟨⟨i,if j=i then z+1 else z,?_,by split<;>omega⟩,fun q hq=>?_⟩
 · rw [List.getElem?_set];by_cases e:j=i
   · subst e;rw [if_pos rfl,if_pos hi,if_pos rfl,getD_eq_getElem?_getD,h1];rfl
   ·rw [if_neg e,if_neg e];exact h1
 · rcases List.mem_or_eq_of_mem_set hq with g|g
   ·exact h3 q g
   · rw [g,getD_eq_getElem?_getD];cases k:c[j]? with
     |none=>simp
     |some w=>have:=h3 w (mem_of_getElem? k);simp;omega
theorem uN {lo n:Int}:∀ {ks c:List Int} {d:List Int},yJ c→lH lo n ks c=some d→yJ d
 | [],c,d,h,e=>by simp only [lH,Option.some.injEq]at e;rw [←e];exact h
 | k::ks,c,d,h,e=>by
  simp only [lH]at e;split at e
  ·exact uN (aLA h) e
  ·cases e
theorem aJa (u:List Bool) :∀z∈rP u,0≤z:=fun z hz=>by
 obtain⟨b,_,rfl⟩ :=List.mem_map.1 hz;cases b<;>simp [cnt]
theorem yK {lo n:Int}(hlo:0≤lo) :∀ (ks:List Int) (u:List Bool),n≤u.length →
  (∀v,marks lo n ks u=some v→lH lo n ks (rP u) =some (rP v)) ∧ (marks lo n ks u=none→∀d,lH lo n ks (rP u) =some d→yJ d)
 | [],u,hn=>by
  simp only [marks,lH,Option.some.injEq];exact⟨fun v e=>by rw [e],fun e=>by cases e⟩
 | k :: ks,u,hn=>by
  simp only [marks,lH];by_cases h1:cR k lo (n-1) =true
  · have hk:=inB_iff.1 h1;have hlt:k.toNat<u.length:=by omega
    have hget:u[k.toNat]?=some u[k.toNat] :=List.getElem?_eq_getElem hlt;have hc: (rP u).getD k.toNat 0=cnt u[k.toNat] :=by
     rw [getD_eq_getElem?_getD,rP,List.getElem?_map,hget];rfl
    rw [if_pos h1];cases hb:u[k.toNat]with
    | false=>
     rw [hb]at hget hc;rw [if_pos ⟨h1,hget⟩];have e: (rP u).set k.toNat ((rP u).getD k.toNat 0+1) =rP (u.set k.toNat true) :=by
      rw [hc,rP,rP,List.map_set];rfl
     rw [e];exact yK hlo ks (u.set k.toNat true) (by simpa using hn)
    | true=>
     rw [hb]at hget hc;rw [if_neg (by rw [hget];simp)];refine And.intro (fun v e=>nomatch e) (fun _ d e=>uN (And.intro ⟨k.toNat,2,?_,by omega⟩ ?_) e)
     ·rw [hc,List.getElem?_set_self (by simp [rP];exact hlt)];rfl
     · intro z hz;rcases List.mem_or_eq_of_mem_set hz with g|g
       ·exact aJa u z g
       ·rw [g,hc];simp [cnt]
  · rw [if_neg h1,if_neg (fun g=>h1 g.1)];exact And.intro (fun v e=>nomatch e) (fun _ d e=>nomatch e)
theorem oW (p:Prog) :∀ (t:List Node) (i:Nat) (c:List Int),yJ c→oJ (kG p i t c) =false
 | [],i,c,h=>by rw [kG];exact aI9 h
 | x::t,i,c,h=>by
  rw [kG];cases e:lH ((i:Int) +1) (p.nodes.length:Int) x.kids c with
  |none=>rfl
  |some d=>exact oW p t (i+1) d (uN h e)
theorem aE0 :∀ (u:List Bool),(rP u).all one=u.all fun b=>b
 | [] =>rfl
 | b::u=>by
  have:=aE0 u;simp only [rP,List.map_cons,all_cons]at this ⊢;rw [this];cases b<;>simp [cnt,one]
theorem aJb (p:Prog) :∀ (t:List Node) (i:Nat) (u:List Bool),u.length=p.nodes.length→t.all (aZ p) =true→allT (cG p i t u) =oJ (kG p i t (rP u))
 | [],i,u,hu,_=>by simp only [cG,kG,allT,oJ,aE0]
 | x::t,i,u,hu,ha=>by
  simp only [all_cons,and_eq_true]at ha;obtain⟨m1,m2⟩ :=yK (lo:= (i:Int) +1) (n:= (p.nodes.length:Int)) (by omega) x.kids u (by omega);simp only [cG,kG,if_pos ha.1];cases hm:marks ((i:Int) +1) (p.nodes.length:Int) x.kids u with
  | some v=>
   rw [m1 v hm];exact aJb p t (i+1) v (by rw [kD hm,hu]) ha.2
  | none=>
   cases hi:lH ((i:Int) +1) (p.nodes.length:Int) x.kids (rP u)with
   |none=>rfl
   |some d=>exact(oW p t (i+1) d (m2 hm d hi)).symm
theorem aAj (p:Prog) :∀ (t:List Node) (i:Nat) (u:List Bool),t.all (aZ p) =false→allT (cG p i t u) =false
 | [],i,u,h=>by simp at h
 | x ::t,i,u,h=>by
  simp only [cG];by_cases hx:aZ p x=true
  · rw [if_pos hx];have ht:t.all (aZ p) =false:=by simpa [hx]using h
    cases marks ((i:Int) +1) (p.nodes.length:Int) x.kids u with
    |none=>rfl
    |some v=>exact aAj p t (i+1) v ht
  ·rw [if_neg hx];rfl
theorem aOl (p:Prog) :cU p=aW p:=by
 have e1:cU p= (dK p&&uL p.cons&& (p.nodes.all (aZ p) && (match lH 0 (p.nodes.length:Int) p.funs (replicate p.nodes.length 0)with
  |some v=>oJ (kG p 0 p.nodes v)
  |none=>false))) :=by
  unfold cU uL;cases dK p<;>cases p.cons.all eK<;>cases eI (aU p.cons) <;>cases p.nodes.all (aZ p) <;>cases decide (p.cons.length≤20) <;>simp
 rw [e1,aW];congr 1;have ez:replicate p.nodes.length (0:Int) =rP (replicate p.nodes.length false) :=by rw [rP,List.map_replicate];rfl
 rw [ez];obtain⟨m1,m2⟩ :=yK (lo:=0) (n:= (p.nodes.length:Int)) (by omega) p.funs (replicate p.nodes.length false) (by simp);cases hm:marks 0 (p.nodes.length:Int) p.funs (replicate p.nodes.length false)with
 | some v=>
  rw [m1 v hm];cases ha:p.nodes.all (aZ p)with
  |true=>simp only [Bool.true_and];exact(aJb p p.nodes 0 v (by rw [kD hm];simp) ha).symm
  |false=>simp only [Bool.false_and];exact(aAj p p.nodes 0 v ha).symm
 | none=>
  simp only;cases hi:lH 0 (p.nodes.length:Int) p.funs (rP (replicate p.nodes.length false))with
  |none=>simp
  |some d=>simp only [oW p p.nodes 0 d (m2 hm d hi),Bool.and_false]
theorem Ends.val {P:Program}{m:Nat}{s:AS}{v v':AV}{h':Hp}(h:Ends P m s (.ret v) h')(hv:∀E cv,VR E v cv→VR E v' cv) :Ends P m s (.ret v') h':=fun hm E fr ccs w f fs r cl base=>by
 obtain⟨cl',w',E',s1,⟨cv,e,g⟩,r2,x2⟩ :=h hm E fr ccs w f fs r cl base;exact⟨cl',w',E',s1,⟨cv,e,hv _ _ g⟩,r2,x2⟩
mutual
def bnm :Pat→Int
 | .mk f _ _ ps=>if f=2 then 1 else aXA ps
def aXA :List Pat→Int
 | [] =>0
 |p::ps=>bnm p+aXA ps
end
def aJc (x:Node)(k:Int) :Int:=
 if x.op=5∨x.op=27∨ (x.op=7∧k=1)then 1
 else if x.op=15∧k>0 then(match x.pats[(k-1).toNat]? with|some q=>bnm q|none=>0)else 0
structure FineN (cons:List Con) (x:Node) :Prop where
 pats:∀q∈x.pats,cF q≤12∧cN cons q=true
 mat:x.op=15→x.kids.length=1+x.pats.length
 let2:x.op=7→x.kids.length=2
theorem vM {p:Prog}{x:Node}(h:aZ p x=true) :FineN p.cons x:=by
 simp only [aZ,and_eq_true,decide_eq_true_eq]at h;obtain⟨⟨_,h2⟩,h3⟩ :=h;refine⟨fun q hq=>?_,fun e=>?_,fun e=>?_⟩
 · have:=List.all_eq_true.1 h2 q hq;simpa [fF]using this
 ·rw [e]at h3;simp [cY]at h3;omega
 ·rw [e]at h3;simp [cY]at h3;omega
structure FineP (p:Prog) :Prop where
 small:p.nodes.length≤320
 fsmall:p.funs.length≤320
 node:∀ (i:Nat) (x:Node),p.nodes[i]?=some x→FineN p.cons x∧x.kids.length≤10∧∀k∈x.kids,(i:Int) <k∧k<p.nodes.length
 funs:∀f∈p.funs,0≤f∧f<p.nodes.length
section
variable (p :Prog) (mf mc:List (Int×Int))
variable {p mf mc}
end
theorem aA5 {P:Program}{f:Nat}{args args':List AV}{v v':AV}{l l' lc lc':List (Nat×AObj×Bool)}{m nb nb' n2 n3:Nat}{ks:List Nat}
  (h0:aHR P m (.enter f args) (aE l nb) (.ret v) (aE l' nb')) (e3:nb'-m+n2=n3) (ev:AV.ren (mU m n2 ks) v=v') (hargs:AV.renL (dT 0 nb n2 ks) args=args') (hm:Nat.ble m nb=true) (hm':Nat.ble m nb'=true)
  (hin:cP 0 ⟨⟨0,0,[],[],[],.run,.normal,none⟩,[],l,nb⟩ ks=true) (hl:uF (aE lc n2) (dT 0 nb n2 ks) l=gW (dT 0 nb n2 ks) l) (hkl:gP l)
  (hl':uF (aE lc' n3) (mU m n2 ks) l'=gW (mU m n2 ks) l') (hkl':gP l') (hpl:yB l'=true:=by kernel_rfl) (hk':fR nb' l'=true:=by kernel_rfl)
  (hx:fR n2 lc=true:=by kernel_rfl) (hx':fR n3 lc'=true:=by kernel_rfl) (hlt:ks.all (fun k=>Nat.blt k n2) =true:=by kernel_rfl) (hout:aCX (namesT (mU m n2 ks) l') ks (aE lc n2) lc'=rB lc':=by kernel_rfl) (hll:rB l'= (l'.map fun p=> (aE l' nb').look p.1) :=by kernel_rfl) :
  Spec P (.enter f args') (aE lc n2) (.ret v') (aE lc' n3) :=by
 subst e3 ev;exact aPv h0 hargs hm hm' hin hl hkl hl' hkl' hpl hk' hx hx' hlt hout hll
def bN (mf mc:List (Int×Int))(op n:Int) :Int:=if op=4 then(if 0≤n then n else -1-mF mf (-1-n))else if op=14 then mF mc n else n
def kZ (mf mc:List (Int×Int))(to:List Int)(x:Node) :Node:= ⟨x.op,bN mf mc x.op x.n,x.kids.map (kF to),fK mc x.pats⟩
def nOk (mf:List (Int×Int))(x:Node) :Prop:=aV x.pats<1000000∧ (x.op=4→x.n<0→ -1000000000≤x.n∧ -1000000000≤mF mf (-1-x.n) ∧mF mf (-1-x.n) ≤1000000000)
section
variable (p :Prog) (mf mc:List (Int×Int)) (to:List Int)
variable {p mf mc to}
end
section
variable {p :Prog} {mf mc:List (Int×Int)}
end
def aVU(a:List Con):TS:=dO PP 143 [(iC a)] [] 0
def aXB(a:List Con):TS:=⟨(tf 143 8 [(0,(iC a)),(2,.nils),(3,(iC a))] [ko f143 12 1,kc f143 13,kc f143 7]),[],[],0⟩
def aWO(a:List Con):TS:=⟨(tf 143 8 [(0,(iC a)),(2,.nils),(3,.nils)] [ko f143 12 1,kc f143 13,kc f143 7]),[],[],0⟩
def aWP(a:List Con)(b:Addr)(c d:Nat):TS:=⟨(tf 143 8 [(0,(iC a)),(2,.nils),(3,(.val (Value.slice (some b) c d)))] [ko f143 12 1,kc f143 13,kc f143 7]),[],[],0⟩
def aXC (a:List Con):=(tT 0 (aVU a)<|.W 8 0 [] (aXB a)) tv
def aXD (a:List Con):=(tT 0 (aWO a)<|.i [rn 8,.nilI 2 2] []<|gE 0 0 (.ilst 2 (jC ([] :List Con)) true)) tv
def aXE (a:List Con)(b:Addr)(c d:Nat):=fun e=>(tT 0 (aWP a b c d)<|.i [rn 8,.toL 5 true []] [.q (p:=getCells (putCells .leaf 0 []) 0 (0*2) =some []) rfl,hr true]<|gu 0 0 (jC ([] :List Con))<|gs 0 5 (.gl 0 2 0 ([] :List Con).length true)<|ga 0 Con.av ([] :List Con) a<|gz 3 2 1 2 Con.av (([] :List Con) ++a) false<|gE 0 2 (iC (([] :List Con) ++a))) e tv
def sM :Nat→List (Int×Int)
 |0=>[]
 |n+1=>dQ (n:Int) (n:Int) (sM n)
theorem pP {α β:Type}[DecidableEq α](k k':α)(v:β) :∀ (l:List (α×β)),fU k (dQ k' v l) =if k=k' then some v else fU k l
 | [] =>by simp [dQ,fU]
 | e ::l=>by
  simp only [dQ];split
  · rename_i h;subst h;simp only [fU];split<;>rfl
  · rename_i h;simp only [fU,pP k k' v l];by_cases h1:k=e.1
    · subst h1;rw [if_pos rfl,if_pos rfl,if_neg (fun e=>h e.symm)]
    ·rw [if_neg h1,if_neg h1]
theorem aQ2 :∀ (n:Nat) (i:Int),0≤i→i<n→fU i (sM n) =some i
 |0,i,h0,h1=>by omega
 | n+1,i,h0,h1=>by
  rw [sM,pP];by_cases h:i= (n:Int)
  ·rw [if_pos h,h]
  ·rw [if_neg h];exact aQ2 n i h0 (by omega)
theorem aVV {n:Nat}{i:Int}(h0:0≤i)(h1:i<n) :mF (sM n) i=i:=by unfold mF;rw [aQ2 n i h0 h1];rfl
theorem aE1 {P:Program}{m:Nat}{s:AS}{v v':AV}{h':Hp}(h:Ends P m s (.ret v) h')(hv:∀ (E:Emb) (cv:Value),VR E v cv→VR E v' cv) :Ends P m s (.ret v') h':=fun hm E fr ccs w f fs r cl base=>by
 obtain⟨cl',w',E',s1,⟨cv,rfl,g2⟩,r2,x2⟩ :=h hm E fr ccs w f fs r cl base;exact⟨_,w',E',s1,⟨cv,rfl,hv E' cv g2⟩,r2,x2⟩
theorem lX {E:Emb}{e:Nat}{xs:List AV}{cv:Value}(h:VR E (.ilst e xs true) cv) :VR E (.ilst e xs false) cv:=by
 simp only [VR]at h ⊢;obtain⟨vs,h1,h2,h3⟩ :=h;refine⟨vs,h1,h2,?_⟩;rcases h3 with⟨rfl,a,cap,rfl,g,_⟩ | ⟨k,a,cap,C,g1,g2,g3,_,g5⟩
 ·exact .inl ⟨rfl,a,cap,rfl,g,fun hh=>by cases hh⟩
 ·exact .inr ⟨k,a,cap,C,g1,g2,g3,(fun hh=>by cases hh),g5⟩
theorem aLB (xs:List Con)(h:xs.length≤1000000) :Pure PP 143 [.ilst 2 (map Con.av xs) false] (.ilst 2 (map Con.av xs) false) :=by
 refine fW (s:=aVU xs) (by kernel_rfl) (by kernel_rfl) (by simp [AV.keylessL,AV.keyless]) (by simp [AV.keyless]) ((aXC xs).ends ?_);refine aPn (j:=3) (e:=2) (ex:=false) (xs:=map Con.av xs) (by kernel_rfl) (fun hx=>?_) (fun a n c=>?_)
 · have hx:xs= [] :=by simpa using hx
   subst hx;have h1:=aE1 (aXD []) (fun E cv hv=>lX hv);exact Eq.mp (by kernel_rfl) h1
 · have h1:=aXE xs a n c (by simpa using h);rw [List.nil_append]at h1;exact Eq.mp (by kernel_rfl) h1
section
variable {p :Prog}
end
end
end Go.Hb
