/- A machine on abstract values, its soundness, ways, plain laws. -/
import Derived.Test.YtfaikcecgpcimaaGreatHF
import Derived.Test.YtfaikcecgpcimaaGreatHG
import Derived.Test.YtfaikcecgpcimaaGreatHH
set_option linter.defProp false
set_option linter.unusedVariables false
set_option linter.unusedSimpArgs false
set_option linter.unusedSectionVars false
set_option maxRecDepth 100000
set_option maxHeartbeats 8000000
namespace Go.Hb
open Bool (and_eq_true)
open List (all_cons getD_eq_getElem?_getD length length_cons map mem_of_getElem? replicate)
open Go.Proofs Tryz
noncomputable section
mutual
def aX1 :Term→Nat
 | .mk _ _ _ ks _=>aRe ks+1
def aRe :List Term→Nat
 | [] =>0
 |t::ts=>aX1 t+aRe ts
end
def wZ (m:List (Int×Int))(n:Int) :Int:= (dN n m).getD 0
mutual
def aGI (mc:List (Int×Int)) :Pat→Pat
 | .mk f n t ps=>.mk f (if f=6 then wZ mc n else n) t (pA mc ps)
def pA (mc:List (Int×Int)) :List Pat→List Pat
 | [] =>[]
 |p::ps=>aGI mc p::pA mc ps
end
section
variable (mf mc:List (Int×Int))
end
def aGJ (to:List Int)(k:Int) :Int:=to.getD k.toNat 0
def uG :List aC→List (aC×Bool) →List (aC×Bool)
 | [],m=>m
 |x::t,m=>uG t (bQ x true m)
theorem aAi (l:List aC)(hl:l.length<1000000) :∀ (t:List aC) (i:Nat) (m:List (aC×Bool)),l.drop i=t→Ends PP 0 (qY l (i:Int) m).as (.ret (.bool (decide ((uG t m).length=l.length)))) (aF [] 0)
 | [],i,m,h=>by
  have:=aT h;refine Ends.eqv (aIT l i m sd) ?_;have: (((length m:Nat) :Int) == ((length l:Nat) :Int)) =decide (m.length=l.length) :=by
   by_cases k:m.length=l.length<;>simp [k] <;>omega
  rw [this];rfl
 | x::t,i,m,h=>by
  obtain⟨g1,g2,g3⟩ :=aR h;refine(aIS l i m x sd sd sd sd).ends ?_;exact aAi l hl t (i+1) _ g2
theorem aDo {k:aC}{v w:Bool}:∀ {m:List (aC×Bool)},dN k m=some w→ (bQ k v m).map Prod.fst=m.map Prod.fst
 | [],h=>by cases h
 | e::m,h=>by
  unfold dN at h;unfold bQ;split at h
  ·rename_i hk;rw [if_pos hk];simp [hk]
  ·rename_i hk;rw [if_neg hk];simp [aDo h]
theorem aDp {k:aC}{v:Bool}:∀ {m:List (aC×Bool)},dN k m=none→ (bQ k v m).map Prod.fst=m.map Prod.fst++ [k]
 | [],_=>rfl
 | e::m,h=>by
  unfold dN at h;unfold bQ;split at h
  ·cases h
  ·rename_i hk;rw [if_neg hk];simp [aDp h]
theorem aDq {k:aC}:∀ {m:List (aC×Bool)},(dN k m).isSome=bR (m.map Prod.fst) k
 | [] =>rfl
 | e ::m=>by
  unfold dN;split
  ·rename_i hk;simp [bR,hk]
  · rename_i hk;have:¬e.1=k:=fun h=>hk h.symm;rw [aDq];simp [bR,this]
theorem aEW :∀ (t:List aC) (m:List (aC×Bool)),(uG t m).length≤m.length+t.length
 | [],m=>by simp [uG]
 | x::t,m=>by
  have a:=aEW t (bQ x true m);have b: (bQ x true m).length≤m.length+1:=by
   cases h:dN x m with
   |none=>have:=congrArg length (aDp (v:=true) h);simp at this;omega
   |some w=>have:=congrArg length (aDo (v:=true) h);simp at this;omega
  simp only [uG,length_cons];omega
theorem aDr :∀ (t:List aC) (m:List (aC×Bool)),(uG t m).length=m.length+t.length↔cB (m.map Prod.fst) t=true
 | [],m=>by simp [uG,cB]
 | x::t,m=>by
  simp only [uG,cB];cases h:dN x m with
  | some w=>
   have e:=aDo (v:=true) h;have hs:bR (m.map Prod.fst) x=true:=by rw [←aDq,h];rfl
   have a:=aEW t (bQ x true m);have b:=congrArg length e;simp only [List.length_map]at b;rw [hs];constructor
   ·intro g;simp only [length_cons]at g;omega
   ·intro g;simp at g
  | none=>
   have e:=aDp (v:=true) h;have hs:bR (m.map Prod.fst) x=false:=by rw [←aDq,h];rfl
   have ih:=aDr t (bQ x true m);have b:=congrArg length e;simp only [List.length_map,List.length_append,List.length_singleton]at b;rw [hs,←e];simp only [Bool.not_false,Bool.true_and,length_cons];rw [←ih,b];omega
theorem aGK (l:List aC)(hl:l.length<1000000) :Pure PP 244 [.ilst 1 (map aB l) false] (.bool (cD l)) :=by
 refine aQ (by kernel_rfl) rfl rfl ((aIR l).ends (Ends.eqv (aAi l hl l 0 [] rfl) ?_));have:=aDr l [];simp only [List.length_nil,Nat.zero_add,List.map_nil]at this;congr 1;cases k:cD l with
 |true=>exact decide_eq_true (this.2 k)
 |false=>exact decide_eq_false fun g=>by have:=this.1 g;unfold cD at k;rw [k]at this;cases this
theorem aEX (l:List Con)(hl:l.length<1000000) :∀ (t:List Con) (i:Nat),l.drop i=t→Ends PP 0 (aB8 l (i:Int)).as (.ret (.bool (t.all fG))) (aF [] 0)
 | [],i,h=>by
  have:=aT h;exact Ends.eqv (aQ2 l i sd) (by simp)
 | c::t,i,h=>by
  obtain⟨g1,g2,g3⟩ :=aR h;have hq:=aOs c;cases k:fG c with
  |false=>rw [k]at hq;exact Ends.eqv (aQ0 l i c false sd sd sd hq rfl) (by simp [k])
  | true=>
   rw [k]at hq;refine(aQ1 l i c true sd sd sd hq rfl sd).ends ?_;exact Ends.eqv (aEX l hl t (i+1) g2) (by simp [k])
theorem aOw (l:List Con)(hl:l.length<1000000) :Pure PP 242 [.ilst 2 (map Con.av l) false,.func 243 [] []] (.bool (l.all fG)) :=
 aQ (by kernel_rfl) rfl rfl ((aQZ l).ends (aEX l hl l 0 rfl))
theorem aEY (l:List Node)(p:Prog)(hl:l.length<1000000)(ih:∀x∈l,Pure PP 248 [Prog.av p,Node.av x] (.bool (bT p x))) :∀ (t:List Node) (i:Nat),l.drop i=t→Ends PP 0 (aB7 l p (i:Int)).as (.ret (.bool (t.all (bT p)))) (aF [] 0)
 | [],i,h=>by
  have:=aT h;exact Ends.eqv (aQY l p i sd) (by simp)
 | c::t,i,h=>by
  obtain⟨g1,g2,g3⟩ :=aR h;have hq:=ih c (mem_of_getElem? g1);cases k:bT p c with
  |false=>rw [k]at hq;exact Ends.eqv (aQW l p i c false sd sd sd hq rfl) (by simp [k])
  | true=>
   rw [k]at hq;refine(aQX l p i c true sd sd sd hq rfl sd).ends ?_;exact Ends.eqv (aEY l p hl ih t (i+1) g2) (by simp [k])
theorem aOx (l:List Node)(p:Prog)(hl:l.length<1000000)(ih:∀x∈l,Pure PP 248 [Prog.av p,Node.av x] (.bool (bT p x))) :Pure PP 247 [.ilst 4 (map Node.av l) false,.func 248 [Prog.av p] []] (.bool (l.all (bT p))) :=
 aQ (by kernel_rfl) rfl rfl ((aQV l p).ends (aEY l p hl ih l 0 rfl))
def one (k:Int) :Bool:=decide (k=1)
theorem aEZ (l:List Int)(hl:l.length<1000000) :∀ (t:List Int) (i:Nat),l.drop i=t→Ends PP 0 (aB9 l (i:Int)).as (.ret (.bool (t.all one))) (aF [] 0)
 | [],i,h=>by
  have:=aT h;exact Ends.eqv (aQ6 l i sd) (by simp)
 | c ::t,i,h=>by
  obtain⟨g1,g2,g3⟩ :=aR h;by_cases k:c=1
  · refine(aQ5 l i c sd sd sd (by simp [k]) sd).ends ?_;exact Ends.eqv (aEZ l hl t (i+1) g2) (by simp [k,one])
  ·exact Ends.eqv (aQ4 l i c sd sd sd (by simp [k])) (by simp [k,one])
theorem aOy (l:List Int)(hl:l.length<1000000) :Pure PP 249 [.ilst 1 (map aO l) true,.func 250 [] []] (.bool (l.all one)) :=
 aQ (by kernel_rfl) rfl rfl ((aQ3 l).ends (aEZ l hl l 0 rfl))
theorem aE0 (l:List Con)(hl:l.length<100000) :∀ (t:List Con) (i:Nat),l.drop i=t→Ends PP 0 (aCa l (i:Int) (aY (l.take i))).as (.ret (.ilst 1 (map aB (aY l)) false)) (aF [] 0)
 | [],i,h=>by
  have hi:=aT h;have e:aY (l.take i) =aY l:=by rw [List.take_of_length_le hi]
  rw [e];exact aQ9 l i _ sd
 | c::t,i,h=>by
  obtain⟨g1,g2,g3⟩ :=aR h;have e:aY (l.take i) ++ [c.name] =aY (l.take (i+1)) :=by
   rw [List.take_add_one,g1];simp [aY]
  refine(aQ8 l i (aY (l.take i)) c sd sd sd (by simp [aY];omega) sd).ends ?_;rw [e];exact aE0 l hl t (i+1) g2
theorem aOz (l:List Con)(hl:l.length<100000) :Pure PP 245 [.ilst 2 (map Con.av l) false,.func 246 [] []] (.ilst 1 (map aB (aY l)) false) :=
 aQ (by kernel_rfl) rfl rfl ((aQ7 l).ends (aE0 l hl l 0 rfl))
def kW (lo n:Int) :List Int→List Int→Option (List Int)
 | [],c=>some c
 |k::ks,c=>if dD k lo (n-1) =true then kW lo n ks (c.set k.toNat (c.getD k.toNat 0+1))else none
def jZ (p:Prog) :Nat→List Node→List Int→Option (List Int)
 |_,[],c=>some c
 | i,x::t,c=>match kW ((i:Int) +1) (p.nodes.length:Int) x.kids c with
   |some d=>jZ p (i+1) t d
   |none=>none
def nH :Option (List Int) →Bool
 |some c=>c.all one
 |none=>false
def below (b:Int)(c:List Int) :Prop:=∀k∈c,0≤k∧k≤b
theorem aA7 {b:Int}{c:List Int}(h:below b c){i:Nat}{z:Int}(hz:c[i]?=some z) :0≤z∧z≤b:=h z (mem_of_getElem? hz)
theorem aE1 {b:Int}{c:List Int}(h:below b c){i:Nat}{z:Int}(hz:c[i]?=some z) :below (b+1) (c.set i (z+1)) :=fun k hk=>by
 rcases List.mem_or_eq_of_mem_set hk with g|g
 ·have:=h k g;omega
 ·have:=aA7 h hz;omega
theorem bF2 (p:Prog)(i:Nat)(hi:i<p.nodes.length)(hn:p.nodes.length≤1000)(ks:List Int)(hk:ks.length≤1000)(K:List Int→Bool)(B:Int)(hB:0≤B)(hB2:B≤1000000)
  (hb:∀v:List Int,v.length=p.nodes.length→below (B+ks.length) v→Ends PP 0 (mJ p v ((i:Int) +1)).as (.ret (.bool (K v))) (aF [] 0)) :
  ∀ (t:List Int) (k:Nat) (c:List Int),c.length=p.nodes.length→k≤ks.length→below (B+k) c→ks.drop k=t→Ends PP 0 (rA p ks (ks.length:Int) c (k:Int) (i:Int) (i:Int)).as (.ret (.bool (match kW ((i:Int) +1) p.nodes.length t c with|some v=>K v|none=>false))) (aF [] 0)
 | [],k,c,hc,hkl,hbl,h=>by
  have:=aT h;have e:k=ks.length:=by omega
  subst e;refine(aJa p ks ks.length c ks.length i i sd sd).ends ?_;exact hb c hc hbl
 | y ::t,k,c,hc,hkl,hbl,h=>by
  obtain⟨g1,g2,g3⟩ :=aR h;have hin:=eO y ((i:Int) +1) ((p.nodes.length:Int) -1);cases k1:dD y ((i:Int) +1) ((p.nodes.length:Int) -1)with
  | false=>
   rw [k1]at hin;exact Ends.eqv (aI8 p ks ks.length c k i i y false sd sd sd sd sd hin rfl) (by simp [kW,k1])
  | true=>
   rw [k1]at hin;have hy:=inB_iff.1 k1;obtain⟨z,hz⟩ :∃z,c[y.toNat]?=some z:= ⟨_,List.getElem?_eq_getElem (by omega)⟩;have hzb:=aA7 hbl hz;refine(aI9 p ks ks.length c k i i y true z sd sd sd sd sd hin rfl (by omega) (by omega) hz sd sd).ends ?_;have e:c.getD y.toNat 0=z:=by rw [getD_eq_getElem?_getD,hz];rfl
   have ei:kW ((i:Int) +1) p.nodes.length (y::t) c=kW ((i:Int) +1) p.nodes.length t (c.set y.toNat (z+1)) :=by
    rw [kW,if_pos k1,e]
   rw [ei];refine bF2 p i hi hn ks hk K B hB hB2 hb t (k+1) (c.set y.toNat (z+1)) (by simpa using hc) (by omega) ?_ g2;have:=aE1 hbl hz;intro q hq;have:=this q hq
   push_cast
   omega
def rB :List Node→Nat
 | [] =>0
 |x::t=>x.kids.length+rB t
theorem aDs :∀ (t:List Node),(∀x∈t,x.kids.length≤10) →rB t≤10*t.length
 | [],_=>by simp [rB]
 | x::t,h=>by
  have a:=aDs t (fun y hy=>h y (List.mem_cons_of_mem _ hy));have b:=h x (List.mem_cons_self ..);simp only [rB,length_cons];omega
theorem bF1 (p:Prog)(hp:aL p=true)(hn:p.nodes.length≤1000) :∀ (t:List Node) (i:Nat) (c:List Int) (B:Int),0≤B→B+rB t≤100000→c.length=p.nodes.length→below B c→p.nodes.drop i=t →
  Ends PP 0 (mJ p c (i:Int)).as (.ret (.bool (nH (jZ p i t c)))) (aF [] 0)
 | [],i,c,B,h0,h1,hc,hb,h=>by
  have:=aT h;exact Ends.eqv (aI7 p c i _ sd (aOy c (by omega))) rfl
 | x::t,i,c,B,h0,h1,hc,hb,h=>by
  obtain⟨g1,g2,g3⟩ :=aR h;have hx:bG x=true:=by
   simp only [aL,and_eq_true]at hp;exact List.all_eq_true.1 hp.2 x (mem_of_getElem? g1)
  simp only [bG,and_eq_true,decide_eq_true_eq]at hx;simp only [rB]at h1;refine(aI6 p c i x sd sd sd).ends ?_;refine Ends.eqv (bF2 p i g3 hn x.kids (by omega) (fun v=>nH (jZ p (i+1) t v)) B h0 (by omega) (fun v hv hbv=>bF1 p hp hn t (i+1) v (B+x.kids.length) (by omega) (by omega) hv hbv g2) x.kids 0 c hc (by omega) (by simpa using hb) rfl) ?_;rw [jZ];cases kW ((i:Int) +1) (p.nodes.length:Int) x.kids c<;>rfl
theorem bF0 (p:Prog)(hp:aL p=true)(hn:p.nodes.length≤1000)(hks:rB p.nodes≤10000)(hf:p.funs.length≤1000) :∀ (t:List Int) (i:Nat) (c:List Int),i≤p.funs.length→c.length=p.nodes.length→below (i:Int) c→p.funs.drop i=t →
  Ends PP 0 (qZ p (i:Int) c).as (.ret (.bool (match kW 0 p.nodes.length t c with|some v=>nH (jZ p 0 p.nodes v) |none=>false))) (aF [] 0)
 | [],i,c,hi,hc,hb,h=>by
  have:=aT h;refine(aI5 p i c sd).ends ?_;exact bF1 p hp hn p.nodes 0 c i (by omega) (by omega) hc hb rfl
 | y ::t,i,c,hi,hc,hb,h=>by
  obtain⟨g1,g2,g3⟩ :=aR h;have hin:=eO y 0 ((p.nodes.length:Int) -1);cases k1:dD y 0 ((p.nodes.length:Int) -1)with
  | false=>
   rw [k1]at hin;exact Ends.eqv (aI3 p i c y false sd sd sd sd hin rfl) (by simp [kW,k1])
  | true=>
   rw [k1]at hin;have hy:=inB_iff.1 k1;obtain⟨z,hz⟩ :∃z,c[y.toNat]?=some z:= ⟨_,List.getElem?_eq_getElem (by omega)⟩;have hzb:=aA7 hb hz;refine(aI4 p i c y true z sd sd sd sd hin rfl (by omega) (by omega) hz sd sd).ends ?_;have e:c.getD y.toNat 0=z:=by rw [getD_eq_getElem?_getD,hz];rfl
   have ei:kW 0 p.nodes.length (y::t) c=kW 0 p.nodes.length t (c.set y.toNat (z+1)) :=by
    rw [kW,if_pos k1,e]
   rw [ei];refine bF0 p hp hn hks hf t (i+1) (c.set y.toNat (z+1)) (by omega) (by simpa using hc) ?_ g2;have:=aE1 hb hz;intro q hq;have:=this q hq
   push_cast
   omega
def cO (p:Prog) :Bool:=
 dS p&&decide (p.cons.length≤20) &&p.cons.all fG&&cD (aY p.cons) &&p.nodes.all (bT p) &&
  (match kW 0 (p.nodes.length:Int) p.funs (replicate p.nodes.length 0)with
  |some v=>nH (jZ p 0 p.nodes v)
  |none=>false)
theorem aJh {p:Prog}(hp:aL p=true) :∀x∈p.nodes,x.kids.length≤10∧x.pats.length≤10:=fun x hx=>by
 simp only [aL,and_eq_true]at hp;have:=List.all_eq_true.1 hp.2 x hx;simp only [bG,and_eq_true,decide_eq_true_eq]at this;exact this.1
theorem aGL (p:Prog)(hp:aL p=true) :Pure PP 200 [Prog.av p] (.bool (cO p)) :=by
 refine aQ (by kernel_rfl) rfl rfl ?_;have hs:=hp;simp only [aL,and_eq_true,decide_eq_true_eq]at hs;obtain⟨⟨⟨⟨s1,s2⟩,s3⟩,_⟩,_⟩ :=hs;have hno:=aJh hp;by_cases k0:p.nodes.length≤300
 · by_cases k1 :1≤p.funs.length
   · by_cases k2:p.funs.length≤p.nodes.length
     · have kk :dD (p.funs.length:Int) 1 (p.nodes.length:Int) =true:=inB_iff.2 ⟨by omega,by omega⟩;by_cases k3:p.cons.length≤20
       · have hi:=eO p.main 0 ((p.funs.length:Int) -1);cases k4:dD p.main 0 ((p.funs.length:Int) -1)with
         | false=>
          rw [k4]at hi;exact Ends.eqv (aIY p false sd sd sd sd sd hi rfl) (by simp [cO,dS,k4])
         | true =>
          rw [k4]at hi;have hh:dS p=true:=by simp [dS,k0,kk,k4]
          have hc:=aOw p.cons (by omega);cases k5:p.cons.all fG with
          | false=>
           rw [k5]at hc;exact Ends.eqv (aIZ p true false sd sd sd sd sd hi rfl hc rfl) (by simp only [cO,k5,Bool.and_false,Bool.false_and])
          | true=>
           rw [k5]at hc;have hm:=aOz p.cons (by omega);have hd:=aGK (aY p.cons) (by simp [aY];omega);cases k6:cD (aY p.cons)with
           | false=>
            rw [k6]at hd;exact Ends.eqv (aI0 p true true (aY p.cons) false sd sd sd sd sd hi rfl hc rfl hm hd rfl) (by simp only [cO,k6,Bool.and_false,Bool.false_and])
           | true=>
            rw [k6]at hd;have hn:=aOx p.nodes p (by omega) (fun x hx=>aLD p x (by omega) (by omega) (hno x hx).2 (hno x hx).1);cases k7:p.nodes.all (bT p)with
            | false=>
             rw [k7]at hn;exact Ends.eqv (aI1 p true true (aY p.cons) true false sd sd sd sd sd hi rfl hc rfl hm hd rfl hn rfl) (by simp only [cO,k7,Bool.and_false,Bool.false_and])
            | true=>
             rw [k7]at hn;refine(aI2 p true true (aY p.cons) true true sd sd sd sd sd hi rfl hc rfl hm hd rfl hn rfl (by omega)).ends ?_;have hks:=aDs p.nodes (fun x hx=> (hno x hx).1);refine Ends.eqv (bF0 p hp (by omega) (by omega) (by omega) p.funs 0 _ (by omega) (by simp) ?_ rfl) ?_
             · intro q hq;have:= (List.mem_replicate.1 hq).2;omega
             ·simp only [cO,hh,decide_eq_true k3,k5,k6,k7,Bool.true_and] <;>rfl
       ·exact Ends.eqv (aIX p sd sd sd sd) (by simp [cO,k3])
     · have kk:dD (p.funs.length:Int) 1 (p.nodes.length:Int) =false:=inB_not.2 (by omega);exact Ends.eqv (aIW p sd sd sd) (by simp [cO,dS,kk])
   · have kk:dD (p.funs.length:Int) 1 (p.nodes.length:Int) =false:=inB_not.2 (by omega);exact Ends.eqv (aIV p sd sd) (by simp [cO,dS,kk])
 ·exact Ends.eqv (aIU p sd) (by simp [cO,dS,k0])
theorem aJi (p:Prog)(hp:aL p=true) :Pure PP 138 [Prog.av p] (.int .i64 (checkN (cO p))) :=by
 refine aQ (by kernel_rfl) rfl rfl ?_;have h:=aGL p hp;cases k:cO p with
 |false=>rw [k]at h;exact aLz p false h rfl
 |true=>rw [k]at h;exact aLA p true h rfl
def cnt (b:Bool) :Int:=if b=true then 1 else 0
def rC (u:List Bool) :List Int:=u.map cnt
def yI (c:List Int) :Prop:= (∃ (i:Nat) (z:Int),c[i]?=some z∧2≤z) ∧∀z∈c,0≤z
theorem aJj {c:List Int}(h:yI c) :c.all one=false:=by
 obtain⟨⟨i,z,h1,h2⟩,_⟩ :=h;cases k:c.all one with
 |false=>rfl
 | true=>
  have:=List.all_eq_true.1 k z (mem_of_getElem? h1);simp only [one,decide_eq_true_eq]at this;omega
theorem aLE {c:List Int}{j:Nat}(h:yI c) :yI (c.set j (c.getD j 0+1)) :=by
 obtain⟨⟨i,z,h1,h2⟩,h3⟩ :=h;have hi:= (List.getElem?_eq_some_iff.1 h1).1;refine⟨⟨i,if j=i then z+1 else z,?_,by split<;>omega⟩,fun q hq=>?_⟩
 · rw [List.getElem?_set];by_cases e:j=i
   · subst e;rw [if_pos rfl,if_pos hi,if_pos rfl,getD_eq_getElem?_getD,h1];rfl
   ·rw [if_neg e,if_neg e];exact h1
 · rcases List.mem_or_eq_of_mem_set hq with g|g
   ·exact h3 q g
   · rw [g,getD_eq_getElem?_getD];cases k:c[j]? with
     |none=>simp
     |some w=>have:=h3 w (mem_of_getElem? k);simp;omega
theorem uH {lo n:Int}:∀ {ks c:List Int} {d:List Int},yI c→kW lo n ks c=some d→yI d
 | [],c,d,h,e=>by simp only [kW,Option.some.injEq]at e;rw [←e];exact h
 | k::ks,c,d,h,e=>by
  simp only [kW]at e;split at e
  ·exact uH (aLE h) e
  ·cases e
theorem aJk (u:List Bool) :∀z∈rC u,0≤z:=fun z hz=>by
 obtain⟨b,_,rfl⟩ :=List.mem_map.1 hz;cases b<;>simp [cnt]
theorem yJ {lo n:Int}(hlo:0≤lo) :∀ (ks:List Int) (u:List Bool),n≤u.length →
  (∀v,marks lo n ks u=some v→kW lo n ks (rC u) =some (rC v)) ∧ (marks lo n ks u=none→∀d,kW lo n ks (rC u) =some d→yI d)
 | [],u,hn=>by
  simp only [marks,kW,Option.some.injEq];exact⟨fun v e=>by rw [e],fun e=>by cases e⟩
 | k :: ks,u,hn=>by
  simp only [marks,kW];by_cases h1:dD k lo (n-1) =true
  · have hk:=inB_iff.1 h1;have hlt:k.toNat<u.length:=by omega
    have hget:u[k.toNat]?=some u[k.toNat] :=List.getElem?_eq_getElem hlt;have hc: (rC u).getD k.toNat 0=cnt u[k.toNat] :=by
     rw [getD_eq_getElem?_getD,rC,List.getElem?_map,hget];rfl
    rw [if_pos h1];cases hb:u[k.toNat]with
    | false=>
     rw [hb]at hget hc;rw [if_pos ⟨h1,hget⟩];have e: (rC u).set k.toNat ((rC u).getD k.toNat 0+1) =rC (u.set k.toNat true) :=by
      rw [hc,rC,rC,List.map_set];rfl
     rw [e];exact yJ hlo ks (u.set k.toNat true) (by simpa using hn)
    | true=>
     rw [hb]at hget hc;rw [if_neg (by rw [hget];simp)];refine And.intro (fun v e=>nomatch e) (fun _ d e=>uH (And.intro ⟨k.toNat,2,?_,by omega⟩ ?_) e)
     ·rw [hc,List.getElem?_set_self (by simp [rC];exact hlt)];rfl
     · intro z hz;rcases List.mem_or_eq_of_mem_set hz with g|g
       ·exact aJk u z g
       ·rw [g,hc];simp [cnt]
  · rw [if_neg h1,if_neg (fun g=>h1 g.1)];exact And.intro (fun v e=>nomatch e) (fun _ d e=>nomatch e)
theorem nW (p:Prog) :∀ (t:List Node) (i:Nat) (c:List Int),yI c→nH (jZ p i t c) =false
 | [],i,c,h=>by rw [jZ];exact aJj h
 | x::t,i,c,h=>by
  rw [jZ];cases e:kW ((i:Int) +1) (p.nodes.length:Int) x.kids c with
  |none=>rfl
  |some d=>exact nW p t (i+1) d (uH h e)
theorem aE2 :∀ (u:List Bool),(rC u).all one=u.all fun b=>b
 | [] =>rfl
 | b::u=>by
  have:=aE2 u;simp only [rC,List.map_cons,all_cons]at this ⊢;rw [this];cases b<;>simp [cnt,one]
theorem aJl (p:Prog) :∀ (t:List Node) (i:Nat) (u:List Bool),u.length=p.nodes.length→t.all (bT p) =true→allT (cR p i t u) =nH (jZ p i t (rC u))
 | [],i,u,hu,_=>by simp only [cR,jZ,allT,nH,aE2]
 | x::t,i,u,hu,ha=>by
  simp only [all_cons,and_eq_true]at ha;obtain⟨m1,m2⟩ :=yJ (lo:= (i:Int) +1) (n:= (p.nodes.length:Int)) (by omega) x.kids u (by omega);simp only [cR,jZ,if_pos ha.1];cases hm:marks ((i:Int) +1) (p.nodes.length:Int) x.kids u with
  | some v=>
   rw [m1 v hm];exact aJl p t (i+1) v (by rw [oU hm,hu]) ha.2
  | none=>
   cases hi:kW ((i:Int) +1) (p.nodes.length:Int) x.kids (rC u)with
   |none=>rfl
   |some d=>exact(nW p t (i+1) d (m2 hm d hi)).symm
theorem aAj (p:Prog) :∀ (t:List Node) (i:Nat) (u:List Bool),t.all (bT p) =false→allT (cR p i t u) =false
 | [],i,u,h=>by simp at h
 | x ::t,i,u,h=>by
  simp only [cR];by_cases hx:bT p x=true
  · rw [if_pos hx];have ht:t.all (bT p) =false:=by simpa [hx]using h
    cases marks ((i:Int) +1) (p.nodes.length:Int) x.kids u with
    |none=>rfl
    |some v=>exact aAj p t (i+1) v ht
  ·rw [if_neg hx];rfl
theorem aOA (p:Prog) :cO p=aZ p:=by
 have e1:cO p= (dS p&&yF p.cons&& (p.nodes.all (bT p) && (match kW 0 (p.nodes.length:Int) p.funs (replicate p.nodes.length 0)with
  |some v=>nH (jZ p 0 p.nodes v)
  |none=>false))) :=by
  unfold cO yF;cases dS p<;>cases p.cons.all fG<;>cases cD (aY p.cons) <;>cases p.nodes.all (bT p) <;>cases decide (p.cons.length≤20) <;>simp
 rw [e1,aZ];congr 1;have ez:replicate p.nodes.length (0:Int) =rC (replicate p.nodes.length false) :=by rw [rC,List.map_replicate];rfl
 rw [ez];obtain⟨m1,m2⟩ :=yJ (lo:=0) (n:= (p.nodes.length:Int)) (by omega) p.funs (replicate p.nodes.length false) (by simp);cases hm:marks 0 (p.nodes.length:Int) p.funs (replicate p.nodes.length false)with
 | some v=>
  rw [m1 v hm];cases ha:p.nodes.all (bT p)with
  |true=>simp only [Bool.true_and];exact(aJl p p.nodes 0 v (by rw [oU hm];simp) ha).symm
  |false=>simp only [Bool.false_and];exact(aAj p p.nodes 0 v ha).symm
 | none=>
  simp only;cases hi:kW 0 (p.nodes.length:Int) p.funs (rC (replicate p.nodes.length false))with
  |none=>simp
  |some d=>simp only [nW p p.nodes 0 d (m2 hm d hi),Bool.and_false]
theorem Ends.val {P:Program}{m:Nat}{s:AS}{v v':AV}{h':Hp}(h:Ends P m s (.ret v) h')(hv:∀E cv,VR E v cv→VR E v' cv) :Ends P m s (.ret v') h':=fun hm E fr ccs w f fs r cl base=>by
 obtain⟨cl',w',E',s1,⟨cv,e,g⟩,r2,x2⟩ :=h hm E fr ccs w f fs r cl base;exact⟨cl',w',E',s1,⟨cv,e,hv _ _ g⟩,r2,x2⟩
mutual
def bnm :Pat→Int
 | .mk f _ _ ps=>if f=2 then 1 else aZW ps
def aZW :List Pat→Int
 | [] =>0
 |p::ps=>bnm p+aZW ps
end
def aJm (x:Node)(k:Int) :Int:=
 if x.op=5∨x.op=27∨ (x.op=7∧k=1)then 1
 else if x.op=15∧k>0 then(match x.pats[(k-1).toNat]? with|some q=>bnm q|none=>0)else 0
structure FineN (cons:List Con) (x:Node) :Prop where
 pats:∀q∈x.pats,cK q≤12∧cT cons q=true
 mat:x.op=15→x.kids.length=1+x.pats.length
 let2:x.op=7→x.kids.length=2
theorem aT6 {p:Prog}{x:Node}(h:bT p x=true) :FineN p.cons x:=by
 simp only [bT,and_eq_true,decide_eq_true_eq]at h;obtain⟨⟨_,h2⟩,h3⟩ :=h;refine⟨fun q hq=>?_,fun e=>?_,fun e=>?_⟩
 · have:=List.all_eq_true.1 h2 q hq;simpa [fN]using this
 ·rw [e]at h3;simp [cS]at h3;omega
 ·rw [e]at h3;simp [cS]at h3;omega
structure FineP (p:Prog) :Prop where
 small:p.nodes.length≤320
 fsmall:p.funs.length≤320
 node:∀ (i:Nat) (x:Node),p.nodes[i]?=some x→FineN p.cons x∧x.kids.length≤10∧∀k∈x.kids,(i:Int) <k∧k<p.nodes.length
 funs:∀f∈p.funs,0≤f∧f<p.nodes.length
section
variable (p :Prog) (mf mc:List (Int×Int))
variable {p mf mc}
end
theorem lR {P:Program}{f:Nat}{args args':List AV}{v v':AV}{l l' lc lc':List (Nat×AObj×Bool)}{m nb nb' n2 n3:Nat}{ks:List Nat}
  (h0:aEI P m (.enter f args) (aF l nb) (.ret v) (aF l' nb')) (e3:nb'-m+n2=n3) (ev:AV.ren (mF m n2 ks) v=v') (hargs:AV.renL (dU 0 nb n2 ks) args=args') (hm:Nat.ble m nb=true) (hm':Nat.ble m nb'=true)
  (hin:cY 0 ⟨⟨0,0,[],[],[],.run,.normal,none⟩,[],l,nb⟩ ks=true) (hl:tW (aF lc n2) (dU 0 nb n2 ks) l=gU (dU 0 nb n2 ks) l) (hkl:gV l)
  (hl':tW (aF lc' n3) (mF m n2 ks) l'=gU (mF m n2 ks) l') (hkl':gV l') (hpl:xZ l'=true:=by kernel_rfl) (hk':fQ nb' l'=true:=by kernel_rfl)
  (hx:fQ n2 lc=true:=by kernel_rfl) (hx':fQ n3 lc'=true:=by kernel_rfl) (hlt:ks.all (fun k=>Nat.blt k n2) =true:=by kernel_rfl) (hout:aCU (namesT (mF m n2 ks) l') ks (aF lc n2) lc'=qO lc':=by kernel_rfl) (hll:qO l'= (l'.map fun p=> (aF l' nb').look p.1) :=by kernel_rfl) :
  Spec P (.enter f args') (aF lc n2) (.ret v') (aF lc' n3) :=by
 subst e3 ev;exact aPK h0 hargs hm hm' hin hl hkl hl' hkl' hpl hk' hx hx' hlt hout hll
def bN (mf mc:List (Int×Int))(op n:Int) :Int:=if op=4 then(if 0≤n then n else -1-wZ mf (-1-n))else if op=14 then wZ mc n else n
def aBM (mf mc:List (Int×Int))(to:List Int)(x:Node) :Node:= ⟨x.op,bN mf mc x.op x.n,x.kids.map (aGJ to),pA mc x.pats⟩
def nOk (mf:List (Int×Int))(x:Node) :Prop:=bB x.pats<1000000∧ (x.op=4→x.n<0→ -1000000000≤x.n∧ -1000000000≤wZ mf (-1-x.n) ∧wZ mf (-1-x.n) ≤1000000000)
section
variable (p :Prog) (mf mc:List (Int×Int)) (to:List Int)
variable {p mf mc to}
end
section
variable {p :Prog} {mf mc:List (Int×Int)}
end
def sM :Nat→List (Int×Int)
 |0=>[]
 |n+1=>bQ (n:Int) (n:Int) (sM n)
theorem uI {α β:Type}[DecidableEq α](k k':α)(v:β) :∀ (l:List (α×β)),dN k (bQ k' v l) =if k=k' then some v else dN k l
 | [] =>by simp [bQ,dN]
 | e ::l=>by
  simp only [bQ];split
  · rename_i h;subst h;simp only [dN];split<;>rfl
  · rename_i h;simp only [dN,uI k k' v l];by_cases h1:k=e.1
    · subst h1;rw [if_pos rfl,if_pos rfl,if_neg (fun e=>h e.symm)]
    ·rw [if_neg h1,if_neg h1]
theorem aRf :∀ (n:Nat) (i:Int),0≤i→i<n→dN i (sM n) =some i
 |0,i,h0,h1=>by omega
 | n+1,i,h0,h1=>by
  rw [sM,uI];by_cases h:i= (n:Int)
  ·rw [if_pos h,h]
  ·rw [if_neg h];exact aRf n i h0 (by omega)
theorem aX2 {n:Nat}{i:Int}(h0:0≤i)(h1:i<n) :wZ (sM n) i=i:=by unfold wZ;rw [aRf n i h0 h1];rfl
theorem aOB {P:Program}{m:Nat}{s:AS}{v v':AV}{h':Hp}(h:Ends P m s (.ret v) h')(hv:∀ (E:Emb) (cv:Value),VR E v cv→VR E v' cv) :Ends P m s (.ret v') h':=fun hm E fr ccs w f fs r cl base=>by
 obtain⟨cl',w',E',s1,⟨cv,rfl,g2⟩,r2,x2⟩ :=h hm E fr ccs w f fs r cl base;exact⟨_,w',E',s1,⟨cv,rfl,hv E' cv g2⟩,r2,x2⟩
theorem lK {E:Emb}{e:Nat}{xs:List AV}{cv:Value}(h:VR E (.ilst e xs true) cv) :VR E (.ilst e xs false) cv:=by
 simp only [VR]at h ⊢;obtain⟨vs,h1,h2,h3⟩ :=h;refine⟨vs,h1,h2,?_⟩;rcases h3 with⟨rfl,a,cap,rfl,g,_⟩ | ⟨k,a,cap,C,g1,g2,g3,_,g5⟩
 ·exact .inl ⟨rfl,a,cap,rfl,g,fun hh=>by cases hh⟩
 ·exact .inr ⟨k,a,cap,C,g1,g2,g3,(fun hh=>by cases hh),g5⟩
section
variable {p :Prog}
end
end
end Go.Hb
