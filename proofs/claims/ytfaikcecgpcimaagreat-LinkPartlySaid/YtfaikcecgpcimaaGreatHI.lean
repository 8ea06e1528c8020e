/- A machine on abstract values, its soundness, ways, plain laws. -/
import Derived.Test.YtfaikcecgpcimaaGreatHF
import Derived.Test.YtfaikcecgpcimaaGreatHG
import Derived.Test.YtfaikcecgpcimaaGreatHH
set_option linter.defProp false
set_option linter.unusedVariables false
set_option linter.unusedSimpArgs false
set_option linter.unusedSectionVars false
set_option maxRecDepth 100000
set_option maxHeartbeats 8000000
namespace Go.Hb
open Bool (and_eq_true)
open List (all_cons getD_eq_getElem?_getD length length_cons map mem_of_getElem? replicate)
open Go.Proofs Tryz
noncomputable section
mutual
def aX1 :Term→Nat
 | .mk _ _ _ ks _=>aRd ks+1
def aRd :List Term→Nat
 | [] =>0
 |t::ts=>aX1 t+aRd ts
end
def wY (m:List (Int×Int))(n:Int) :Int:= (dL n m).getD 0
mutual
def aGK (mc:List (Int×Int)) :Pat→Pat
 | .mk f n t ps=>.mk f (if f=6 then wY mc n else n) t (oZ mc ps)
def oZ (mc:List (Int×Int)) :List Pat→List Pat
 | [] =>[]
 |p::ps=>aGK mc p::oZ mc ps
end
section
variable (mf mc:List (Int×Int))
end
def aGL (to:List Int)(k:Int) :Int:=to.getD k.toNat 0
def uC :List aC→List (aC×Bool) →List (aC×Bool)
 | [],m=>m
 |x::t,m=>uC t (bP x true m)
theorem aAg (l:List aC)(hl:l.length<1000000) :∀ (t:List aC) (i:Nat) (m:List (aC×Bool)),l.drop i=t→Ends PP 0 (qW l (i:Int) m).as (.ret (.bool (decide ((uC t m).length=l.length)))) (aE [] 0)
 | [],i,m,h=>by
  have:=aT h;refine Ends.eqv (aIU l i m sd) ?_;have: (((length m:Nat) :Int) == ((length l:Nat) :Int)) =decide (m.length=l.length) :=by
   by_cases k:m.length=l.length<;>simp [k] <;>omega
  rw [this];rfl
 | x::t,i,m,h=>by
  obtain⟨g1,g2,g3⟩ :=aR h;refine(aIT l i m x sd sd sd sd).ends ?_;exact aAg l hl t (i+1) _ g2
theorem aDo {k:aC}{v w:Bool}:∀ {m:List (aC×Bool)},dL k m=some w→ (bP k v m).map Prod.fst=m.map Prod.fst
 | [],h=>by cases h
 | e::m,h=>by
  unfold dL at h;unfold bP;split at h
  ·rename_i hk;rw [if_pos hk];simp [hk]
  ·rename_i hk;rw [if_neg hk];simp [aDo h]
theorem aDp {k:aC}{v:Bool}:∀ {m:List (aC×Bool)},dL k m=none→ (bP k v m).map Prod.fst=m.map Prod.fst++ [k]
 | [],_=>rfl
 | e::m,h=>by
  unfold dL at h;unfold bP;split at h
  ·cases h
  ·rename_i hk;rw [if_neg hk];simp [aDp h]
theorem aDq {k:aC}:∀ {m:List (aC×Bool)},(dL k m).isSome=bW (m.map Prod.fst) k
 | [] =>rfl
 | e ::m=>by
  unfold dL;split
  ·rename_i hk;simp [bW,hk]
  · rename_i hk;have:¬e.1=k:=fun h=>hk h.symm;rw [aDq];simp [bW,this]
theorem aEY :∀ (t:List aC) (m:List (aC×Bool)),(uC t m).length≤m.length+t.length
 | [],m=>by simp [uC]
 | x::t,m=>by
  have a:=aEY t (bP x true m);have b: (bP x true m).length≤m.length+1:=by
   cases h:dL x m with
   |none=>have:=congrArg length (aDp (v:=true) h);simp at this;omega
   |some w=>have:=congrArg length (aDo (v:=true) h);simp at this;omega
  simp only [uC,length_cons];omega
theorem aDr :∀ (t:List aC) (m:List (aC×Bool)),(uC t m).length=m.length+t.length↔cB (m.map Prod.fst) t=true
 | [],m=>by simp [uC,cB]
 | x::t,m=>by
  simp only [uC,cB];cases h:dL x m with
  | some w=>
   have e:=aDo (v:=true) h;have hs:bW (m.map Prod.fst) x=true:=by rw [←aDq,h];rfl
   have a:=aEY t (bP x true m);have b:=congrArg length e;simp only [List.length_map]at b;rw [hs];constructor
   ·intro g;simp only [length_cons]at g;omega
   ·intro g;simp at g
  | none=>
   have e:=aDp (v:=true) h;have hs:bW (m.map Prod.fst) x=false:=by rw [←aDq,h];rfl
   have ih:=aDr t (bP x true m);have b:=congrArg length e;simp only [List.length_map,List.length_append,List.length_singleton]at b;rw [hs,←e];simp only [Bool.not_false,Bool.true_and,length_cons];rw [←ih,b];omega
theorem aGM (l:List aC)(hl:l.length<1000000) :Pure PP 244 [.ilst 1 (map aB l) false] (.bool (cI l)) :=by
 refine aP (by kernel_rfl) rfl rfl ((aIS l).ends (Ends.eqv (aAg l hl l 0 [] rfl) ?_));have:=aDr l [];simp only [List.length_nil,Nat.zero_add,List.map_nil]at this;congr 1;cases k:cI l with
 |true=>exact decide_eq_true (this.2 k)
 |false=>exact decide_eq_false fun g=>by have:=this.1 g;unfold cI at k;rw [k]at this;cases this
theorem aEZ (l:List Con)(hl:l.length<1000000) :∀ (t:List Con) (i:Nat),l.drop i=t→Ends PP 0 (aB6 l (i:Int)).as (.ret (.bool (t.all fJ))) (aE [] 0)
 | [],i,h=>by
  have:=aT h;exact Ends.eqv (aQ1 l i sd) (by simp)
 | c::t,i,h=>by
  obtain⟨g1,g2,g3⟩ :=aR h;have hq:=aOr c;cases k:fJ c with
  |false=>rw [k]at hq;exact Ends.eqv (aQZ l i c false sd sd sd hq rfl) (by simp [k])
  | true=>
   rw [k]at hq;refine(aQ0 l i c true sd sd sd hq rfl sd).ends ?_;exact Ends.eqv (aEZ l hl t (i+1) g2) (by simp [k])
theorem aOv (l:List Con)(hl:l.length<1000000) :Pure PP 242 [.ilst 2 (map Con.av l) false,.func 243 [] []] (.bool (l.all fJ)) :=
 aP (by kernel_rfl) rfl rfl ((aQY l).ends (aEZ l hl l 0 rfl))
theorem aE0 (l:List Node)(p:Prog)(hl:l.length<1000000)(ih:∀x∈l,Pure PP 248 [Prog.av p,Node.av x] (.bool (bR p x))) :∀ (t:List Node) (i:Nat),l.drop i=t→Ends PP 0 (aB5 l p (i:Int)).as (.ret (.bool (t.all (bR p)))) (aE [] 0)
 | [],i,h=>by
  have:=aT h;exact Ends.eqv (aQX l p i sd) (by simp)
 | c::t,i,h=>by
  obtain⟨g1,g2,g3⟩ :=aR h;have hq:=ih c (mem_of_getElem? g1);cases k:bR p c with
  |false=>rw [k]at hq;exact Ends.eqv (aQV l p i c false sd sd sd hq rfl) (by simp [k])
  | true=>
   rw [k]at hq;refine(aQW l p i c true sd sd sd hq rfl sd).ends ?_;exact Ends.eqv (aE0 l p hl ih t (i+1) g2) (by simp [k])
theorem aOw (l:List Node)(p:Prog)(hl:l.length<1000000)(ih:∀x∈l,Pure PP 248 [Prog.av p,Node.av x] (.bool (bR p x))) :Pure PP 247 [.ilst 4 (map Node.av l) false,.func 248 [Prog.av p] []] (.bool (l.all (bR p))) :=
 aP (by kernel_rfl) rfl rfl ((aQU l p).ends (aE0 l p hl ih l 0 rfl))
def one (k:Int) :Bool:=decide (k=1)
theorem aE1 (l:List Int)(hl:l.length<1000000) :∀ (t:List Int) (i:Nat),l.drop i=t→Ends PP 0 (aB7 l (i:Int)).as (.ret (.bool (t.all one))) (aE [] 0)
 | [],i,h=>by
  have:=aT h;exact Ends.eqv (aQ5 l i sd) (by simp)
 | c ::t,i,h=>by
  obtain⟨g1,g2,g3⟩ :=aR h;by_cases k:c=1
  · refine(aQ4 l i c sd sd sd (by simp [k]) sd).ends ?_;exact Ends.eqv (aE1 l hl t (i+1) g2) (by simp [k,one])
  ·exact Ends.eqv (aQ3 l i c sd sd sd (by simp [k])) (by simp [k,one])
theorem aOx (l:List Int)(hl:l.length<1000000) :Pure PP 249 [.ilst 1 (map aQ l) true,.func 250 [] []] (.bool (l.all one)) :=
 aP (by kernel_rfl) rfl rfl ((aQ2 l).ends (aE1 l hl l 0 rfl))
theorem aE2 (l:List Con)(hl:l.length<100000) :∀ (t:List Con) (i:Nat),l.drop i=t→Ends PP 0 (aB8 l (i:Int) (aY (l.take i))).as (.ret (.ilst 1 (map aB (aY l)) false)) (aE [] 0)
 | [],i,h=>by
  have hi:=aT h;have e:aY (l.take i) =aY l:=by rw [List.take_of_length_le hi]
  rw [e];exact aQ8 l i _ sd
 | c::t,i,h=>by
  obtain⟨g1,g2,g3⟩ :=aR h;have e:aY (l.take i) ++ [c.name] =aY (l.take (i+1)) :=by
   rw [List.take_add_one,g1];simp [aY]
  refine(aQ7 l i (aY (l.take i)) c sd sd sd (by simp [aY];omega) sd).ends ?_;rw [e];exact aE2 l hl t (i+1) g2
theorem aOy (l:List Con)(hl:l.length<100000) :Pure PP 245 [.ilst 2 (map Con.av l) false,.func 246 [] []] (.ilst 1 (map aB (aY l)) false) :=
 aP (by kernel_rfl) rfl rfl ((aQ6 l).ends (aE2 l hl l 0 rfl))
def kZ (lo n:Int) :List Int→List Int→Option (List Int)
 | [],c=>some c
 |k::ks,c=>if dB k lo (n-1) =true then kZ lo n ks (c.set k.toNat (c.getD k.toNat 0+1))else none
def kC (p:Prog) :Nat→List Node→List Int→Option (List Int)
 |_,[],c=>some c
 | i,x::t,c=>match kZ ((i:Int) +1) (p.nodes.length:Int) x.kids c with
   |some d=>kC p (i+1) t d
   |none=>none
def nL :Option (List Int) →Bool
 |some c=>c.all one
 |none=>false
def below (b:Int)(c:List Int) :Prop:=∀k∈c,0≤k∧k≤b
theorem aA4 {b:Int}{c:List Int}(h:below b c){i:Nat}{z:Int}(hz:c[i]?=some z) :0≤z∧z≤b:=h z (mem_of_getElem? hz)
theorem aE3 {b:Int}{c:List Int}(h:below b c){i:Nat}{z:Int}(hz:c[i]?=some z) :below (b+1) (c.set i (z+1)) :=fun k hk=>by
 rcases List.mem_or_eq_of_mem_set hk with g|g
 ·have:=h k g;omega
 ·have:=aA4 h hz;omega
theorem bF2 (p:Prog)(i:Nat)(hi:i<p.nodes.length)(hn:p.nodes.length≤1000)(ks:List Int)(hk:ks.length≤1000)(K:List Int→Bool)(B:Int)(hB:0≤B)(hB2:B≤1000000)
  (hb:∀v:List Int,v.length=p.nodes.length→below (B+ks.length) v→Ends PP 0 (mL p v ((i:Int) +1)).as (.ret (.bool (K v))) (aE [] 0)) :
  ∀ (t:List Int) (k:Nat) (c:List Int),c.length=p.nodes.length→k≤ks.length→below (B+k) c→ks.drop k=t→Ends PP 0 (qY p ks (ks.length:Int) c (k:Int) (i:Int) (i:Int)).as (.ret (.bool (match kZ ((i:Int) +1) p.nodes.length t c with|some v=>K v|none=>false))) (aE [] 0)
 | [],k,c,hc,hkl,hbl,h=>by
  have:=aT h;have e:k=ks.length:=by omega
  subst e;refine(aJb p ks ks.length c ks.length i i sd sd).ends ?_;exact hb c hc hbl
 | y ::t,k,c,hc,hkl,hbl,h=>by
  obtain⟨g1,g2,g3⟩ :=aR h;have hin:=eO y ((i:Int) +1) ((p.nodes.length:Int) -1);cases k1:dB y ((i:Int) +1) ((p.nodes.length:Int) -1)with
  | false=>
   rw [k1]at hin;exact Ends.eqv (aI9 p ks ks.length c k i i y false sd sd sd sd sd hin rfl) (by simp [kZ,k1])
  | true=>
   rw [k1]at hin;have hy:=inB_iff.1 k1;obtain⟨z,hz⟩ :∃z,c[y.toNat]?=some z:= ⟨_,List.getElem?_eq_getElem (by omega)⟩;have hzb:=aA4 hbl hz;refine(aJa p ks ks.length c k i i y true z sd sd sd sd sd hin rfl (by omega) (by omega) hz sd sd).ends ?_;have e:c.getD y.toNat 0=z:=by rw [getD_eq_getElem?_getD,hz];rfl
   have ei:kZ ((i:Int) +1) p.nodes.length (y::t) c=kZ ((i:Int) +1) p.nodes.length t (c.set y.toNat (z+1)) :=by
    rw [kZ,if_pos k1,e]
   rw [ei];refine bF2 p i hi hn ks hk K B hB hB2 hb t (k+1) (c.set y.toNat (z+1)) (by simpa using hc) (by omega) ?_ g2;have:=aE3 hbl hz;intro q hq;have:=this q hq
   push_cast
   omega
def qZ :List Node→Nat
 | [] =>0
 |x::t=>x.kids.length+qZ t
theorem aDs :∀ (t:List Node),(∀x∈t,x.kids.length≤10) →qZ t≤10*t.length
 | [],_=>by simp [qZ]
 | x::t,h=>by
  have a:=aDs t (fun y hy=>h y (List.mem_cons_of_mem _ hy));have b:=h x (List.mem_cons_self ..);simp only [qZ,length_cons];omega
theorem bF1 (p:Prog)(hp:aL p=true)(hn:p.nodes.length≤1000) :∀ (t:List Node) (i:Nat) (c:List Int) (B:Int),0≤B→B+qZ t≤100000→c.length=p.nodes.length→below B c→p.nodes.drop i=t →
  Ends PP 0 (mL p c (i:Int)).as (.ret (.bool (nL (kC p i t c)))) (aE [] 0)
 | [],i,c,B,h0,h1,hc,hb,h=>by
  have:=aT h;exact Ends.eqv (aI8 p c i _ sd (aOx c (by omega))) rfl
 | x::t,i,c,B,h0,h1,hc,hb,h=>by
  obtain⟨g1,g2,g3⟩ :=aR h;have hx:bG x=true:=by
   simp only [aL,and_eq_true]at hp;exact List.all_eq_true.1 hp.2 x (mem_of_getElem? g1)
  simp only [bG,and_eq_true,decide_eq_true_eq]at hx;simp only [qZ]at h1;refine(aI7 p c i x sd sd sd).ends ?_;refine Ends.eqv (bF2 p i g3 hn x.kids (by omega) (fun v=>nL (kC p (i+1) t v)) B h0 (by omega) (fun v hv hbv=>bF1 p hp hn t (i+1) v (B+x.kids.length) (by omega) (by omega) hv hbv g2) x.kids 0 c hc (by omega) (by simpa using hb) rfl) ?_;rw [kC];cases kZ ((i:Int) +1) (p.nodes.length:Int) x.kids c<;>rfl
theorem bF0 (p:Prog)(hp:aL p=true)(hn:p.nodes.length≤1000)(hks:qZ p.nodes≤10000)(hf:p.funs.length≤1000) :∀ (t:List Int) (i:Nat) (c:List Int),i≤p.funs.length→c.length=p.nodes.length→below (i:Int) c→p.funs.drop i=t →
  Ends PP 0 (qX p (i:Int) c).as (.ret (.bool (match kZ 0 p.nodes.length t c with|some v=>nL (kC p 0 p.nodes v) |none=>false))) (aE [] 0)
 | [],i,c,hi,hc,hb,h=>by
  have:=aT h;refine(aI6 p i c sd).ends ?_;exact bF1 p hp hn p.nodes 0 c i (by omega) (by omega) hc hb rfl
 | y ::t,i,c,hi,hc,hb,h=>by
  obtain⟨g1,g2,g3⟩ :=aR h;have hin:=eO y 0 ((p.nodes.length:Int) -1);cases k1:dB y 0 ((p.nodes.length:Int) -1)with
  | false=>
   rw [k1]at hin;exact Ends.eqv (aI4 p i c y false sd sd sd sd hin rfl) (by simp [kZ,k1])
  | true=>
   rw [k1]at hin;have hy:=inB_iff.1 k1;obtain⟨z,hz⟩ :∃z,c[y.toNat]?=some z:= ⟨_,List.getElem?_eq_getElem (by omega)⟩;have hzb:=aA4 hb hz;refine(aI5 p i c y true z sd sd sd sd hin rfl (by omega) (by omega) hz sd sd).ends ?_;have e:c.getD y.toNat 0=z:=by rw [getD_eq_getElem?_getD,hz];rfl
   have ei:kZ 0 p.nodes.length (y::t) c=kZ 0 p.nodes.length t (c.set y.toNat (z+1)) :=by
    rw [kZ,if_pos k1,e]
   rw [ei];refine bF0 p hp hn hks hf t (i+1) (c.set y.toNat (z+1)) (by omega) (by simpa using hc) ?_ g2;have:=aE3 hb hz;intro q hq;have:=this q hq
   push_cast
   omega
def cO (p:Prog) :Bool:=
 dS p&&decide (p.cons.length≤20) &&p.cons.all fJ&&cI (aY p.cons) &&p.nodes.all (bR p) &&
  (match kZ 0 (p.nodes.length:Int) p.funs (replicate p.nodes.length 0)with
  |some v=>nL (kC p 0 p.nodes v)
  |none=>false)
theorem aJg {p:Prog}(hp:aL p=true) :∀x∈p.nodes,x.kids.length≤10∧x.pats.length≤10:=fun x hx=>by
 simp only [aL,and_eq_true]at hp;have:=List.all_eq_true.1 hp.2 x hx;simp only [bG,and_eq_true,decide_eq_true_eq]at this;exact this.1
theorem aGN (p:Prog)(hp:aL p=true) :Pure PP 200 [Prog.av p] (.bool (cO p)) :=by
 refine aP (by kernel_rfl) rfl rfl ?_;have hs:=hp;simp only [aL,and_eq_true,decide_eq_true_eq]at hs;obtain⟨⟨⟨⟨s1,s2⟩,s3⟩,_⟩,_⟩ :=hs;have hno:=aJg hp;by_cases k0:p.nodes.length≤300
 · by_cases k1 :1≤p.funs.length
   · by_cases k2:p.funs.length≤p.nodes.length
     · have kk :dB (p.funs.length:Int) 1 (p.nodes.length:Int) =true:=inB_iff.2 ⟨by omega,by omega⟩;by_cases k3:p.cons.length≤20
       · have hi:=eO p.main 0 ((p.funs.length:Int) -1);cases k4:dB p.main 0 ((p.funs.length:Int) -1)with
         | false=>
          rw [k4]at hi;exact Ends.eqv (aIZ p false sd sd sd sd sd hi rfl) (by simp [cO,dS,k4])
         | true =>
          rw [k4]at hi;have hh:dS p=true:=by simp [dS,k0,kk,k4]
          have hc:=aOv p.cons (by omega);cases k5:p.cons.all fJ with
          | false=>
           rw [k5]at hc;exact Ends.eqv (aI0 p true false sd sd sd sd sd hi rfl hc rfl) (by simp only [cO,k5,Bool.and_false,Bool.false_and])
          | true=>
           rw [k5]at hc;have hm:=aOy p.cons (by omega);have hd:=aGM (aY p.cons) (by simp [aY];omega);cases k6:cI (aY p.cons)with
           | false=>
            rw [k6]at hd;exact Ends.eqv (aI1 p true true (aY p.cons) false sd sd sd sd sd hi rfl hc rfl hm hd rfl) (by simp only [cO,k6,Bool.and_false,Bool.false_and])
           | true=>
            rw [k6]at hd;have hn:=aOw p.nodes p (by omega) (fun x hx=>aLE p x (by omega) (by omega) (hno x hx).2 (hno x hx).1);cases k7:p.nodes.all (bR p)with
            | false=>
             rw [k7]at hn;exact Ends.eqv (aI2 p true true (aY p.cons) true false sd sd sd sd sd hi rfl hc rfl hm hd rfl hn rfl) (by simp only [cO,k7,Bool.and_false,Bool.false_and])
            | true=>
             rw [k7]at hn;refine(aI3 p true true (aY p.cons) true true sd sd sd sd sd hi rfl hc rfl hm hd rfl hn rfl (by omega)).ends ?_;have hks:=aDs p.nodes (fun x hx=> (hno x hx).1);refine Ends.eqv (bF0 p hp (by omega) (by omega) (by omega) p.funs 0 _ (by omega) (by simp) ?_ rfl) ?_
             · intro q hq;have:= (List.mem_replicate.1 hq).2;omega
             ·simp only [cO,hh,decide_eq_true k3,k5,k6,k7,Bool.true_and] <;>rfl
       ·exact Ends.eqv (aIY p sd sd sd sd) (by simp [cO,k3])
     · have kk:dB (p.funs.length:Int) 1 (p.nodes.length:Int) =false:=inB_not.2 (by omega);exact Ends.eqv (aIX p sd sd sd) (by simp [cO,dS,kk])
   · have kk:dB (p.funs.length:Int) 1 (p.nodes.length:Int) =false:=inB_not.2 (by omega);exact Ends.eqv (aIW p sd sd) (by simp [cO,dS,kk])
 ·exact Ends.eqv (aIV p sd) (by simp [cO,dS,k0])
theorem aJh (p:Prog)(hp:aL p=true) :Pure PP 138 [Prog.av p] (.int .i64 (checkN (cO p))) :=by
 refine aP (by kernel_rfl) rfl rfl ?_;have h:=aGN p hp;cases k:cO p with
 |false=>rw [k]at h;exact aLA p false h rfl
 |true=>rw [k]at h;exact aLB p true h rfl
def cnt (b:Bool) :Int:=if b=true then 1 else 0
def rA (u:List Bool) :List Int:=u.map cnt
def yG (c:List Int) :Prop:= (∃ (i:Nat) (z:Int),c[i]?=some z∧2≤z) ∧∀z∈c,0≤z
theorem aJi {c:List Int}(h:yG c) :c.all one=false:=by
 obtain⟨⟨i,z,h1,h2⟩,_⟩ :=h;cases k:c.all one with
 |false=>rfl
 | true=>
  have:=List.all_eq_true.1 k z (mem_of_getElem? h1);simp only [one,decide_eq_true_eq]at this;omega
theorem aLF {c:List Int}{j:Nat}(h:yG c) :yG (c.set j (c.getD j 0+1)) :=by
 obtain⟨⟨i,z,h1,h2⟩,h3⟩ :=h;have hi:= (List.getElem?_eq_some_iff.1 h1).1;refine⟨⟨i,if j=i then z+1 else z,?_,by split<;>omega⟩,fun q hq=>?_⟩
 · rw [List.getElem?_set];by_cases e:j=i
   · subst e;rw [if_pos rfl,if_pos hi,if_pos rfl,getD_eq_getElem?_getD,h1];rfl
   ·rw [if_neg e,if_neg e];exact h1
 · rcases List.mem_or_eq_of_mem_set hq with g|g
   ·exact h3 q g
   · rw [g,getD_eq_getElem?_getD];cases k:c[j]? with
     |none=>simp
     |some w=>have:=h3 w (mem_of_getElem? k);simp;omega
theorem uD {lo n:Int}:∀ {ks c:List Int} {d:List Int},yG c→kZ lo n ks c=some d→yG d
 | [],c,d,h,e=>by simp only [kZ,Option.some.injEq]at e;rw [←e];exact h
 | k::ks,c,d,h,e=>by
  simp only [kZ]at e;split at e
  ·exact uD (aLF h) e
  ·cases e
theorem aJj (u:List Bool) :∀z∈rA u,0≤z:=fun z hz=>by
 obtain⟨b,_,rfl⟩ :=List.mem_map.1 hz;cases b<;>simp [cnt]
theorem yH {lo n:Int}(hlo:0≤lo) :∀ (ks:List Int) (u:List Bool),n≤u.length →
  (∀v,marks lo n ks u=some v→kZ lo n ks (rA u) =some (rA v)) ∧ (marks lo n ks u=none→∀d,kZ lo n ks (rA u) =some d→yG d)
 | [],u,hn=>by
  simp only [marks,kZ,Option.some.injEq];exact⟨fun v e=>by rw [e],fun e=>by cases e⟩
 | k :: ks,u,hn=>by
  simp only [marks,kZ];by_cases h1:dB k lo (n-1) =true
  · have hk:=inB_iff.1 h1;have hlt:k.toNat<u.length:=by omega
    have hget:u[k.toNat]?=some u[k.toNat] :=List.getElem?_eq_getElem hlt;have hc: (rA u).getD k.toNat 0=cnt u[k.toNat] :=by
     rw [getD_eq_getElem?_getD,rA,List.getElem?_map,hget];rfl
    rw [if_pos h1];cases hb:u[k.toNat]with
    | false=>
     rw [hb]at hget hc;rw [if_pos ⟨h1,hget⟩];have e: (rA u).set k.toNat ((rA u).getD k.toNat 0+1) =rA (u.set k.toNat true) :=by
      rw [hc,rA,rA,List.map_set];rfl
     rw [e];exact yH hlo ks (u.set k.toNat true) (by simpa using hn)
    | true=>
     rw [hb]at hget hc;rw [if_neg (by rw [hget];simp)];refine And.intro (fun v e=>nomatch e) (fun _ d e=>uD (And.intro ⟨k.toNat,2,?_,by omega⟩ ?_) e)
     ·rw [hc,List.getElem?_set_self (by simp [rA];exact hlt)];rfl
     · intro z hz;rcases List.mem_or_eq_of_mem_set hz with g|g
       ·exact aJj u z g
       ·rw [g,hc];simp [cnt]
  · rw [if_neg h1,if_neg (fun g=>h1 g.1)];exact And.intro (fun v e=>nomatch e) (fun _ d e=>nomatch e)
theorem nZ (p:Prog) :∀ (t:List Node) (i:Nat) (c:List Int),yG c→nL (kC p i t c) =false
 | [],i,c,h=>by rw [kC];exact aJi h
 | x::t,i,c,h=>by
  rw [kC];cases e:kZ ((i:Int) +1) (p.nodes.length:Int) x.kids c with
  |none=>rfl
  |some d=>exact nZ p t (i+1) d (uD h e)
theorem aE4 :∀ (u:List Bool),(rA u).all one=u.all fun b=>b
 | [] =>rfl
 | b::u=>by
  have:=aE4 u;simp only [rA,List.map_cons,all_cons]at this ⊢;rw [this];cases b<;>simp [cnt,one]
theorem aJk (p:Prog) :∀ (t:List Node) (i:Nat) (u:List Bool),u.length=p.nodes.length→t.all (bR p) =true→allT (cR p i t u) =nL (kC p i t (rA u))
 | [],i,u,hu,_=>by simp only [cR,kC,allT,nL,aE4]
 | x::t,i,u,hu,ha=>by
  simp only [all_cons,and_eq_true]at ha;obtain⟨m1,m2⟩ :=yH (lo:= (i:Int) +1) (n:= (p.nodes.length:Int)) (by omega) x.kids u (by omega);simp only [cR,kC,if_pos ha.1];cases hm:marks ((i:Int) +1) (p.nodes.length:Int) x.kids u with
  | some v=>
   rw [m1 v hm];exact aJk p t (i+1) v (by rw [oU hm,hu]) ha.2
  | none=>
   cases hi:kZ ((i:Int) +1) (p.nodes.length:Int) x.kids (rA u)with
   |none=>rfl
   |some d=>exact(nZ p t (i+1) d (m2 hm d hi)).symm
theorem aAh (p:Prog) :∀ (t:List Node) (i:Nat) (u:List Bool),t.all (bR p) =false→allT (cR p i t u) =false
 | [],i,u,h=>by simp at h
 | x ::t,i,u,h=>by
  simp only [cR];by_cases hx:bR p x=true
  · rw [if_pos hx];have ht:t.all (bR p) =false:=by simpa [hx]using h
    cases marks ((i:Int) +1) (p.nodes.length:Int) x.kids u with
    |none=>rfl
    |some v=>exact aAh p t (i+1) v ht
  ·rw [if_neg hx];rfl
theorem aOz (p:Prog) :cO p=aZ p:=by
 have e1:cO p= (dS p&&yD p.cons&& (p.nodes.all (bR p) && (match kZ 0 (p.nodes.length:Int) p.funs (replicate p.nodes.length 0)with
  |some v=>nL (kC p 0 p.nodes v)
  |none=>false))) :=by
  unfold cO yD;cases dS p<;>cases p.cons.all fJ<;>cases cI (aY p.cons) <;>cases p.nodes.all (bR p) <;>cases decide (p.cons.length≤20) <;>simp
 rw [e1,aZ];congr 1;have ez:replicate p.nodes.length (0:Int) =rA (replicate p.nodes.length false) :=by rw [rA,List.map_replicate];rfl
 rw [ez];obtain⟨m1,m2⟩ :=yH (lo:=0) (n:= (p.nodes.length:Int)) (by omega) p.funs (replicate p.nodes.length false) (by simp);cases hm:marks 0 (p.nodes.length:Int) p.funs (replicate p.nodes.length false)with
 | some v=>
  rw [m1 v hm];cases ha:p.nodes.all (bR p)with
  |true=>simp only [Bool.true_and];exact(aJk p p.nodes 0 v (by rw [oU hm];simp) ha).symm
  |false=>simp only [Bool.false_and];exact(aAh p p.nodes 0 v ha).symm
 | none=>
  simp only;cases hi:kZ 0 (p.nodes.length:Int) p.funs (rA (replicate p.nodes.length false))with
  |none=>simp
  |some d=>simp only [nZ p p.nodes 0 d (m2 hm d hi),Bool.and_false]
theorem Ends.val {P:Program}{m:Nat}{s:AS}{v v':AV}{h':Hp}(h:Ends P m s (.ret v) h')(hv:∀E cv,VR E v cv→VR E v' cv) :Ends P m s (.ret v') h':=fun hm E fr ccs w f fs r cl base=>by
 obtain⟨cl',w',E',s1,⟨cv,e,g⟩,r2,x2⟩ :=h hm E fr ccs w f fs r cl base;exact⟨cl',w',E',s1,⟨cv,e,hv _ _ g⟩,r2,x2⟩
mutual
def bnm :Pat→Int
 | .mk f _ _ ps=>if f=2 then 1 else aZW ps
def aZW :List Pat→Int
 | [] =>0
 |p::ps=>bnm p+aZW ps
end
def aJl (x:Node)(k:Int) :Int:=
 if x.op=5∨x.op=27∨ (x.op=7∧k=1)then 1
 else if x.op=15∧k>0 then(match x.pats[(k-1).toNat]? with|some q=>bnm q|none=>0)else 0
structure FineN (cons:List Con) (x:Node) :Prop where
 pats:∀q∈x.pats,cL q≤12∧cT cons q=true
 mat:x.op=15→x.kids.length=1+x.pats.length
 let2:x.op=7→x.kids.length=2
theorem aUi {p:Prog}{x:Node}(h:bR p x=true) :FineN p.cons x:=by
 simp only [bR,and_eq_true,decide_eq_true_eq]at h;obtain⟨⟨_,h2⟩,h3⟩ :=h;refine⟨fun q hq=>?_,fun e=>?_,fun e=>?_⟩
 · have:=List.all_eq_true.1 h2 q hq;simpa [fP]using this
 ·rw [e]at h3;simp [cS]at h3;omega
 ·rw [e]at h3;simp [cS]at h3;omega
structure FineP (p:Prog) :Prop where
 small:p.nodes.length≤320
 fsmall:p.funs.length≤320
 node:∀ (i:Nat) (x:Node),p.nodes[i]?=some x→FineN p.cons x∧x.kids.length≤10∧∀k∈x.kids,(i:Int) <k∧k<p.nodes.length
 funs:∀f∈p.funs,0≤f∧f<p.nodes.length
section
variable (p :Prog) (mf mc:List (Int×Int))
variable {p mf mc}
end
theorem lT {P:Program}{f:Nat}{args args':List AV}{v v':AV}{l l' lc lc':List (Nat×AObj×Bool)}{m nb nb' n2 n3:Nat}{ks:List Nat}
  (h0:aEK P m (.enter f args) (aE l nb) (.ret v) (aE l' nb')) (e3:nb'-m+n2=n3) (ev:AV.ren (mH m n2 ks) v=v') (hargs:AV.renL (dW 0 nb n2 ks) args=args') (hm:Nat.ble m nb=true) (hm':Nat.ble m nb'=true)
  (hin:cX 0 ⟨⟨0,0,[],[],[],.run,.normal,none⟩,[],l,nb⟩ ks=true) (hl:tR (aE lc n2) (dW 0 nb n2 ks) l=gZ (dW 0 nb n2 ks) l) (hkl:hI l)
  (hl':tR (aE lc' n3) (mH m n2 ks) l'=gZ (mH m n2 ks) l') (hkl':hI l') (hpl:xW l'=true:=by kernel_rfl) (hk':fS nb' l'=true:=by kernel_rfl)
  (hx:fS n2 lc=true:=by kernel_rfl) (hx':fS n3 lc'=true:=by kernel_rfl) (hlt:ks.all (fun k=>Nat.blt k n2) =true:=by kernel_rfl) (hout:aCS (namesT (mH m n2 ks) l') ks (aE lc n2) lc'=qM lc':=by kernel_rfl) (hll:qM l'= (l'.map fun p=> (aE l' nb').look p.1) :=by kernel_rfl) :
  Spec P (.enter f args') (aE lc n2) (.ret v') (aE lc' n3) :=by
 subst e3 ev;exact aPJ h0 hargs hm hm' hin hl hkl hl' hkl' hpl hk' hx hx' hlt hout hll
def bN (mf mc:List (Int×Int))(op n:Int) :Int:=if op=4 then(if 0≤n then n else -1-wY mf (-1-n))else if op=14 then wY mc n else n
def aBJ (mf mc:List (Int×Int))(to:List Int)(x:Node) :Node:= ⟨x.op,bN mf mc x.op x.n,x.kids.map (aGL to),oZ mc x.pats⟩
def nOk (mf:List (Int×Int))(x:Node) :Prop:=bC x.pats<1000000∧ (x.op=4→x.n<0→ -1000000000≤x.n∧ -1000000000≤wY mf (-1-x.n) ∧wY mf (-1-x.n) ≤1000000000)
section
variable (p :Prog) (mf mc:List (Int×Int)) (to:List Int)
variable {p mf mc to}
end
section
variable {p :Prog} {mf mc:List (Int×Int)}
end
def sM :Nat→List (Int×Int)
 |0=>[]
 |n+1=>bP (n:Int) (n:Int) (sM n)
theorem uE {α β:Type}[DecidableEq α](k k':α)(v:β) :∀ (l:List (α×β)),dL k (bP k' v l) =if k=k' then some v else dL k l
 | [] =>by simp [bP,dL]
 | e ::l=>by
  simp only [bP];split
  · rename_i h;subst h;simp only [dL];split<;>rfl
  · rename_i h;simp only [dL,uE k k' v l];by_cases h1:k=e.1
    · subst h1;rw [if_pos rfl,if_pos rfl,if_neg (fun e=>h e.symm)]
    ·rw [if_neg h1,if_neg h1]
theorem aRe :∀ (n:Nat) (i:Int),0≤i→i<n→dL i (sM n) =some i
 |0,i,h0,h1=>by omega
 | n+1,i,h0,h1=>by
  rw [sM,uE];by_cases h:i= (n:Int)
  ·rw [if_pos h,h]
  ·rw [if_neg h];exact aRe n i h0 (by omega)
theorem aX2 {n:Nat}{i:Int}(h0:0≤i)(h1:i<n) :wY (sM n) i=i:=by unfold wY;rw [aRe n i h0 h1];rfl
theorem aOA {P:Program}{m:Nat}{s:AS}{v v':AV}{h':Hp}(h:Ends P m s (.ret v) h')(hv:∀ (E:Emb) (cv:Value),VR E v cv→VR E v' cv) :Ends P m s (.ret v') h':=fun hm E fr ccs w f fs r cl base=>by
 obtain⟨cl',w',E',s1,⟨cv,rfl,g2⟩,r2,x2⟩ :=h hm E fr ccs w f fs r cl base;exact⟨_,w',E',s1,⟨cv,rfl,hv E' cv g2⟩,r2,x2⟩
theorem jK {E:Emb}{e:Nat}{xs:List AV}{cv:Value}(h:VR E (.ilst e xs true) cv) :VR E (.ilst e xs false) cv:=by
 simp only [VR]at h ⊢;obtain⟨vs,h1,h2,h3⟩ :=h;refine⟨vs,h1,h2,?_⟩;rcases h3 with⟨rfl,a,cap,rfl,g,_⟩ | ⟨k,a,cap,C,g1,g2,g3,_,g5⟩
 ·exact .inl ⟨rfl,a,cap,rfl,g,fun hh=>by cases hh⟩
 ·exact .inr ⟨k,a,cap,C,g1,g2,g3,(fun hh=>by cases hh),g5⟩
section
variable {p :Prog}
end
end
end Go.Hb
