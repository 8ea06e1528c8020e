/- A machine on abstract values, its soundness, ways, plain laws. -/
import Derived.Test.YtfaikcecgpcimaaGreatHF
import Derived.Test.YtfaikcecgpcimaaGreatHG
import Derived.Test.YtfaikcecgpcimaaGreatHH
set_option linter.defProp false
set_option linter.unusedVariables false
set_option linter.unusedSimpArgs false
set_option linter.unusedSectionVars false
set_option maxRecDepth 100000
set_option maxHeartbeats 8000000
namespace Go.Hb
open Bool (and_eq_true)
open List (all_cons getD_eq_getElem?_getD length length_cons map mem_of_getElem? replicate)
open Go.Proofs Tryz
noncomputable section
mutual
def aVl :Term→Nat
 | .mk _ _ _ ks _=>aQD ks+1
def aQD :List Term→Nat
 | [] =>0
 |t::ts=>aVl t+aQD ts
end
def lU (m:List (Int×Int))(n:Int) :Int:= (dG n m).getD 0
mutual
def vU (mc:List (Int×Int)) :Pat→Pat
 | .mk f n t ps=>.mk f (if f=6 then lU mc n else n) t (fN mc ps)
def fN (mc:List (Int×Int)) :List Pat→List Pat
 | [] =>[]
 |p::ps=>vU mc p::fN mc ps
end
section
variable (mf mc:List (Int×Int))
end
def kB (to:List Int)(k:Int) :Int:=to.getD k.toNat 0
def uL :List aB→List (aB×Bool) →List (aB×Bool)
 | [],m=>m
 |x::t,m=>uL t (bK x true m)
theorem aAe (l:List aB)(hl:l.length<1000000) :∀ (t:List aB) (i:Nat) (m:List (aB×Bool)),l.drop i=t→Ends PP 0 (rI l (i:Int) m).as (.ret (.bool (decide ((uL t m).length=l.length)))) (aF [] 0)
 | [],i,m,h=>by
  have:=bE h;refine Ends.eqv (aIq l i m sd) ?_;have: (((length m:Nat) :Int) == ((length l:Nat) :Int)) =decide (m.length=l.length) :=by
   by_cases k:m.length=l.length<;>simp [k] <;>omega
  rw [this];rfl
 | x::t,i,m,h=>by
  obtain⟨g1,g2,g3⟩ :=bB h;refine(aIp l i m x sd sd sd sd).ends ?_;exact aAe l hl t (i+1) _ g2
theorem aDi {k:aB}{v w:Bool}:∀ {m:List (aB×Bool)},dG k m=some w→ (bK k v m).map Prod.fst=m.map Prod.fst
 | [],h=>by cases h
 | e::m,h=>by
  unfold dG at h;unfold bK;split at h
  ·rename_i hk;rw [if_pos hk];simp [hk]
  ·rename_i hk;rw [if_neg hk];simp [aDi h]
theorem aDj {k:aB}{v:Bool}:∀ {m:List (aB×Bool)},dG k m=none→ (bK k v m).map Prod.fst=m.map Prod.fst++ [k]
 | [],_=>rfl
 | e::m,h=>by
  unfold dG at h;unfold bK;split at h
  ·cases h
  ·rename_i hk;rw [if_neg hk];simp [aDj h]
theorem aDk {k:aB}:∀ {m:List (aB×Bool)},(dG k m).isSome=aQ (m.map Prod.fst) k
 | [] =>rfl
 | e ::m=>by
  unfold dG;split
  ·rename_i hk;simp [aQ,hk]
  · rename_i hk;have:¬e.1=k:=fun h=>hk h.symm;rw [aDk];simp [aQ,this]
theorem aER :∀ (t:List aB) (m:List (aB×Bool)),(uL t m).length≤m.length+t.length
 | [],m=>by simp [uL]
 | x::t,m=>by
  have a:=aER t (bK x true m);have b: (bK x true m).length≤m.length+1:=by
   cases h:dG x m with
   |none=>have:=congrArg length (aDj (v:=true) h);simp at this;omega
   |some w=>have:=congrArg length (aDi (v:=true) h);simp at this;omega
  simp only [uL,length_cons];omega
theorem aDl :∀ (t:List aB) (m:List (aB×Bool)),(uL t m).length=m.length+t.length↔cD (m.map Prod.fst) t=true
 | [],m=>by simp [uL,cD]
 | x::t,m=>by
  simp only [uL,cD];cases h:dG x m with
  | some w=>
   have e:=aDi (v:=true) h;have hs:aQ (m.map Prod.fst) x=true:=by rw [←aDk,h];rfl
   have a:=aER t (bK x true m);have b:=congrArg length e;simp only [List.length_map]at b;rw [hs];constructor
   ·intro g;simp only [length_cons]at g;omega
   ·intro g;simp at g
  | none=>
   have e:=aDj (v:=true) h;have hs:aQ (m.map Prod.fst) x=false:=by rw [←aDk,h];rfl
   have ih:=aDl t (bK x true m);have b:=congrArg length e;simp only [List.length_map,List.length_append,List.length_singleton]at b;rw [hs,←e];simp only [Bool.not_false,Bool.true_and,length_cons];rw [←ih,b];omega
theorem aGs (l:List aB)(hl:l.length<1000000) :Pure PP 244 [.ilst 1 (map aD l) false] (.bool (bU l)) :=by
 refine aV (by kernel_rfl) rfl rfl ((aIo l).ends (Ends.eqv (aAe l hl l 0 [] rfl) ?_));have:=aDl l [];simp only [List.length_nil,Nat.zero_add,List.map_nil]at this;congr 1;cases k:bU l with
 |true=>exact decide_eq_true (this.2 k)
 |false=>exact decide_eq_false fun g=>by have:=this.1 g;unfold bU at k;rw [k]at this;cases this
theorem aES (l:List Con)(hl:l.length<1000000) :∀ (t:List Con) (i:Nat),l.drop i=t→Ends PP 0 (aB3 l (i:Int)).as (.ret (.bool (t.all eH))) (aF [] 0)
 | [],i,h=>by
  have:=bE h;exact Ends.eqv (aQp l i sd) (by simp)
 | c::t,i,h=>by
  obtain⟨g1,g2,g3⟩ :=bB h;have hq:=aNT c;cases k:eH c with
  |false=>rw [k]at hq;exact Ends.eqv (aQn l i c false sd sd sd hq rfl) (by simp [k])
  | true=>
   rw [k]at hq;refine(aQo l i c true sd sd sd hq rfl sd).ends ?_;exact Ends.eqv (aES l hl t (i+1) g2) (by simp [k])
theorem aNX (l:List Con)(hl:l.length<1000000) :Pure PP 242 [.ilst 2 (map Con.av l) false,.func 243 [] []] (.bool (l.all eH)) :=
 aV (by kernel_rfl) rfl rfl ((aQm l).ends (aES l hl l 0 rfl))
theorem aET (l:List Node)(p:Prog)(hl:l.length<1000000)(ih:∀x∈l,Pure PP 248 [Prog.av p,Node.av x] (.bool (bD p x))) :∀ (t:List Node) (i:Nat),l.drop i=t→Ends PP 0 (aB2 l p (i:Int)).as (.ret (.bool (t.all (bD p)))) (aF [] 0)
 | [],i,h=>by
  have:=bE h;exact Ends.eqv (aQl l p i sd) (by simp)
 | c::t,i,h=>by
  obtain⟨g1,g2,g3⟩ :=bB h;have hq:=ih c (mem_of_getElem? g1);cases k:bD p c with
  |false=>rw [k]at hq;exact Ends.eqv (aQj l p i c false sd sd sd hq rfl) (by simp [k])
  | true=>
   rw [k]at hq;refine(aQk l p i c true sd sd sd hq rfl sd).ends ?_;exact Ends.eqv (aET l p hl ih t (i+1) g2) (by simp [k])
theorem aNY (l:List Node)(p:Prog)(hl:l.length<1000000)(ih:∀x∈l,Pure PP 248 [Prog.av p,Node.av x] (.bool (bD p x))) :Pure PP 247 [.ilst 4 (map Node.av l) false,.func 248 [Prog.av p] []] (.bool (l.all (bD p))) :=
 aV (by kernel_rfl) rfl rfl ((aQi l p).ends (aET l p hl ih l 0 rfl))
def one (k:Int) :Bool:=decide (k=1)
theorem aEU (l:List Int)(hl:l.length<1000000) :∀ (t:List Int) (i:Nat),l.drop i=t→Ends PP 0 (aB4 l (i:Int)).as (.ret (.bool (t.all one))) (aF [] 0)
 | [],i,h=>by
  have:=bE h;exact Ends.eqv (aQt l i sd) (by simp)
 | c ::t,i,h=>by
  obtain⟨g1,g2,g3⟩ :=bB h;by_cases k:c=1
  · refine(aQs l i c sd sd sd (by simp [k]) sd).ends ?_;exact Ends.eqv (aEU l hl t (i+1) g2) (by simp [k,one])
  ·exact Ends.eqv (aQr l i c sd sd sd (by simp [k])) (by simp [k,one])
theorem aNZ (l:List Int)(hl:l.length<1000000) :Pure PP 249 [.ilst 1 (map bL l) true,.func 250 [] []] (.bool (l.all one)) :=
 aV (by kernel_rfl) rfl rfl ((aQq l).ends (aEU l hl l 0 rfl))
theorem aEV (l:List Con)(hl:l.length<100000) :∀ (t:List Con) (i:Nat),l.drop i=t→Ends PP 0 (aB5 l (i:Int) (aY (l.take i))).as (.ret (.ilst 1 (map aD (aY l)) false)) (aF [] 0)
 | [],i,h=>by
  have hi:=bE h;have e:aY (l.take i) =aY l:=by rw [List.take_of_length_le hi]
  rw [e];exact aQw l i _ sd
 | c::t,i,h=>by
  obtain⟨g1,g2,g3⟩ :=bB h;have e:aY (l.take i) ++ [c.name] =aY (l.take (i+1)) :=by
   rw [List.take_add_one,g1];simp [aY]
  refine(aQv l i (aY (l.take i)) c sd sd sd (by simp [aY];omega) sd).ends ?_;rw [e];exact aEV l hl t (i+1) g2
theorem aN0 (l:List Con)(hl:l.length<100000) :Pure PP 245 [.ilst 2 (map Con.av l) false,.func 246 [] []] (.ilst 1 (map aD (aY l)) false) :=
 aV (by kernel_rfl) rfl rfl ((aQu l).ends (aEV l hl l 0 rfl))
def lA (lo n:Int) :List Int→List Int→Option (List Int)
 | [],c=>some c
 |k::ks,c=>if cS k lo (n-1) =true then lA lo n ks (c.set k.toNat (c.getD k.toNat 0+1))else none
def kC (p:Prog) :Nat→List Node→List Int→Option (List Int)
 |_,[],c=>some c
 | i,x::t,c=>match lA ((i:Int) +1) (p.nodes.length:Int) x.kids c with
   |some d=>kC p (i+1) t d
   |none=>none
def nJ :Option (List Int) →Bool
 |some c=>c.all one
 |none=>false
def below (b:Int)(c:List Int) :Prop:=∀k∈c,0≤k∧k≤b
theorem aAT {b:Int}{c:List Int}(h:below b c){i:Nat}{z:Int}(hz:c[i]?=some z) :0≤z∧z≤b:=h z (mem_of_getElem? hz)
theorem aEW {b:Int}{c:List Int}(h:below b c){i:Nat}{z:Int}(hz:c[i]?=some z) :below (b+1) (c.set i (z+1)) :=fun k hk=>by
 rcases List.mem_or_eq_of_mem_set hk with g|g
 ·have:=h k g;omega
 ·have:=aAT h hz;omega
theorem bF2 (p:Prog)(i:Nat)(hi:i<p.nodes.length)(hn:p.nodes.length≤1000)(ks:List Int)(hk:ks.length≤1000)(K:List Int→Bool)(B:Int)(hB:0≤B)(hB2:B≤1000000)
  (hb:∀v:List Int,v.length=p.nodes.length→below (B+ks.length) v→Ends PP 0 (mL p v ((i:Int) +1)).as (.ret (.bool (K v))) (aF [] 0)) :
  ∀ (t:List Int) (k:Nat) (c:List Int),c.length=p.nodes.length→k≤ks.length→below (B+k) c→ks.drop k=t→Ends PP 0 (rK p ks (ks.length:Int) c (k:Int) (i:Int) (i:Int)).as (.ret (.bool (match lA ((i:Int) +1) p.nodes.length t c with|some v=>K v|none=>false))) (aF [] 0)
 | [],k,c,hc,hkl,hbl,h=>by
  have:=bE h;have e:k=ks.length:=by omega
  subst e;refine(aIH p ks ks.length c ks.length i i sd sd).ends ?_;exact hb c hc hbl
 | y ::t,k,c,hc,hkl,hbl,h=>by
  obtain⟨g1,g2,g3⟩ :=bB h;have hin:=eJ y ((i:Int) +1) ((p.nodes.length:Int) -1);cases k1:cS y ((i:Int) +1) ((p.nodes.length:Int) -1)with
  | false=>
   rw [k1]at hin;exact Ends.eqv (aIF p ks ks.length c k i i y false sd sd sd sd sd hin rfl) (by simp [lA,k1])
  | true=>
   rw [k1]at hin;have hy:=inB_iff.1 k1;obtain⟨z,hz⟩ :∃z,c[y.toNat]?=some z:= ⟨_,List.getElem?_eq_getElem (by omega)⟩;have hzb:=aAT hbl hz;refine(aIG p ks ks.length c k i i y true z sd sd sd sd sd hin rfl (by omega) (by omega) hz sd sd).ends ?_;have e:c.getD y.toNat 0=z:=by rw [getD_eq_getElem?_getD,hz];rfl
   have ei:lA ((i:Int) +1) p.nodes.length (y::t) c=lA ((i:Int) +1) p.nodes.length t (c.set y.toNat (z+1)) :=by
    rw [lA,if_pos k1,e]
   rw [ei];refine bF2 p i hi hn ks hk K B hB hB2 hb t (k+1) (c.set y.toNat (z+1)) (by simpa using hc) (by omega) ?_ g2;have:=aEW hbl hz;intro q hq;have:=this q hq
   push_cast
   omega
def rM :List Node→Nat
 | [] =>0
 |x::t=>x.kids.length+rM t
theorem aDm :∀ (t:List Node),(∀x∈t,x.kids.length≤10) →rM t≤10*t.length
 | [],_=>by simp [rM]
 | x::t,h=>by
  have a:=aDm t (fun y hy=>h y (List.mem_cons_of_mem _ hy));have b:=h x (List.mem_cons_self ..);simp only [rM,length_cons];omega
theorem bF1 (p:Prog)(hp:aH p=true)(hn:p.nodes.length≤1000) :∀ (t:List Node) (i:Nat) (c:List Int) (B:Int),0≤B→B+rM t≤100000→c.length=p.nodes.length→below B c→p.nodes.drop i=t →
  Ends PP 0 (mL p c (i:Int)).as (.ret (.bool (nJ (kC p i t c)))) (aF [] 0)
 | [],i,c,B,h0,h1,hc,hb,h=>by
  have:=bE h;exact Ends.eqv (aIE p c i _ sd (aNZ c (by omega))) rfl
 | x::t,i,c,B,h0,h1,hc,hb,h=>by
  obtain⟨g1,g2,g3⟩ :=bB h;have hx:aT x=true:=by
   simp only [aH,and_eq_true]at hp;exact List.all_eq_true.1 hp.2 x (mem_of_getElem? g1)
  simp only [aT,and_eq_true,decide_eq_true_eq]at hx;simp only [rM]at h1;refine(aID p c i x sd sd sd).ends ?_;refine Ends.eqv (bF2 p i g3 hn x.kids (by omega) (fun v=>nJ (kC p (i+1) t v)) B h0 (by omega) (fun v hv hbv=>bF1 p hp hn t (i+1) v (B+x.kids.length) (by omega) (by omega) hv hbv g2) x.kids 0 c hc (by omega) (by simpa using hb) rfl) ?_;rw [kC];cases lA ((i:Int) +1) (p.nodes.length:Int) x.kids c<;>rfl
theorem bF0 (p:Prog)(hp:aH p=true)(hn:p.nodes.length≤1000)(hks:rM p.nodes≤10000)(hf:p.funs.length≤1000) :∀ (t:List Int) (i:Nat) (c:List Int),i≤p.funs.length→c.length=p.nodes.length→below (i:Int) c→p.funs.drop i=t →
  Ends PP 0 (rJ p (i:Int) c).as (.ret (.bool (match lA 0 p.nodes.length t c with|some v=>nJ (kC p 0 p.nodes v) |none=>false))) (aF [] 0)
 | [],i,c,hi,hc,hb,h=>by
  have:=bE h;refine(aIC p i c sd).ends ?_;exact bF1 p hp hn p.nodes 0 c i (by omega) (by omega) hc hb rfl
 | y ::t,i,c,hi,hc,hb,h=>by
  obtain⟨g1,g2,g3⟩ :=bB h;have hin:=eJ y 0 ((p.nodes.length:Int) -1);cases k1:cS y 0 ((p.nodes.length:Int) -1)with
  | false=>
   rw [k1]at hin;exact Ends.eqv (aIA p i c y false sd sd sd sd hin rfl) (by simp [lA,k1])
  | true=>
   rw [k1]at hin;have hy:=inB_iff.1 k1;obtain⟨z,hz⟩ :∃z,c[y.toNat]?=some z:= ⟨_,List.getElem?_eq_getElem (by omega)⟩;have hzb:=aAT hb hz;refine(aIB p i c y true z sd sd sd sd hin rfl (by omega) (by omega) hz sd sd).ends ?_;have e:c.getD y.toNat 0=z:=by rw [getD_eq_getElem?_getD,hz];rfl
   have ei:lA 0 p.nodes.length (y::t) c=lA 0 p.nodes.length t (c.set y.toNat (z+1)) :=by
    rw [lA,if_pos k1,e]
   rw [ei];refine bF0 p hp hn hks hf t (i+1) (c.set y.toNat (z+1)) (by omega) (by simpa using hc) ?_ g2;have:=aEW hb hz;intro q hq;have:=this q hq
   push_cast
   omega
def cQ (p:Prog) :Bool:=
 dN p&&decide (p.cons.length≤20) &&p.cons.all eH&&bU (aY p.cons) &&p.nodes.all (bD p) &&
  (match lA 0 (p.nodes.length:Int) p.funs (replicate p.nodes.length 0)with
  |some v=>nJ (kC p 0 p.nodes v)
  |none=>false)
theorem aIO {p:Prog}(hp:aH p=true) :∀x∈p.nodes,x.kids.length≤10∧x.pats.length≤10:=fun x hx=>by
 simp only [aH,and_eq_true]at hp;have:=List.all_eq_true.1 hp.2 x hx;simp only [aT,and_eq_true,decide_eq_true_eq]at this;exact this.1
theorem aGt (p:Prog)(hp:aH p=true) :Pure PP 200 [Prog.av p] (.bool (cQ p)) :=by
 refine aV (by kernel_rfl) rfl rfl ?_;have hs:=hp;simp only [aH,and_eq_true,decide_eq_true_eq]at hs;obtain⟨⟨⟨⟨s1,s2⟩,s3⟩,_⟩,_⟩ :=hs;have hno:=aIO hp;by_cases k0:p.nodes.length≤300
 · by_cases k1 :1≤p.funs.length
   · by_cases k2:p.funs.length≤p.nodes.length
     · have kk :cS (p.funs.length:Int) 1 (p.nodes.length:Int) =true:=inB_iff.2 ⟨by omega,by omega⟩;by_cases k3:p.cons.length≤20
       · have hi:=eJ p.main 0 ((p.funs.length:Int) -1);cases k4:cS p.main 0 ((p.funs.length:Int) -1)with
         | false=>
          rw [k4]at hi;exact Ends.eqv (aIv p false sd sd sd sd sd hi rfl) (by simp [cQ,dN,k4])
         | true =>
          rw [k4]at hi;have hh:dN p=true:=by simp [dN,k0,kk,k4]
          have hc:=aNX p.cons (by omega);cases k5:p.cons.all eH with
          | false=>
           rw [k5]at hc;exact Ends.eqv (aIw p true false sd sd sd sd sd hi rfl hc rfl) (by simp only [cQ,k5,Bool.and_false,Bool.false_and])
          | true=>
           rw [k5]at hc;have hm:=aN0 p.cons (by omega);have hd:=aGs (aY p.cons) (by simp [aY];omega);cases k6:bU (aY p.cons)with
           | false=>
            rw [k6]at hd;exact Ends.eqv (aIx p true true (aY p.cons) false sd sd sd sd sd hi rfl hc rfl hm hd rfl) (by simp only [cQ,k6,Bool.and_false,Bool.false_and])
           | true=>
            rw [k6]at hd;have hn:=aNY p.nodes p (by omega) (fun x hx=>aK5 p x (by omega) (by omega) (hno x hx).2 (hno x hx).1);cases k7:p.nodes.all (bD p)with
            | false=>
             rw [k7]at hn;exact Ends.eqv (aIy p true true (aY p.cons) true false sd sd sd sd sd hi rfl hc rfl hm hd rfl hn rfl) (by simp only [cQ,k7,Bool.and_false,Bool.false_and])
            | true=>
             rw [k7]at hn;refine(aIz p true true (aY p.cons) true true sd sd sd sd sd hi rfl hc rfl hm hd rfl hn rfl (by omega)).ends ?_;have hks:=aDm p.nodes (fun x hx=> (hno x hx).1);refine Ends.eqv (bF0 p hp (by omega) (by omega) (by omega) p.funs 0 _ (by omega) (by simp) ?_ rfl) ?_
             · intro q hq;have:= (List.mem_replicate.1 hq).2;omega
             ·simp only [cQ,hh,decide_eq_true k3,k5,k6,k7,Bool.true_and] <;>rfl
       ·exact Ends.eqv (aIu p sd sd sd sd) (by simp [cQ,k3])
     · have kk:cS (p.funs.length:Int) 1 (p.nodes.length:Int) =false:=inB_not.2 (by omega);exact Ends.eqv (aIt p sd sd sd) (by simp [cQ,dN,kk])
   · have kk:cS (p.funs.length:Int) 1 (p.nodes.length:Int) =false:=inB_not.2 (by omega);exact Ends.eqv (aIs p sd sd) (by simp [cQ,dN,kk])
 ·exact Ends.eqv (aIr p sd) (by simp [cQ,dN,k0])
theorem aIP (p:Prog)(hp:aH p=true) :Pure PP 138 [Prog.av p] (.int .i64 (checkN (cQ p))) :=by
 refine aV (by kernel_rfl) rfl rfl ?_;have h:=aGt p hp;cases k:cQ p with
 |false=>rw [k]at h;exact aK1 p false h rfl
 |true=>rw [k]at h;exact aK2 p true h rfl
def cnt (b:Bool) :Int:=if b=true then 1 else 0
def rN (u:List Bool) :List Int:=u.map cnt
def yE (c:List Int) :Prop:= (∃ (i:Nat) (z:Int),c[i]?=some z∧2≤z) ∧∀z∈c,0≤z
theorem aIQ {c:List Int}(h:yE c) :c.all one=false:=by
 obtain⟨⟨i,z,h1,h2⟩,_⟩ :=h;cases k:c.all one with
 |false=>rfl
 | true=>
  have:=List.all_eq_true.1 k z (mem_of_getElem? h1);simp only [one,decide_eq_true_eq]at this;omega
theorem aK6 {c:List Int}{j:Nat}(h:yE c) :yE (c.set j (c.getD j 0+1)) :=by
 obtain⟨⟨i,z,h1,h2⟩,h3⟩ :=h;have hi:= (List.getElem?_eq_some_iff.1 h1).1;refine⟨⟨i,if j=i then z+1 else z,?_,by split<;>omega⟩,fun q hq=>?_⟩
 · rw [List.getElem?_set];by_cases e:j=i
   · subst e;rw [if_pos rfl,if_pos hi,if_pos rfl,getD_eq_getElem?_getD,h1];rfl
   ·rw [if_neg e,if_neg e];exact h1
 · rcases List.mem_or_eq_of_mem_set hq with g|g
   ·exact h3 q g
   · rw [g,getD_eq_getElem?_getD];cases k:c[j]? with
     |none=>simp
     |some w=>have:=h3 w (mem_of_getElem? k);simp;omega
theorem uM {lo n:Int}:∀ {ks c:List Int} {d:List Int},yE c→lA lo n ks c=some d→yE d
 | [],c,d,h,e=>by simp only [lA,Option.some.injEq]at e;rw [←e];exact h
 | k::ks,c,d,h,e=>by
  simp only [lA]at e;split at e
  ·exact uM (aK6 h) e
  ·cases e
theorem aIR (u:List Bool) :∀z∈rN u,0≤z:=fun z hz=>by
 obtain⟨b,_,rfl⟩ :=List.mem_map.1 hz;cases b<;>simp [cnt]
theorem yF {lo n:Int}(hlo:0≤lo) :∀ (ks:List Int) (u:List Bool),n≤u.length →
  (∀v,marks lo n ks u=some v→lA lo n ks (rN u) =some (rN v)) ∧ (marks lo n ks u=none→∀d,lA lo n ks (rN u) =some d→yE d)
 | [],u,hn=>by
  simp only [marks,lA,Option.some.injEq];exact⟨fun v e=>by rw [e],fun e=>by cases e⟩
 | k :: ks,u,hn=>by
  simp only [marks,lA];by_cases h1:cS k lo (n-1) =true
  · have hk:=inB_iff.1 h1;have hlt:k.toNat<u.length:=by omega
    have hget:u[k.toNat]?=some u[k.toNat] :=List.getElem?_eq_getElem hlt;have hc: (rN u).getD k.toNat 0=cnt u[k.toNat] :=by
     rw [getD_eq_getElem?_getD,rN,List.getElem?_map,hget];rfl
    rw [if_pos h1];cases hb:u[k.toNat]with
    | false=>
     rw [hb]at hget hc;rw [if_pos ⟨h1,hget⟩];have e: (rN u).set k.toNat ((rN u).getD k.toNat 0+1) =rN (u.set k.toNat true) :=by
      rw [hc,rN,rN,List.map_set];rfl
     rw [e];exact yF hlo ks (u.set k.toNat true) (by simpa using hn)
    | true=>
     rw [hb]at hget hc;rw [if_neg (by rw [hget];simp)];refine And.intro (fun v e=>nomatch e) (fun _ d e=>uM (And.intro ⟨k.toNat,2,?_,by omega⟩ ?_) e)
     ·rw [hc,List.getElem?_set_self (by simp [rN];exact hlt)];rfl
     · intro z hz;rcases List.mem_or_eq_of_mem_set hz with g|g
       ·exact aIR u z g
       ·rw [g,hc];simp [cnt]
  · rw [if_neg h1,if_neg (fun g=>h1 g.1)];exact And.intro (fun v e=>nomatch e) (fun _ d e=>nomatch e)
theorem nW (p:Prog) :∀ (t:List Node) (i:Nat) (c:List Int),yE c→nJ (kC p i t c) =false
 | [],i,c,h=>by rw [kC];exact aIQ h
 | x::t,i,c,h=>by
  rw [kC];cases e:lA ((i:Int) +1) (p.nodes.length:Int) x.kids c with
  |none=>rfl
  |some d=>exact nW p t (i+1) d (uM h e)
theorem aEX :∀ (u:List Bool),(rN u).all one=u.all fun b=>b
 | [] =>rfl
 | b::u=>by
  have:=aEX u;simp only [rN,List.map_cons,all_cons]at this ⊢;rw [this];cases b<;>simp [cnt,one]
theorem aIS (p:Prog) :∀ (t:List Node) (i:Nat) (u:List Bool),u.length=p.nodes.length→t.all (bD p) =true→allT (cI p i t u) =nJ (kC p i t (rN u))
 | [],i,u,hu,_=>by simp only [cI,kC,allT,nJ,aEX]
 | x::t,i,u,hu,ha=>by
  simp only [all_cons,and_eq_true]at ha;obtain⟨m1,m2⟩ :=yF (lo:= (i:Int) +1) (n:= (p.nodes.length:Int)) (by omega) x.kids u (by omega);simp only [cI,kC,if_pos ha.1];cases hm:marks ((i:Int) +1) (p.nodes.length:Int) x.kids u with
  | some v=>
   rw [m1 v hm];exact aIS p t (i+1) v (by rw [jZ hm,hu]) ha.2
  | none=>
   cases hi:lA ((i:Int) +1) (p.nodes.length:Int) x.kids (rN u)with
   |none=>rfl
   |some d=>exact(nW p t (i+1) d (m2 hm d hi)).symm
theorem aAf (p:Prog) :∀ (t:List Node) (i:Nat) (u:List Bool),t.all (bD p) =false→allT (cI p i t u) =false
 | [],i,u,h=>by simp at h
 | x ::t,i,u,h=>by
  simp only [cI];by_cases hx:bD p x=true
  · rw [if_pos hx];have ht:t.all (bD p) =false:=by simpa [hx]using h
    cases marks ((i:Int) +1) (p.nodes.length:Int) x.kids u with
    |none=>rfl
    |some v=>exact aAf p t (i+1) v ht
  ·rw [if_neg hx];rfl
theorem aN1 (p:Prog) :cQ p=aO p:=by
 have e1:cQ p= (dN p&&uK p.cons&& (p.nodes.all (bD p) && (match lA 0 (p.nodes.length:Int) p.funs (replicate p.nodes.length 0)with
  |some v=>nJ (kC p 0 p.nodes v)
  |none=>false))) :=by
  unfold cQ uK;cases dN p<;>cases p.cons.all eH<;>cases bU (aY p.cons) <;>cases p.nodes.all (bD p) <;>cases decide (p.cons.length≤20) <;>simp
 rw [e1,aO];congr 1;have ez:replicate p.nodes.length (0:Int) =rN (replicate p.nodes.length false) :=by rw [rN,List.map_replicate];rfl
 rw [ez];obtain⟨m1,m2⟩ :=yF (lo:=0) (n:= (p.nodes.length:Int)) (by omega) p.funs (replicate p.nodes.length false) (by simp);cases hm:marks 0 (p.nodes.length:Int) p.funs (replicate p.nodes.length false)with
 | some v=>
  rw [m1 v hm];cases ha:p.nodes.all (bD p)with
  |true=>simp only [Bool.true_and];exact(aIS p p.nodes 0 v (by rw [jZ hm];simp) ha).symm
  |false=>simp only [Bool.false_and];exact(aAf p p.nodes 0 v ha).symm
 | none=>
  simp only;cases hi:lA 0 (p.nodes.length:Int) p.funs (rN (replicate p.nodes.length false))with
  |none=>simp
  |some d=>simp only [nW p p.nodes 0 d (m2 hm d hi),Bool.and_false]
theorem Ends.val {P:Program}{m:Nat}{s:AS}{v v':AV}{h':Hp}(h:Ends P m s (.ret v) h')(hv:∀E cv,VR E v cv→VR E v' cv) :Ends P m s (.ret v') h':=fun hm E fr ccs w f fs r cl base=>by
 obtain⟨cl',w',E',s1,⟨cv,e,g⟩,r2,x2⟩ :=h hm E fr ccs w f fs r cl base;exact⟨cl',w',E',s1,⟨cv,e,hv _ _ g⟩,r2,x2⟩
mutual
def bnm :Pat→Int
 | .mk f _ _ ps=>if f=2 then 1 else aXp ps
def aXp :List Pat→Int
 | [] =>0
 |p::ps=>bnm p+aXp ps
end
def aIT (x:Node)(k:Int) :Int:=
 if x.op=5∨x.op=27∨ (x.op=7∧k=1)then 1
 else if x.op=15∧k>0 then(match x.pats[(k-1).toNat]? with|some q=>bnm q|none=>0)else 0
structure FineN (cons:List Con) (x:Node) :Prop where
 pats:∀q∈x.pats,dM q≤12∧cY cons q=true
 mat:x.op=15→x.kids.length=1+x.pats.length
 let2:x.op=7→x.kids.length=2
theorem aL1 {p:Prog}{x:Node}(h:bD p x=true) :FineN p.cons x:=by
 simp only [bD,and_eq_true,decide_eq_true_eq]at h;obtain⟨⟨_,h2⟩,h3⟩ :=h;refine⟨fun q hq=>?_,fun e=>?_,fun e=>?_⟩
 · have:=List.all_eq_true.1 h2 q hq;simpa [fJ]using this
 ·rw [e]at h3;simp [cT]at h3;omega
 ·rw [e]at h3;simp [cT]at h3;omega
structure FineP (p:Prog) :Prop where
 small:p.nodes.length≤320
 fsmall:p.funs.length≤320
 node:∀ (i:Nat) (x:Node),p.nodes[i]?=some x→FineN p.cons x∧x.kids.length≤10∧∀k∈x.kids,(i:Int) <k∧k<p.nodes.length
 funs:∀f∈p.funs,0≤f∧f<p.nodes.length
section
variable (p :Prog) (mf mc:List (Int×Int))
variable {p mf mc}
end
theorem vM {P:Program}{f:Nat}{args args':List AV}{v v':AV}{l l' lc lc':List (Nat×AObj×Bool)}{m nb nb' n2 n3:Nat}{ks:List Nat}
  (h0:aBr P m (.enter f args) (aF l nb) (.ret v) (aF l' nb')) (e3:nb'-m+n2=n3) (ev:AV.ren (mJ m n2 ks) v=v') (hargs:AV.renL (hP 0 nb n2 ks) args=args') (hm:Nat.ble m nb=true) (hm':Nat.ble m nb'=true)
  (hin:fF 0 ⟨⟨0,0,[],[],[],.run,.normal,none⟩,[],l,nb⟩ ks=true) (hl:zO (aF lc n2) (hP 0 nb n2 ks) l=jQ (hP 0 nb n2 ks) l) (hkl:lG l)
  (hl':zO (aF lc' n3) (mJ m n2 ks) l'=jQ (mJ m n2 ks) l') (hkl':lG l') (hpl:aAO l'=true:=by kernel_rfl) (hk':jH nb' l'=true:=by kernel_rfl)
  (hx:jH n2 lc=true:=by kernel_rfl) (hx':jH n3 lc'=true:=by kernel_rfl) (hlt:ks.all (fun k=>Nat.blt k n2) =true:=by kernel_rfl) (hout:aEC (namesT (mJ m n2 ks) l') ks (aF lc n2) lc'=xZ lc':=by kernel_rfl) (hll:xZ l'= (l'.map fun p=> (aF l' nb').look p.1) :=by kernel_rfl) :
  Spec P (.enter f args') (aF lc n2) (.ret v') (aF lc' n3) :=by
 subst e3 ev;exact aO6 h0 hargs hm hm' hin hl hkl hl' hkl' hpl hk' hx hx' hlt hout hll
def bN (mf mc:List (Int×Int))(op n:Int) :Int:=if op=4 then(if 0≤n then n else -1-lU mf (-1-n))else if op=14 then lU mc n else n
def kR (mf mc:List (Int×Int))(to:List Int)(x:Node) :Node:= ⟨x.op,bN mf mc x.op x.n,x.kids.map (kB to),fN mc x.pats⟩
def nOk (mf:List (Int×Int))(x:Node) :Prop:=bQ x.pats<1000000∧ (x.op=4→x.n<0→ -1000000000≤x.n∧ -1000000000≤lU mf (-1-x.n) ∧lU mf (-1-x.n) ≤1000000000)
section
variable (p :Prog) (mf mc:List (Int×Int)) (to:List Int)
variable {p mf mc to}
end
section
variable {p :Prog} {mf mc:List (Int×Int)}
end
def sM :Nat→List (Int×Int)
 |0=>[]
 |n+1=>bK (n:Int) (n:Int) (sM n)
theorem mO {α β:Type}[DecidableEq α](k k':α)(v:β) :∀ (l:List (α×β)),dG k (bK k' v l) =if k=k' then some v else dG k l
 | [] =>by simp [bK,dG]
 | e ::l=>by
  simp only [bK];split
  · rename_i h;subst h;simp only [dG];split<;>rfl
  · rename_i h;simp only [dG,mO k k' v l];by_cases h1:k=e.1
    · subst h1;rw [if_pos rfl,if_pos rfl,if_neg (fun e=>h e.symm)]
    ·rw [if_neg h1,if_neg h1]
theorem aQE :∀ (n:Nat) (i:Int),0≤i→i<n→dG i (sM n) =some i
 |0,i,h0,h1=>by omega
 | n+1,i,h0,h1=>by
  rw [sM,mO];by_cases h:i= (n:Int)
  ·rw [if_pos h,h]
  ·rw [if_neg h];exact aQE n i h0 (by omega)
theorem aVm {n:Nat}{i:Int}(h0:0≤i)(h1:i<n) :lU (sM n) i=i:=by unfold lU;rw [aQE n i h0 h1];rfl
theorem aN2 {P:Program}{m:Nat}{s:AS}{v v':AV}{h':Hp}(h:Ends P m s (.ret v) h')(hv:∀ (E:Emb) (cv:Value),VR E v cv→VR E v' cv) :Ends P m s (.ret v') h':=fun hm E fr ccs w f fs r cl base=>by
 obtain⟨cl',w',E',s1,⟨cv,rfl,g2⟩,r2,x2⟩ :=h hm E fr ccs w f fs r cl base;exact⟨_,w',E',s1,⟨cv,rfl,hv E' cv g2⟩,r2,x2⟩
theorem aGu {E:Emb}{e:Nat}{xs:List AV}{cv:Value}(h:VR E (.ilst e xs true) cv) :VR E (.ilst e xs false) cv:=by
 simp only [VR]at h ⊢;obtain⟨vs,h1,h2,h3⟩ :=h;refine⟨vs,h1,h2,?_⟩;rcases h3 with⟨rfl,a,cap,rfl,g,_⟩ | ⟨k,a,cap,C,g1,g2,g3,_,g5⟩
 ·exact .inl ⟨rfl,a,cap,rfl,g,fun hh=>by cases hh⟩
 ·exact .inr ⟨k,a,cap,C,g1,g2,g3,(fun hh=>by cases hh),g5⟩
section
variable {p :Prog}
end
end
end Go.Hb

set_option linter.defProp false
set_option linter.unusedVariables false
set_option linter.unusedSimpArgs false
set_option linter.unusedSectionVars false
set_option maxRecDepth 100000
set_option maxHeartbeats 8000000
namespace Go.Hb
open Go.Proofs Tryz
noncomputable section
def pre (p:Prog) :Nat→Int→List Int
 |0,_=>[]
 | f+1,a=>match p.nodes[a.toNat]? with
  |some x=>a:: (x.kids.map (pre p f)).flatten
  |none=>[]
def yG :List Int→Int→List Int→List Int
 |l,_,[] =>l
 |l,n,b::bs=>yG (l.set b.toNat n) (n+1) bs
theorem aDn :∀ (xs l:List Int) (n:Int) (m:Nat),(∀x∈xs,x.toNat≠m) → (yG l n xs)[m]?=l[m]?
 | [],l,n,m,h=>rfl
 | x::xs,l,n,m,h=>by
  rw [yG,aDn xs _ _ m (fun y hy=>h y (List.mem_cons_of_mem _ hy))];exact List.getElem?_set_ne (h x (List.mem_cons_self ..))
theorem aEY :∀ (xs l:List Int) (n:Int),xs.Nodup→ (∀x∈xs,0≤x∧x<l.length) →∀ (i:Nat) (b:Int),xs[i]?=some b→kB (yG l n xs) b=n+i
 | [],l,n,_,_,i,b,h=>by simp at h
 | x ::xs,l,n,hd,hr,i,b,h=>by
  have hd:=List.nodup_cons.1 hd;have hx:=hr x (List.mem_cons_self ..);cases i with
  | zero=>
   simp only [List.getElem?_cons_zero,Option.some.injEq]at h;subst h;unfold kB
   rw [yG,List.getD_eq_getElem?_getD,aDn xs _ _ x.toNat (fun y hy e=>hd.1 (by
    have:=hr y (List.mem_cons_of_mem _ hy);have:y=x:=by omega
    exact this ▸ hy)),List.getElem?_set_self (by omega)]
   simp
  | succ i=>
   simp only [List.getElem?_cons_succ]at h;rw [yG,aEY xs (l.set x.toNat n) (n+1) hd.2 (fun y hy=>by rw [List.length_set];exact hr y (List.mem_cons_of_mem _ hy)) i b h];omega
section
variable {p :Prog}
theorem aQF (hp:FineP p){f:Nat}{a:Int}(ha:0≤a)(hn:a<p.nodes.length)(hf:p.nodes.length-a.toNat≤f) :∃x g,f=g+1∧p.nodes[a.toNat]?=some x∧pre p f a=a:: (x.kids.map (pre p g)).flatten:=by
 cases f with
 |zero=>omega
 | succ g=>
  obtain⟨x,hx⟩ :∃x,p.nodes[a.toNat]?=some x:= ⟨_,List.getElem?_eq_getElem (by omega)⟩;exact⟨x,g,rfl,hx,by rw [pre,hx]⟩
end
end
end Go.Hb
