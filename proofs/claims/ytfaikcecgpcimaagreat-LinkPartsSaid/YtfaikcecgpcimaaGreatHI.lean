/- A machine on abstract values, its soundness, ways, plain laws. -/
import Derived.Test.YtfaikcecgpcimaaGreatHF
import Derived.Test.YtfaikcecgpcimaaGreatHG
import Derived.Test.YtfaikcecgpcimaaGreatHH
set_option linter.defProp false
set_option linter.unusedVariables false
set_option linter.unusedSimpArgs false
set_option linter.unusedSectionVars false
set_option maxRecDepth 100000
set_option maxHeartbeats 8000000
namespace Go.Hb
open Bool (and_eq_true)
open List (all_cons getD_eq_getElem?_getD length length_cons map mem_of_getElem? replicate)
open Go.Proofs Tryz
noncomputable section
mutual
def aYe :Term→Nat
 | .mk _ _ _ ks _=>aSG ks+1
def aSG :List Term→Nat
 | [] =>0
 |t::ts=>aYe t+aSG ts
end
def kO (m:List (Int×Int))(n:Int) :Int:= (dR n m).getD 0
mutual
def yJ (mc:List (Int×Int)) :Pat→Pat
 | .mk f n t ps=>.mk f (if f=6 then kO mc n else n) t (fK mc ps)
def fK (mc:List (Int×Int)) :List Pat→List Pat
 | [] =>[]
 |p::ps=>yJ mc p::fK mc ps
end
section
variable (mf mc:List (Int×Int))
end
def iH (to:List Int)(k:Int) :Int:=to.getD k.toNat 0
def wZ :List aC→List (aC×Bool) →List (aC×Bool)
 | [],m=>m
 |x::t,m=>wZ t (bT x true m)
theorem aBp (l:List aC)(hl:l.length<1000000) :∀ (t:List aC) (i:Nat) (m:List (aC×Bool)),l.drop i=t→Ends PP 0 (tR l (i:Int) m).as (.ret (.bool (decide ((wZ t m).length=l.length)))) (aG [] 0)
 | [],i,m,h=>by
  have:=bL h;refine Ends.eqv (aKj l i m sd) ?_;have: (((length m:Nat) :Int) == ((length l:Nat) :Int)) =decide (m.length=l.length) :=by
   by_cases k:m.length=l.length<;>simp [k] <;>omega
  rw [this];rfl
 | x::t,i,m,h=>by
  obtain⟨g1,g2,g3⟩ :=bK h;refine(aKi l i m x sd sd sd sd).ends ?_;exact aBp l hl t (i+1) _ g2
theorem aEA {k:aC}{v w:Bool}:∀ {m:List (aC×Bool)},dR k m=some w→ (bT k v m).map Prod.fst=m.map Prod.fst
 | [],h=>by cases h
 | e::m,h=>by
  unfold dR at h;unfold bT;split at h
  ·rename_i hk;rw [if_pos hk];simp [hk]
  ·rename_i hk;rw [if_neg hk];simp [aEA h]
theorem aEB {k:aC}{v:Bool}:∀ {m:List (aC×Bool)},dR k m=none→ (bT k v m).map Prod.fst=m.map Prod.fst++ [k]
 | [],_=>rfl
 | e::m,h=>by
  unfold dR at h;unfold bT;split at h
  ·cases h
  ·rename_i hk;rw [if_neg hk];simp [aEB h]
theorem aEC {k:aC}:∀ {m:List (aC×Bool)},(dR k m).isSome=bE (m.map Prod.fst) k
 | [] =>rfl
 | e ::m=>by
  unfold dR;split
  ·rename_i hk;simp [bE,hk]
  · rename_i hk;have:¬e.1=k:=fun h=>hk h.symm;rw [aEC];simp [bE,this]
theorem aGn :∀ (t:List aC) (m:List (aC×Bool)),(wZ t m).length≤m.length+t.length
 | [],m=>by simp [wZ]
 | x::t,m=>by
  have a:=aGn t (bT x true m);have b: (bT x true m).length≤m.length+1:=by
   cases h:dR x m with
   |none=>have:=congrArg length (aEB (v:=true) h);simp at this;omega
   |some w=>have:=congrArg length (aEA (v:=true) h);simp at this;omega
  simp only [wZ,length_cons];omega
theorem aED :∀ (t:List aC) (m:List (aC×Bool)),(wZ t m).length=m.length+t.length↔cI (m.map Prod.fst) t=true
 | [],m=>by simp [wZ,cI]
 | x::t,m=>by
  simp only [wZ,cI];cases h:dR x m with
  | some w=>
   have e:=aEA (v:=true) h;have hs:bE (m.map Prod.fst) x=true:=by rw [←aEC,h];rfl
   have a:=aGn t (bT x true m);have b:=congrArg length e;simp only [List.length_map]at b;rw [hs];constructor
   ·intro g;simp only [length_cons]at g;omega
   ·intro g;simp at g
  | none=>
   have e:=aEB (v:=true) h;have hs:bE (m.map Prod.fst) x=false:=by rw [←aEC,h];rfl
   have ih:=aED t (bT x true m);have b:=congrArg length e;simp only [List.length_map,List.length_append,List.length_singleton]at b;rw [hs,←e];simp only [Bool.not_false,Bool.true_and,length_cons];rw [←ih,b];omega
theorem aIh (l:List aC)(hl:l.length<1000000) :Pure PP 244 [.ilst 1 (map aA l) false] (.bool (bG l)) :=by
 refine aT (by kernel_rfl) rfl rfl ((aKh l).ends (Ends.eqv (aBp l hl l 0 [] rfl) ?_));have:=aED l [];simp only [List.length_nil,Nat.zero_add,List.map_nil]at this;congr 1;cases k:bG l with
 |true=>exact decide_eq_true (this.2 k)
 |false=>exact decide_eq_false fun g=>by have:=this.1 g;unfold bG at k;rw [k]at this;cases this
theorem aGo (l:List Con)(hl:l.length<1000000) :∀ (t:List Con) (i:Nat),l.drop i=t→Ends PP 0 (aDl l (i:Int)).as (.ret (.bool (t.all fH))) (aG [] 0)
 | [],i,h=>by
  have:=bL h;exact Ends.eqv (aSt l i sd) (by simp)
 | c::t,i,h=>by
  obtain⟨g1,g2,g3⟩ :=bK h;have hq:=aPY c;cases k:fH c with
  |false=>rw [k]at hq;exact Ends.eqv (aSr l i c false sd sd sd hq rfl) (by simp [k])
  | true=>
   rw [k]at hq;refine(aSs l i c true sd sd sd hq rfl sd).ends ?_;exact Ends.eqv (aGo l hl t (i+1) g2) (by simp [k])
theorem aP2 (l:List Con)(hl:l.length<1000000) :Pure PP 242 [.ilst 2 (map Con.av l) false,.func 243 [] []] (.bool (l.all fH)) :=
 aT (by kernel_rfl) rfl rfl ((aSq l).ends (aGo l hl l 0 rfl))
theorem aGp (l:List Node)(p:Prog)(hl:l.length<1000000)(ih:∀x∈l,Pure PP 248 [Prog.av p,Node.av x] (.bool (bC p x))) :∀ (t:List Node) (i:Nat),l.drop i=t→Ends PP 0 (aDk l p (i:Int)).as (.ret (.bool (t.all (bC p)))) (aG [] 0)
 | [],i,h=>by
  have:=bL h;exact Ends.eqv (aSp l p i sd) (by simp)
 | c::t,i,h=>by
  obtain⟨g1,g2,g3⟩ :=bK h;have hq:=ih c (mem_of_getElem? g1);cases k:bC p c with
  |false=>rw [k]at hq;exact Ends.eqv (aSn l p i c false sd sd sd hq rfl) (by simp [k])
  | true=>
   rw [k]at hq;refine(aSo l p i c true sd sd sd hq rfl sd).ends ?_;exact Ends.eqv (aGp l p hl ih t (i+1) g2) (by simp [k])
theorem aP3 (l:List Node)(p:Prog)(hl:l.length<1000000)(ih:∀x∈l,Pure PP 248 [Prog.av p,Node.av x] (.bool (bC p x))) :Pure PP 247 [.ilst 4 (map Node.av l) false,.func 248 [Prog.av p] []] (.bool (l.all (bC p))) :=
 aT (by kernel_rfl) rfl rfl ((aSm l p).ends (aGp l p hl ih l 0 rfl))
def one (k:Int) :Bool:=decide (k=1)
theorem aGq (l:List Int)(hl:l.length<1000000) :∀ (t:List Int) (i:Nat),l.drop i=t→Ends PP 0 (aDm l (i:Int)).as (.ret (.bool (t.all one))) (aG [] 0)
 | [],i,h=>by
  have:=bL h;exact Ends.eqv (aSx l i sd) (by simp)
 | c ::t,i,h=>by
  obtain⟨g1,g2,g3⟩ :=bK h;by_cases k:c=1
  · refine(aSw l i c sd sd sd (by simp [k]) sd).ends ?_;exact Ends.eqv (aGq l hl t (i+1) g2) (by simp [k,one])
  ·exact Ends.eqv (aSv l i c sd sd sd (by simp [k])) (by simp [k,one])
theorem aP4 (l:List Int)(hl:l.length<1000000) :Pure PP 249 [.ilst 1 (map aR l) true,.func 250 [] []] (.bool (l.all one)) :=
 aT (by kernel_rfl) rfl rfl ((aSu l).ends (aGq l hl l 0 rfl))
theorem aGr (l:List Con)(hl:l.length<100000) :∀ (t:List Con) (i:Nat),l.drop i=t→Ends PP 0 (aDn l (i:Int) (bB (l.take i))).as (.ret (.ilst 1 (map aA (bB l)) false)) (aG [] 0)
 | [],i,h=>by
  have hi:=bL h;have e:bB (l.take i) =bB l:=by rw [List.take_of_length_le hi]
  rw [e];exact aSA l i _ sd
 | c::t,i,h=>by
  obtain⟨g1,g2,g3⟩ :=bK h;have e:bB (l.take i) ++ [c.name] =bB (l.take (i+1)) :=by
   rw [List.take_add_one,g1];simp [bB]
  refine(aSz l i (bB (l.take i)) c sd sd sd (by simp [bB];omega) sd).ends ?_;rw [e];exact aGr l hl t (i+1) g2
theorem aP5 (l:List Con)(hl:l.length<100000) :Pure PP 245 [.ilst 2 (map Con.av l) false,.func 246 [] []] (.ilst 1 (map aA (bB l)) false) :=
 aT (by kernel_rfl) rfl rfl ((aSy l).ends (aGr l hl l 0 rfl))
def nA (lo n:Int) :List Int→List Int→Option (List Int)
 | [],c=>some c
 |k::ks,c=>if cN k lo (n-1) =true then nA lo n ks (c.set k.toNat (c.getD k.toNat 0+1))else none
def lP (p:Prog) :Nat→List Node→List Int→Option (List Int)
 |_,[],c=>some c
 | i,x::t,c=>match nA ((i:Int) +1) (p.nodes.length:Int) x.kids c with
   |some d=>lP p (i+1) t d
   |none=>none
def qD :Option (List Int) →Bool
 |some c=>c.all one
 |none=>false
def below (b:Int)(c:List Int) :Prop:=∀k∈c,0≤k∧k≤b
theorem aCe {b:Int}{c:List Int}(h:below b c){i:Nat}{z:Int}(hz:c[i]?=some z) :0≤z∧z≤b:=h z (mem_of_getElem? hz)
theorem aGs {b:Int}{c:List Int}(h:below b c){i:Nat}{z:Int}(hz:c[i]?=some z) :below (b+1) (c.set i (z+1)) :=fun k hk=>by
 rcases List.mem_or_eq_of_mem_set hk with g|g
 ·have:=h k g;omega
 ·have:=aCe h hz;omega
theorem bF2 (p:Prog)(i:Nat)(hi:i<p.nodes.length)(hn:p.nodes.length≤1000)(ks:List Int)(hk:ks.length≤1000)(K:List Int→Bool)(B:Int)(hB:0≤B)(hB2:B≤1000000)
  (hb:∀v:List Int,v.length=p.nodes.length→below (B+ks.length) v→Ends PP 0 (pG p v ((i:Int) +1)).as (.ret (.bool (K v))) (aG [] 0)) :
  ∀ (t:List Int) (k:Nat) (c:List Int),c.length=p.nodes.length→k≤ks.length→below (B+k) c→ks.drop k=t→Ends PP 0 (tV p ks (ks.length:Int) c (k:Int) (i:Int) (i:Int)).as (.ret (.bool (match nA ((i:Int) +1) p.nodes.length t c with|some v=>K v|none=>false))) (aG [] 0)
 | [],k,c,hc,hkl,hbl,h=>by
  have:=bL h;have e:k=ks.length:=by omega
  subst e;refine(aKA p ks ks.length c ks.length i i sd sd).ends ?_;exact hb c hc hbl
 | y ::t,k,c,hc,hkl,hbl,h=>by
  obtain⟨g1,g2,g3⟩ :=bK h;have hin:=fJ y ((i:Int) +1) ((p.nodes.length:Int) -1);cases k1:cN y ((i:Int) +1) ((p.nodes.length:Int) -1)with
  | false=>
   rw [k1]at hin;exact Ends.eqv (aKy p ks ks.length c k i i y false sd sd sd sd sd hin rfl) (by simp [nA,k1])
  | true=>
   rw [k1]at hin;have hy:=inB_iff.1 k1;obtain⟨z,hz⟩ :∃z,c[y.toNat]?=some z:= ⟨_,List.getElem?_eq_getElem (by omega)⟩;have hzb:=aCe hbl hz;refine(aKz p ks ks.length c k i i y true z sd sd sd sd sd hin rfl (by omega) (by omega) hz sd sd).ends ?_;have e:c.getD y.toNat 0=z:=by rw [getD_eq_getElem?_getD,hz];rfl
   have ei:nA ((i:Int) +1) p.nodes.length (y::t) c=nA ((i:Int) +1) p.nodes.length t (c.set y.toNat (z+1)) :=by
    rw [nA,if_pos k1,e]
   rw [ei];refine bF2 p i hi hn ks hk K B hB hB2 hb t (k+1) (c.set y.toNat (z+1)) (by simpa using hc) (by omega) ?_ g2;have:=aGs hbl hz;intro q hq;have:=this q hq
   push_cast
   omega
def tW :List Node→Nat
 | [] =>0
 |x::t=>x.kids.length+tW t
theorem aEE :∀ (t:List Node),(∀x∈t,x.kids.length≤10) →tW t≤10*t.length
 | [],_=>by simp [tW]
 | x::t,h=>by
  have a:=aEE t (fun y hy=>h y (List.mem_cons_of_mem _ hy));have b:=h x (List.mem_cons_self ..);simp only [tW,length_cons];omega
theorem bF1 (p:Prog)(hp:aM p=true)(hn:p.nodes.length≤1000) :∀ (t:List Node) (i:Nat) (c:List Int) (B:Int),0≤B→B+tW t≤100000→c.length=p.nodes.length→below B c→p.nodes.drop i=t →
  Ends PP 0 (pG p c (i:Int)).as (.ret (.bool (qD (lP p i t c)))) (aG [] 0)
 | [],i,c,B,h0,h1,hc,hb,h=>by
  have:=bL h;exact Ends.eqv (aKx p c i _ sd (aP4 c (by omega))) rfl
 | x::t,i,c,B,h0,h1,hc,hb,h=>by
  obtain⟨g1,g2,g3⟩ :=bK h;have hx:aV x=true:=by
   simp only [aM,and_eq_true]at hp;exact List.all_eq_true.1 hp.2 x (mem_of_getElem? g1)
  simp only [aV,and_eq_true,decide_eq_true_eq]at hx;simp only [tW]at h1;refine(aKw p c i x sd sd sd).ends ?_;refine Ends.eqv (bF2 p i g3 hn x.kids (by omega) (fun v=>qD (lP p (i+1) t v)) B h0 (by omega) (fun v hv hbv=>bF1 p hp hn t (i+1) v (B+x.kids.length) (by omega) (by omega) hv hbv g2) x.kids 0 c hc (by omega) (by simpa using hb) rfl) ?_;rw [lP];cases nA ((i:Int) +1) (p.nodes.length:Int) x.kids c<;>rfl
theorem bF0 (p:Prog)(hp:aM p=true)(hn:p.nodes.length≤1000)(hks:tW p.nodes≤10000)(hf:p.funs.length≤1000) :∀ (t:List Int) (i:Nat) (c:List Int),i≤p.funs.length→c.length=p.nodes.length→below (i:Int) c→p.funs.drop i=t →
  Ends PP 0 (tU p (i:Int) c).as (.ret (.bool (match nA 0 p.nodes.length t c with|some v=>qD (lP p 0 p.nodes v) |none=>false))) (aG [] 0)
 | [],i,c,hi,hc,hb,h=>by
  have:=bL h;refine(aKv p i c sd).ends ?_;exact bF1 p hp hn p.nodes 0 c i (by omega) (by omega) hc hb rfl
 | y ::t,i,c,hi,hc,hb,h=>by
  obtain⟨g1,g2,g3⟩ :=bK h;have hin:=fJ y 0 ((p.nodes.length:Int) -1);cases k1:cN y 0 ((p.nodes.length:Int) -1)with
  | false=>
   rw [k1]at hin;exact Ends.eqv (aKt p i c y false sd sd sd sd hin rfl) (by simp [nA,k1])
  | true=>
   rw [k1]at hin;have hy:=inB_iff.1 k1;obtain⟨z,hz⟩ :∃z,c[y.toNat]?=some z:= ⟨_,List.getElem?_eq_getElem (by omega)⟩;have hzb:=aCe hb hz;refine(aKu p i c y true z sd sd sd sd hin rfl (by omega) (by omega) hz sd sd).ends ?_;have e:c.getD y.toNat 0=z:=by rw [getD_eq_getElem?_getD,hz];rfl
   have ei:nA 0 p.nodes.length (y::t) c=nA 0 p.nodes.length t (c.set y.toNat (z+1)) :=by
    rw [nA,if_pos k1,e]
   rw [ei];refine bF0 p hp hn hks hf t (i+1) (c.set y.toNat (z+1)) (by omega) (by simpa using hc) ?_ g2;have:=aGs hb hz;intro q hq;have:=this q hq
   push_cast
   omega
def cZ (p:Prog) :Bool:=
 dT p&&decide (p.cons.length≤20) &&p.cons.all fH&&bG (bB p.cons) &&p.nodes.all (bC p) &&
  (match nA 0 (p.nodes.length:Int) p.funs (replicate p.nodes.length 0)with
  |some v=>qD (lP p 0 p.nodes v)
  |none=>false)
theorem aKG {p:Prog}(hp:aM p=true) :∀x∈p.nodes,x.kids.length≤10∧x.pats.length≤10:=fun x hx=>by
 simp only [aM,and_eq_true]at hp;have:=List.all_eq_true.1 hp.2 x hx;simp only [aV,and_eq_true,decide_eq_true_eq]at this;exact this.1
theorem aIi (p:Prog)(hp:aM p=true) :Pure PP 200 [Prog.av p] (.bool (cZ p)) :=by
 refine aT (by kernel_rfl) rfl rfl ?_;have hs:=hp;simp only [aM,and_eq_true,decide_eq_true_eq]at hs;obtain⟨⟨⟨⟨s1,s2⟩,s3⟩,_⟩,_⟩ :=hs;have hno:=aKG hp;by_cases k0:p.nodes.length≤300
 · by_cases k1 :1≤p.funs.length
   · by_cases k2:p.funs.length≤p.nodes.length
     · have kk :cN (p.funs.length:Int) 1 (p.nodes.length:Int) =true:=inB_iff.2 ⟨by omega,by omega⟩;by_cases k3:p.cons.length≤20
       · have hi:=fJ p.main 0 ((p.funs.length:Int) -1);cases k4:cN p.main 0 ((p.funs.length:Int) -1)with
         | false=>
          rw [k4]at hi;exact Ends.eqv (aKo p false sd sd sd sd sd hi rfl) (by simp [cZ,dT,k4])
         | true =>
          rw [k4]at hi;have hh:dT p=true:=by simp [dT,k0,kk,k4]
          have hc:=aP2 p.cons (by omega);cases k5:p.cons.all fH with
          | false=>
           rw [k5]at hc;exact Ends.eqv (aKp p true false sd sd sd sd sd hi rfl hc rfl) (by simp only [cZ,k5,Bool.and_false,Bool.false_and])
          | true=>
           rw [k5]at hc;have hm:=aP5 p.cons (by omega);have hd:=aIh (bB p.cons) (by simp [bB];omega);cases k6:bG (bB p.cons)with
           | false=>
            rw [k6]at hd;exact Ends.eqv (aKq p true true (bB p.cons) false sd sd sd sd sd hi rfl hc rfl hm hd rfl) (by simp only [cZ,k6,Bool.and_false,Bool.false_and])
           | true=>
            rw [k6]at hd;have hn:=aP3 p.nodes p (by omega) (fun x hx=>aNe p x (by omega) (by omega) (hno x hx).2 (hno x hx).1);cases k7:p.nodes.all (bC p)with
            | false=>
             rw [k7]at hn;exact Ends.eqv (aKr p true true (bB p.cons) true false sd sd sd sd sd hi rfl hc rfl hm hd rfl hn rfl) (by simp only [cZ,k7,Bool.and_false,Bool.false_and])
            | true=>
             rw [k7]at hn;refine(aKs p true true (bB p.cons) true true sd sd sd sd sd hi rfl hc rfl hm hd rfl hn rfl (by omega)).ends ?_;have hks:=aEE p.nodes (fun x hx=> (hno x hx).1);refine Ends.eqv (bF0 p hp (by omega) (by omega) (by omega) p.funs 0 _ (by omega) (by simp) ?_ rfl) ?_
             · intro q hq;have:= (List.mem_replicate.1 hq).2;omega
             ·simp only [cZ,hh,decide_eq_true k3,k5,k6,k7,Bool.true_and] <;>rfl
       ·exact Ends.eqv (aKn p sd sd sd sd) (by simp [cZ,k3])
     · have kk:cN (p.funs.length:Int) 1 (p.nodes.length:Int) =false:=inB_not.2 (by omega);exact Ends.eqv (aKm p sd sd sd) (by simp [cZ,dT,kk])
   · have kk:cN (p.funs.length:Int) 1 (p.nodes.length:Int) =false:=inB_not.2 (by omega);exact Ends.eqv (aKl p sd sd) (by simp [cZ,dT,kk])
 ·exact Ends.eqv (aKk p sd) (by simp [cZ,dT,k0])
theorem aKH (p:Prog)(hp:aM p=true) :Pure PP 138 [Prog.av p] (.int .i64 (checkN (cZ p))) :=by
 refine aT (by kernel_rfl) rfl rfl ?_;have h:=aIi p hp;cases k:cZ p with
 |false=>rw [k]at h;exact aM9 p false h rfl
 |true=>rw [k]at h;exact aNa p true h rfl
def cnt (b:Bool) :Int:=if b=true then 1 else 0
def tX (u:List Bool) :List Int:=u.map cnt
def aAw (c:List Int) :Prop:= (∃ (i:Nat) (z:Int),c[i]?=some z∧2≤z) ∧∀z∈c,0≤z
theorem aKI {c:List Int}(h:aAw c) :c.all one=false:=by
 obtain⟨⟨i,z,h1,h2⟩,_⟩ :=h;cases k:c.all one with
 |false=>rfl
 | true=>
  have:=List.all_eq_true.1 k z (mem_of_getElem? h1);simp only [one,decide_eq_true_eq]at this;omega
theorem aNf {c:List Int}{j:Nat}(h:aAw c) :aAw (c.set j (c.getD j 0+1)) :=by
 obtain⟨⟨i,z,h1,h2⟩,h3⟩ :=h;have hi:= (List.getElem?_eq_some_iff.1 h1).1;refine⟨⟨i,if j=i then z+1 else z,?_,by split<;>omega⟩,fun q hq=>?_⟩
 · rw [List.getElem?_set];by_cases e:j=i
   · subst e;rw [if_pos rfl,if_pos hi,if_pos rfl,getD_eq_getElem?_getD,h1];rfl
   ·rw [if_neg e,if_neg e];exact h1
 · rcases List.mem_or_eq_of_mem_set hq with g|g
   ·exact h3 q g
   · rw [g,getD_eq_getElem?_getD];cases k:c[j]? with
     |none=>simp
     |some w=>have:=h3 w (mem_of_getElem? k);simp;omega
theorem xA {lo n:Int}:∀ {ks c:List Int} {d:List Int},aAw c→nA lo n ks c=some d→aAw d
 | [],c,d,h,e=>by simp only [nA,Option.some.injEq]at e;rw [←e];exact h
 | k::ks,c,d,h,e=>by
  simp only [nA]at e;split at e
  ·exact xA (aNf h) e
  ·cases e
theorem aKJ (u:List Bool) :∀z∈tX u,0≤z:=fun z hz=>by
 obtain⟨b,_,rfl⟩ :=List.mem_map.1 hz;cases b<;>simp [cnt]
theorem aAx {lo n:Int}(hlo:0≤lo) :∀ (ks:List Int) (u:List Bool),n≤u.length →
  (∀v,marks lo n ks u=some v→nA lo n ks (tX u) =some (tX v)) ∧ (marks lo n ks u=none→∀d,nA lo n ks (tX u) =some d→aAw d)
 | [],u,hn=>by
  simp only [marks,nA,Option.some.injEq];exact⟨fun v e=>by rw [e],fun e=>by cases e⟩
 | k :: ks,u,hn=>by
  simp only [marks,nA];by_cases h1:cN k lo (n-1) =true
  · have hk:=inB_iff.1 h1;have hlt:k.toNat<u.length:=by omega
    have hget:u[k.toNat]?=some u[k.toNat] :=List.getElem?_eq_getElem hlt;have hc: (tX u).getD k.toNat 0=cnt u[k.toNat] :=by
     rw [getD_eq_getElem?_getD,tX,List.getElem?_map,hget];rfl
    rw [if_pos h1];cases hb:u[k.toNat]with
    | false=>
     rw [hb]at hget hc;rw [if_pos ⟨h1,hget⟩];have e: (tX u).set k.toNat ((tX u).getD k.toNat 0+1) =tX (u.set k.toNat true) :=by
      rw [hc,tX,tX,List.map_set];rfl
     rw [e];exact aAx hlo ks (u.set k.toNat true) (by simpa using hn)
    | true=>
     rw [hb]at hget hc;rw [if_neg (by rw [hget];simp)];refine And.intro (fun v e=>nomatch e) (fun _ d e=>xA (And.intro ⟨k.toNat,2,?_,by omega⟩ ?_) e)
     ·rw [hc,List.getElem?_set_self (by simp [tX];exact hlt)];rfl
     · intro z hz;rcases List.mem_or_eq_of_mem_set hz with g|g
       ·exact aKJ u z g
       ·rw [g,hc];simp [cnt]
  · rw [if_neg h1,if_neg (fun g=>h1 g.1)];exact And.intro (fun v e=>nomatch e) (fun _ d e=>nomatch e)
theorem qR (p:Prog) :∀ (t:List Node) (i:Nat) (c:List Int),aAw c→qD (lP p i t c) =false
 | [],i,c,h=>by rw [lP];exact aKI h
 | x::t,i,c,h=>by
  rw [lP];cases e:nA ((i:Int) +1) (p.nodes.length:Int) x.kids c with
  |none=>rfl
  |some d=>exact qR p t (i+1) d (xA h e)
theorem aGt :∀ (u:List Bool),(tX u).all one=u.all fun b=>b
 | [] =>rfl
 | b::u=>by
  have:=aGt u;simp only [tX,List.map_cons,all_cons]at this ⊢;rw [this];cases b<;>simp [cnt,one]
theorem aKK (p:Prog) :∀ (t:List Node) (i:Nat) (u:List Bool),u.length=p.nodes.length→t.all (bC p) =true→allT (cM p i t u) =qD (lP p i t (tX u))
 | [],i,u,hu,_=>by simp only [cM,lP,allT,qD,aGt]
 | x::t,i,u,hu,ha=>by
  simp only [all_cons,and_eq_true]at ha;obtain⟨m1,m2⟩ :=aAx (lo:= (i:Int) +1) (n:= (p.nodes.length:Int)) (by omega) x.kids u (by omega);simp only [cM,lP,if_pos ha.1];cases hm:marks ((i:Int) +1) (p.nodes.length:Int) x.kids u with
  | some v=>
   rw [m1 v hm];exact aKK p t (i+1) v (by rw [lN hm,hu]) ha.2
  | none=>
   cases hi:nA ((i:Int) +1) (p.nodes.length:Int) x.kids (tX u)with
   |none=>rfl
   |some d=>exact(qR p t (i+1) d (m2 hm d hi)).symm
theorem aBq (p:Prog) :∀ (t:List Node) (i:Nat) (u:List Bool),t.all (bC p) =false→allT (cM p i t u) =false
 | [],i,u,h=>by simp at h
 | x ::t,i,u,h=>by
  simp only [cM];by_cases hx:bC p x=true
  · rw [if_pos hx];have ht:t.all (bC p) =false:=by simpa [hx]using h
    cases marks ((i:Int) +1) (p.nodes.length:Int) x.kids u with
    |none=>rfl
    |some v=>exact aBq p t (i+1) v ht
  ·rw [if_neg hx];rfl
theorem aP6 (p:Prog) :cZ p=bA p:=by
 have e1:cZ p= (dT p&&wY p.cons&& (p.nodes.all (bC p) && (match nA 0 (p.nodes.length:Int) p.funs (replicate p.nodes.length 0)with
  |some v=>qD (lP p 0 p.nodes v)
  |none=>false))) :=by
  unfold cZ wY;cases dT p<;>cases p.cons.all fH<;>cases bG (bB p.cons) <;>cases p.nodes.all (bC p) <;>cases decide (p.cons.length≤20) <;>simp
 rw [e1,bA];congr 1;have ez:replicate p.nodes.length (0:Int) =tX (replicate p.nodes.length false) :=by rw [tX,List.map_replicate];rfl
 rw [ez];obtain⟨m1,m2⟩ :=aAx (lo:=0) (n:= (p.nodes.length:Int)) (by omega) p.funs (replicate p.nodes.length false) (by simp);cases hm:marks 0 (p.nodes.length:Int) p.funs (replicate p.nodes.length false)with
 | some v=>
  rw [m1 v hm];cases ha:p.nodes.all (bC p)with
  |true=>simp only [Bool.true_and];exact(aKK p p.nodes 0 v (by rw [lN hm];simp) ha).symm
  |false=>simp only [Bool.false_and];exact(aBq p p.nodes 0 v ha).symm
 | none=>
  simp only;cases hi:nA 0 (p.nodes.length:Int) p.funs (tX (replicate p.nodes.length false))with
  |none=>simp
  |some d=>simp only [qR p p.nodes 0 d (m2 hm d hi),Bool.and_false]
theorem Ends.val {P:Program}{m:Nat}{s:AS}{v v':AV}{h':Hp}(h:Ends P m s (.ret v) h')(hv:∀E cv,VR E v cv→VR E v' cv) :Ends P m s (.ret v') h':=fun hm E fr ccs w f fs r cl base=>by
 obtain⟨cl',w',E',s1,⟨cv,e,g⟩,r2,x2⟩ :=h hm E fr ccs w f fs r cl base;exact⟨cl',w',E',s1,⟨cv,e,hv _ _ g⟩,r2,x2⟩
mutual
def bnm :Pat→Int
 | .mk f _ _ ps=>if f=2 then 1 else aZ2 ps
def aZ2 :List Pat→Int
 | [] =>0
 |p::ps=>bnm p+aZ2 ps
end
def aKL (x:Node)(k:Int) :Int:=
 if x.op=5∨x.op=27∨ (x.op=7∧k=1)then 1
 else if x.op=15∧k>0 then(match x.pats[(k-1).toNat]? with|some q=>bnm q|none=>0)else 0
structure FineN (cons:List Con) (x:Node) :Prop where
 pats:∀q∈x.pats,cR q≤12∧cS cons q=true
 mat:x.op=15→x.kids.length=1+x.pats.length
 let2:x.op=7→x.kids.length=2
theorem aIj {p:Prog}{x:Node}(h:bC p x=true) :FineN p.cons x:=by
 simp only [bC,and_eq_true,decide_eq_true_eq]at h;obtain⟨⟨_,h2⟩,h3⟩ :=h;refine⟨fun q hq=>?_,fun e=>?_,fun e=>?_⟩
 · have:=List.all_eq_true.1 h2 q hq;simpa [gI]using this
 ·rw [e]at h3;simp [dD]at h3;omega
 ·rw [e]at h3;simp [dD]at h3;omega
structure FineP (p:Prog) :Prop where
 small:p.nodes.length≤320
 fsmall:p.funs.length≤320
 node:∀ (i:Nat) (x:Node),p.nodes[i]?=some x→FineN p.cons x∧x.kids.length≤10∧∀k∈x.kids,(i:Int) <k∧k<p.nodes.length
 funs:∀f∈p.funs,0≤f∧f<p.nodes.length
def wAs (f:Int→List Int×Int→Option (List Int×Int)) :List Int→List Int×Int→Option (List Int×Int)
 | [],s=>some s
 | k::ks,s=>match f k s with
  |some s'=>wAs f ks s'
  |none=>none
def wA (p:Prog) :Nat→Int→List Int×Int→Option (List Int×Int)
 |0,_,_=>none
 | f+1,a,(l,n) =>if -1000000000≤n∧n≤1000000000 then match p.nodes[a.toNat]? with
  |some x=>wAs (wA p f) x.kids (l.set a.toNat n,n+1)
  |none=>none
  else none
section
variable (p :Prog) (mf mc:List (Int×Int))
variable {p mf mc}
end
theorem lQ {P:Program}{f:Nat}{args args':List AV}{v v':AV}{l l' lc lc':List (Nat×AObj×Bool)}{m nb nb' n2 n3:Nat}{ks:List Nat}
  (h0:aF9 P m (.enter f args) (aG l nb) (.ret v) (aG l' nb')) (e3:nb'-m+n2=n3) (ev:AV.ren (pE m n2 ks) v=v') (hargs:AV.renL (eC 0 nb n2 ks) args=args') (hm:Nat.ble m nb=true) (hm':Nat.ble m nb'=true)
  (hin:dI 0 ⟨⟨0,0,[],[],[],.run,.normal,none⟩,[],l,nb⟩ ks=true) (hl:wO (aG lc n2) (eC 0 nb n2 ks) l=jJ (eC 0 nb n2 ks) l) (hkl:jK l)
  (hl':wO (aG lc' n3) (pE m n2 ks) l'=jJ (pE m n2 ks) l') (hkl':jK l') (hpl:aAp l'=true:=by kernel_rfl) (hk':hY nb' l'=true:=by kernel_rfl)
  (hx:hY n2 lc=true:=by kernel_rfl) (hx':hY n3 lc'=true:=by kernel_rfl) (hlt:ks.all (fun k=>Nat.blt k n2) =true:=by kernel_rfl) (hout:aD7 (namesT (pE m n2 ks) l') ks (aG lc n2) lc'=tH lc':=by kernel_rfl) (hll:tH l'= (l'.map fun p=> (aG l' nb').look p.1) :=by kernel_rfl) :
  Spec P (.enter f args') (aG lc n2) (.ret v') (aG lc' n3) :=by
 subst e3 ev;exact aRd h0 hargs hm hm' hin hl hkl hl' hkl' hpl hk' hx hx' hlt hout hll
def bN (mf mc:List (Int×Int))(op n:Int) :Int:=if op=4 then(if 0≤n then n else -1-kO mf (-1-n))else if op=14 then kO mc n else n
def eT (mf mc:List (Int×Int))(to:List Int)(x:Node) :Node:= ⟨x.op,bN mf mc x.op x.n,x.kids.map (iH to),fK mc x.pats⟩
def nOk (mf:List (Int×Int))(x:Node) :Prop:=bF x.pats<1000000∧ (x.op=4→x.n<0→ -1000000000≤x.n∧ -1000000000≤kO mf (-1-x.n) ∧kO mf (-1-x.n) ≤1000000000)
def wB (p:Prog)(mf mc:List (Int×Int))(to:List Int) :Nat→Int→List Node
 |0,_=>[]
 | f+1,a=>match p.nodes[a.toNat]? with
  |some x=>eT mf mc to x:: (x.kids.map (wB p mf mc to f)).flatten
  |none=>[]
section
variable (p :Prog) (mf mc:List (Int×Int)) (to:List Int)
variable {p mf mc to}
end
def aSH (p:Prog)(mf mc:List (Int×Int))(to:List Int)(f:Nat) :List Node:= (p.funs.map (wB p mf mc to f)).flatten
section
variable {p :Prog} {mf mc:List (Int×Int)}
end
def sM :Nat→List (Int×Int)
 |0=>[]
 |n+1=>bT (n:Int) (n:Int) (sM n)
theorem rK {α β:Type}[DecidableEq α](k k':α)(v:β) :∀ (l:List (α×β)),dR k (bT k' v l) =if k=k' then some v else dR k l
 | [] =>by simp [bT,dR]
 | e ::l=>by
  simp only [bT];split
  · rename_i h;subst h;simp only [dR];split<;>rfl
  · rename_i h;simp only [dR,rK k k' v l];by_cases h1:k=e.1
    · subst h1;rw [if_pos rfl,if_pos rfl,if_neg (fun e=>h e.symm)]
    ·rw [if_neg h1,if_neg h1]
theorem aSI :∀ (n:Nat) (i:Int),0≤i→i<n→dR i (sM n) =some i
 |0,i,h0,h1=>by omega
 | n+1,i,h0,h1=>by
  rw [sM,rK];by_cases h:i= (n:Int)
  ·rw [if_pos h,h]
  ·rw [if_neg h];exact aSI n i h0 (by omega)
theorem aYf {n:Nat}{i:Int}(h0:0≤i)(h1:i<n) :kO (sM n) i=i:=by unfold kO;rw [aSI n i h0 h1];rfl
theorem aP7 {P:Program}{m:Nat}{s:AS}{v v':AV}{h':Hp}(h:Ends P m s (.ret v) h')(hv:∀ (E:Emb) (cv:Value),VR E v cv→VR E v' cv) :Ends P m s (.ret v') h':=fun hm E fr ccs w f fs r cl base=>by
 obtain⟨cl',w',E',s1,⟨cv,rfl,g2⟩,r2,x2⟩ :=h hm E fr ccs w f fs r cl base;exact⟨_,w',E',s1,⟨cv,rfl,hv E' cv g2⟩,r2,x2⟩
theorem gJ {E:Emb}{e:Nat}{xs:List AV}{cv:Value}(h:VR E (.ilst e xs true) cv) :VR E (.ilst e xs false) cv:=by
 simp only [VR]at h ⊢;obtain⟨vs,h1,h2,h3⟩ :=h;refine⟨vs,h1,h2,?_⟩;rcases h3 with⟨rfl,a,cap,rfl,g,_⟩ | ⟨k,a,cap,C,g1,g2,g3,_,g5⟩
 ·exact .inl ⟨rfl,a,cap,rfl,g,fun hh=>by cases hh⟩
 ·exact .inr ⟨k,a,cap,C,g1,g2,g3,(fun hh=>by cases hh),g5⟩
section
variable {p :Prog}
end
end
end Go.Hb
