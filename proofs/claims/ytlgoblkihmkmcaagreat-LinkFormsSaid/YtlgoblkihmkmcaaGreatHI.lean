/- A machine on abstract values, its soundness, ways, plain laws. -/
import Derived.Test.YtlgoblkihmkmcaaGreatHF
import Derived.Test.YtlgoblkihmkmcaaGreatHG
import Derived.Test.YtlgoblkihmkmcaaGreatHH
set_option linter.defProp false
set_option linter.unusedVariables false
set_option linter.unusedSimpArgs false
set_option linter.unusedSectionVars false
set_option maxRecDepth 100000
set_option maxHeartbeats 8000000
namespace Go.Hb
open Bool (and_eq_true decide_and)
open List (all_cons getD_eq_getElem?_getD length length_cons map mem_of_getElem? replicate)
open Terms (av)
open Go.Proofs Tryz
noncomputable section
def aAo :List aA→List (aA×Bool) →List (aA×Bool)
 | [],m=>m
 |x::t,m=>aAo t (bS x true m)
theorem aDj (l:List aA)(hl:l.length<1000000) :∀ (t:List aA) (i:Nat) (m:List (aA×Bool)),l.drop i=t→Ends PP 0 (xF l (i:Int) m).as (.ret (.bool (decide ((aAo t m).length=l.length)))) (aG [] 0)
 | [],i,m,h=>by
  have:=aZ h;refine Ends.eqv (bAx l i m|>.f sd tv) ?_;have: (((length m:Nat) :Int) == ((length l:Nat) :Int)) =decide (m.length=l.length) :=by
   by_cases k:m.length=l.length<;>simp [k] <;>omega
  rw [this];rfl
 | x::t,i,m,h=>by
  obtain⟨g1,g2,g3⟩ :=aY h;refine(bAx l i m|>.t sd x sd sd sd ⟨aH (fun _=>rfl) (fun _=>rfl) _ _ _,trivial⟩).ends ?_;exact aDj l hl t (i+1) _ g2
theorem aGE {k:aA}{v w:Bool}:∀ {m:List (aA×Bool)},cI k m=some w→ (bS k v m).map Prod.fst=m.map Prod.fst
 | [],h=>by cases h
 | e::m,h=>by
  unfold cI at h;unfold bS;split at h
  ·rename_i hk;rw [if_pos hk];simp [hk]
  ·rename_i hk;rw [if_neg hk];simp [aGE h]
theorem aGF {k:aA}{v:Bool}:∀ {m:List (aA×Bool)},cI k m=none→ (bS k v m).map Prod.fst=m.map Prod.fst++ [k]
 | [],_=>rfl
 | e::m,h=>by
  unfold cI at h;unfold bS;split at h
  ·cases h
  ·rename_i hk;rw [if_neg hk];simp [aGF h]
theorem aGG {k:aA}:∀ {m:List (aA×Bool)},(cI k m).isSome=cA (m.map Prod.fst) k
 | [] =>rfl
 | e ::m=>by
  unfold cI;split
  ·rename_i hk;simp [cA,hk]
  · rename_i hk;have:¬e.1=k:=fun h=>hk h.symm;rw [aGG];simp [cA,this]
theorem aIw :∀ (t:List aA) (m:List (aA×Bool)),(aAo t m).length≤m.length+t.length
 | [],m=>by simp [aAo]
 | x::t,m=>by
  have a:=aIw t (bS x true m);have b: (bS x true m).length≤m.length+1:=by
   cases h:cI x m with
   |none=>have:=congrArg length (aGF (v:=true) h);simp at this;omega
   |some w=>have:=congrArg length (aGE (v:=true) h);simp at this;omega
  simp only [aAo,length_cons];omega
theorem aGH :∀ (t:List aA) (m:List (aA×Bool)),(aAo t m).length=m.length+t.length↔cM (m.map Prod.fst) t=true
 | [],m=>by simp [aAo,cM]
 | x::t,m=>by
  simp only [aAo,cM];cases h:cI x m
  case some w=>
   have e:=aGE (v:=true) h;have hs:cA (m.map Prod.fst) x=true:=by rw [←aGG,h];rfl
   have a:=aIw t (bS x true m);have b:=congrArg length e;simp only [List.length_map]at b;rw [hs];constructor
   ·intro g;simp only [length_cons]at g;omega
   ·intro g;simp at g
  have e:=aGF (v:=true) h;have hs:cA (m.map Prod.fst) x=false:=by rw [←aGG,h];rfl
  have ih:=aGH t (bS x true m);have b:=congrArg length e;simp only [List.length_map,List.length_append,List.length_singleton]at b;rw [hs,←e];simp only [Bool.not_false,Bool.true_and,length_cons];rw [←ih,b];omega
theorem aKd (l:List aA)(hl:l.length<1000000) :Pure PP 225 [.ilst 1 (map aD l) false] (.bool (cU l)) :=by
 refine aP (by kernel_rfl) rfl rfl ((aMd l).ends (Ends.eqv (aDj l hl l 0 [] rfl) ?_));have:=aGH l [];simp only [List.length_nil,Nat.zero_add,List.map_nil]at this;congr 1;cases k:cU l
 case true=>exact decide_eq_true (this.2 k)
 exact decide_eq_false fun g=>by have:=this.1 g;unfold cU at k;rw [k]at this;cases this
theorem aIx (l:List Con)(hl:l.length<1000000) :∀ (t:List Con) (i:Nat),l.drop i=t→Ends PP 0 (aFx l (i:Int)).as (.ret (.bool (t.all jK))) (aG [] 0)
 | [],i,h=>by
  have:=aZ h;exact Ends.eqv (aZF l i|>.f sd tv) (by simp)
 | c::t,i,h=>by
  obtain⟨g1,g2,g3⟩ :=aY h;have hq:=aRx c;cases k:jK c
  case false=>rw [k]at hq;exact Ends.eqv (aZF l i|>.t sd c sd sd false hq|>.t rfl tv) (by simp [k])
  rw [k]at hq;refine(aZF l i|>.t sd c sd sd true hq|>.f rfl sd tv).ends ?_;exact Ends.eqv (aIx l hl t (i+1) g2) (by simp [k])
theorem aRC (l:List Con)(hl:l.length<1000000) :Pure PP 223 [.ilst 2 (map Con.av l) false,.func 224 [] []] (.bool (l.all jK)) :=
 aP (by kernel_rfl) rfl rfl ((aTd l).ends (aIx l hl l 0 rfl))
theorem aIy (l:List Node)(p:Prog)(hl:l.length<1000000)(ih:∀x∈l,Pure PP 229 [Prog.av p,Node.av x] (.bool (cY p x))) :∀ (t:List Node) (i:Nat),l.drop i=t→Ends PP 0 (aFw l p (i:Int)).as (.ret (.bool (t.all (cY p)))) (aG [] 0)
 | [],i,h=>by
  have:=aZ h;exact Ends.eqv (aZE l p i|>.f sd tv) (by simp)
 | c::t,i,h=>by
  obtain⟨g1,g2,g3⟩ :=aY h;have hq:=ih c (mem_of_getElem? g1);cases k:cY p c
  case false=>rw [k]at hq;exact Ends.eqv (aZE l p i|>.t sd c sd sd false hq|>.t rfl tv) (by simp [k])
  rw [k]at hq;refine(aZE l p i|>.t sd c sd sd true hq|>.f rfl sd tv).ends ?_;exact Ends.eqv (aIy l p hl ih t (i+1) g2) (by simp [k])
theorem aRD (l:List Node)(p:Prog)(hl:l.length<1000000)(ih:∀x∈l,Pure PP 229 [Prog.av p,Node.av x] (.bool (cY p x))) :Pure PP 228 [.ilst 4 (map Node.av l) false,.func 229 [Prog.av p] []] (.bool (l.all (cY p))) :=
 aP (by kernel_rfl) rfl rfl ((aTc l p).ends (aIy l p hl ih l 0 rfl))
def one (k:Int) :Bool:=decide (k=1)
theorem aIz (l:List Int)(hl:l.length<1000000) :∀ (t:List Int) (i:Nat),l.drop i=t→Ends PP 0 (aFy l (i:Int)).as (.ret (.bool (t.all one))) (aG [] 0)
 | [],i,h=>by
  have:=aZ h;exact Ends.eqv (aZG l i|>.f sd tv) (by simp)
 | c ::t,i,h=>by
  obtain⟨g1,g2,g3⟩ :=aY h;by_cases k:c=1
  · refine(aZG l i|>.t sd c sd sd|>.f (by simp [k]) sd tv).ends ?_;exact Ends.eqv (aIz l hl t (i+1) g2) (by simp [k,one])
  ·exact Ends.eqv (aZG l i|>.t sd c sd sd|>.t (by simp [k]) tv) (by simp [k,one])
theorem aRE (l:List Int)(hl:l.length<1000000) :Pure PP 230 [.ilst 1 (map bM l) true,.func 231 [] []] (.bool (l.all one)) :=
 aP (by kernel_rfl) rfl rfl ((aTe l).ends (aIz l hl l 0 rfl))
theorem aIA (l:List Con)(hl:l.length<100000) :∀ (t:List Con) (i:Nat),l.drop i=t→Ends PP 0 (aFz l (i:Int) (bO (l.take i))).as (.ret (.ilst 1 (map aD (bO l)) false)) (aG [] 0)
 | [],i,h=>by
  have hi:=aZ h;have e:bO (l.take i) =bO l:=by rw [List.take_of_length_le hi]
  rw [e];exact bAy l i _|>.f sd tv
 | c::t,i,h=>by
  obtain⟨g1,g2,g3⟩ :=aY h;have e:bO (l.take i) ++ [c.name] =bO (l.take (i+1)) :=by
   rw [List.take_add_one,g1];simp [bO]
  refine(bAy l i (bO (l.take i))|>.t sd c sd sd (by simp [bO];omega) sd ⟨kk,trivial⟩).ends ?_;rw [e];exact aIA l hl t (i+1) g2
theorem aRF (l:List Con)(hl:l.length<100000) :Pure PP 226 [.ilst 2 (map Con.av l) false,.func 227 [] []] (.ilst 1 (map aD (bO l)) false) :=
 aP (by kernel_rfl) rfl rfl ((aTf l).ends (aIA l hl l 0 rfl))
def pL (lo n:Int) :List Int→List Int→Option (List Int)
 | [],c=>some c
 |k::ks,c=>if bG k lo (n-1) =true then pL lo n ks (c.set k.toNat (c.getD k.toNat 0+1))else none
def nT (p:Prog) :Nat→List Node→List Int→Option (List Int)
 |_,[],c=>some c
 | i,x::t,c=>match pL ((i:Int) +1) (p.nodes.length:Int) x.kids c with
   |some d=>nT p (i+1) t d
   |none=>none
def tA :Option (List Int) →Bool
 |some c=>c.all one
 |none=>false
def below (b:Int)(c:List Int) :Prop:=∀k∈c,0≤k∧k≤b
theorem aEh {b:Int}{c:List Int}(h:below b c){i:Nat}{z:Int}(hz:c[i]?=some z) :0≤z∧z≤b:=h z (mem_of_getElem? hz)
theorem aIB {b:Int}{c:List Int}(h:below b c){i:Nat}{z:Int}(hz:c[i]?=some z) :below (b+1) (c.set i (z+1)) :=fun k hk=>by
 rcases List.mem_or_eq_of_mem_set hk with g|g
 ·have:=h k g;omega
 ·have:=aEh h hz;omega
theorem bF2 (p:Prog)(i:Nat)(hi:i<p.nodes.length)(hn:p.nodes.length≤1000)(ks:List Int)(hk:ks.length≤1000)(K:List Int→Bool)(B:Int)(hB:0≤B)(hB2:B≤1000000)
  (hb:∀v:List Int,v.length=p.nodes.length→below (B+ks.length) v→Ends PP 0 (rG p v ((i:Int) +1)).as (.ret (.bool (K v))) (aG [] 0)) :
  ∀ (t:List Int) (k:Nat) (c:List Int),c.length=p.nodes.length→k≤ks.length→below (B+k) c→ks.drop k=t→Ends PP 0 (xH p ks (ks.length:Int) c (k:Int) (i:Int) (i:Int)).as (.ret (.bool (match pL ((i:Int) +1) p.nodes.length t c with|some v=>K v|none=>false))) (aG [] 0)
 | [],k,c,hc,hkl,hbl,h=>by
  have:=aZ h;have e:k=ks.length:=by omega
  subst e;refine(aZI p ks ks.length c ks.length i i|>.f sd sd ⟨kk,trivial⟩).ends ?_;exact hb c hc hbl
 | y::t,k,c,hc,hkl,hbl,h=>by
  obtain⟨g1,g2,g3⟩ :=aY h;have hin:=iF y ((i:Int) +1) ((p.nodes.length:Int) -1);cases k1:bG y ((i:Int) +1) ((p.nodes.length:Int) -1)
  case false=>
   rw [k1]at hin;exact Ends.eqv (aZI p ks ks.length c k i i|>.t sd y sd sd sd sd false hin|>.t rfl tv) (by simp [pL,k1])
  rw [k1]at hin;have hy:=inB_iff.1 k1;obtain⟨z,hz⟩ :∃z,c[y.toNat]?=some z:= ⟨_,List.getElem?_eq_getElem (by omega)⟩;have hzb:=aEh hbl hz;refine(aZI p ks ks.length c k i i|>.t sd y sd sd sd sd true hin|>.f rfl (by omega) (by omega) z hz sd (by omega) (by omega) hz sd ⟨kk,trivial⟩).ends ?_;have e:c.getD y.toNat 0=z:=by rw [getD_eq_getElem?_getD,hz];rfl
  have ei:pL ((i:Int) +1) p.nodes.length (y::t) c=pL ((i:Int) +1) p.nodes.length t (c.set y.toNat (z+1)) :=by
   rw [pL,if_pos k1,e]
  rw [ei];refine bF2 p i hi hn ks hk K B hB hB2 hb t (k+1) (c.set y.toNat (z+1)) (by simpa using hc) (by omega) ?_ g2;have:=aIB hbl hz;intro q hq;have:=this q hq
  push_cast
  omega
def xJ :List Node→Nat
 | [] =>0
 |x::t=>x.kids.length+xJ t
theorem aGI :∀ (t:List Node),(∀x∈t,x.kids.length≤10) →xJ t≤10*t.length
 | [],_=>by simp [xJ]
 | x::t,h=>by
  have a:=aGI t (fun y hy=>h y (List.mem_cons_of_mem _ hy));have b:=h x (List.mem_cons_self ..);simp only [xJ,length_cons];omega
theorem bF1 (p:Prog)(hp:aW p=true)(hn:p.nodes.length≤1000) :∀ (t:List Node) (i:Nat) (c:List Int) (B:Int),0≤B→B+xJ t≤100000→c.length=p.nodes.length→below B c→p.nodes.drop i=t →
  Ends PP 0 (rG p c (i:Int)).as (.ret (.bool (tA (nT p i t c)))) (aG [] 0)
 | [],i,c,B,h0,h1,hc,hb,h=>by
  have:=aZ h;exact Ends.eqv (bAz p c i|>.f sd _ (aRE c (by omega)) tv) rfl
 | x::t,i,c,B,h0,h1,hc,hb,h=>by
  obtain⟨g1,g2,g3⟩ :=aY h;have hx:cE x=true:=by
   simp only [aW,and_eq_true]at hp;exact List.all_eq_true.1 hp.2 x (mem_of_getElem? g1)
  simp only [cE,and_eq_true,decide_eq_true_eq]at hx;simp only [xJ]at h1;refine(bAz p c i|>.t sd x sd sd ⟨kk,trivial⟩).ends ?_;refine Ends.eqv (bF2 p i g3 hn x.kids (by omega) (fun v=>tA (nT p (i+1) t v)) B h0 (by omega) (fun v hv hbv=>bF1 p hp hn t (i+1) v (B+x.kids.length) (by omega) (by omega) hv hbv g2) x.kids 0 c hc (by omega) (by simpa using hb) rfl) ?_;rw [nT];cases pL ((i:Int) +1) (p.nodes.length:Int) x.kids c<;>rfl
theorem bF0 (p:Prog)(hp:aW p=true)(hn:p.nodes.length≤1000)(hks:xJ p.nodes≤10000)(hf:p.funs.length≤1000) :∀ (t:List Int) (i:Nat) (c:List Int),i≤p.funs.length→c.length=p.nodes.length→below (i:Int) c→p.funs.drop i=t →
  Ends PP 0 (xG p (i:Int) c).as (.ret (.bool (match pL 0 p.nodes.length t c with|some v=>tA (nT p 0 p.nodes v) |none=>false))) (aG [] 0)
 | [],i,c,hi,hc,hb,h=>by
  have:=aZ h;refine(aZH p i c|>.f sd ⟨kk,trivial⟩).ends ?_;exact bF1 p hp hn p.nodes 0 c i (by omega) (by omega) hc hb rfl
 | y::t,i,c,hi,hc,hb,h=>by
  obtain⟨g1,g2,g3⟩ :=aY h;have hin:=iF y 0 ((p.nodes.length:Int) -1);cases k1:bG y 0 ((p.nodes.length:Int) -1)
  case false=>
   rw [k1]at hin;exact Ends.eqv (aZH p i c|>.t sd y sd sd sd false hin|>.t rfl tv) (by simp [pL,k1])
  rw [k1]at hin;have hy:=inB_iff.1 k1;obtain⟨z,hz⟩ :∃z,c[y.toNat]?=some z:= ⟨_,List.getElem?_eq_getElem (by omega)⟩;have hzb:=aEh hb hz;refine(aZH p i c|>.t sd y sd sd sd true hin|>.f rfl (by omega) (by omega) z hz sd (by omega) (by omega) hz sd ⟨kk,trivial⟩).ends ?_;have e:c.getD y.toNat 0=z:=by rw [getD_eq_getElem?_getD,hz];rfl
  have ei:pL 0 p.nodes.length (y::t) c=pL 0 p.nodes.length t (c.set y.toNat (z+1)) :=by
   rw [pL,if_pos k1,e]
  rw [ei];refine bF0 p hp hn hks hf t (i+1) (c.set y.toNat (z+1)) (by omega) (by simpa using hc) ?_ g2;have:=aIB hb hz;intro q hq;have:=this q hq
  push_cast
  omega
def eA (p:Prog) :Bool:=
 fS p&&decide (p.cons.length≤20) &&p.cons.all jK&&cU (bO p.cons) &&p.nodes.all (cY p) &&
  (match pL 0 (p.nodes.length:Int) p.funs (replicate p.nodes.length 0)with
  |some v=>tA (nT p 0 p.nodes v)
  |none=>false)
theorem aMw {p:Prog}(hp:aW p=true) :∀x∈p.nodes,x.kids.length≤10∧x.pats.length≤10:=fun x hx=>by
 simp only [aW,and_eq_true]at hp;have:=List.all_eq_true.1 hp.2 x hx;simp only [cE,and_eq_true,decide_eq_true_eq]at this;exact this.1
theorem aKe (p:Prog)(hp:aW p=true) :Pure PP 190 [Prog.av p] (.bool (eA p)) :=by
 refine aP (by kernel_rfl) rfl rfl ?_;have hs:=hp;simp only [aW,and_eq_true,decide_eq_true_eq]at hs;obtain⟨⟨⟨⟨s1,s2⟩,s3⟩,_⟩,_⟩ :=hs;have hno:=aMw hp;by_cases k0:p.nodes.length≤300
 · by_cases k1:1≤p.funs.length
   · by_cases k2:p.funs.length≤p.nodes.length
     · have kk:bG (p.funs.length:Int) 1 (p.nodes.length:Int) =true:=inB_iff.2 ⟨by omega,by omega⟩;by_cases k3:p.cons.length≤20
       · have hi:=iF p.main 0 ((p.funs.length:Int) -1);cases k4:bG p.main 0 ((p.funs.length:Int) -1)
         case false=>
          rw [k4]at hi;exact Ends.eqv (aMi p false sd sd sd sd sd hi rfl) (by simp [eA,fS,k4])
         rw [k4]at hi;have hh:fS p=true:=by simp [fS,k0,kk,k4]
         have hc:=aRC p.cons (by omega);cases k5:p.cons.all jK
         case false=>
          rw [k5]at hc;exact Ends.eqv (aMj p true false sd sd sd sd sd hi rfl hc rfl) (by simp only [eA,k5,Bool.and_false,Bool.false_and])
         rw [k5]at hc;have hm:=aRF p.cons (by omega);have hd:=aKd (bO p.cons) (by simp [bO];omega);cases k6:cU (bO p.cons)
         case false=>
          rw [k6]at hd;exact Ends.eqv (aMk p true true (bO p.cons) false sd sd sd sd sd hi rfl hc rfl hm hd rfl) (by simp only [eA,k6,Bool.and_false,Bool.false_and])
         rw [k6]at hd;have hn:=aRD p.nodes p (by omega) (fun x hx=>aOu p x (by omega) (by omega) (hno x hx).2 (hno x hx).1);cases k7:p.nodes.all (cY p)
         case false=>
          rw [k7]at hn;exact Ends.eqv (aMl p true true (bO p.cons) true false sd sd sd sd sd hi rfl hc rfl hm hd rfl hn rfl) (by simp only [eA,k7,Bool.and_false,Bool.false_and])
         rw [k7]at hn;refine(aMm p true true (bO p.cons) true true sd sd sd sd sd hi rfl hc rfl hm hd rfl hn rfl (by omega)).ends ?_;have hks:=aGI p.nodes (fun x hx=> (hno x hx).1);refine Ends.eqv (bF0 p hp (by omega) (by omega) (by omega) p.funs 0 _ (by omega) (by simp) ?_ rfl) ?_
         · intro q hq;have:= (List.mem_replicate.1 hq).2;omega
         ·simp only [eA,hh,decide_eq_true k3,k5,k6,k7,Bool.true_and] <;>rfl
       ·exact Ends.eqv (aMh p sd sd sd sd) (by simp [eA,k3])
     · have kk:bG (p.funs.length:Int) 1 (p.nodes.length:Int) =false:=inB_not.2 (by omega);exact Ends.eqv (aMg p sd sd sd) (by simp [eA,fS,kk])
   · have kk:bG (p.funs.length:Int) 1 (p.nodes.length:Int) =false:=inB_not.2 (by omega);exact Ends.eqv (aMf p sd sd) (by simp [eA,fS,kk])
 ·exact Ends.eqv (aMe p sd) (by simp [eA,fS,k0])
theorem aMx (p:Prog)(hp:aW p=true) :Pure PP 141 [Prog.av p] (.int .i64 (checkN (eA p))) :=by
 refine aP (by kernel_rfl) rfl rfl ?_;have h:=aKe p hp;cases k:eA p
 case false=>rw [k]at h;exact aOq p false h rfl
 rw [k]at h;exact aOr p true h rfl
def cnt (b:Bool) :Int:=if b=true then 1 else 0
def xK (u:List Bool) :List Int:=u.map cnt
def aCi (c:List Int) :Prop:= (∃ (i:Nat) (z:Int),c[i]?=some z∧2≤z) ∧∀z∈c,0≤z
theorem aMy {c:List Int}(h:aCi c) :c.all one=false:=by
 obtain⟨⟨i,z,h1,h2⟩,_⟩ :=h;cases k:c.all one
 case false=>rfl
 have:=List.all_eq_true.1 k z (mem_of_getElem? h1);simp only [one,decide_eq_true_eq]at this;omega
theorem aOv {c:List Int}{j:Nat}(h:aCi c) :aCi (c.set j (c.getD j 0+1)) :=by
 obtain⟨⟨i,z,h1,h2⟩,h3⟩ :=h;have hi:= (List.getElem?_eq_some_iff.1 h1).1;refine⟨⟨i,if j=i then z+1 else z,?_,by split<;>omega⟩,fun q hq=>?_⟩
 · rw [List.getElem?_set];by_cases e:j=i
   · subst e;rw [if_pos rfl,if_pos hi,if_pos rfl,getD_eq_getElem?_getD,h1];rfl
   ·rw [if_neg e,if_neg e];exact h1
 · rcases List.mem_or_eq_of_mem_set hq with g|g
   ·exact h3 q g
   · rw [g,getD_eq_getElem?_getD];cases k:c[j]? with
     |none=>simp
     |some w=>have:=h3 w (mem_of_getElem? k);simp;omega
theorem aAp {lo n:Int}:∀ {ks c:List Int} {d:List Int},aCi c→pL lo n ks c=some d→aCi d
 | [],c,d,h,e=>by simp only [pL,Option.some.injEq]at e;rw [←e];exact h
 | k::ks,c,d,h,e=>by
  simp only [pL]at e;split at e
  ·exact aAp (aOv h) e
  ·cases e
theorem aMz (u:List Bool) :∀z∈xK u,0≤z:=fun z hz=>by
 obtain⟨b,_,rfl⟩ :=List.mem_map.1 hz;cases b<;>simp [cnt]
theorem aCj {lo n:Int}(hlo:0≤lo) :∀ (ks:List Int) (u:List Bool),n≤u.length →
  (∀v,marks lo n ks u=some v→pL lo n ks (xK u) =some (xK v)) ∧ (marks lo n ks u=none→∀d,pL lo n ks (xK u) =some d→aCi d)
 | [],u,hn=>by
  simp only [marks,pL,Option.some.injEq];exact⟨fun v e=>by rw [e],fun e=>by cases e⟩
 | k ::ks,u,hn=>by
  simp only [marks,pL];by_cases h1:bG k lo (n-1) =true
  · have hk:=inB_iff.1 h1;have hlt:k.toNat<u.length:=by omega
    have hget:u[k.toNat]?=some u[k.toNat] :=List.getElem?_eq_getElem hlt;have hc: (xK u).getD k.toNat 0=cnt u[k.toNat] :=by
     rw [getD_eq_getElem?_getD,xK,List.getElem?_map,hget];rfl
    rw [if_pos h1];cases hb:u[k.toNat]
    case false=>
     rw [hb]at hget hc;rw [if_pos ⟨h1,hget⟩];have e: (xK u).set k.toNat ((xK u).getD k.toNat 0+1) =xK (u.set k.toNat true) :=by
      rw [hc,xK,xK,List.map_set];rfl
     rw [e];exact aCj hlo ks (u.set k.toNat true) (by simpa using hn)
    rw [hb]at hget hc;rw [if_neg (by rw [hget];simp)];refine And.intro (fun v e=>nomatch e) (fun _ d e=>aAp (And.intro ⟨k.toNat,2,?_,by omega⟩ ?_) e)
    ·rw [hc,List.getElem?_set_self (by simp [xK];exact hlt)];rfl
    · intro z hz;rcases List.mem_or_eq_of_mem_set hz with g|g
      ·exact aMz u z g
      ·rw [g,hc];simp [cnt]
  · rw [if_neg h1,if_neg (fun g=>h1 g.1)];exact And.intro (fun v e=>nomatch e) (fun _ d e=>nomatch e)
theorem tV (p:Prog) :∀ (t:List Node) (i:Nat) (c:List Int),aCi c→tA (nT p i t c) =false
 | [],i,c,h=>by rw [nT];exact aMy h
 | x::t,i,c,h=>by
  rw [nT];cases e:pL ((i:Int) +1) (p.nodes.length:Int) x.kids c with
  |none=>rfl
  |some d=>exact tV p t (i+1) d (aAp h e)
theorem aIC :∀ (u:List Bool),(xK u).all one=u.all fun b=>b
 | [] =>rfl
 | b::u=>by
  have:=aIC u;simp only [xK,List.map_cons,all_cons]at this ⊢;rw [this];cases b<;>simp [cnt,one]
theorem aMA (p:Prog) :∀ (t:List Node) (i:Nat) (u:List Bool),u.length=p.nodes.length→t.all (cY p) =true→allT (eD p i t u) =tA (nT p i t (xK u))
 | [],i,u,hu,_=>by simp only [eD,nT,allT,tA,aIC]
 | x::t,i,u,hu,ha=>by
  simp only [all_cons,and_eq_true]at ha;obtain⟨m1,m2⟩ :=aCj (lo:= (i:Int) +1) (n:= (p.nodes.length:Int)) (by omega) x.kids u (by omega);simp only [eD,nT,if_pos ha.1];cases hm:marks ((i:Int) +1) (p.nodes.length:Int) x.kids u
  case some v=>
   rw [m1 v hm];exact aMA p t (i+1) v (by rw [uP hm,hu]) ha.2
  cases hi:pL ((i:Int) +1) (p.nodes.length:Int) x.kids (xK u)with
  |none=>rfl
  |some d=>exact(tV p t (i+1) d (m2 hm d hi)).symm
theorem aDk (p:Prog) :∀ (t:List Node) (i:Nat) (u:List Bool),t.all (cY p) =false→allT (eD p i t u) =false
 | [],i,u,h=>by simp at h
 | x ::t,i,u,h=>by
  simp only [eD];by_cases hx:cY p x=true
  · rw [if_pos hx];have ht:t.all (cY p) =false:=by simpa [hx]using h
    cases marks ((i:Int) +1) (p.nodes.length:Int) x.kids u with
    |none=>rfl
    |some v=>exact aDk p t (i+1) v ht
  ·rw [if_neg hx];rfl
theorem aRG (p:Prog) :eA p=bP p:=by
 have e1:eA p= (fS p&&aCe p.cons&& (p.nodes.all (cY p) && (match pL 0 (p.nodes.length:Int) p.funs (replicate p.nodes.length 0)with
  |some v=>tA (nT p 0 p.nodes v)
  |none=>false))) :=by
  unfold eA aCe;cases fS p<;>cases p.cons.all jK<;>cases cU (bO p.cons) <;>cases p.nodes.all (cY p) <;>cases decide (p.cons.length≤20) <;>simp
 rw [e1,bP];congr 1;have ez:replicate p.nodes.length (0:Int) =xK (replicate p.nodes.length false) :=by rw [xK,List.map_replicate];rfl
 rw [ez];obtain⟨m1,m2⟩ :=aCj (lo:=0) (n:= (p.nodes.length:Int)) (by omega) p.funs (replicate p.nodes.length false) (by simp);cases hm:marks 0 (p.nodes.length:Int) p.funs (replicate p.nodes.length false)
 case some v=>
  rw [m1 v hm];cases ha:p.nodes.all (cY p)
  case true=>simp only [Bool.true_and];exact(aMA p p.nodes 0 v (by rw [uP hm];simp) ha).symm
  simp only [Bool.false_and];exact(aDk p p.nodes 0 v ha).symm
 simp only;cases hi:pL 0 (p.nodes.length:Int) p.funs (xK (replicate p.nodes.length false))with
 |none=>simp
 |some d=>simp only [tV p p.nodes 0 d (m2 hm d hi),Bool.and_false]
theorem Ends.val {P:Program}{m:Nat}{s:AS}{v v':AV}{h':Hp}(h:Ends P m s (.ret v) h')(hv:∀E cv,VR E v cv→VR E v' cv) :Ends P m s (.ret v') h':=fun hm E fr ccs w f fs r cl base=>by
 obtain⟨cl',w',E',s1,⟨cv,e,g⟩,r2,x2⟩ :=h hm E fr ccs w f fs r cl base;exact⟨cl',w',E',s1,⟨cv,e,hv _ _ g⟩,r2,x2⟩
mutual
def bnm :Pat→Int
 | .mk f _ _ ps=>if f=2 then 1 else bAI ps
def bAI :List Pat→Int
 | [] =>0
 |p::ps=>bnm p+bAI ps
end
def aMB (x:Node)(k:Int) :Int:=
 if x.op=5∨x.op=27∨ (x.op=7∧k=1)then 1
 else if x.op=15∧k>0 then(match x.pats[(k-1).toNat]? with|some q=>bnm q|none=>0)else 0
structure FineN (cons:List Con) (x:Node) :Prop where
 pats:∀q∈x.pats,bA q≤12∧fC cons q=true
 mat:x.op=15→x.kids.length=1+x.pats.length
 let2:x.op=7→x.kids.length=2
theorem aWL {p:Prog}{x:Node}(h:cY p x=true) :FineN p.cons x:=by
 simp only [cY,and_eq_true,decide_eq_true_eq]at h;obtain⟨⟨_,h2⟩,h3⟩ :=h;refine⟨fun q hq=>?_,fun e=>?_,fun e=>?_⟩
 · have:=List.all_eq_true.1 h2 q hq;simpa [jY]using this
 ·rw [e]at h3;simp [eG]at h3;omega
 ·rw [e]at h3;simp [eG]at h3;omega
structure FineP (p:Prog) :Prop where
 small:p.nodes.length≤320
 fsmall:p.funs.length≤320
 node:∀ (i:Nat) (x:Node),p.nodes[i]?=some x→FineN p.cons x∧x.kids.length≤10∧∀k∈x.kids,(i:Int) <k∧k<p.nodes.length
 funs:∀f∈p.funs,0≤f∧f<p.nodes.length
section
variable (p :Prog) (mf mc:List (Int×Int))
variable {p mf mc}
end
theorem iY {P:Program}{f:Nat}{args args':List AV}{v v':AV}{l l' lc lc':List (Nat×AObj×Bool)}{m nb nb' n2 n3:Nat}{ks:List Nat}
  (h0:nE P m (.enter f args) (aG l nb) (.ret v) (aG l' nb')) (e3:nb'-m+n2=n3) (ev:AV.ren (oZ m n2 ks) v=v') (hargs:AV.renL (fA 0 nb n2 ks) args=args') (hm:Nat.ble m nb=true) (hm':Nat.ble m nb'=true)
  (hin:dC 0 ⟨⟨0,0,[],[],[],.run,.normal,none⟩,[],l,nb⟩ ks=true) (hl:sB (aG lc n2) (fA 0 nb n2 ks) l=jB (fA 0 nb n2 ks) l) (hkl:iV l)
  (hl':sB (aG lc' n3) (oZ m n2 ks) l'=jB (oZ m n2 ks) l') (hkl':iV l') (hpl:aAf l'=true:=by kernel_rfl) (hk':hJ nb' l'=true:=by kernel_rfl)
  (hx:hJ n2 lc=true:=by kernel_rfl) (hx':hJ n3 lc'=true:=by kernel_rfl) (hlt:ks.all (fun k=>Nat.blt k n2) =true:=by kernel_rfl) (hout:aC5 (namesT (oZ m n2 ks) l') ks (aG lc n2) lc'=rE lc':=by kernel_rfl) (hll:rE l'= (l'.map fun p=> (aG l' nb').look p.1) :=by kernel_rfl) :
  Spec P (.enter f args') (aG lc n2) (.ret v') (aG lc' n3) :=by
 subst e3 ev;exact aSO h0 hargs hm hm' hin hl hkl hl' hkl' hpl hk' hx hx' hlt hout hll
def bN (mf mc:List (Int×Int))(op n:Int) :Int:=if op=4 then(if 0≤n then n else -1-mAt mf (-1-n))else if op=14 then mAt mc n else n
def aEZ (mf mc:List (Int×Int))(to:List Int)(x:Node) :Node:= ⟨x.op,bN mf mc x.op x.n,x.kids.map (aKc to),uX mc x.pats⟩
def nOk (mf:List (Int×Int))(x:Node) :Prop:=aQ x.pats<1000000∧ (x.op=4→x.n<0→ -1000000000≤x.n∧ -1000000000≤mAt mf (-1-x.n) ∧mAt mf (-1-x.n) ≤1000000000)
section
variable (p :Prog) (mf mc:List (Int×Int)) (to:List Int)
variable {p mf mc to}
end
section
variable {p :Prog} {mf mc:List (Int×Int)}
end
def sM :Nat→List (Int×Int)
 |0=>[]
 |n+1=>bS (n:Int) (n:Int) (sM n)
theorem jS {α β:Type}[DecidableEq α](k k':α)(v:β) :∀ (l:List (α×β)),cI k (bS k' v l) =if k=k' then some v else cI k l
 | [] =>by simp [bS,cI]
 | e ::l=>by
  simp only [bS];split
  · rename_i h;subst h;simp only [cI];split<;>rfl
  · rename_i h;simp only [cI,jS k k' v l];by_cases h1:k=e.1
    · subst h1;rw [if_pos rfl,if_pos rfl,if_neg (fun e=>h e.symm)]
    ·rw [if_neg h1,if_neg h1]
theorem aTx :∀ (n:Nat) (i:Int),0≤i→i<n→cI i (sM n) =some i
 |0,i,h0,h1=>by omega
 | n+1,i,h0,h1=>by
  rw [sM,jS];by_cases h:i= (n:Int)
  ·rw [if_pos h,h]
  ·rw [if_neg h];exact aTx n i h0 (by omega)
theorem aYc {n:Nat}{i:Int}(h0:0≤i)(h1:i<n) :mAt (sM n) i=i:=by unfold mAt;rw [aTx n i h0 h1];rfl
theorem aEi {P:Program}{m:Nat}{s:AS}{v v':AV}{h':Hp}(h:Ends P m s (.ret v) h')(hv:∀ (E:Emb) (cv:Value),VR E v cv→VR E v' cv) :Ends P m s (.ret v') h':=fun hm E fr ccs w f fs r cl base=>by
 obtain⟨cl',w',E',s1,⟨cv,rfl,g2⟩,r2,x2⟩ :=h hm E fr ccs w f fs r cl base;exact⟨_,w',E',s1,⟨cv,rfl,hv E' cv g2⟩,r2,x2⟩
theorem aKf {E:Emb}{e:Nat}{xs:List AV}{cv:Value}(h:VR E (.ilst e xs true) cv) :VR E (.ilst e xs false) cv:=by
 simp only [VR]at h ⊢;obtain⟨vs,h1,h2,h3⟩ :=h;refine⟨vs,h1,h2,?_⟩;rcases h3 with⟨rfl,a,cap,rfl,g,_⟩ | ⟨k,a,cap,C,g1,g2,g3,_,g5⟩
 ·exact .inl ⟨rfl,a,cap,rfl,g,fun hh=>by cases hh⟩
 ·exact .inr ⟨k,a,cap,C,g1,g2,g3,(fun hh=>by cases hh),g5⟩
section
variable {p :Prog}
end
abbrev FL :List (AV×Bool) :=[(.iface 315 (.agg []),false)]
abbrev mE (b:Bool) :Res:=bif b then .ret (.tup [])else .pan FL
theorem gP :∀b,aIh (mE b)
 |true=>rfl
 | false=>by
  intro x hx;rw [List.mem_singleton.1 hx];rfl
abbrev GC (a b:Int) :AObj:=.cells (putCells .leaf 0 [.int .i64 a,.int .i64 b]) 2 [] false
def sC (n:Nat)(a:Int) :Bool:=decide ((n:Int) ≤a)
def eE (n:Nat)(a:Int) :Int:=if(n:Int) ≤a then a-n else -1
def aMC (p:Pat)(a b:Int) :Prop:=Spec PP (.enter 289 [.ptr 0 0,Pat.av p]) (aG [(0,GC a b,false)] 1) (mE (sC (bA p) a)) (aG [(0,GC (eE (bA p) a) b,false)] 1)
theorem aPQ (a b f n:Int)(s:aA)(ps:List Pat)(hl:ps.length<1000000)(ih:∀p∈ps,∀a,0≤a→a≤1000→aMC p a b) :∀ (t:List Pat) (i:Nat) (c:Int),ps.drop i=t→0≤c→c≤1000 →
  Ends PP 1 (aPJ a b f n s ps (i:Int) c).as (mE (sC (aQ t) c)) (aG [(0,GC (eE (aQ t) c) b,false)] 1)
 | [],i,c,h,h0,h1=>by
  have:=aZ h;have e1:sC (aQ []) c=true:=by simp [sC,aQ,h0]
  have e2:eE (aQ []) c=c:=by simp [eE,aQ,h0]
  rw [e1,e2];exact aTn a b f n s ps i c|>.f sd tv
 | .mk f' n' s' ps'::t,i,c,h,h0,h1=>by
  obtain⟨g1,g2,g3⟩ :=aY h;have hs:=ih _ (mem_of_getElem? g1) c h0 h1;unfold aMC at hs;by_cases hc: (bA (.mk f' n' s' ps') :Int) ≤c
  · have e1:sC (bA (.mk f' n' s' ps')) c=true:=by simp [sC,hc]
    have e2:eE (bA (.mk f' n' s' ps')) c=c-bA (.mk f' n' s' ps') :=by simp [eE,hc]
    rw [e1,e2]at hs;have r1:sC (aQ (.mk f' n' s' ps'::t)) c=sC (aQ t) (c-bA (.mk f' n' s' ps')) :=by
     unfold sC;rw [aQ];congr 1;apply propext;omega
    have r2:eE (aQ (.mk f' n' s' ps'::t)) c=eE (aQ t) (c-bA (.mk f' n' s' ps')) :=by
     unfold eE;rw [aQ];split<;>split<;>omega
    rw [r1,r2];refine(aTn a b f n s ps i c|>.t sd f' n' s' ps' sd sd|>.2 (c-bA (.mk f' n' s' ps')) (eM (ks:=[0]) hs (by kernel_rfl) (gP true) (by kernel_rfl) (by kernel_rfl) trivial (by kernel_rfl) trivial) sd tv).ends ?_;exact aPQ a b f n s ps hl ih t (i+1) _ g2 (by omega) (by omega)
  · have e1:sC (bA (.mk f' n' s' ps')) c=false:=by simp [sC];omega
    have e2:eE (bA (.mk f' n' s' ps')) c= -1:=by simp [eE];omega
    rw [e1,e2]at hs;have r1:sC (aQ (.mk f' n' s' ps'::t)) c=false:=by simp only [sC,aQ];exact decide_eq_false (by omega)
    have r2:eE (aQ (.mk f' n' s' ps'::t)) c= -1:=by unfold eE;rw [aQ,if_neg (by omega)]
    rw [r1,r2];exact aTn a b f n s ps i c|>.t sd f' n' s' ps' sd sd|>.1 (-1) (eM (ks:=[0]) hs (by kernel_rfl) (gP false) (by kernel_rfl) (by kernel_rfl) trivial (by kernel_rfl) trivial) tv
mutual
theorem aPR (b:Int)(hb:0≤b) :∀ (p:Pat) (a:Int),0≤a→a≤1000→bA p<1000000→aMC p a b
 | .mk f n s ps,a,h0,h1,hp=>by
  simp only [bA]at hp;have:=dN ps;refine⟨(aZK a b f n s ps).as.fr,by kernel_rfl,?_⟩;have E:Ends PP 1 (aZK a b f n s ps).as (mE (sC (bA (.mk f n s ps)) a)) (aG [(0,GC (eE (bA (.mk f n s ps)) a) b,false)] 1) :=by
   by_cases ha:1≤a
   · have r1:sC (bA (.mk f n s ps)) a=sC (aQ ps) (a-1) :=by
      unfold sC;rw [bA];congr 1;apply propext;omega
     have r2:eE (bA (.mk f n s ps)) a=eE (aQ ps) (a-1) :=by
      unfold eE;rw [bA];split<;>split<;>omega
     rw [r1,r2];exact(aX8 a b f n s ps sd|>.t (by simp;omega)|>.f (by simp;omega) tv).ends (aPQ a b f n s ps (by omega) (fun p hp a h0 h1=>aTy b hb ps (by omega) p hp a h0 h1) ps 0 (a-1) rfl (by omega) (by omega))
   · obtain rfl:a=0:=by omega
     have r1:sC (bA (.mk f n s ps)) 0=false:=by simp only [sC,bA];exact decide_eq_false (by omega)
     have r2:eE (bA (.mk f n s ps)) 0=0-1:=by unfold eE;rw [bA,if_neg (by omega)];rfl
     rw [r1,r2];exact aX8 0 b f n s ps sd|>.f (by simp) tv
  exact Eq.mp (by kernel_rfl) E
theorem aTy (b:Int)(hb:0≤b) :∀ (ps:List Pat),aQ ps<1000000→∀p∈ps,∀a,0≤a→a≤1000→aMC p a b
 | [],_,p,hp=>by cases hp
 | q::ps,h,p,hp=>by
  simp only [aQ]at h;rcases List.mem_cons.1 hp with e|hp
  ·rw [e];exact fun a h0 h1=>aPR b hb q a h0 h1 (by omega)
  ·exact aTy b hb ps (by omega) p hp
end
theorem aAY (n:Int) :Pure PP 273 [.int .i64 n] (.bool (bG n (-1000000000) 1000000000)) :=by
 refine aP (by kernel_rfl) rfl rfl ?_;by_cases h:n≥ -1000000000
 · have e:bG n (-1000000000) 1000000000=decide (n≤1000000000) :=by unfold bG;rw [decide_eq_true (show(-1000000000:Int) ≤n from h),Bool.true_and]
   rw [e];exact aX9 n|>.t (by simpa using h) tv
 · have e:bG n (-1000000000) 1000000000=false:=by unfold bG;rw [decide_eq_false (show ¬ (-1000000000:Int) ≤n from h),Bool.false_and]
   rw [e];exact aX9 n|>.f (by simpa using h) tv
def dJ (t:aA)(ml:List (aA×Bool)) :Bool:= (cI t ml).getD false
def tB (f n:Int)(t:aA)(ps:List Pat)(ml:List (aA×Bool)) :Bool:=bW f n t ps&& !(decide (f=2) &&dJ t ml)
mutual
def pmF :Pat→List (aA×Bool) →Bool×List (aA×Bool)
 | .mk f n t ps,ml=>if tB f n t ps ml=true then aFj ps (if f=2 then bS t true ml else ml)else(false,ml)
def aFj :List Pat→List (aA×Bool) →Bool×List (aA×Bool)
 | [],ml=> (true,ml)
 |p::ps,ml=>if(pmF p ml).1=true then aFj ps (pmF p ml).2 else(false,(pmF p ml).2)
end
abbrev MS (ml:List (aA×Bool)) :AObj:=.map (aK aD kP 0 ml) (length ml)
theorem aE0 (ml:List (aA×Bool)) : (MS ml).kl:=aH (fun _=>rfl) (fun _=>rfl) _ _ _
def aMD (p:Pat)(ml:List (aA×Bool)) :Prop:=Spec PP (.enter 290 [Pat.av p,.map 0]) (aG [(0,MS ml,true)] 1) (mE (pmF p ml).1) (aG [(0,MS (pmF p ml).2,true)] 1)
theorem bAJ (ml:List (aA×Bool))(t8 w8:Int)(t7:aA)(t5:List Pat)(b:Bool)(mo:List (aA×Bool))(hno:tB t8 w8 t7 t5 ml=false→b=false∧mo=ml)
  (hk:∀mi,tB t8 w8 t7 t5 ml=true→mi= (if t8=2 then bS t7 true ml else ml) →Ends PP 1 (pK ml t8 w8 t7 t5 mi 0).as (mE b) (aG [(0,MS mo,true)] 1)) :
  Ends PP 1 (aPK ml t8 w8 t7 t5).as (mE b) (aG [(0,MS mo,true)] 1) :=by
 cases hb1: (t8== (1:Int))
 case true=>
  cases hb2: (((length t5:Nat) :Int) == (0:Int))
  case true=>
   cases hb3: (w8== (0:Int))
   case true=>
    cases hb4: (!(bB (length t7) (aC t7) 0 0))
    case true=>
     obtain⟨e1,e2⟩ :=hno (by clear hk hno;simp_all [tB,dJ,bW,aB,aV,bG] <;>intros<;>omega);rw [e1,e2];exact iL ml t8 w8 t7 t5|>.t hb1|>.t hb2|>.t hb3|>.t hb4 ⟨aH (fun _=>rfl) (fun _=>rfl) _ _ _,trivial⟩
    exact LeadsM.ends (iL ml t8 w8 t7 t5|>.t hb1|>.t hb2|>.t hb3|>.f hb4 ⟨aH (fun _=>rfl) (fun _=>rfl) _ _ _,trivial⟩) (hk _ (by clear hk hno;simp_all [tB,dJ,bW,aB,aV,bG] <;>intros<;>omega) (by clear hk hno;simp_all [tB,dJ,bW,aB,aV,bG] <;>intros<;>omega))
   obtain⟨e1,e2⟩ :=hno (by clear hk hno;simp_all [tB,dJ,bW,aB,aV,bG] <;>intros<;>omega);rw [e1,e2];exact iL ml t8 w8 t7 t5|>.t hb1|>.t hb2|>.f hb3 ⟨aH (fun _=>rfl) (fun _=>rfl) _ _ _,trivial⟩
  obtain⟨e1,e2⟩ :=hno (by clear hk hno;simp_all [tB,dJ,bW,aB,aV,bG] <;>intros<;>omega);rw [e1,e2];exact iL ml t8 w8 t7 t5|>.t hb1|>.f hb2 ⟨aH (fun _=>rfl) (fun _=>rfl) _ _ _,trivial⟩
 cases hb5: (t8== (5:Int))
 case true=>
  cases hb6: (((length t5:Nat) :Int) == (0:Int))
  case true=>
   cases hb7: (w8== (0:Int))
   case true=>
    cases hb8: (!(bB (length t7) (aC t7) 0 0))
    case true=>
     obtain⟨e1,e2⟩ :=hno (by clear hk hno;simp_all [tB,dJ,bW,aB,aV,bG] <;>intros<;>omega);rw [e1,e2];exact iL ml t8 w8 t7 t5|>.f hb1|>.t hb5|>.t hb6|>.t hb7|>.t hb8 ⟨aH (fun _=>rfl) (fun _=>rfl) _ _ _,trivial⟩
    exact LeadsM.ends (iL ml t8 w8 t7 t5|>.f hb1|>.t hb5|>.t hb6|>.t hb7|>.f hb8 ⟨aH (fun _=>rfl) (fun _=>rfl) _ _ _,trivial⟩) (hk _ (by clear hk hno;simp_all [tB,dJ,bW,aB,aV,bG] <;>intros<;>omega) (by clear hk hno;simp_all [tB,dJ,bW,aB,aV,bG] <;>intros<;>omega))
   obtain⟨e1,e2⟩ :=hno (by clear hk hno;simp_all [tB,dJ,bW,aB,aV,bG] <;>intros<;>omega);rw [e1,e2];exact iL ml t8 w8 t7 t5|>.f hb1|>.t hb5|>.t hb6|>.f hb7 ⟨aH (fun _=>rfl) (fun _=>rfl) _ _ _,trivial⟩
  obtain⟨e1,e2⟩ :=hno (by clear hk hno;simp_all [tB,dJ,bW,aB,aV,bG] <;>intros<;>omega);rw [e1,e2];exact iL ml t8 w8 t7 t5|>.f hb1|>.t hb5|>.f hb6 ⟨aH (fun _=>rfl) (fun _=>rfl) _ _ _,trivial⟩
 cases hb9: (t8== (2:Int))
 case true=>
  cases hb10: (((length t5:Nat) :Int) == (0:Int))
  case true=>
   cases hb11: (w8== (0:Int))
   case true=>
    cases hb12: (eH t7)
    case true=>
     cases hq13:cI t7 ml with
     | none=>
      exact LeadsM.ends (iL ml t8 w8 t7 t5|>.f hb1|>.f hb5|>.t hb9|>.t hb10|>.t hb11 (eH t7) (kC t7)|>.t hb12|>.2 hq13 ⟨aH (fun _=>rfl) (fun _=>rfl) _ _ _,trivial⟩) (hk _ (by clear hk hno;simp_all [tB,dJ,bW,aB,aV,bG] <;>intros<;>omega) (by clear hk hno;simp_all [tB,dJ,bW,aB,aV,bG] <;>intros<;>omega))
     | some y1=>
      cases hb14: (!(!y1))
      case true=>
       obtain⟨e1,e2⟩ :=hno (by clear hk hno;simp_all [tB,dJ,bW,aB,aV,bG] <;>intros<;>omega);rw [e1,e2];exact iL ml t8 w8 t7 t5|>.f hb1|>.f hb5|>.t hb9|>.t hb10|>.t hb11 (eH t7) (kC t7)|>.t hb12|>.1 y1 hq13|>.t hb14 ⟨aH (fun _=>rfl) (fun _=>rfl) _ _ _,trivial⟩
      exact LeadsM.ends (iL ml t8 w8 t7 t5|>.f hb1|>.f hb5|>.t hb9|>.t hb10|>.t hb11 (eH t7) (kC t7)|>.t hb12|>.1 y1 hq13|>.f hb14 ⟨aH (fun _=>rfl) (fun _=>rfl) _ _ _,trivial⟩) (hk _ (by clear hk hno;simp_all [tB,dJ,bW,aB,aV,bG] <;>intros<;>omega) (by clear hk hno;simp_all [tB,dJ,bW,aB,aV,bG] <;>intros<;>omega))
    obtain⟨e1,e2⟩ :=hno (by clear hk hno;simp_all [tB,dJ,bW,aB,aV,bG] <;>intros<;>omega);rw [e1,e2];exact iL ml t8 w8 t7 t5|>.f hb1|>.f hb5|>.t hb9|>.t hb10|>.t hb11 (eH t7) (kC t7)|>.f hb12 ⟨aH (fun _=>rfl) (fun _=>rfl) _ _ _,trivial⟩
   obtain⟨e1,e2⟩ :=hno (by clear hk hno;simp_all [tB,dJ,bW,aB,aV,bG] <;>intros<;>omega);rw [e1,e2];exact iL ml t8 w8 t7 t5|>.f hb1|>.f hb5|>.t hb9|>.t hb10|>.f hb11 ⟨aH (fun _=>rfl) (fun _=>rfl) _ _ _,trivial⟩
  obtain⟨e1,e2⟩ :=hno (by clear hk hno;simp_all [tB,dJ,bW,aB,aV,bG] <;>intros<;>omega);rw [e1,e2];exact iL ml t8 w8 t7 t5|>.f hb1|>.f hb5|>.t hb9|>.f hb10 ⟨aH (fun _=>rfl) (fun _=>rfl) _ _ _,trivial⟩
 cases hb15: (t8== (3:Int))
 case true=>
  cases hb16: (((length t5:Nat) :Int) == (0:Int))
  case true=>
   cases hb17: (bB (length t7) (aC t7) 0 0)
   case true=>
    cases hb18: (!(bG w8 (-1000000000) 1000000000))
    case true=>
     obtain⟨e1,e2⟩ :=hno (by clear hk hno;simp_all [tB,dJ,bW,aB,aV,bG] <;>intros<;>omega);rw [e1,e2];exact iL ml t8 w8 t7 t5|>.f hb1|>.f hb5|>.f hb9|>.t hb15|>.t hb16|>.t hb17 (bG w8 (-1000000000) 1000000000) (aAY w8)|>.t hb18 ⟨aH (fun _=>rfl) (fun _=>rfl) _ _ _,trivial⟩
    exact LeadsM.ends (iL ml t8 w8 t7 t5|>.f hb1|>.f hb5|>.f hb9|>.t hb15|>.t hb16|>.t hb17 (bG w8 (-1000000000) 1000000000) (aAY w8)|>.f hb18 ⟨aH (fun _=>rfl) (fun _=>rfl) _ _ _,trivial⟩) (hk _ (by clear hk hno;simp_all [tB,dJ,bW,aB,aV,bG] <;>intros<;>omega) (by clear hk hno;simp_all [tB,dJ,bW,aB,aV,bG] <;>intros<;>omega))
   obtain⟨e1,e2⟩ :=hno (by clear hk hno;simp_all [tB,dJ,bW,aB,aV,bG] <;>intros<;>omega);rw [e1,e2];exact iL ml t8 w8 t7 t5|>.f hb1|>.f hb5|>.f hb9|>.t hb15|>.t hb16|>.f hb17 ⟨aH (fun _=>rfl) (fun _=>rfl) _ _ _,trivial⟩
  obtain⟨e1,e2⟩ :=hno (by clear hk hno;simp_all [tB,dJ,bW,aB,aV,bG] <;>intros<;>omega);rw [e1,e2];exact iL ml t8 w8 t7 t5|>.f hb1|>.f hb5|>.f hb9|>.t hb15|>.f hb16 ⟨aH (fun _=>rfl) (fun _=>rfl) _ _ _,trivial⟩
 cases hb19: (t8== (4:Int))
 case true=>
  cases hb20: (((length t5:Nat) :Int) == (0:Int))
  case true=>
   cases hb21: (bB (length t7) (aC t7) 0 0)
   case true=>
    cases hb22: (w8== (0:Int))
    case true=>exact LeadsM.ends (iL ml t8 w8 t7 t5|>.f hb1|>.f hb5|>.f hb9|>.f hb15|>.t hb19|>.t hb20|>.t hb21|>.t hb22 ⟨aH (fun _=>rfl) (fun _=>rfl) _ _ _,trivial⟩) (hk _ (by clear hk hno;simp_all [tB,dJ,bW,aB,aV,bG] <;>intros<;>omega) (by clear hk hno;simp_all [tB,dJ,bW,aB,aV,bG] <;>intros<;>omega))
    cases hb23: (!(w8== (1:Int)))
    case true=>
     obtain⟨e1,e2⟩ :=hno (by clear hk hno;simp_all [tB,dJ,bW,aB,aV,bG] <;>intros<;>omega);rw [e1,e2];exact iL ml t8 w8 t7 t5|>.f hb1|>.f hb5|>.f hb9|>.f hb15|>.t hb19|>.t hb20|>.t hb21|>.f hb22|>.t hb23 ⟨aH (fun _=>rfl) (fun _=>rfl) _ _ _,trivial⟩
    exact LeadsM.ends (iL ml t8 w8 t7 t5|>.f hb1|>.f hb5|>.f hb9|>.f hb15|>.t hb19|>.t hb20|>.t hb21|>.f hb22|>.f hb23 ⟨aH (fun _=>rfl) (fun _=>rfl) _ _ _,trivial⟩) (hk _ (by clear hk hno;simp_all [tB,dJ,bW,aB,aV,bG] <;>intros<;>omega) (by clear hk hno;simp_all [tB,dJ,bW,aB,aV,bG] <;>intros<;>omega))
   obtain⟨e1,e2⟩ :=hno (by clear hk hno;simp_all [tB,dJ,bW,aB,aV,bG] <;>intros<;>omega);rw [e1,e2];exact iL ml t8 w8 t7 t5|>.f hb1|>.f hb5|>.f hb9|>.f hb15|>.t hb19|>.t hb20|>.f hb21 ⟨aH (fun _=>rfl) (fun _=>rfl) _ _ _,trivial⟩
  obtain⟨e1,e2⟩ :=hno (by clear hk hno;simp_all [tB,dJ,bW,aB,aV,bG] <;>intros<;>omega);rw [e1,e2];exact iL ml t8 w8 t7 t5|>.f hb1|>.f hb5|>.f hb9|>.f hb15|>.t hb19|>.f hb20 ⟨aH (fun _=>rfl) (fun _=>rfl) _ _ _,trivial⟩
 cases hb24: (t8== (6:Int))
 case true=>
  cases hb25: (decide (((length t5:Nat) :Int) ≤ (3:Int)))
  case true=>
   cases hb26: (w8== (0:Int))
   case true=>
    cases hb27: (!(cP t7))
    case true=>
     obtain⟨e1,e2⟩ :=hno (by clear hk hno;simp_all [tB,dJ,bW,aB,aV,bG] <;>intros<;>omega);rw [e1,e2];exact iL ml t8 w8 t7 t5|>.f hb1|>.f hb5|>.f hb9|>.f hb15|>.f hb19|>.t hb24|>.t hb25|>.t hb26 (cP t7) (iG t7)|>.t hb27 ⟨aH (fun _=>rfl) (fun _=>rfl) _ _ _,trivial⟩
    exact LeadsM.ends (iL ml t8 w8 t7 t5|>.f hb1|>.f hb5|>.f hb9|>.f hb15|>.f hb19|>.t hb24|>.t hb25|>.t hb26 (cP t7) (iG t7)|>.f hb27 ⟨aH (fun _=>rfl) (fun _=>rfl) _ _ _,trivial⟩) (hk _ (by clear hk hno;simp_all [tB,dJ,bW,aB,aV,bG] <;>intros<;>omega) (by clear hk hno;simp_all [tB,dJ,bW,aB,aV,bG] <;>intros<;>omega))
   obtain⟨e1,e2⟩ :=hno (by clear hk hno;simp_all [tB,dJ,bW,aB,aV,bG] <;>intros<;>omega);rw [e1,e2];exact iL ml t8 w8 t7 t5|>.f hb1|>.f hb5|>.f hb9|>.f hb15|>.f hb19|>.t hb24|>.t hb25|>.f hb26 ⟨aH (fun _=>rfl) (fun _=>rfl) _ _ _,trivial⟩
  obtain⟨e1,e2⟩ :=hno (by clear hk hno;simp_all [tB,dJ,bW,aB,aV,bG] <;>intros<;>omega);rw [e1,e2];exact iL ml t8 w8 t7 t5|>.f hb1|>.f hb5|>.f hb9|>.f hb15|>.f hb19|>.t hb24|>.f hb25 ⟨aH (fun _=>rfl) (fun _=>rfl) _ _ _,trivial⟩
 obtain⟨e1,e2⟩ :=hno (by clear hk hno;simp_all [tB,dJ,bW,aB,aV,bG] <;>intros<;>omega);rw [e1,e2];exact iL ml t8 w8 t7 t5|>.f hb1|>.f hb5|>.f hb9|>.f hb15|>.f hb19|>.f hb24 ⟨aH (fun _=>rfl) (fun _=>rfl) _ _ _,trivial⟩
theorem aME (ml:List (aA×Bool))(f n:Int)(s:aA)(ps:List Pat)(hl:ps.length<1000000)(ih:∀p∈ps,∀ml,aMD p ml) :∀ (t:List Pat) (i:Nat) (mi:List (aA×Bool)),ps.drop i=t →
  Ends PP 1 (pK ml f n s ps mi (i:Int)).as (mE (aFj t mi).1) (aG [(0,MS (aFj t mi).2,true)] 1)
 | [],i,mi,h=>by
  have:=aZ h;rw [aFj];exact aTo ml f n s ps mi i|>.f sd ⟨aH (fun _=>rfl) (fun _=>rfl) _ _ _,trivial⟩
 | .mk f' n' s' ps'::t,i,mi,h=>by
  obtain⟨g1,g2,g3⟩ :=aY h;have hs:=ih _ (mem_of_getElem? g1) mi;unfold aMD at hs;rw [aFj];generalize pmF (.mk f' n' s' ps') mi=r at hs ⊢;obtain⟨b,m'⟩ :=r;cases b
  case true=>
   rw [if_pos rfl];refine(aTo ml f n s ps mi i|>.t sd f' n' s' ps' sd sd|>.2 m' (eM (ks:=[0]) hs (by kernel_rfl) (gP true) (by kernel_rfl) (by kernel_rfl) ⟨aE0 _,trivial⟩ (by kernel_rfl) ⟨aE0 _,trivial⟩) sd ⟨aH (fun _=>rfl) (fun _=>rfl) _ _ _,trivial⟩).ends ?_;exact aME ml f n s ps hl ih t (i+1) m' g2
  rw [if_neg (by simp)];exact aTo ml f n s ps mi i|>.t sd f' n' s' ps' sd sd|>.1 m' (eM (ks:=[0]) hs (by kernel_rfl) (gP false) (by kernel_rfl) (by kernel_rfl) ⟨aE0 _,trivial⟩ (by kernel_rfl) ⟨aE0 _,trivial⟩) ⟨aH (fun _=>rfl) (fun _=>rfl) _ _ _,trivial⟩
mutual
theorem aMF :∀ (p:Pat) (ml:List (aA×Bool)),bA p<1000000→aMD p ml
 | .mk f n s ps,ml,hp=>by
  simp only [bA]at hp;have:=dN ps;refine⟨(aPK ml f n s ps).as.fr,by kernel_rfl,?_⟩;have E:Ends PP 1 (aPK ml f n s ps).as (mE (pmF (.mk f n s ps) ml).1) (aG [(0,MS (pmF (.mk f n s ps) ml).2,true)] 1) :=by
   refine bAJ ml f n s ps _ _ (fun h=>?_) (fun mi h e=>?_)
   · rw [pmF,if_neg (by simp [h])];exact⟨rfl,rfl⟩
   · rw [pmF,if_pos h,←e];exact aME ml f n s ps (by omega) (aPS ps (by omega)) ps 0 mi rfl
  exact Eq.mp (by kernel_rfl) E
theorem aPS :∀ (ps:List Pat),aQ ps<1000000→∀p∈ps,∀ml,aMD p ml
 | [],_,p,hp=>by cases hp
 | q::ps,h,p,hp=>by
  simp only [aQ]at h;rcases List.mem_cons.1 hp with e|hp
  ·rw [e];exact fun ml=>aMF q ml (by omega)
  ·exact aPS ps (by omega) p hp
end
def mV :List aA→List (aA×Bool) →Bool×List (aA×Bool)
 | [],ml=> (true,ml)
 |x::t,ml=>if dJ x ml=true then(false,ml)else mV t (bS x true ml)
theorem aID :∀ (a b:List aA) (ml:List (aA×Bool)),mV (a++b) ml=if(mV a ml).1=true then mV b (mV a ml).2 else mV a ml
 | [],b,ml=>by simp [mV]
 | x::a,b,ml=>by
  rw [List.cons_append,mV,mV];split
  ·simp
  ·exact aID a b _
theorem aWM {f n:Int}{t:aA}{ps:List Pat}(h:bW f n t ps=true)(hf:f=2) :ps= [] :=by
 subst hf;simp [bW]at h;exact h.1.1
mutual
theorem aPT :∀ (p:Pat) (ml:List (aA×Bool)),((pmF p ml).1=true↔xI p=true∧ (mV (jL p) ml).1=true) ∧ ((pmF p ml).1=true→ (pmF p ml).2= (mV (jL p) ml).2)
 | .mk f n t ps,ml=>by
  rw [pmF,xI,jL];by_cases hf:f=2
  · subst hf;by_cases hh:bW 2 n t ps=true
    · have hps:=aWM hh rfl;subst hps;by_cases hm:dJ t ml=true
      ·simp [tB,hh,hm,mV,mU]
      · have hm':dJ t ml=false:=by simpa using hm
        rw [if_pos (by simp [tB,hh,hm'])];simp [hh,hm',mV,mU,aFj]
    · have hh':bW 2 n t ps=false:=by simpa using hh
      rw [if_neg (by simp [tB,hh'])];simp [hh']
  · have i:=aMG ps ml;by_cases hh:bW f n t ps=true
    · rw [if_pos (by simp [tB,hh,hf]),if_neg hf,if_neg hf,hh,Bool.true_and];exact i
    · have hh':bW f n t ps=false:=by simpa using hh
      rw [if_neg (by simp [tB,hh'])];simp [hh']
theorem aMG :∀ (ps:List Pat) (ml:List (aA×Bool)),((aFj ps ml).1=true↔mU ps=true∧ (mV (iR ps) ml).1=true) ∧ ((aFj ps ml).1=true→ (aFj ps ml).2= (mV (iR ps) ml).2)
 | [],ml=>by simp [aFj,mU,iR,mV]
 | p ::ps,ml=>by
  obtain⟨i1,i2⟩ :=aPT p ml;rw [aFj,mU,iR,aID];by_cases hp: (pmF p ml).1=true
  · obtain⟨j1,j2⟩ :=aMG ps (pmF p ml).2;obtain⟨k1,k2⟩ :=i1.1 hp;rw [if_pos hp,if_pos k2,←i2 hp,k1,Bool.true_and];exact⟨j1,j2⟩
  · rw [if_neg hp];refine⟨⟨fun h=>by simp at h,fun⟨h1,h2⟩ =>?_⟩,fun h=>by simp at h⟩;exfalso;rw [and_eq_true]at h1;split at h2
    ·rename_i k;exact hp (i1.2 ⟨h1.1,k⟩)
    ·rename_i k;exact k h2
end
theorem aRH (x y:aA)(ml:List (aA×Bool)) :dJ y (bS x true ml) = (decide (x=y) ||dJ y ml) :=by
 unfold dJ;rw [jS];by_cases h:y=x
 ·subst h;simp
 · have:¬x=y:=fun e=>h e.symm;rw [if_neg h];simp [this]
theorem aDl :∀ (l pre:List aA) (ml:List (aA×Bool)),(∀y,dJ y ml=cA pre y) → (mV l ml).1=cM pre l
 | [],pre,ml,h=>rfl
 | x::t,pre,ml,h=>by
  rw [mV,cM,←h x];cases hm:dJ x ml
  case true=>simp
  simp only [Bool.false_eq_true,if_false,Bool.not_false,Bool.true_and];refine aDl t (pre++ [x]) _ (fun y=>?_);rw [aRH,h y];simp [cA,Bool.or_comm]
theorem aTz (p:Pat) : (pmF p []).1= (xI p&&cU (jL p)) :=by
 have h:= (aPT p []).1;have e: (mV (jL p) []).1=cU (jL p) :=aDl _ [] [] (fun y=>by simp [dJ,cI,cA]);rw [e]at h;rw [Bool.eq_iff_iff,h,and_eq_true]
theorem aTA (p:Pat)(hp:bA p<1000000) :Pure PP 274 [Pat.av p] (.int .i64 (if aFi p=true then 0 else 2)) :=by
 have hg:=aPR 0 (by omega) p 12 (by omega) (by omega) hp;have hm:=aMF p [] hp;have e:=aTz p;unfold aMC at hg;unfold aMD at hm;unfold aFi;obtain⟨f,n,s,ps⟩ :=p;refine bU (s:=aX7 f n s ps) (by kernel_rfl) (by kernel_rfl) (by simp [AV.keylessL,lO]) (by simp [AV.keyless]) ?_;by_cases h12:bA (.mk f n s ps) ≤12
 · have e1:sC (bA (.mk f n s ps)) 12=true:=by simp [sC];omega
   rw [e1]at hg;generalize eE (bA (.mk f n s ps)) 12=ga at hg;rw [decide_eq_true h12,Bool.true_and,←e];generalize pmF (.mk f n s ps) [] =r at hm ⊢;obtain⟨b,m'⟩ :=r;have hg':=eM (ks:=[2]) (lc:=[(0,.cells (putCells .leaf 0 [.int .i64 f,.int .i64 n,aD s,.ilst 4 (Pats.av ps) false]) 4 [] false,false),(1,.cells (putCells .leaf 0 [.bool false]) 1 [] false,false),(2,GC 12 0,false)]) (lc':=[(0,.cells (putCells .leaf 0 [.int .i64 f,.int .i64 n,aD s,.ilst 4 (Pats.av ps) false]) 4 [] false,false),(1,.cells (putCells .leaf 0 [.bool false]) 1 [] false,false),(2,GC ga 0,false)]) (n2:=3) (args':=[.ptr 2 0,Pat.av (.mk f n s ps)]) hg (by kernel_rfl) (gP true) (by kernel_rfl) (by kernel_rfl) trivial (by kernel_rfl) trivial;cases b
   case true=>exact aTp f n s ps|>.2 ga hg'|>.2 m' (eM (ks:=[3]) hm (by kernel_rfl) (gP true) (by kernel_rfl) (by kernel_rfl) ⟨aE0 _,trivial⟩ (by kernel_rfl) ⟨aE0 _,trivial⟩) tv
   exact aTp f n s ps|>.2 ga hg'|>.1 m' (eM (ks:=[3]) hm (by kernel_rfl) (gP false) (by kernel_rfl) (by kernel_rfl) ⟨aE0 _,trivial⟩ (by kernel_rfl) ⟨aE0 _,trivial⟩) tv
 · have e1:sC (bA (.mk f n s ps)) 12=false:=by simp [sC];omega
   rw [e1]at hg;generalize eE (bA (.mk f n s ps)) 12=ga at hg;rw [decide_eq_false h12,Bool.false_and,Bool.false_and];exact aTp f n s ps|>.1 ga (eM (ks:=[2]) hg (by kernel_rfl) (gP false) (by kernel_rfl) (by kernel_rfl) trivial (by kernel_rfl) trivial) tv
abbrev aPU (a:List Term):AV:=.ilst 5 (av a) false
abbrev uY (a b:Int)(c:aA)(d:List Term)(e:List Pat):AV:=.agg [nI a,nI b,aD c,aPU d,iP e]
abbrev aE1 (a:Nat)(b c:Int)(d:aA)(e:List Term)(f:List Pat):=oC a [nI b,nI c,aD d,aPU e,iP f]
abbrev uZ:AV:=.iface 315 (.agg [])
def aZM(a b c d:Int)(e:aA)(f:List Term)(g:List Pat)(i:Int):TS:=bH PP 219 [.ptr 0 0,uY c d e f g,nI i] [oC 0 [nI a,nI b]] 1
def aPV(f b g i:Int)(j:aA)(a:List Term)(k:List Pat)(c d e:Int):TS:=⟨tf 219 24 [kp 0 0,(2,nI c),(12,aPU a),(13,nI (a.length:Int)),(14,nI d)] [kc f219 60,kl f219 60,.inBlock 0],[],[oC 0 [nI e,nI b]],1⟩
def aYd(a b:Int)(c:aA)(d:List Term)(e:List Pat):TS:=bH PP 220 [uY a b c d e] [] 0
def aKg(c d:Int)(e:aA)(a:List Term)(f:List Pat)(b:Int):TS:=⟨tf 220 16 [(7,aPU a),(8,nI (a.length:Int)),(9,nI b)] [kc f220 60,kl f220 60,.inBlock 0],[],[],0⟩
def aYe(a b:Int)(c:aA)(d:List Term)(e:List Pat):TS:=bH PP 176 [uY a b c d e] [] 0
def aTB(a b e f:Int)(g:aA)(c:List Term)(i:List Pat)(d:Int):=tT 1 (aZM a b e f g c i d)<|gw 16 8 (a-1)<|gd 11 16 ((a-1) ≥0) (.b 13 3 (!(decide (d≤b))) (.P 7 2 [] [(uZ,false)] [oC 0 [nI (a-1),nI b]] 1)<|gm 12 dA c<|.W 4 2 [] (aPV a b e f g c i d 0 (a-1)))<|.P 20 2 [] [(uZ,false)] [oC 0 [nI (a-1),nI b]] 1
def aTC(m a n o:Int)(p:aA)(k:List Term)(q:List Pat)(g i l:Int):=tT 1 (aPV m a n o p k q g i l)<|gd 5 15 (i< (k.length:Int)) (aER 6 k i<|fun b c d e f=>gw 9 21 (g+1)<|.o (.y fun j:Int=>gK 0 (.enter 219 [.ptr 0 0,uY b c d e f,nI (g+1)]) [oC 0 [nI l,nI a],aE1 1 b c d e f] 2 [(uZ,false)] [oC 0 [nI j,nI a],aE1 1 b c d e f] 2<|.P 0 2 [] [(uZ,false)] [oC 0 [nI j,nI a]] 1)<|.y fun j:Int=>gk 0 (.enter 219 [.ptr 0 0,uY b c d e f,nI (g+1)]) [oC 0 [nI l,nI a],aE1 1 b c d e f] 2 (.tup []) [oC 0 [nI j,nI a],aE1 1 b c d e f] 2<|gw 4 23 (i+1)<|.W 3 2 [] (aPV m a n o p k q g (i+1) j))<|.E 3 1 [] (.tup []) [oC 0 [nI l,nI a]] 1
def aYf(b c:Int)(d:aA)(a:List Term)(e:List Pat):=tT 0 (aYd b c d a e)<|.o (.i [rn 7,.throws [(uZ,false)]] [hA (wO PP 251 [uY b c d a e] [(uZ,false)])]<|gQ 0 1 [(uZ,false)])<|gp 7 251 [uY b c d a e] (.tup [])<|gm 5 dA a<|.W 4 1 [] (aKg b c d a e 0)
def aTD(c d:Int)(e:aA)(b:List Term)(f:List Pat)(a:Int):=tT 0 (aKg c d e b f a)<|gd 5 10 (a< (b.length:Int)) (aER 6 b a<|fun g i j k l=>.o (.i [rn 6,.throws [(uZ,false)]] [hA (wO PP 220 [uY g i j k l] [(uZ,false)])]<|gQ 0 1 [(uZ,false)])<|gp 6 220 [uY g i j k l] (.tup [])<|gw 4 15 (a+1)<|.W 3 1 [] (aKg c d e b f (a+1)))<|gE 3 0 (.tup [])
def aTE(a b:Int)(c:aA)(d:List Term)(e:List Pat):=tT 0 (aYe a b c d e)<|.o (.y fun f:Int=>gK 36 (.enter 219 [.ptr 2 0,uY a b c d e,nI 1]) [aE1 0 a b c d e,oC 1 [bV false],oC 2 [nI 60,nI 14]] 3 [(uZ,false)] [aE1 0 a b c d e,oC 1 [bV false],oC 2 [nI f,nI 14]] 3<|gE 50 4 (nI 2))<|.y fun f:Int=>gk 36 (.enter 219 [.ptr 2 0,uY a b c d e,nI 1]) [aE1 0 a b c d e,oC 1 [bV false],oC 2 [nI 60,nI 14]] 3 (.tup []) [aE1 0 a b c d e,oC 1 [bV false],oC 2 [nI f,nI 14]] 3<|.o (.i [rn 3,.throws [(uZ,false)]] [hA (wO PP 220 [uY a b c d e] [(uZ,false)])]<|gE 50 4 (nI 2))<|gp 3 220 [uY a b c d e] (.tup [])<|gE 38 3 (nI 0)
abbrev aYg:AV:=.agg [bV false,bV false,bV false,nI 0]
abbrev aPW (a:List Term):AV:=.ilst 5 (av a) false
abbrev aPX:AV:=.tup [aYg,bV true]
abbrev aIE:AV:=.tup [.agg [bV false,bV false,bV false,nI 1],bV true]
abbrev aE2:AV:=.tup [.agg [bV false,bV false,bV false,nI 2],bV true]
abbrev aTF (a b:Int)(c:aA)(d:List Term)(e:List Pat):AV:=.agg [nI a,nI b,aD c,aPW d,iP e]
abbrev aYh:AV:=.tup [.agg [bV true,bV false,bV false,nI 0],bV true]
abbrev aYi:AV:=.tup [.agg [bV false,bV true,bV false,nI 1],bV true]
abbrev nF:AV:=.iface 315 (.agg [])
def aTG(a b:Int)(c:aA)(d:List Term)(e:List Pat):TS:=bH PP 251 [aTF a b c d e] [] 0
def rK(a b:Int)(c:aA)(d:List Term)(e:List Pat)(f g i:Bool)(j:Int):TS:=⟨tf 251 121 [kp 1 0,kp 2 1] [kc f251 15],[],[oC 0 [nI a,nI b,aD c,aPW d,iP e],oC 1 [bV f,bV g,bV i,nI j]],2⟩
def rM(a b:Int)(c:aA)(d:List Term)(e:List Pat)(f g i:Bool)(j:Int):TS:=⟨tf 251 121 [kp 1 0,kp 2 1] [kc f251 31],[],[oC 0 [nI a,nI b,aD c,aPW d,iP e],oC 1 [bV f,bV g,bV i,nI j]],2⟩
def aGJ(b c:Int)(d:aA)(e:List Term)(a:List Pat)(f g i:Bool)(j k:Int):TS:=⟨tf 251 121 [kp 1 0,kp 2 1,(99,iP a),(100,nI (a.length:Int)),(101,nI k)] [kc f251 2015212,kl f251 2015212,.inBlock 1,.inBlock 0,kc f251 31],[],[oC 0 [nI b,nI c,aD d,aPW e,iP a],oC 1 [bV f,bV g,bV i,nI j]],2⟩
def bAK(a d:Int)(e:aA)(b:List Term)(c:List Pat):=tT 0 (start PP 272 [aTF a d e b c])<|.b 19 6 (a==1) (gE 10 2 aYh)<|.b 5 6 (a==2) (gE 8 2 aYh)<|.b 7 10 (a==3) (gE 10 2 aPX)<|.b 6 10 (a==21) (gE 10 2 aPX)<|.b 6 10 (a==25) (gE 10 2 aPX)<|.b 5 10 (a==28) (gE 8 2 aPX)<|.b 6 16 (a==4) (gE 8 2 (.tup [.agg [bV false,bV true,bV false,nI 0],bV true]))<|.b 7 19 (a==5) (gE 10 2 aYi)<|.b 5 19 (a==27) (gE 8 2 aYi)<|.b 6 23 (a==7) (gE 8 2 (.tup [.agg [bV false,bV true,bV false,nI 2],bV true]))<|.b 6 26 (a==8) (gE 8 2 (.tup [.agg [bV false,bV false,bV false,nI 3],bV true]))<|.b 6 29 (a==14) (gm 5 dA b<|gE 6 2 (.tup [.agg [bV false,bV true,bV false,nI (if 3< (b.length:Int)then 3 else(b.length:Int))],bV true]))<|.b 6 36 (a==15) (gm 5 aF c<|gw 1 41 (1+ (c.length:Int))<|gE 5 2 (.tup [.agg [bV false,bV false,bV true,nI (1+ (c.length:Int))],bV true]))<|.b 7 43 (a==16) (gE 10 2 aIE)<|.b 6 43 (a==17) (gE 10 2 aIE)<|.b 6 43 (a==19) (gE 10 2 aIE)<|.b 6 43 (a==20) (gE 10 2 aIE)<|.b 6 43 (a==23) (gE 10 2 aIE)<|.b 5 43 (a==26) (gE 8 2 aIE)<|.b 6 51 (a==24) (gE 8 2 (.tup [.agg [bV true,bV false,bV false,nI 1],bV true]))<|.b 7 54 (a==6) (gE 10 2 aE2)<|.b 6 54 (a==9) (gE 10 2 aE2)<|.b 6 54 (a==10) (gE 10 2 aE2)<|.b 6 54 (a==11) (gE 10 2 aE2)<|.b 6 54 (a==12) (gE 10 2 aE2)<|.b 6 54 (a==13) (gE 10 2 aE2)<|.b 6 54 (a==18) (gE 10 2 aE2)<|.b 5 54 (a==22) (gE 8 2 aE2)<|gE 10 2 (.tup [aYg,bV false])
def aBN(g e:Int)(b:aA)(d:List Term)(a:List Pat):=tT 0 (aTG g e b d a)<|.y fun i:Bool=>.y fun f:Bool=>.y fun c:Bool=>.y fun j:Int=>.y fun k:Bool=>gp 7 272 [aTF g e b d a] (.tup [.agg [bV i,bV f,bV c,nI j],bV k])<|.b 11 12 k (gm 2 dA d<|.b 5 20 ((d.length:Int) ==j) (.b 3 23 i (.b 9 32 f (.b 9 41 c (.W 17 2 [0,1] (rK g e b d a i f c j))<|gm 2 aF a<|.b 9 3 (!((a.length:Int) ==0)) (gQ 6 2 [(nF,false)])<|.W 5 2 [0,1] (rK g e b d a i f c j))<|.b 6 38 (bB b.length (aC b) 0 0) (.b 3 41 c (.W 17 2 [0,1] (rK g e b d a i f c j))<|gm 2 aF a<|.b 9 3 (!((a.length:Int) ==0)) (gQ 6 2 [(nF,false)])<|.W 5 2 [0,1] (rK g e b d a i f c j))<|gQ 21 2 [(nF,false)])<|.b 6 29 (e==0) (.b 3 32 f (.b 9 41 c (.W 17 2 [0,1] (rK g e b d a i f c j))<|gm 2 aF a<|.b 9 3 (!((a.length:Int) ==0)) (gQ 6 2 [(nF,false)])<|.W 5 2 [0,1] (rK g e b d a i f c j))<|.b 6 38 (bB b.length (aC b) 0 0) (.b 3 41 c (.W 17 2 [0,1] (rK g e b d a i f c j))<|gm 2 aF a<|.b 9 3 (!((a.length:Int) ==0)) (gQ 6 2 [(nF,false)])<|.W 5 2 [0,1] (rK g e b d a i f c j))<|gQ 21 2 [(nF,false)])<|gQ 30 2 [(nF,false)])<|gQ 39 2 [(nF,false)])<|gQ 47 2 [(nF,false)]
def tC(a b:Int)(d:aA)(e:List Term)(c:List Pat)(f g i:Bool)(j:Int):=tT 0 (rK a b d e c f g i j)<|.b 12 51 (a==1) (cD 4 273 [nI b]<|fun k=>.b 6 3 (!k) (gQ 6 2 [(nF,false)])<|.W 6 2 [0,1] (rM a b d e c f g i j))<|.b 6 57 (a==2) (.b 6 62 (b==0) (.W 16 2 [0,1] (rM a b d e c f g i j))<|.b 10 3 (!(b==1)) (gQ 6 2 [(nF,false)])<|.W 6 2 [0,1] (rM a b d e c f g i j))<|.b 6 68 (a==24) (gd 6 73 (b≥0) (.b 10 3 (!(decide (b<4))) (gQ 6 2 [(nF,false)])<|.W 6 2 [0,1] (rM a b d e c f g i j))<|gQ 16 2 [(nF,false)])<|.b 6 79 (a==14) (cD 4 171 [aD d]<|fun k=>.b 6 3 (!k) (gQ 6 2 [(nF,false)])<|.W 6 2 [0,1] (rM a b d e c f g i j))<|.b 6 85 (a==15) (gm 5 aF c<|gd 2 91 ((c.length:Int) ≥1) (gm 2 aF c<|.b 8 3 (!(decide ((c.length:Int) ≤5))) (gQ 6 2 [(nF,false)])<|gm 9 aF c<|.W 4 2 [0,1] (aGJ a b d e c f g i j 0))<|gQ 17 2 [(nF,false)])<|.W 3 2 [0,1] (rM a b d e c f g i j)
def aPY(a d:Int)(b:aA)(e:List Term)(f:List Pat)(g c i:Bool)(j:Int):=tT 0 (rM a d b e f g c i j)<|.b 5 112 c (.b 5 116 (a != 14) (cD 4 107 [aD b]<|fun k=>.b 6 3 (!k) (gQ 6 2 [(nF,false)])<|gE 6 2 (.tup []))<|gE 3 2 (.tup []))<|gE 8 2 (.tup [])
def aTH(c d:Int)(e:aA)(f:List Term)(a:List Pat)(g i j:Bool)(k b:Int):=tT 0 (aGJ c d e f a g i j k b)<|gd 5 102 (b< (a.length:Int)) (wY 6 a b<|fun l m n o=>gpI 6 274 [.agg [nI l,nI m,aD n,iP o]]<|fun p=>.b 7 3 (!(p==0)) (gQ 6 3 [(nF,false)])<|gw 8 109 (b+1)<|.W 3 3 [0,1] (aGJ c d e f a g i j k (b+1)))<|.W 3 2 [0,1] (rM c d e f a g i j k)
def lQ (op:Int) :Bool:=decide (op=1∨op=2∨op=24)
def kZ (op:Int) :Bool:=decide (op=4∨op=5∨op=27∨op=7∨op=14)
def lA (op:Int) :Bool:=decide (op=15)
def lR (op k m:Int) :Int:=
 if op=5∨op=27 then 1 else if op=7 then 2 else if op=8 then 3 else if op=14 then(if 3<k then 3 else k)else if op=15 then 1+m
 else if op=16∨op=17∨op=19∨op=20∨op=23∨op=26∨op=24 then 1
 else if op=6∨op=9∨op=10∨op=11∨op=12∨op=13∨op=18∨op=22 then 2 else 0
def hiT (op:Int) :Bool:=decide (op=1∨op=2∨op=3∨op=21∨op=25∨op=28∨op=4∨op=5∨op=27∨op=7∨op=8∨op=14∨op=15∨op=16∨op=17∨op=19∨op=20∨op=23∨op=26∨op=24∨op=6∨op=9∨op=10∨op=11∨op=12∨op=13∨op=18∨op=22)
theorem bAL (t6 q9:Int)(t0:aA)(t4:List Term)(t3:List Pat)(hks:t4.length<1000000)(hps:t3.length<1000000) :
  Ends PP 0 (start PP 272 [Term.av (.mk t6 q9 t0 t4 t3)]).as (.ret (.tup [.agg [.bool (lQ t6),.bool (kZ t6),.bool (lA t6),.int .i64 (lR t6 (length t4) (length t3))],.bool (hiT t6)])) (aG [] 0) :=by
 have T0:=bAK t6 q9 t0 t4 t3;cases hb1: (t6== (1:Int))
 case true=>exact Ends.eqv (T0|>.t hb1 tv) (by clear T0;simp_all [lQ,kZ,lA,lR,hiT])
 replace T0:=T0.f hb1;cases hb2: (t6== (2:Int))
 case true=>exact Ends.eqv (T0|>.t hb2 tv) (by clear T0;simp_all [lQ,kZ,lA,lR,hiT])
 replace T0:=T0.f hb2;cases hb3: (t6== (3:Int))
 case true=>exact Ends.eqv (T0|>.t hb3 tv) (by clear T0;simp_all [lQ,kZ,lA,lR,hiT])
 replace T0:=T0.f hb3;cases hb4: (t6== (21:Int))
 case true=>exact Ends.eqv (T0|>.t hb4 tv) (by clear T0;simp_all [lQ,kZ,lA,lR,hiT])
 replace T0:=T0.f hb4;cases hb5: (t6== (25:Int))
 case true=>exact Ends.eqv (T0|>.t hb5 tv) (by clear T0;simp_all [lQ,kZ,lA,lR,hiT])
 replace T0:=T0.f hb5;cases hb6: (t6== (28:Int))
 case true=>exact Ends.eqv (T0|>.t hb6 tv) (by clear T0;simp_all [lQ,kZ,lA,lR,hiT])
 replace T0:=T0.f hb6;cases hb7: (t6== (4:Int))
 case true=>exact Ends.eqv (T0|>.t hb7 tv) (by clear T0;simp_all [lQ,kZ,lA,lR,hiT])
 replace T0:=T0.f hb7;cases hb8: (t6== (5:Int))
 case true=>exact Ends.eqv (T0|>.t hb8 tv) (by clear T0;simp_all [lQ,kZ,lA,lR,hiT])
 replace T0:=T0.f hb8;cases hb9: (t6== (27:Int))
 case true=>exact Ends.eqv (T0|>.t hb9 tv) (by clear T0;simp_all [lQ,kZ,lA,lR,hiT])
 replace T0:=T0.f hb9;cases hb10: (t6== (7:Int))
 case true=>exact Ends.eqv (T0|>.t hb10 tv) (by clear T0;simp_all [lQ,kZ,lA,lR,hiT])
 replace T0:=T0.f hb10;cases hb11: (t6== (8:Int))
 case true=>exact Ends.eqv (T0|>.t hb11 tv) (by clear T0;simp_all [lQ,kZ,lA,lR,hiT])
 replace T0:=T0.f hb11;cases hb12: (t6== (14:Int))
 case true=>exact Ends.eqv (T0|>.t hb12 tv) (by clear T0;simp_all [lQ,kZ,lA,lR,hiT])
 replace T0:=T0.f hb12;cases hb13: (t6== (15:Int))
 case true=>exact Ends.eqv (T0|>.t hb13 sdI tv) (by clear T0;simp_all [lQ,kZ,lA,lR,hiT])
 replace T0:=T0.f hb13;cases hb14: (t6== (16:Int))
 case true=>exact Ends.eqv (T0|>.t hb14 tv) (by clear T0;simp_all [lQ,kZ,lA,lR,hiT])
 replace T0:=T0.f hb14;cases hb15: (t6== (17:Int))
 case true=>exact Ends.eqv (T0|>.t hb15 tv) (by clear T0;simp_all [lQ,kZ,lA,lR,hiT])
 replace T0:=T0.f hb15;cases hb16: (t6== (19:Int))
 case true=>exact Ends.eqv (T0|>.t hb16 tv) (by clear T0;simp_all [lQ,kZ,lA,lR,hiT])
 replace T0:=T0.f hb16;cases hb17: (t6== (20:Int))
 case true=>exact Ends.eqv (T0|>.t hb17 tv) (by clear T0;simp_all [lQ,kZ,lA,lR,hiT])
 replace T0:=T0.f hb17;cases hb18: (t6== (23:Int))
 case true=>exact Ends.eqv (T0|>.t hb18 tv) (by clear T0;simp_all [lQ,kZ,lA,lR,hiT])
 replace T0:=T0.f hb18;cases hb19: (t6== (26:Int))
 case true=>exact Ends.eqv (T0|>.t hb19 tv) (by clear T0;simp_all [lQ,kZ,lA,lR,hiT])
 replace T0:=T0.f hb19;cases hb20: (t6== (24:Int))
 case true=>exact Ends.eqv (T0|>.t hb20 tv) (by clear T0;simp_all [lQ,kZ,lA,lR,hiT])
 replace T0:=T0.f hb20;cases hb21: (t6== (6:Int))
 case true=>exact Ends.eqv (T0|>.t hb21 tv) (by clear T0;simp_all [lQ,kZ,lA,lR,hiT])
 replace T0:=T0.f hb21;cases hb22: (t6== (9:Int))
 case true=>exact Ends.eqv (T0|>.t hb22 tv) (by clear T0;simp_all [lQ,kZ,lA,lR,hiT])
 replace T0:=T0.f hb22;cases hb23: (t6== (10:Int))
 case true=>exact Ends.eqv (T0|>.t hb23 tv) (by clear T0;simp_all [lQ,kZ,lA,lR,hiT])
 replace T0:=T0.f hb23;cases hb24: (t6== (11:Int))
 case true=>exact Ends.eqv (T0|>.t hb24 tv) (by clear T0;simp_all [lQ,kZ,lA,lR,hiT])
 replace T0:=T0.f hb24;cases hb25: (t6== (12:Int))
 case true=>exact Ends.eqv (T0|>.t hb25 tv) (by clear T0;simp_all [lQ,kZ,lA,lR,hiT])
 replace T0:=T0.f hb25;cases hb26: (t6== (13:Int))
 case true=>exact Ends.eqv (T0|>.t hb26 tv) (by clear T0;simp_all [lQ,kZ,lA,lR,hiT])
 replace T0:=T0.f hb26;cases hb27: (t6== (18:Int))
 case true=>exact Ends.eqv (T0|>.t hb27 tv) (by clear T0;simp_all [lQ,kZ,lA,lR,hiT])
 cases hb28: (t6== (22:Int))
 case true=>exact Ends.eqv (T0|>.f hb27|>.t hb28 tv) (by clear T0;simp_all [lQ,kZ,lA,lR,hiT])
 exact Ends.eqv (T0|>.f hb27|>.f hb28 tv) (by clear T0;simp_all [lQ,kZ,lA,lR,hiT])
theorem aTI (o n:Int)(s:aA)(ks:List Term)(ps:List Pat)(hks:ks.length<1000000)(hps:ps.length<1000000) :Pure PP 272 [Term.av (.mk o n s ks ps)] (.tup [.agg [.bool (lQ o),.bool (kZ o),.bool (lA o),.int .i64 (lR o (length ks) (length ps))],.bool (hiT o)]) :=
 aP (by kernel_rfl) (by simp [AV.keylessL,jX]) rfl (bAL o n s ks ps hks hps)
def aX (hi hn ht hp:Bool)(K n:Int)(s:aA)(k m:Int) :Bool:=hi&&decide (k=K) && (hn||decide (n=0)) && (ht||decide (s= [])) && (hp||decide (m=0))
def aT (op n:Int)(s:aA)(k m:Int) :Bool:=aX (hiT op) (lQ op) (kZ op) (lA op) (lR op k m) n s k m
def bT (op n:Int)(s:aA)(m:Int) :Bool:=
 if op=1 then bG n (-1000000000) 1000000000 else if op=2 then bG n 0 1 else if op=24 then bG n 0 3 else if op=14 then cP s else if op=15 then bG m 1 5 else true
def dT (op:Int)(s:aA) :Bool:=if kZ op=true∧op≠14 then eH s else true
theorem aTJ (op n:Int)(s:aA)(k m:Int) :aL op n s k m= (aT op n s k m&&bT op n s m&&dT op s) :=by
 by_cases h1:op=1
 · subst h1;simp [aL,aT,aX,bT,dT,hiT,lR,lQ,kZ,lA,aM,Bool.and_assoc,Bool.and_comm,Bool.and_left_comm]
 by_cases h2:op=2
 · subst h2;simp [aL,aT,aX,bT,dT,hiT,lR,lQ,kZ,lA,aM,Bool.and_assoc,Bool.and_comm,Bool.and_left_comm]
 by_cases h3:op=3
 · subst h3;simp [aL,aT,aX,bT,dT,hiT,lR,lQ,kZ,lA,aM,Bool.and_assoc,Bool.and_comm,Bool.and_left_comm]
 by_cases h21:op=21
 · subst h21;simp [aL,aT,aX,bT,dT,hiT,lR,lQ,kZ,lA,aM,Bool.and_assoc,Bool.and_comm,Bool.and_left_comm]
 by_cases h25:op=25
 · subst h25;simp [aL,aT,aX,bT,dT,hiT,lR,lQ,kZ,lA,aM,Bool.and_assoc,Bool.and_comm,Bool.and_left_comm]
 by_cases h28:op=28
 · subst h28;simp [aL,aT,aX,bT,dT,hiT,lR,lQ,kZ,lA,aM,Bool.and_assoc,Bool.and_comm,Bool.and_left_comm]
 by_cases h4:op=4
 · subst h4;simp [aL,aT,aX,bT,dT,hiT,lR,lQ,kZ,lA,aM,Bool.and_assoc,Bool.and_comm,Bool.and_left_comm]
 by_cases h5:op=5
 · subst h5;simp [aL,aT,aX,bT,dT,hiT,lR,lQ,kZ,lA,aM,Bool.and_assoc,Bool.and_comm,Bool.and_left_comm]
 by_cases h27:op=27
 · subst h27;simp [aL,aT,aX,bT,dT,hiT,lR,lQ,kZ,lA,aM,Bool.and_assoc,Bool.and_comm,Bool.and_left_comm]
 by_cases h7:op=7
 · subst h7;simp [aL,aT,aX,bT,dT,hiT,lR,lQ,kZ,lA,aM,Bool.and_assoc,Bool.and_comm,Bool.and_left_comm]
 by_cases h8:op=8
 · subst h8;simp [aL,aT,aX,bT,dT,hiT,lR,lQ,kZ,lA,aM,Bool.and_assoc,Bool.and_comm,Bool.and_left_comm]
 by_cases h15:op=15
 · subst h15;simp [aL,aT,aX,bT,dT,hiT,lR,lQ,kZ,lA,aM,Bool.and_assoc,Bool.and_comm,Bool.and_left_comm]
 by_cases h16:op=16
 · subst h16;simp [aL,aT,aX,bT,dT,hiT,lR,lQ,kZ,lA,aM,Bool.and_assoc,Bool.and_comm,Bool.and_left_comm]
 by_cases h17:op=17
 · subst h17;simp [aL,aT,aX,bT,dT,hiT,lR,lQ,kZ,lA,aM,Bool.and_assoc,Bool.and_comm,Bool.and_left_comm]
 by_cases h19:op=19
 · subst h19;simp [aL,aT,aX,bT,dT,hiT,lR,lQ,kZ,lA,aM,Bool.and_assoc,Bool.and_comm,Bool.and_left_comm]
 by_cases h20:op=20
 · subst h20;simp [aL,aT,aX,bT,dT,hiT,lR,lQ,kZ,lA,aM,Bool.and_assoc,Bool.and_comm,Bool.and_left_comm]
 by_cases h23:op=23
 · subst h23;simp [aL,aT,aX,bT,dT,hiT,lR,lQ,kZ,lA,aM,Bool.and_assoc,Bool.and_comm,Bool.and_left_comm]
 by_cases h26:op=26
 · subst h26;simp [aL,aT,aX,bT,dT,hiT,lR,lQ,kZ,lA,aM,Bool.and_assoc,Bool.and_comm,Bool.and_left_comm]
 by_cases h24:op=24
 · subst h24;simp [aL,aT,aX,bT,dT,hiT,lR,lQ,kZ,lA,aM,Bool.and_assoc,Bool.and_comm,Bool.and_left_comm]
 by_cases h6:op=6
 · subst h6;simp [aL,aT,aX,bT,dT,hiT,lR,lQ,kZ,lA,aM,Bool.and_assoc,Bool.and_comm,Bool.and_left_comm]
 by_cases h9:op=9
 · subst h9;simp [aL,aT,aX,bT,dT,hiT,lR,lQ,kZ,lA,aM,Bool.and_assoc,Bool.and_comm,Bool.and_left_comm]
 by_cases h10:op=10
 · subst h10;simp [aL,aT,aX,bT,dT,hiT,lR,lQ,kZ,lA,aM,Bool.and_assoc,Bool.and_comm,Bool.and_left_comm]
 by_cases h11:op=11
 · subst h11;simp [aL,aT,aX,bT,dT,hiT,lR,lQ,kZ,lA,aM,Bool.and_assoc,Bool.and_comm,Bool.and_left_comm]
 by_cases h12:op=12
 · subst h12;simp [aL,aT,aX,bT,dT,hiT,lR,lQ,kZ,lA,aM,Bool.and_assoc,Bool.and_comm,Bool.and_left_comm]
 by_cases h13:op=13
 · subst h13;simp [aL,aT,aX,bT,dT,hiT,lR,lQ,kZ,lA,aM,Bool.and_assoc,Bool.and_comm,Bool.and_left_comm]
 by_cases h18:op=18
 · subst h18;simp [aL,aT,aX,bT,dT,hiT,lR,lQ,kZ,lA,aM,Bool.and_assoc,Bool.and_comm,Bool.and_left_comm]
 by_cases h22:op=22
 · subst h22;simp [aL,aT,aX,bT,dT,hiT,lR,lQ,kZ,lA,aM,Bool.and_assoc,Bool.and_comm,Bool.and_left_comm]
 by_cases h14:op=14
 · subst h14;have e: (!decide (3<k) ||decide (k=3)) =decide (k≤3) :=by by_cases h:3<k<;>simp [h] <;>omega
   simp [aL,aT,aX,bT,dT,hiT,lR,lQ,kZ,lA,aM,e,Bool.and_assoc,Bool.and_comm,Bool.and_left_comm]
 have hf:aL op n s k m=false:=by simp [aL,h1,h2,h3,h21,h25,h28,h4,h5,h27,h7,h8,h15,h16,h17,h19,h20,h23,h26,h24,h6,h9,h10,h11,h12,h13,h18,h22,h14]
 have hi:hiT op=false:=by simp [hiT,h1,h2,h3,h21,h25,h28,h4,h5,h27,h7,h8,h15,h16,h17,h19,h20,h23,h26,h24,h6,h9,h10,h11,h12,h13,h18,h22,h14]
 rw [hf];simp [aT,aX,hi]
theorem bAM (t6 q9:Int)(t0:aA)(t4:List Term)(t3:List Pat)(hn0 ht1 hp2:Bool)(hk3:Int)(hht:ht1=kZ t6) :
  Ends PP 0 (rM t6 q9 t0 t4 t3 hn0 ht1 hp2 hk3).as (mE (dT t6 t0)) (aG [] 0) :=by
 cases ht1
 case true=>
  cases hb1: (t6 != (14:Int))
  case true=>
   cases hb2: (!(eH t0))
   case true=>
    rw [show dT t6 t0=false by simp_all [dT]];exact aPY t6 q9 t0 t4 t3 hn0 true hp2 hk3|>.t rfl|>.t hb1 (eH t0) (kC t0)|>.t hb2 tv
   rw [show dT t6 t0=true by simp_all [dT]];exact aPY t6 q9 t0 t4 t3 hn0 true hp2 hk3|>.t rfl|>.t hb1 (eH t0) (kC t0)|>.f hb2 tv
  rw [show dT t6 t0=true by simp_all [dT]];exact aPY t6 q9 t0 t4 t3 hn0 true hp2 hk3|>.t rfl|>.f hb1 tv
 rw [show dT t6 t0=true by simp_all [dT]];exact aPY t6 q9 t0 t4 t3 hn0 false hp2 hk3|>.f rfl tv
theorem bAN (t6 q9:Int)(t0:aA)(t4:List Term)(t3:List Pat)(hn0 ht1 hp2:Bool)(hk3:Int)(b:Bool)(hno:bT t6 q9 t0 (length t3) =false→b=false)
  (h1:bT t6 q9 t0 (length t3) =true→t6≠15→Ends PP 0 (rM t6 q9 t0 t4 t3 hn0 ht1 hp2 hk3).as (mE b) (aG [] 0))
  (h2:bT t6 q9 t0 (length t3) =true→t6=15→Ends PP 0 (aGJ t6 q9 t0 t4 t3 hn0 ht1 hp2 hk3 0).as (mE b) (aG [] 0)) :
  Ends PP 0 (rK t6 q9 t0 t4 t3 hn0 ht1 hp2 hk3).as (mE b) (aG [] 0) :=by
 cases hb1: (t6== (1:Int))
 case true=>
  cases hb2: (!(bG q9 (-1000000000) 1000000000))
  case true=>
   rw [hno (by clear h1 h2 hno;simp_all [bT,bG] <;>omega)];exact tC t6 q9 t0 t4 t3 hn0 ht1 hp2 hk3|>.t hb1 (bG q9 (-1000000000) 1000000000) (aAY q9)|>.t hb2 tv
  exact LeadsM.ends (tC t6 q9 t0 t4 t3 hn0 ht1 hp2 hk3|>.t hb1 (bG q9 (-1000000000) 1000000000) (aAY q9)|>.f hb2 tv) (h1 (by clear h1 h2 hno;simp_all [bT,bG] <;>omega) (by clear h1 h2 hno;simp_all [bT,bG] <;>omega))
 cases hb3: (t6== (2:Int))
 case true=>
  cases hb4: (q9== (0:Int))
  case true=>exact LeadsM.ends (tC t6 q9 t0 t4 t3 hn0 ht1 hp2 hk3|>.f hb1|>.t hb3|>.t hb4 tv) (h1 (by clear h1 h2 hno;simp_all [bT,bG] <;>omega) (by clear h1 h2 hno;simp_all [bT,bG] <;>omega))
  cases hb5: (!(q9== (1:Int)))
  case true=>
   rw [hno (by clear h1 h2 hno;simp_all [bT,bG] <;>omega)];exact tC t6 q9 t0 t4 t3 hn0 ht1 hp2 hk3|>.f hb1|>.t hb3|>.f hb4|>.t hb5 tv
  exact LeadsM.ends (tC t6 q9 t0 t4 t3 hn0 ht1 hp2 hk3|>.f hb1|>.t hb3|>.f hb4|>.f hb5 tv) (h1 (by clear h1 h2 hno;simp_all [bT,bG] <;>omega) (by clear h1 h2 hno;simp_all [bT,bG] <;>omega))
 cases hb6: (t6== (24:Int))
 case true=>
  cases hb7: (decide (q9≥ (0:Int)))
  case true=>
   cases hb8: (!(decide (q9< (4:Int))))
   case true=>
    rw [hno (by clear h1 h2 hno;simp_all [bT,bG] <;>omega)];exact tC t6 q9 t0 t4 t3 hn0 ht1 hp2 hk3|>.f hb1|>.f hb3|>.t hb6|>.t hb7|>.t hb8 tv
   exact LeadsM.ends (tC t6 q9 t0 t4 t3 hn0 ht1 hp2 hk3|>.f hb1|>.f hb3|>.t hb6|>.t hb7|>.f hb8 tv) (h1 (by clear h1 h2 hno;simp_all [bT,bG] <;>omega) (by clear h1 h2 hno;simp_all [bT,bG] <;>omega))
  rw [hno (by clear h1 h2 hno;simp_all [bT,bG] <;>omega)];exact tC t6 q9 t0 t4 t3 hn0 ht1 hp2 hk3|>.f hb1|>.f hb3|>.t hb6|>.f hb7 tv
 cases hb9: (t6== (14:Int))
 case true=>
  cases hb10: (!(cP t0))
  case true=>
   rw [hno (by clear h1 h2 hno;simp_all [bT,bG] <;>omega)];exact tC t6 q9 t0 t4 t3 hn0 ht1 hp2 hk3|>.f hb1|>.f hb3|>.f hb6|>.t hb9 (cP t0) (iG t0)|>.t hb10 tv
  exact LeadsM.ends (tC t6 q9 t0 t4 t3 hn0 ht1 hp2 hk3|>.f hb1|>.f hb3|>.f hb6|>.t hb9 (cP t0) (iG t0)|>.f hb10 tv) (h1 (by clear h1 h2 hno;simp_all [bT,bG] <;>omega) (by clear h1 h2 hno;simp_all [bT,bG] <;>omega))
 cases hb11: (t6== (15:Int))
 case true=>
  cases hb12: (decide (((length t3:Nat) :Int) ≥ (1:Int)))
  case true=>
   cases hb13: (!(decide (((length t3:Nat) :Int) ≤ (5:Int))))
   case true=>
    rw [hno (by clear h1 h2 hno;simp_all [bT,bG] <;>omega)];exact tC t6 q9 t0 t4 t3 hn0 ht1 hp2 hk3|>.f hb1|>.f hb3|>.f hb6|>.f hb9|>.t hb11|>.t hb12|>.t hb13 tv
   exact LeadsM.ends (tC t6 q9 t0 t4 t3 hn0 ht1 hp2 hk3|>.f hb1|>.f hb3|>.f hb6|>.f hb9|>.t hb11|>.t hb12|>.f hb13 tv) (h2 (by clear h1 h2 hno;simp_all [bT,bG] <;>omega) (by clear h1 h2 hno;simp_all [bT,bG] <;>omega))
  rw [hno (by clear h1 h2 hno;simp_all [bT,bG] <;>omega)];exact tC t6 q9 t0 t4 t3 hn0 ht1 hp2 hk3|>.f hb1|>.f hb3|>.f hb6|>.f hb9|>.t hb11|>.f hb12 tv
 exact LeadsM.ends (tC t6 q9 t0 t4 t3 hn0 ht1 hp2 hk3|>.f hb1|>.f hb3|>.f hb6|>.f hb9|>.f hb11 tv) (h1 (by clear h1 h2 hno;simp_all [bT,bG] <;>omega) (by clear h1 h2 hno;simp_all [bT,bG] <;>omega))
theorem bAO (t6 q9:Int)(t0:aA)(t4:List Term)(t3:List Pat)(hi hn ht hp:Bool)(K:Int)(hsh:Pure PP 272 [Term.av (.mk t6 q9 t0 t4 t3)] (.tup [.agg [.bool hn,.bool ht,.bool hp,.int .i64 K],.bool hi]))(b:Bool)(hno:aX hi hn ht hp K q9 t0 (length t4) (length t3) =false→b=false)
  (hk:aX hi hn ht hp K q9 t0 (length t4) (length t3) =true→Ends PP 0 (rK t6 q9 t0 t4 t3 hn ht hp K).as (mE b) (aG [] 0)) :
  Ends PP 0 (aTG t6 q9 t0 t4 t3).as (mE b) (aG [] 0) :=by
 have T0:=aBN t6 q9 t0 t4 t3 hn ht hp K hi hsh;cases hb1:hi
 case true=>
  replace T0:=T0.t hb1;cases hb2: (((length t4:Nat) :Int) ==K)
  case true=>
   replace T0:=T0.t hb2;cases hb3:hn
   case true=>
    replace T0:=T0.t hb3;cases hb4:ht
    case true=>
     cases hb5:hp
     case true=>exact LeadsM.ends (T0|>.t hb4|>.t hb5 tv) (hk (by clear hno hk hsh;simp_all [aX,aB,aE]))
     cases hb6: (!(((length t3:Nat) :Int) == (0:Int)))
     case true=>
      rw [hno (by clear hno hk hsh;simp_all [aX,aB,aE])];exact aBN t6 q9 t0 t4 t3 hn ht hp K hi hsh|>.t hb1|>.t hb2|>.t hb3|>.t hb4|>.f hb5|>.t hb6 tv
     exact LeadsM.ends (T0|>.t hb4|>.f hb5|>.f hb6 tv) (hk (by clear hno hk hsh;simp_all [aX,aB,aE]))
    cases hb7: (bB (length t0) (aC t0) 0 0)
    case true=>
     cases hb8:hp
     case true=>exact LeadsM.ends (T0|>.f hb4|>.t hb7|>.t hb8 tv) (hk (by clear hno hk hsh;simp_all [aX,aB,aE]))
     cases hb9: (!(((length t3:Nat) :Int) == (0:Int)))
     case true=>
      rw [hno (by clear hno hk hsh;simp_all [aX,aB,aE])];exact aBN t6 q9 t0 t4 t3 hn ht hp K hi hsh|>.t hb1|>.t hb2|>.t hb3|>.f hb4|>.t hb7|>.f hb8|>.t hb9 tv
     exact LeadsM.ends (T0|>.f hb4|>.t hb7|>.f hb8|>.f hb9 tv) (hk (by clear hno hk hsh;simp_all [aX,aB,aE]))
    rw [hno (by clear hno hk hsh;simp_all [aX,aB,aE])];exact aBN t6 q9 t0 t4 t3 hn ht hp K hi hsh|>.t hb1|>.t hb2|>.t hb3|>.f hb4|>.f hb7 tv
   replace T0:=T0.f hb3;cases hb10: (q9== (0:Int))
   case true=>
    replace T0:=T0.t hb10;cases hb11:ht
    case true=>
     cases hb12:hp
     case true=>exact LeadsM.ends (T0|>.t hb11|>.t hb12 tv) (hk (by clear hno hk hsh;simp_all [aX,aB,aE]))
     cases hb13: (!(((length t3:Nat) :Int) == (0:Int)))
     case true=>
      rw [hno (by clear hno hk hsh;simp_all [aX,aB,aE])];exact aBN t6 q9 t0 t4 t3 hn ht hp K hi hsh|>.t hb1|>.t hb2|>.f hb3|>.t hb10|>.t hb11|>.f hb12|>.t hb13 tv
     exact LeadsM.ends (T0|>.t hb11|>.f hb12|>.f hb13 tv) (hk (by clear hno hk hsh;simp_all [aX,aB,aE]))
    cases hb14: (bB (length t0) (aC t0) 0 0)
    case true=>
     cases hb15:hp
     case true=>exact LeadsM.ends (T0|>.f hb11|>.t hb14|>.t hb15 tv) (hk (by clear hno hk hsh;simp_all [aX,aB,aE]))
     cases hb16: (!(((length t3:Nat) :Int) == (0:Int)))
     case true=>
      rw [hno (by clear hno hk hsh;simp_all [aX,aB,aE])];exact aBN t6 q9 t0 t4 t3 hn ht hp K hi hsh|>.t hb1|>.t hb2|>.f hb3|>.t hb10|>.f hb11|>.t hb14|>.f hb15|>.t hb16 tv
     exact LeadsM.ends (T0|>.f hb11|>.t hb14|>.f hb15|>.f hb16 tv) (hk (by clear hno hk hsh;simp_all [aX,aB,aE]))
    rw [hno (by clear hno hk hsh;simp_all [aX,aB,aE])];exact aBN t6 q9 t0 t4 t3 hn ht hp K hi hsh|>.t hb1|>.t hb2|>.f hb3|>.t hb10|>.f hb11|>.f hb14 tv
   rw [hno (by clear hno hk hsh;simp_all [aX,aB,aE])];exact aBN t6 q9 t0 t4 t3 hn ht hp K hi hsh|>.t hb1|>.t hb2|>.f hb3|>.f hb10 tv
  rw [hno (by clear hno hk hsh;simp_all [aX,aB,aE])];exact aBN t6 q9 t0 t4 t3 hn ht hp K hi hsh|>.t hb1|>.f hb2 tv
 rw [hno (by clear hno hk hsh;simp_all [aX,aB,aE])];exact aBN t6 q9 t0 t4 t3 hn ht hp K hi hsh|>.f hb1 tv
def POT (f:Nat)(args:List AV)(b:Bool) :Prop:=bif b then Pure PP f args (.tup [])else wO PP f args FL
theorem aOw {f:Nat}{args:List AV}{s:TS}{b:Bool}(e: (start PP f args).as=s.as)(hb:oN PP f=true)(hk:AV.keylessL args=true)(he:Ends PP 0 s.as (mE b) (aG [] 0)) :POT f args b:=by
 cases b
 case true=>exact bU e hb hk rfl he
 exact throws_at hb hk (gP false) (by rw [e];exact he)
theorem aYk (o n:Int)(s:aA)(ks:List Term)(ps:List Pat)(hn ht hp:Bool)(K:Int)(b:Bool)(hl:ps.length<1000000)(hfit:∀q∈ps,bA q<1000000)(h1:Ends PP 0 (rM o n s ks ps hn ht hp K).as (mE b) (aG [] 0)) :
  ∀ (qs:List Pat) (i:Nat),ps.drop i=qs→Ends PP 0 (aGJ o n s ks ps hn ht hp K (i:Int)).as (mE (qs.all aFi&&b)) (aG [] 0)
 | [],i,h=>by
  have:=aZ h;exact(aTH o n s ks ps hn ht hp K i|>.f sd tv).ends h1
 | .mk f' n' s' ps'::qs,i,h=>by
  obtain⟨g1,g2,g3⟩ :=aY h;have hc:=aTA (.mk f' n' s' ps') (hfit _ (mem_of_getElem? g1));rw [all_cons];cases hq:aFi (.mk f' n' s' ps')
  case true=>
   rw [hq,if_pos rfl]at hc;rw [Bool.true_and];exact(aTH o n s ks ps hn ht hp K i|>.t sd f' n' s' ps' sd sd 0 hc|>.f (by simp) sd tv).ends (aYk o n s ks ps hn ht hp K b hl hfit h1 qs (i+1) g2)
  rw [hq,if_neg (by simp)]at hc;rw [Bool.false_and,Bool.false_and];exact aTH o n s ks ps hn ht hp K i|>.t sd f' n' s' ps' sd sd 2 hc|>.t (by simp) tv
theorem aWN (o n:Int)(s:aA)(ks:List Term)(ps:List Pat)(hks:ks.length<1000000)(hps:ps.length<1000000)(hfit:∀q∈ps,bA q<1000000) :POT 251 [Term.av (.mk o n s ks ps)] (aL o n s (length ks) (length ps) &&ps.all aFi) :=by
 refine aOw (s:=aTG o n s ks ps) (by kernel_rfl) (by kernel_rfl) (by simp [AV.keylessL,jX]) ?_;have hD:=bAM o n s ks ps (lQ o) (kZ o) (lA o) (lR o (length ks) (length ps)) rfl;rw [aTJ];unfold aT;refine bAO o n s ks ps (hiT o) (lQ o) (kZ o) (lA o) (lR o (length ks) (length ps)) (aTI o n s ks ps hks hps) _ (fun h=>by rw [h];simp) (fun ha=>?_);rw [ha];refine bAN o n s ks ps _ _ _ _ _ (fun h=>by rw [h];simp) (fun hb h15=>?_) (fun hb h15=>?_)
 · have hm:ps= [] :=by
    have hp:lA o=false:=by simp [lA,h15]
    rw [hp]at ha;simp only [aX,and_eq_true,Bool.false_or,decide_eq_true_eq]at ha;exact List.length_eq_zero_iff.1 (by have:=ha.2;omega)
   subst hm;rw [hb];simpa using hD
 · have hC:=aYk o n s ks ps (lQ o) (kZ o) (lA o) (lR o (length ks) (length ps)) _ hps hfit hD ps 0 rfl;rw [hb,Bool.true_and,Bool.true_and,Bool.and_comm];exact hC
theorem aRI {ks:List Term}{ps:List Pat}(h:pW ks+aQ ps+1<1000000) :∀q∈ps,bA q<1000000:=fun q hq=>by
 have:∀ (ps:List Pat),q∈ps→bA q≤aQ ps:=by
  intro ps
  induction ps with
  |nil=>intro h;cases h
  | cons p ps ih=>
   intro h;simp only [aQ];rcases List.mem_cons.1 h with e|h
   ·rw [e];omega
   ·have:=ih h;omega
 have:=this ps hq;omega
theorem aMH (o n:Int)(s:aA)(ks:List Term)(ps:List Pat)(hl:ks.length<1000000)(ih:∀t∈ks,POT 220 [Term.av t] (kQ t)) :
  ∀ (ts:List Term) (i:Nat),ks.drop i=ts→Ends PP 0 (aKg o n s ks ps (i:Int)).as (mE (rJ ts)) (aG [] 0)
 | [],i,h=>by
  have:=aZ h;exact aTD o n s ks ps i|>.f sd tv
 | .mk o' n' s' ks' ps'::ts,i,h=>by
  obtain⟨g1,g2,g3⟩ :=aY h;have hp:=ih _ (mem_of_getElem? g1);rw [rJ];cases hb:kQ (.mk o' n' s' ks' ps')
  case true=>
   rw [hb]at hp;rw [Bool.true_and];exact(aTD o n s ks ps i|>.t sd o' n' s' ks' ps' sd sd|>.2 hp sd tv).ends (aMH o n s ks ps hl ih ts (i+1) g2)
  rw [hb]at hp;rw [Bool.false_and];exact aTD o n s ks ps i|>.t sd o' n' s' ks' ps' sd sd|>.1 hp tv
mutual
theorem aPZ :∀ (t:Term),aCh t<1000000→POT 220 [Term.av t] (kQ t)
 | .mk o n s ks ps,hf=>by
  simp only [aCh]at hf;have:=uV ks;have:=dN ps;refine aOw (s:=aYd o n s ks ps) (by kernel_rfl) (by kernel_rfl) (by simp [AV.keylessL,jX]) ?_;have hn:=aWN o n s ks ps (by omega) (by omega) (aRI hf);rw [kQ];cases hb: (aL o n s (length ks) (length ps) &&ps.all aFi)
  case true=>
   rw [hb]at hn;rw [Bool.true_and];exact(aYf o n s ks ps|>.2 hn tv).ends (aMH o n s ks ps (by omega) (aP0 ks (by omega)) ks 0 rfl)
  rw [hb]at hn;rw [Bool.false_and];exact aYf o n s ks ps|>.1 hn tv
theorem aP0 :∀ (ts:List Term),pW ts<1000000→∀t∈ts,POT 220 [Term.av t] (kQ t)
 | [],_,t,ht=>by cases ht
 | u::ts,hf,t,ht=>by
  simp only [pW]at hf;rcases List.mem_cons.1 ht with e|ht
  ·rw [e];exact aPZ u (by omega)
  ·exact aP0 ts (by omega) t ht
end
def aAq (t:Term)(a b d:Int) :Bool:=decide ((cJ t:Int) ≤a) &&decide (d+fD t-1≤b)
def GTS (t:Term)(a b d:Int)(r:Bool)(z:Int) :Prop:=Spec PP (.enter 219 [.ptr 0 0,Term.av t,.int .i64 d]) (aG [(0,GC a b,false)] 1) (mE r) (aG [(0,GC z b,false)] 1)
def GT (t:Term)(a b d:Int) :Prop:=∃z,GTS t a b d (aAq t a b d) z∧ (aAq t a b d=true→z=a-cJ t)
def aDm (ts:List Term)(c b d:Int) :Bool:=decide ((cC ts:Int) ≤c) &&decide (d+fJ ts≤b)
theorem aRJ (t:Term)(ts:List Term){c b d:Int}(hdb:d≤b) :aDm (t::ts) c b d= (aAq t c b (d+1) &&aDm ts (c-cJ t) b d) :=by
 have hp:=uW t;unfold aDm aAq;rw [cC,fJ,←decide_and,←decide_and,←decide_and,←decide_and];congr 1;apply propext;omega
theorem aP1 (a b:Int)(o n:Int)(s:aA)(ks:List Term)(ps:List Pat)(d:Int)(hd:0≤d)(hd2:d≤1000)(hdb:d≤b)(hl:ks.length<1000000)(ih:∀t∈ks,∀c,0≤c→c≤1000→GT t c b (d+1)) :
  ∀ (ts:List Term) (i:Nat) (c:Int),ks.drop i=ts→0≤c→c≤1000→∃z,Ends PP 1 (aPV a b o n s ks ps d (i:Int) c).as (mE (aDm ts c b d)) (aG [(0,GC z b,false)] 1) ∧ (aDm ts c b d=true→z=c-cC ts)
 | [],i,c,h,h0,h1=>by
  have:=aZ h;have e:aDm [] c b d=true:=by simp [aDm,cC,fJ,h0,hdb]
  rw [e];exact⟨c,aTC a b o n s ks ps d i c|>.f sd tv,fun _=>by simp [cC]⟩
 | .mk o' n' s' ks' ps'::ts,i,c,h,h0,h1=>by
  obtain⟨g1,g2,g3⟩ :=aY h;obtain⟨z,hz,hzz⟩ :=ih _ (mem_of_getElem? g1) c h0 h1;have hp:=uW (.mk o' n' s' ks' ps');rw [aRJ _ _ hdb];unfold GTS at hz;cases hb:aAq (.mk o' n' s' ks' ps') c b (d+1)
  case true=>
   have hz1:=hzz hb;rw [hb]at hz;have hle: (cJ (.mk o' n' s' ks' ps') :Int) ≤c:=by
    unfold aAq at hb;simp only [and_eq_true,decide_eq_true_eq]at hb;exact hb.1
   rw [←hz1,Bool.true_and];obtain⟨z2,hE,hz2⟩ :=aP1 a b o n s ks ps d hd hd2 hdb hl ih ts (i+1) z g2 (by omega) (by omega);refine⟨z2,(aTC a b o n s ks ps d i c|>.t sd o' n' s' ks' ps' sd sd sd|>.2 z (eM (ks:=[0]) hz (by kernel_rfl) (gP true) (by kernel_rfl) (by kernel_rfl) trivial (by kernel_rfl) trivial) sd tv).ends hE,fun h=>?_⟩;rw [hz2 h,cC];omega
  rw [hb]at hz;rw [Bool.false_and];exact⟨z,aTC a b o n s ks ps d i c|>.t sd o' n' s' ks' ps' sd sd sd|>.1 z (eM (ks:=[0]) hz (by kernel_rfl) (gP false) (by kernel_rfl) (by kernel_rfl) trivial (by kernel_rfl) trivial) tv,fun h=>by cases h⟩
mutual
theorem aP2 (b:Int)(hb:0≤b)(hb2:b≤900) :∀ (t:Term) (a d:Int),0≤a→a≤1000→0≤d→d≤b+1→aCh t<1000000→GT t a b d
 | .mk o n s ks ps,a,d,h0,h1,h2,h3,hf=>by
  simp only [aCh]at hf;have:=uV ks;have e1:cJ (.mk o n s ks ps) =cC ks+1:=by rw [cJ]
  have e2:fD (.mk o n s ks ps) =fJ ks+1:=by rw [fD]
  have E :∃z,Ends PP 1 (aZM a b o n s ks ps d).as (mE (aAq (.mk o n s ks ps) a b d)) (aG [(0,GC z b,false)] 1) ∧ (aAq (.mk o n s ks ps) a b d=true→z=a-cJ (.mk o n s ks ps)) :=by
   by_cases ha:1≤a
   · by_cases hdb:d≤b
     · have r:aAq (.mk o n s ks ps) a b d=aDm ks (a-1) b d:=by
        unfold aAq aDm;rw [←decide_and,←decide_and];congr 1;apply propext;omega
       rw [r];obtain⟨z,hE,hz⟩ :=aP1 a b o n s ks ps d h2 (by omega) hdb (by omega) (fun t ht c h0 h1=>aTK b hb hb2 ks (by omega) t ht c (d+1) h0 h1 (by omega) (by omega)) ks 0 (a-1) rfl (by omega) (by omega);exact⟨z,(aTB a b o n s ks ps d sd|>.t (by simp;omega)|>.f (by simp;omega) tv).ends hE,fun h=>by rw [hz h];omega⟩
     · have r:aAq (.mk o n s ks ps) a b d=false:=by
        unfold aAq;rw [←decide_and];exact decide_eq_false (by omega)
       rw [r];exact⟨a-1,aTB a b o n s ks ps d sd|>.t (by simp;omega)|>.t (by simp;omega) tv,fun h=>by cases h⟩
   · have r:aAq (.mk o n s ks ps) a b d=false:=by
      unfold aAq;rw [←decide_and];exact decide_eq_false (by omega)
     rw [r];exact⟨a-1,aTB a b o n s ks ps d sd|>.f (by simp;omega) tv,fun h=>by cases h⟩
  obtain⟨z,hE,hz⟩ :=E;exact⟨z,⟨(aZM a b o n s ks ps d).as.fr,by kernel_rfl,Eq.mp (by kernel_rfl) hE⟩,hz⟩
theorem aTK (b:Int)(hb:0≤b)(hb2:b≤900) :∀ (ts:List Term),pW ts<1000000→∀t∈ts,∀a d,0≤a→a≤1000→0≤d→d≤b+1→GT t a b d
 | [],_,t,ht=>by cases ht
 | u::ts,hf,t,ht=>by
  simp only [pW]at hf;rcases List.mem_cons.1 ht with e|ht
  ·rw [e];exact fun a d p q r s=>aP2 b hb hb2 u a d p q r s (by omega)
  ·exact aTK b hb hb2 ts (by omega) t ht
end
theorem aTL (t:Term)(hf:aCh t<1000000) :Pure PP 176 [Term.av t] (.int .i64 (if aDi t=true then 0 else 2)) :=by
 obtain⟨z,hg,_⟩ :=aP2 14 (by omega) (by omega) t 60 1 (by omega) (by omega) (by omega) (by omega) hf;have hn:=aPZ t hf;have e:aDi t= (aAq t 60 14 1&&kQ t) :=by
  unfold aDi aAq;congr 1;rw [←decide_and,←decide_and];congr 1;apply propext;omega
 rw [e];unfold GTS at hg;obtain⟨o,n,s,ks,ps⟩ :=t;refine bU (s:=aYe o n s ks ps) (by kernel_rfl) (by kernel_rfl) (by simp [AV.keylessL,jX]) (by simp [AV.keyless]) ?_;cases hb:aAq (.mk o n s ks ps) 60 14 1
 case false=>
  rw [hb]at hg;rw [Bool.false_and];exact aTE o n s ks ps|>.1 z (eM (ks:=[2]) hg (by kernel_rfl) (gP false) (by kernel_rfl) (by kernel_rfl) trivial (by kernel_rfl) trivial) tv
 rw [hb]at hg;have hg':=eM (ks:=[2]) (n2:=3) (args':=[.ptr 2 0,Term.av (.mk o n s ks ps),.int .i64 1]) (lc:=[(0,.cells (putCells .leaf 0 [.int .i64 o,.int .i64 n,aD s,.ilst 5 (av ks) false,.ilst 4 (Pats.av ps) false]) 5 [] false,false),(1,.cells (putCells .leaf 0 [.bool false]) 1 [] false,false),(2,GC 60 14,false)]) (lc':=[(0,.cells (putCells .leaf 0 [.int .i64 o,.int .i64 n,aD s,.ilst 5 (av ks) false,.ilst 4 (Pats.av ps) false]) 5 [] false,false),(1,.cells (putCells .leaf 0 [.bool false]) 1 [] false,false),(2,GC z 14,false)]) hg (by kernel_rfl) (gP true) (by kernel_rfl) (by kernel_rfl) trivial (by kernel_rfl) trivial;rw [Bool.true_and];cases hF:kQ (.mk o n s ks ps)
 case true=>
  rw [hF]at hn;exact aTE o n s ks ps|>.2 z hg'|>.2 hn tv
 rw [hF]at hn;exact aTE o n s ks ps|>.2 z hg'|>.1 hn tv
abbrev aP3 (a:List Typ):AV:=.ilst 4 (Typs.av a) false
abbrev yR (a b:Int)(c:aA)(d:List Typ):AV:=.agg [nI a,nI b,aD c,aP3 d]
def aKh(a b:Int)(c:aA)(d:List Typ)(g e f:Int):TS:=⟨tf 110 29 [(1,nI e),kp 2 0,(4,nI 0),(5,nI f)] [kc f110 244,kl f110 244,.inBlock 0,kc f110 31],[],[oC 0 [nI a,nI b,aD c,aP3 d]],1⟩
def dP(b c:Int)(d:aA)(a:List Typ)(e f:Bool)(g:Int):TS:=⟨tf 117 106 [(1,bV e),kp 2 0,(4,bV false),(5,nI (a.length:Int)),(6,bV f),(7,nI g)] [kc f117 500,kl f117 500,.inBlock 1,kc f117 63],[],[oC 0 [nI b,nI c,aD d,aP3 a]],1⟩
def aKi(a b:Int)(c:aA)(d:List Typ)(e:Int):TS:=⟨tf 111 22 [kp 1 0,(2,bV false),(3,nI e)] [kc f111 52,kl f111 52,.inBlock 0,kc f111 7],[],[oC 0 [nI a,nI b,aD c,aP3 d]],1⟩
def aYl(b c:Int)(d:aA)(e:List Typ)(a:Int):=tT 0 (start PP 110 [yR b c d e,nI a])<|gd 11 7 (a<1) (gE 6 1 (nI (-1)))<|gw 6 9 (a-1)<|.W 9 1 [0] (aKh b c d e a (a-1) 0)
def aTM(d e:Int)(f:aA)(a:List Typ)(g b c:Int):=tT 0 (aKh d e f a g b c)<|gm 6 dU a<|gd 2 15 (c< (a.length:Int)) (gd 4 18 (b≥0) (aL9 8 a c<|fun i j k l=>gpI 2 110 [yR i j k l,nI b]<|fun m=>gw 6 20 (c+1)<|.W 3 1 [0] (aKh d e f a g m (c+1)))<|gE 8 1 (nI b))<|gE 12 1 (nI b)
def aMI(c d:Int)(a:aA)(b:List Typ)(e:Bool):=tT 0 (start PP 117 [yR c d a b,bV e])<|gm 9 dU b<|.b 19 13 (c==1) (.b 7 19 ((b.length:Int) ==0) (.b 5 24 (d==0) (.W 14 1 [0] (dP c d a b e (bB a.length (aC a) 0 0) 0))<|.W 14 1 [0] (dP c d a b e false 0))<|.W 19 1 [0] (dP c d a b e false 0))<|.b 6 13 (c==2) (.b 7 19 ((b.length:Int) ==0) (.b 5 24 (d==0) (.W 14 1 [0] (dP c d a b e (bB a.length (aC a) 0 0) 0))<|.W 14 1 [0] (dP c d a b e false 0))<|.W 19 1 [0] (dP c d a b e false 0))<|.b 5 13 (c==3) (.b 5 19 ((b.length:Int) ==0) (.b 5 24 (d==0) (.W 14 1 [0] (dP c d a b e (bB a.length (aC a) 0 0) 0))<|.W 14 1 [0] (dP c d a b e false 0))<|.W 19 1 [0] (dP c d a b e false 0))<|.b 6 29 (c==4) (.b 5 33 ((b.length:Int) ==2) (.b 5 38 (d==0) (.W 14 1 [0] (dP c d a b e (bB a.length (aC a) 0 0) 0))<|.W 14 1 [0] (dP c d a b e false 0))<|.W 19 1 [0] (dP c d a b e false 0))<|.b 7 43 (c==5) (.b 7 49 ((b.length:Int) ==1) (.b 5 54 (d==0) (.W 14 1 [0] (dP c d a b e (bB a.length (aC a) 0 0) 0))<|.W 14 1 [0] (dP c d a b e false 0))<|.W 19 1 [0] (dP c d a b e false 0))<|.b 6 43 (c==6) (.b 7 49 ((b.length:Int) ==1) (.b 5 54 (d==0) (.W 14 1 [0] (dP c d a b e (bB a.length (aC a) 0 0) 0))<|.W 14 1 [0] (dP c d a b e false 0))<|.W 19 1 [0] (dP c d a b e false 0))<|.b 5 43 (c==7) (.b 5 49 ((b.length:Int) ==1) (.b 5 54 (d==0) (.W 14 1 [0] (dP c d a b e (bB a.length (aC a) 0 0) 0))<|.W 14 1 [0] (dP c d a b e false 0))<|.W 19 1 [0] (dP c d a b e false 0))<|.b 6 59 (c==8) (.b 5 63 ((b.length:Int) ==0) (.b 5 68 (d==0) (cD 2 116 [aD a]<|fun f=>.W 11 1 [0] (dP c d a b e f 0))<|.W 14 1 [0] (dP c d a b e false 0))<|.W 19 1 [0] (dP c d a b e false 0))<|.b 6 73 (c==9) (.b 4 76 e (.b 4 80 ((b.length:Int) ==0) (.b 5 85 (bB a.length (aC a) 0 0) (cD 2 40 [nI d,nI 0,nI 99]<|fun f=>.W 11 1 [0] (dP c d a b e f 0))<|.W 14 1 [0] (dP c d a b e false 0))<|.W 19 1 [0] (dP c d a b e false 0))<|.W 23 1 [0] (dP c d a b e false 0))<|.W 10 1 [0] (dP c d a b e false 0)
def aTN(e f:Int)(g:aA)(b:List Typ)(d c:Bool)(a:Int):=tT 0 (dP e f g b d c a)<|gd 7 93 (a< (b.length:Int)) (.b 3 95 c (aL9 8 b a<|fun i j k l=>cD 2 117 [yR i j k l,bV d]<|fun m=>gw 6 97 (a+1)<|.W 3 1 [0] (dP e f g b d m (a+1)))<|gE 8 1 (bV c))<|gE 11 1 (bV c)
def aYm(a b:Int)(c:aA)(d:List Typ):=tT 0 (start PP 42 [yR a b c d])<|gpI 8 110 [yR a b c d,nI 12]<|fun e=>gd 2 6 (e≥0) (cD 1 117 [yR a b c d,bV false]<|fun f=>gE 4 1 (bV f))<|gE 6 1 (bV false)
def aWO (a b:Int)(c:aA)(d:List Typ):=(tT 0 (start PP 111 [yR a b c d])<|.W 12 1 [0] (aKi a b c d 0)) tv
def aTO(d e:Int)(c:aA)(a:List Typ)(b:Int):=tT 0 (aKi d e c a b)<|gm 6 dU a<|gd 2 8 (b< (a.length:Int)) (aL9 9 a b<|fun f g i j=>cD 1 111 [yR f g i j]<|fun k=>.b 2 17 (!k) (gE 6 1 (bV false))<|gw 6 10 (b+1)<|.W 3 1 [0] (aKi d e c a (b+1)))<|gE 11 1 (bV (decide ((c.length:Int) ≤30)))
def aYn(a b:Int)(c:aA)(d:List Typ):=tT 0 (start PP 37 [yR a b c d])<|gpI 8 110 [yR a b c d,nI 16]<|fun e=>gd 2 6 (e≥0) (cD 1 111 [yR a b c d]<|fun f=>gE 4 1 (bV f))<|gE 6 1 (bV false)
abbrev aP4 (a:List Typ):AV:=.ilst 4 (Typs.av a) false
abbrev aAr (a b:Int)(c:aA)(d:List Typ):AV:=.agg [nI a,nI b,aD c,aP4 d]
abbrev vA (a:Nat)(b c:Int)(d:aA)(e:List Typ):=oC a [nI b,nI c,aD d,aP4 e]
abbrev mW:AV:=.iface 315 (.agg [])
def aZN(a b c d:Int)(e:aA)(f:List Typ):TS:=bH PP 247 [.ptr 0 0,aAr c d e f] [oC 0 [nI a,nI b]] 1
def aP5(e b f g:Int)(i:aA)(a:List Typ)(c d:Int):TS:=⟨tf 247 19 [kp 0 0,(9,aP4 a),(10,nI (a.length:Int)),(11,nI c)] [kc f247 60,kl f247 60,.inBlock 0],[],[oC 0 [nI d,nI b]],1⟩
def aTP(a b:Int)(c:aA)(d:List Typ)(e:Bool):TS:=bH PP 248 [aAr a b c d,bV e] [] 0
def pM(a b:Int)(c:aA)(d:List Typ)(e:Bool)(f:Int):TS:=⟨tf 248 77 [(1,bV e),kp 2 0,(4,nI f)] [kc f248 15],[],[vA 0 a b c d],1⟩
def aAs(d e:Int)(f:aA)(a:List Typ)(b:Bool)(c:Int):TS:=⟨tf 248 77 [(1,bV b),(67,aP4 a),(68,nI (a.length:Int)),(69,nI c)] [kc f248 252,kl f248 252,.inBlock 1],[],[],0⟩
def aYo(a b:Int)(c:aA)(d:List Typ):TS:=bH PP 175 [aAr a b c d] [] 0
def aYp(a b d e:Int)(f:aA)(c:List Typ):=tT 1 (aZN a b d e f c)<|gw 15 8 (a-1)<|gd 11 16 ((a-1) ≥0) (.b 13 3 (!(decide (0≤b))) (.P 7 2 [] [(mW,false)] [oC 0 [nI (a-1),nI b]] 1)<|gm 12 dU c<|.W 4 2 [] (aP5 a b d e f c 0 (a-1)))<|.P 20 2 [] [(mW,false)] [oC 0 [nI (a-1),nI b]] 1
def aTQ(k a l m:Int)(n:aA)(i:List Typ)(f j:Int):=tT 1 (aP5 k a l m n i f j)<|gd 5 12 (f< (i.length:Int)) (aL9 6 i f<|fun b c d e=>.o (.y fun g:Int=>gK 7 (.enter 247 [.ptr 0 0,aAr b c d e]) [oC 0 [nI j,nI a],vA 1 b c d e] 2 [(mW,false)] [oC 0 [nI g,nI a],vA 1 b c d e] 2<|.P 0 2 [] [(mW,false)] [oC 0 [nI g,nI a]] 1)<|.y fun g:Int=>gk 7 (.enter 247 [.ptr 0 0,aAr b c d e]) [oC 0 [nI j,nI a],vA 1 b c d e] 2 (.tup []) [oC 0 [nI g,nI a],vA 1 b c d e] 2<|gw 4 18 (f+1)<|.W 3 2 [] (aP5 k a l m n i (f+1) g))<|.E 3 1 [] (.tup []) [oC 0 [nI j,nI a]] 1
def tD(a b:Int)(c:aA)(e:List Typ)(d:Bool):=tT 0 (aTP a b c e d)<|.b 21 10 (a==1) (.W 5 1 [0] (pM a b c e d 0))<|.b 6 10 (a==2) (.W 5 1 [0] (pM a b c e d 0))<|.b 5 10 (a==3) (.W 3 1 [0] (pM a b c e d 0))<|.b 6 14 (a==4) (.W 5 1 [0] (pM a b c e d 2))<|.b 7 16 (a==5) (.W 7 1 [0] (pM a b c e d 1))<|.b 6 16 (a==6) (.W 7 1 [0] (pM a b c e d 1))<|.b 5 16 (a==7) (.W 5 1 [0] (pM a b c e d 1))<|.b 6 20 (a==8) (cD 4 171 [aD c]<|fun f=>.b 6 3 (!f) (gQ 6 1 [(mW,false)])<|.W 6 1 [0] (pM a b c e d 0))<|.b 6 26 (a==9) (.b 4 29 d (gd 5 34 (b≥0) (.b 10 3 (!(decide (b≤99))) (gQ 6 1 [(mW,false)])<|.W 6 1 [0] (pM a b c e d 0))<|gQ 16 1 [(mW,false)])<|gQ 21 1 [(mW,false)])<|gQ 14 1 [(mW,false)]
def aE3(c d:Int)(b:aA)(a:List Typ)(e:Bool)(f:Int):=tT 0 (pM c d b a e f)<|gm 4 dU a<|.b 3 45 ((a.length:Int) ==f) (.b 4 49 (c==9) (.b 10 59 (c==8) (gm 20 dU a<|.W 4 1 [] (aAs c d b a e 0))<|.b 11 3 (!(bB b.length (aC b) 0 0)) (gQ 6 1 [(mW,false)])<|gm 9 dU a<|.W 4 1 [] (aAs c d b a e 0))<|.b 6 55 (d==0) (.b 4 59 (c==8) (gm 20 dU a<|.W 4 1 [] (aAs c d b a e 0))<|.b 11 3 (!(bB b.length (aC b) 0 0)) (gQ 6 1 [(mW,false)])<|gm 9 dU a<|.W 4 1 [] (aAs c d b a e 0))<|gQ 21 1 [(mW,false)])<|gQ 31 1 [(mW,false)]
def aTR(d e:Int)(f:aA)(b:List Typ)(c:Bool)(a:Int):=tT 0 (aAs d e f b c a)<|gd 5 70 (a< (b.length:Int)) (aL9 6 b a<|fun g i j k=>.o (.i [rn 7,.throws [(mW,false)]] [hA (wO PP 248 [aAr g i j k,bV c] [(mW,false)])]<|gQ 0 1 [(mW,false)])<|gp 7 248 [aAr g i j k,bV c] (.tup [])<|gw 4 76 (a+1)<|.W 3 1 [] (aAs d e f b c (a+1)))<|gE 3 0 (.tup [])
def aTS(a b:Int)(c:aA)(d:List Typ):=tT 0 (aYo a b c d)<|.o (.y fun e:Int=>gK 46 (.enter 247 [.ptr 4 0,aAr a b c d]) [vA 0 a b c d,vA 1 a b c d,oC 2 [bV false],oC 3 [bV false],oC 4 [nI 12,nI 0]] 5 [(mW,false)] [vA 0 a b c d,vA 1 a b c d,oC 2 [bV false],oC 3 [bV false],oC 4 [nI e,nI 0]] 5<|gE 55 6 (bV false))<|.y fun e:Int=>gk 46 (.enter 247 [.ptr 4 0,aAr a b c d]) [vA 0 a b c d,vA 1 a b c d,oC 2 [bV false],oC 3 [bV false],oC 4 [nI 12,nI 0]] 5 (.tup []) [vA 0 a b c d,vA 1 a b c d,oC 2 [bV false],oC 3 [bV false],oC 4 [nI e,nI 0]] 5<|.o (.i [rn 4,.throws [(mW,false)]] [hA (wO PP 248 [aAr a b c d,bV false] [(mW,false)])]<|gE 55 6 (bV false))<|gp 4 248 [aAr a b c d,bV false] (.tup [])<|gE 43 5 (bV true)
end
end Go.Hb
