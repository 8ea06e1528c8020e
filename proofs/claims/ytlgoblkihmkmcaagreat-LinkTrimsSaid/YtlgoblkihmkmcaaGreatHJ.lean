/- A machine on abstract values, its soundness, ways, plain laws. -/
import Derived.Test.YtlgoblkihmkmcaaGreatHF
import Derived.Test.YtlgoblkihmkmcaaGreatHG
import Derived.Test.YtlgoblkihmkmcaaGreatHH
set_option linter.defProp false
set_option linter.unusedVariables false
set_option linter.unusedSimpArgs false
set_option linter.unusedSectionVars false
set_option maxRecDepth 100000
set_option maxHeartbeats 8000000
namespace Go.Hb
open Bool (and_eq_true)
open List (all_cons getD_eq_getElem?_getD length length_cons map mem_of_getElem? replicate)
open Go.Proofs Tryz
noncomputable section
def iL (m:List (Int×Int))(n:Int) :Int:= (dE n m).getD 0
mutual
def qS (mc:List (Int×Int)) :Pat→Pat
 | .mk f n t ps=>.mk f (if f=6 then iL mc n else n) t (eJ mc ps)
def eJ (mc:List (Int×Int)) :List Pat→List Pat
 | [] =>[]
 |p::ps=>qS mc p::eJ mc ps
end
section
variable (mf mc:List (Int×Int))
end
def fC (to:List Int)(k:Int) :Int:=to.getD k.toNat 0
def zC :List aB→List (aB×Bool) →List (aB×Bool)
 | [],m=>m
 |x::t,m=>zC t (cB x true m)
theorem aCH (l:List aB)(hl:l.length<1000000) :∀ (t:List aB) (i:Nat) (m:List (aB×Bool)),l.drop i=t→Ends PP 0 (vH l (i:Int) m).as (.ret (.bool (decide ((zC t m).length=l.length)))) (aD [] 0)
 | [],i,m,h=>by
  have:=bA h;refine Ends.eqv (aNr l i m sd) ?_;have: (((length m:Nat) :Int) == ((length l:Nat) :Int)) =decide (m.length=l.length) :=by
   by_cases k:m.length=l.length<;>simp [k] <;>omega
  rw [this];rfl
 | x::t,i,m,h=>by
  obtain⟨g1,g2,g3⟩ :=aZ h;refine(aNq l i m x sd sd sd sd).ends ?_;exact aCH l hl t (i+1) _ g2
theorem aGz {k:aB}{v w:Bool}:∀ {m:List (aB×Bool)},dE k m=some w→ (cB k v m).map Prod.fst=m.map Prod.fst
 | [],h=>by cases h
 | e::m,h=>by
  unfold dE at h;unfold cB;split at h
  ·rename_i hk;rw [if_pos hk];simp [hk]
  ·rename_i hk;rw [if_neg hk];simp [aGz h]
theorem aGA {k:aB}{v:Bool}:∀ {m:List (aB×Bool)},dE k m=none→ (cB k v m).map Prod.fst=m.map Prod.fst++ [k]
 | [],_=>rfl
 | e::m,h=>by
  unfold dE at h;unfold cB;split at h
  ·cases h
  ·rename_i hk;rw [if_neg hk];simp [aGA h]
theorem aGB {k:aB}:∀ {m:List (aB×Bool)},(dE k m).isSome=aQ (m.map Prod.fst) k
 | [] =>rfl
 | e ::m=>by
  unfold dE;split
  ·rename_i hk;simp [aQ,hk]
  · rename_i hk;have:¬e.1=k:=fun h=>hk h.symm;rw [aGB];simp [aQ,this]
theorem aIS :∀ (t:List aB) (m:List (aB×Bool)),(zC t m).length≤m.length+t.length
 | [],m=>by simp [zC]
 | x::t,m=>by
  have a:=aIS t (cB x true m);have b: (cB x true m).length≤m.length+1:=by
   cases h:dE x m with
   |none=>have:=congrArg length (aGA (v:=true) h);simp at this;omega
   |some w=>have:=congrArg length (aGz (v:=true) h);simp at this;omega
  simp only [zC,length_cons];omega
theorem aGC :∀ (t:List aB) (m:List (aB×Bool)),(zC t m).length=m.length+t.length↔cR (m.map Prod.fst) t=true
 | [],m=>by simp [zC,cR]
 | x::t,m=>by
  simp only [zC,cR];cases h:dE x m
  case some w=>
   have e:=aGz (v:=true) h;have hs:aQ (m.map Prod.fst) x=true:=by rw [←aGB,h];rfl
   have a:=aIS t (cB x true m);have b:=congrArg length e;simp only [List.length_map]at b;rw [hs];constructor
   ·intro g;simp only [length_cons]at g;omega
   ·intro g;simp at g
  have e:=aGA (v:=true) h;have hs:aQ (m.map Prod.fst) x=false:=by rw [←aGB,h];rfl
  have ih:=aGC t (cB x true m);have b:=congrArg length e;simp only [List.length_map,List.length_append,List.length_singleton]at b;rw [hs,←e];simp only [Bool.not_false,Bool.true_and,length_cons];rw [←ih,b];omega
theorem aK2 (l:List aB)(hl:l.length<1000000) :Pure PP 225 [.ilst 1 (map aH l) false] (.bool (cC l)) :=by
 refine aV (by kernel_rfl) rfl rfl ((aNp l).ends (Ends.eqv (aCH l hl l 0 [] rfl) ?_));have:=aGC l [];simp only [List.length_nil,Nat.zero_add,List.map_nil]at this;congr 1;cases k:cC l
 case true=>exact decide_eq_true (this.2 k)
 exact decide_eq_false fun g=>by have:=this.1 g;unfold cC at k;rw [k]at this;cases this
theorem aIT (l:List Con)(hl:l.length<1000000) :∀ (t:List Con) (i:Nat),l.drop i=t→Ends PP 0 (aFg l (i:Int)).as (.ret (.bool (t.all gB))) (aD [] 0)
 | [],i,h=>by
  have:=bA h;exact Ends.eqv (aWC l i sd) (by simp)
 | c::t,i,h=>by
  obtain⟨g1,g2,g3⟩ :=aZ h;have hq:=aTW c;cases k:gB c
  case false=>rw [k]at hq;exact Ends.eqv (aWA l i c false sd sd sd hq rfl) (by simp [k])
  rw [k]at hq;refine(aWB l i c true sd sd sd hq rfl sd).ends ?_;exact Ends.eqv (aIT l hl t (i+1) g2) (by simp [k])
theorem aT6 (l:List Con)(hl:l.length<1000000) :Pure PP 223 [.ilst 2 (map Con.av l) false,.func 224 [] []] (.bool (l.all gB)) :=
 aV (by kernel_rfl) rfl rfl ((aWz l).ends (aIT l hl l 0 rfl))
theorem aIU (l:List Node)(p:Prog)(hl:l.length<1000000)(ih:∀x∈l,Pure PP 229 [Prog.av p,Node.av x] (.bool (bJ p x))) :∀ (t:List Node) (i:Nat),l.drop i=t→Ends PP 0 (aFf l p (i:Int)).as (.ret (.bool (t.all (bJ p)))) (aD [] 0)
 | [],i,h=>by
  have:=bA h;exact Ends.eqv (aWy l p i sd) (by simp)
 | c::t,i,h=>by
  obtain⟨g1,g2,g3⟩ :=aZ h;have hq:=ih c (mem_of_getElem? g1);cases k:bJ p c
  case false=>rw [k]at hq;exact Ends.eqv (aWw l p i c false sd sd sd hq rfl) (by simp [k])
  rw [k]at hq;refine(aWx l p i c true sd sd sd hq rfl sd).ends ?_;exact Ends.eqv (aIU l p hl ih t (i+1) g2) (by simp [k])
theorem aT7 (l:List Node)(p:Prog)(hl:l.length<1000000)(ih:∀x∈l,Pure PP 229 [Prog.av p,Node.av x] (.bool (bJ p x))) :Pure PP 228 [.ilst 4 (map Node.av l) false,.func 229 [Prog.av p] []] (.bool (l.all (bJ p))) :=
 aV (by kernel_rfl) rfl rfl ((aWv l p).ends (aIU l p hl ih l 0 rfl))
def one (k:Int) :Bool:=decide (k=1)
theorem aIV (l:List Int)(hl:l.length<1000000) :∀ (t:List Int) (i:Nat),l.drop i=t→Ends PP 0 (aFh l (i:Int)).as (.ret (.bool (t.all one))) (aD [] 0)
 | [],i,h=>by
  have:=bA h;exact Ends.eqv (aWG l i sd) (by simp)
 | c ::t,i,h=>by
  obtain⟨g1,g2,g3⟩ :=aZ h;by_cases k:c=1
  · refine(aWF l i c sd sd sd (by simp [k]) sd).ends ?_;exact Ends.eqv (aIV l hl t (i+1) g2) (by simp [k,one])
  ·exact Ends.eqv (aWE l i c sd sd sd (by simp [k])) (by simp [k,one])
theorem aT8 (l:List Int)(hl:l.length<1000000) :Pure PP 230 [.ilst 1 (map aY l) true,.func 231 [] []] (.bool (l.all one)) :=
 aV (by kernel_rfl) rfl rfl ((aWD l).ends (aIV l hl l 0 rfl))
theorem aIW (l:List Con)(hl:l.length<100000) :∀ (t:List Con) (i:Nat),l.drop i=t→Ends PP 0 (aFi l (i:Int) (bI (l.take i))).as (.ret (.ilst 1 (map aH (bI l)) false)) (aD [] 0)
 | [],i,h=>by
  have hi:=bA h;have e:bI (l.take i) =bI l:=by rw [List.take_of_length_le hi]
  rw [e];exact aWJ l i _ sd
 | c::t,i,h=>by
  obtain⟨g1,g2,g3⟩ :=aZ h;have e:bI (l.take i) ++ [c.name] =bI (l.take (i+1)) :=by
   rw [List.take_add_one,g1];simp [bI]
  refine(aWI l i (bI (l.take i)) c sd sd sd (by simp [bI];omega) sd).ends ?_;rw [e];exact aIW l hl t (i+1) g2
theorem aT9 (l:List Con)(hl:l.length<100000) :Pure PP 226 [.ilst 2 (map Con.av l) false,.func 227 [] []] (.ilst 1 (map aH (bI l)) false) :=
 aV (by kernel_rfl) rfl rfl ((aWH l).ends (aIW l hl l 0 rfl))
def oQ (lo n:Int) :List Int→List Int→Option (List Int)
 | [],c=>some c
 |k::ks,c=>if dG k lo (n-1) =true then oQ lo n ks (c.set k.toNat (c.getD k.toNat 0+1))else none
def mV (p:Prog) :Nat→List Node→List Int→Option (List Int)
 |_,[],c=>some c
 | i,x::t,c=>match oQ ((i:Int) +1) (p.nodes.length:Int) x.kids c with
   |some d=>mV p (i+1) t d
   |none=>none
def rM :Option (List Int) →Bool
 |some c=>c.all one
 |none=>false
def below (b:Int)(c:List Int) :Prop:=∀k∈c,0≤k∧k≤b
theorem aDx {b:Int}{c:List Int}(h:below b c){i:Nat}{z:Int}(hz:c[i]?=some z) :0≤z∧z≤b:=h z (mem_of_getElem? hz)
theorem aIX {b:Int}{c:List Int}(h:below b c){i:Nat}{z:Int}(hz:c[i]?=some z) :below (b+1) (c.set i (z+1)) :=fun k hk=>by
 rcases List.mem_or_eq_of_mem_set hk with g|g
 ·have:=h k g;omega
 ·have:=aDx h hz;omega
theorem bF2 (p:Prog)(i:Nat)(hi:i<p.nodes.length)(hn:p.nodes.length≤1000)(ks:List Int)(hk:ks.length≤1000)(K:List Int→Bool)(B:Int)(hB:0≤B)(hB2:B≤1000000)
  (hb:∀v:List Int,v.length=p.nodes.length→below (B+ks.length) v→Ends PP 0 (qK p v ((i:Int) +1)).as (.ret (.bool (K v))) (aD [] 0)) :
  ∀ (t:List Int) (k:Nat) (c:List Int),c.length=p.nodes.length→k≤ks.length→below (B+k) c→ks.drop k=t→Ends PP 0 (vJ p ks (ks.length:Int) c (k:Int) (i:Int) (i:Int)).as (.ret (.bool (match oQ ((i:Int) +1) p.nodes.length t c with|some v=>K v|none=>false))) (aD [] 0)
 | [],k,c,hc,hkl,hbl,h=>by
  have:=bA h;have e:k=ks.length:=by omega
  subst e;refine(aNI p ks ks.length c ks.length i i sd sd).ends ?_;exact hb c hc hbl
 | y::t,k,c,hc,hkl,hbl,h=>by
  obtain⟨g1,g2,g3⟩ :=aZ h;have hin:=gG y ((i:Int) +1) ((p.nodes.length:Int) -1);cases k1:dG y ((i:Int) +1) ((p.nodes.length:Int) -1)
  case false=>
   rw [k1]at hin;exact Ends.eqv (aNG p ks ks.length c k i i y false sd sd sd sd sd hin rfl) (by simp [oQ,k1])
  rw [k1]at hin;have hy:=inB_iff.1 k1;obtain⟨z,hz⟩ :∃z,c[y.toNat]?=some z:= ⟨_,List.getElem?_eq_getElem (by omega)⟩;have hzb:=aDx hbl hz;refine(aNH p ks ks.length c k i i y true z sd sd sd sd sd hin rfl (by omega) (by omega) hz sd sd).ends ?_;have e:c.getD y.toNat 0=z:=by rw [getD_eq_getElem?_getD,hz];rfl
  have ei:oQ ((i:Int) +1) p.nodes.length (y::t) c=oQ ((i:Int) +1) p.nodes.length t (c.set y.toNat (z+1)) :=by
   rw [oQ,if_pos k1,e]
  rw [ei];refine bF2 p i hi hn ks hk K B hB hB2 hb t (k+1) (c.set y.toNat (z+1)) (by simpa using hc) (by omega) ?_ g2;have:=aIX hbl hz;intro q hq;have:=this q hq
  push_cast
  omega
def vK :List Node→Nat
 | [] =>0
 |x::t=>x.kids.length+vK t
theorem aGD :∀ (t:List Node),(∀x∈t,x.kids.length≤10) →vK t≤10*t.length
 | [],_=>by simp [vK]
 | x::t,h=>by
  have a:=aGD t (fun y hy=>h y (List.mem_cons_of_mem _ hy));have b:=h x (List.mem_cons_self ..);simp only [vK,length_cons];omega
theorem bF1 (p:Prog)(hp:aJ p=true)(hn:p.nodes.length≤1000) :∀ (t:List Node) (i:Nat) (c:List Int) (B:Int),0≤B→B+vK t≤100000→c.length=p.nodes.length→below B c→p.nodes.drop i=t →
  Ends PP 0 (qK p c (i:Int)).as (.ret (.bool (rM (mV p i t c)))) (aD [] 0)
 | [],i,c,B,h0,h1,hc,hb,h=>by
  have:=bA h;exact Ends.eqv (aNF p c i _ sd (aT8 c (by omega))) rfl
 | x::t,i,c,B,h0,h1,hc,hb,h=>by
  obtain⟨g1,g2,g3⟩ :=aZ h;have hx:aW x=true:=by
   simp only [aJ,and_eq_true]at hp;exact List.all_eq_true.1 hp.2 x (mem_of_getElem? g1)
  simp only [aW,and_eq_true,decide_eq_true_eq]at hx;simp only [vK]at h1;refine(aNE p c i x sd sd sd).ends ?_;refine Ends.eqv (bF2 p i g3 hn x.kids (by omega) (fun v=>rM (mV p (i+1) t v)) B h0 (by omega) (fun v hv hbv=>bF1 p hp hn t (i+1) v (B+x.kids.length) (by omega) (by omega) hv hbv g2) x.kids 0 c hc (by omega) (by simpa using hb) rfl) ?_;rw [mV];cases oQ ((i:Int) +1) (p.nodes.length:Int) x.kids c<;>rfl
theorem bF0 (p:Prog)(hp:aJ p=true)(hn:p.nodes.length≤1000)(hks:vK p.nodes≤10000)(hf:p.funs.length≤1000) :∀ (t:List Int) (i:Nat) (c:List Int),i≤p.funs.length→c.length=p.nodes.length→below (i:Int) c→p.funs.drop i=t →
  Ends PP 0 (vI p (i:Int) c).as (.ret (.bool (match oQ 0 p.nodes.length t c with|some v=>rM (mV p 0 p.nodes v) |none=>false))) (aD [] 0)
 | [],i,c,hi,hc,hb,h=>by
  have:=bA h;refine(aND p i c sd).ends ?_;exact bF1 p hp hn p.nodes 0 c i (by omega) (by omega) hc hb rfl
 | y::t,i,c,hi,hc,hb,h=>by
  obtain⟨g1,g2,g3⟩ :=aZ h;have hin:=gG y 0 ((p.nodes.length:Int) -1);cases k1:dG y 0 ((p.nodes.length:Int) -1)
  case false=>
   rw [k1]at hin;exact Ends.eqv (aNB p i c y false sd sd sd sd hin rfl) (by simp [oQ,k1])
  rw [k1]at hin;have hy:=inB_iff.1 k1;obtain⟨z,hz⟩ :∃z,c[y.toNat]?=some z:= ⟨_,List.getElem?_eq_getElem (by omega)⟩;have hzb:=aDx hb hz;refine(aNC p i c y true z sd sd sd sd hin rfl (by omega) (by omega) hz sd sd).ends ?_;have e:c.getD y.toNat 0=z:=by rw [getD_eq_getElem?_getD,hz];rfl
  have ei:oQ 0 p.nodes.length (y::t) c=oQ 0 p.nodes.length t (c.set y.toNat (z+1)) :=by
   rw [oQ,if_pos k1,e]
  rw [ei];refine bF0 p hp hn hks hf t (i+1) (c.set y.toNat (z+1)) (by omega) (by simpa using hc) ?_ g2;have:=aIX hb hz;intro q hq;have:=this q hq
  push_cast
  omega
def dL (p:Prog) :Bool:=
 eF p&&decide (p.cons.length≤20) &&p.cons.all gB&&cC (bI p.cons) &&p.nodes.all (bJ p) &&
  (match oQ 0 (p.nodes.length:Int) p.funs (replicate p.nodes.length 0)with
  |some v=>rM (mV p 0 p.nodes v)
  |none=>false)
theorem aNQ {p:Prog}(hp:aJ p=true) :∀x∈p.nodes,x.kids.length≤10∧x.pats.length≤10:=fun x hx=>by
 simp only [aJ,and_eq_true]at hp;have:=List.all_eq_true.1 hp.2 x hx;simp only [aW,and_eq_true,decide_eq_true_eq]at this;exact this.1
theorem aK3 (p:Prog)(hp:aJ p=true) :Pure PP 190 [Prog.av p] (.bool (dL p)) :=by
 refine aV (by kernel_rfl) rfl rfl ?_;have hs:=hp;simp only [aJ,and_eq_true,decide_eq_true_eq]at hs;obtain⟨⟨⟨⟨s1,s2⟩,s3⟩,_⟩,_⟩ :=hs;have hno:=aNQ hp;by_cases k0:p.nodes.length≤300
 · by_cases k1:1≤p.funs.length
   · by_cases k2:p.funs.length≤p.nodes.length
     · have kk:dG (p.funs.length:Int) 1 (p.nodes.length:Int) =true:=inB_iff.2 ⟨by omega,by omega⟩;by_cases k3:p.cons.length≤20
       · have hi:=gG p.main 0 ((p.funs.length:Int) -1);cases k4:dG p.main 0 ((p.funs.length:Int) -1)
         case false=>
          rw [k4]at hi;exact Ends.eqv (aNw p false sd sd sd sd sd hi rfl) (by simp [dL,eF,k4])
         rw [k4]at hi;have hh:eF p=true:=by simp [eF,k0,kk,k4]
         have hc:=aT6 p.cons (by omega);cases k5:p.cons.all gB
         case false=>
          rw [k5]at hc;exact Ends.eqv (aNx p true false sd sd sd sd sd hi rfl hc rfl) (by simp only [dL,k5,Bool.and_false,Bool.false_and])
         rw [k5]at hc;have hm:=aT9 p.cons (by omega);have hd:=aK2 (bI p.cons) (by simp [bI];omega);cases k6:cC (bI p.cons)
         case false=>
          rw [k6]at hd;exact Ends.eqv (aNy p true true (bI p.cons) false sd sd sd sd sd hi rfl hc rfl hm hd rfl) (by simp only [dL,k6,Bool.and_false,Bool.false_and])
         rw [k6]at hd;have hn:=aT7 p.nodes p (by omega) (fun x hx=>aQB p x (by omega) (by omega) (hno x hx).2 (hno x hx).1);cases k7:p.nodes.all (bJ p)
         case false=>
          rw [k7]at hn;exact Ends.eqv (aNz p true true (bI p.cons) true false sd sd sd sd sd hi rfl hc rfl hm hd rfl hn rfl) (by simp only [dL,k7,Bool.and_false,Bool.false_and])
         rw [k7]at hn;refine(aNA p true true (bI p.cons) true true sd sd sd sd sd hi rfl hc rfl hm hd rfl hn rfl (by omega)).ends ?_;have hks:=aGD p.nodes (fun x hx=> (hno x hx).1);refine Ends.eqv (bF0 p hp (by omega) (by omega) (by omega) p.funs 0 _ (by omega) (by simp) ?_ rfl) ?_
         · intro q hq;have:= (List.mem_replicate.1 hq).2;omega
         ·simp only [dL,hh,decide_eq_true k3,k5,k6,k7,Bool.true_and] <;>rfl
       ·exact Ends.eqv (aNv p sd sd sd sd) (by simp [dL,k3])
     · have kk:dG (p.funs.length:Int) 1 (p.nodes.length:Int) =false:=inB_not.2 (by omega);exact Ends.eqv (aNu p sd sd sd) (by simp [dL,eF,kk])
   · have kk:dG (p.funs.length:Int) 1 (p.nodes.length:Int) =false:=inB_not.2 (by omega);exact Ends.eqv (aNt p sd sd) (by simp [dL,eF,kk])
 ·exact Ends.eqv (aNs p sd) (by simp [dL,eF,k0])
theorem aNR (p:Prog)(hp:aJ p=true) :Pure PP 141 [Prog.av p] (.int .i64 (checkN (dL p))) :=by
 refine aV (by kernel_rfl) rfl rfl ?_;have h:=aK3 p hp;cases k:dL p
 case false=>rw [k]at h;exact aQx p false h rfl
 rw [k]at h;exact aQy p true h rfl
def cnt (b:Bool) :Int:=if b=true then 1 else 0
def vL (u:List Bool) :List Int:=u.map cnt
def aBA (c:List Int) :Prop:= (∃ (i:Nat) (z:Int),c[i]?=some z∧2≤z) ∧∀z∈c,0≤z
theorem aNS {c:List Int}(h:aBA c) :c.all one=false:=by
 obtain⟨⟨i,z,h1,h2⟩,_⟩ :=h;cases k:c.all one
 case false=>rfl
 have:=List.all_eq_true.1 k z (mem_of_getElem? h1);simp only [one,decide_eq_true_eq]at this;omega
theorem aQC {c:List Int}{j:Nat}(h:aBA c) :aBA (c.set j (c.getD j 0+1)) :=by
 obtain⟨⟨i,z,h1,h2⟩,h3⟩ :=h;have hi:= (List.getElem?_eq_some_iff.1 h1).1;refine⟨⟨i,if j=i then z+1 else z,?_,by split<;>omega⟩,fun q hq=>?_⟩
 · rw [List.getElem?_set];by_cases e:j=i
   · subst e;rw [if_pos rfl,if_pos hi,if_pos rfl,getD_eq_getElem?_getD,h1];rfl
   ·rw [if_neg e,if_neg e];exact h1
 · rcases List.mem_or_eq_of_mem_set hq with g|g
   ·exact h3 q g
   · rw [g,getD_eq_getElem?_getD];cases k:c[j]? with
     |none=>simp
     |some w=>have:=h3 w (mem_of_getElem? k);simp;omega
theorem zD {lo n:Int}:∀ {ks c:List Int} {d:List Int},aBA c→oQ lo n ks c=some d→aBA d
 | [],c,d,h,e=>by simp only [oQ,Option.some.injEq]at e;rw [←e];exact h
 | k::ks,c,d,h,e=>by
  simp only [oQ]at e;split at e
  ·exact zD (aQC h) e
  ·cases e
theorem aNT (u:List Bool) :∀z∈vL u,0≤z:=fun z hz=>by
 obtain⟨b,_,rfl⟩ :=List.mem_map.1 hz;cases b<;>simp [cnt]
theorem aBB {lo n:Int}(hlo:0≤lo) :∀ (ks:List Int) (u:List Bool),n≤u.length →
  (∀v,marks lo n ks u=some v→oQ lo n ks (vL u) =some (vL v)) ∧ (marks lo n ks u=none→∀d,oQ lo n ks (vL u) =some d→aBA d)
 | [],u,hn=>by
  simp only [marks,oQ,Option.some.injEq];exact⟨fun v e=>by rw [e],fun e=>by cases e⟩
 | k ::ks,u,hn=>by
  simp only [marks,oQ];by_cases h1:dG k lo (n-1) =true
  · have hk:=inB_iff.1 h1;have hlt:k.toNat<u.length:=by omega
    have hget:u[k.toNat]?=some u[k.toNat] :=List.getElem?_eq_getElem hlt;have hc: (vL u).getD k.toNat 0=cnt u[k.toNat] :=by
     rw [getD_eq_getElem?_getD,vL,List.getElem?_map,hget];rfl
    rw [if_pos h1];cases hb:u[k.toNat]
    case false=>
     rw [hb]at hget hc;rw [if_pos ⟨h1,hget⟩];have e: (vL u).set k.toNat ((vL u).getD k.toNat 0+1) =vL (u.set k.toNat true) :=by
      rw [hc,vL,vL,List.map_set];rfl
     rw [e];exact aBB hlo ks (u.set k.toNat true) (by simpa using hn)
    rw [hb]at hget hc;rw [if_neg (by rw [hget];simp)];refine And.intro (fun v e=>nomatch e) (fun _ d e=>zD (And.intro ⟨k.toNat,2,?_,by omega⟩ ?_) e)
    ·rw [hc,List.getElem?_set_self (by simp [vL];exact hlt)];rfl
    · intro z hz;rcases List.mem_or_eq_of_mem_set hz with g|g
      ·exact aNT u z g
      ·rw [g,hc];simp [cnt]
  · rw [if_neg h1,if_neg (fun g=>h1 g.1)];exact And.intro (fun v e=>nomatch e) (fun _ d e=>nomatch e)
theorem sH (p:Prog) :∀ (t:List Node) (i:Nat) (c:List Int),aBA c→rM (mV p i t c) =false
 | [],i,c,h=>by rw [mV];exact aNS h
 | x::t,i,c,h=>by
  rw [mV];cases e:oQ ((i:Int) +1) (p.nodes.length:Int) x.kids c with
  |none=>rfl
  |some d=>exact sH p t (i+1) d (zD h e)
theorem aIY :∀ (u:List Bool),(vL u).all one=u.all fun b=>b
 | [] =>rfl
 | b::u=>by
  have:=aIY u;simp only [vL,List.map_cons,all_cons]at this ⊢;rw [this];cases b<;>simp [cnt,one]
theorem aNU (p:Prog) :∀ (t:List Node) (i:Nat) (u:List Bool),u.length=p.nodes.length→t.all (bJ p) =true→allT (bW p i t u) =rM (mV p i t (vL u))
 | [],i,u,hu,_=>by simp only [bW,mV,allT,rM,aIY]
 | x::t,i,u,hu,ha=>by
  simp only [all_cons,and_eq_true]at ha;obtain⟨m1,m2⟩ :=aBB (lo:= (i:Int) +1) (n:= (p.nodes.length:Int)) (by omega) x.kids u (by omega);simp only [bW,mV,if_pos ha.1];cases hm:marks ((i:Int) +1) (p.nodes.length:Int) x.kids u
  case some v=>
   rw [m1 v hm];exact aNU p t (i+1) v (by rw [iG hm,hu]) ha.2
  cases hi:oQ ((i:Int) +1) (p.nodes.length:Int) x.kids (vL u)with
  |none=>rfl
  |some d=>exact(sH p t (i+1) d (m2 hm d hi)).symm
theorem aCI (p:Prog) :∀ (t:List Node) (i:Nat) (u:List Bool),t.all (bJ p) =false→allT (bW p i t u) =false
 | [],i,u,h=>by simp at h
 | x ::t,i,u,h=>by
  simp only [bW];by_cases hx:bJ p x=true
  · rw [if_pos hx];have ht:t.all (bJ p) =false:=by simpa [hx]using h
    cases marks ((i:Int) +1) (p.nodes.length:Int) x.kids u with
    |none=>rfl
    |some v=>exact aCI p t (i+1) v ht
  ·rw [if_neg hx];rfl
theorem aUa (p:Prog) :dL p=aP p:=by
 have e1:dL p= (eF p&&zA p.cons&& (p.nodes.all (bJ p) && (match oQ 0 (p.nodes.length:Int) p.funs (replicate p.nodes.length 0)with
  |some v=>rM (mV p 0 p.nodes v)
  |none=>false))) :=by
  unfold dL zA;cases eF p<;>cases p.cons.all gB<;>cases cC (bI p.cons) <;>cases p.nodes.all (bJ p) <;>cases decide (p.cons.length≤20) <;>simp
 rw [e1,aP];congr 1;have ez:replicate p.nodes.length (0:Int) =vL (replicate p.nodes.length false) :=by rw [vL,List.map_replicate];rfl
 rw [ez];obtain⟨m1,m2⟩ :=aBB (lo:=0) (n:= (p.nodes.length:Int)) (by omega) p.funs (replicate p.nodes.length false) (by simp);cases hm:marks 0 (p.nodes.length:Int) p.funs (replicate p.nodes.length false)
 case some v=>
  rw [m1 v hm];cases ha:p.nodes.all (bJ p)
  case true=>simp only [Bool.true_and];exact(aNU p p.nodes 0 v (by rw [iG hm];simp) ha).symm
  simp only [Bool.false_and];exact(aCI p p.nodes 0 v ha).symm
 simp only;cases hi:oQ 0 (p.nodes.length:Int) p.funs (vL (replicate p.nodes.length false))with
 |none=>simp
 |some d=>simp only [sH p p.nodes 0 d (m2 hm d hi),Bool.and_false]
theorem Ends.val {P:Program}{m:Nat}{s:AS}{v v':AV}{h':Hp}(h:Ends P m s (.ret v) h')(hv:∀E cv,VR E v cv→VR E v' cv) :Ends P m s (.ret v') h':=fun hm E fr ccs w f fs r cl base=>by
 obtain⟨cl',w',E',s1,⟨cv,e,g⟩,r2,x2⟩ :=h hm E fr ccs w f fs r cl base;exact⟨cl',w',E',s1,⟨cv,e,hv _ _ g⟩,r2,x2⟩
mutual
def bnm :Pat→Int
 | .mk f _ _ ps=>if f=2 then 1 else bGv ps
def bGv :List Pat→Int
 | [] =>0
 |p::ps=>bnm p+bGv ps
end
def aEF (x:Node)(k:Int) :Int:=
 if x.op=5∨x.op=27∨ (x.op=7∧k=1)then 1
 else if x.op=15∧k>0 then(match x.pats[(k-1).toNat]? with|some q=>bnm q|none=>0)else 0
structure FineN (cons:List Con) (x:Node) :Prop where
 pats:∀q∈x.pats,cU q≤12∧cM cons q=true
 mat:x.op=15→x.kids.length=1+x.pats.length
 let2:x.op=7→x.kids.length=2
theorem rN {p:Prog}{x:Node}(h:bJ p x=true) :FineN p.cons x:=by
 simp only [bJ,and_eq_true,decide_eq_true_eq]at h;obtain⟨⟨_,h2⟩,h3⟩ :=h;refine⟨fun q hq=>?_,fun e=>?_,fun e=>?_⟩
 · have:=List.all_eq_true.1 h2 q hq;simpa [iY]using this
 ·rw [e]at h3;simp [dS]at h3;omega
 ·rw [e]at h3;simp [dS]at h3;omega
structure FineP (p:Prog) :Prop where
 small:p.nodes.length≤320
 fsmall:p.funs.length≤320
 node:∀ (i:Nat) (x:Node),p.nodes[i]?=some x→FineN p.cons x∧x.kids.length≤10∧∀k∈x.kids,(i:Int) <k∧k<p.nodes.length
 funs:∀f∈p.funs,0≤f∧f<p.nodes.length
def wAs (f:Int→List Int×Int→Option (List Int×Int)) :List Int→List Int×Int→Option (List Int×Int)
 | [],s=>some s
 | k::ks,s=>match f k s with
  |some s'=>wAs f ks s'
  |none=>none
def wA (p:Prog) :Nat→Int→List Int×Int→Option (List Int×Int)
 |0,_,_=>none
 | f+1,a,(l,n) =>if -1000000000≤n∧n≤1000000000 then match p.nodes[a.toNat]? with
  |some x=>wAs (wA p f) x.kids (l.set a.toNat n,n+1)
  |none=>none
  else none
section
variable (p :Prog) (mf mc:List (Int×Int))
variable {p mf mc}
end
theorem mW {P:Program}{f:Nat}{args args':List AV}{v v':AV}{l l' lc lc':List (Nat×AObj×Bool)}{m nb nb' n2 n3:Nat}{ks:List Nat}
  (h0:aF2 P m (.enter f args) (aD l nb) (.ret v) (aD l' nb')) (e3:nb'-m+n2=n3) (ev:AV.ren (qH m n2 ks) v=v') (hargs:AV.renL (eY 0 nb n2 ks) args=args') (hm:Nat.ble m nb=true) (hm':Nat.ble m nb'=true)
  (hin:dR 0 ⟨⟨0,0,[],[],[],.run,.normal,none⟩,[],l,nb⟩ ks=true) (hl:uZ (aD lc n2) (eY 0 nb n2 ks) l=jQ (eY 0 nb n2 ks) l) (hkl:jR l)
  (hl':uZ (aD lc' n3) (qH m n2 ks) l'=jQ (qH m n2 ks) l') (hkl':jR l') (hpl:yT l'=true:=by kernel_rfl) (hk':iE nb' l'=true:=by kernel_rfl)
  (hx:iE n2 lc=true:=by kernel_rfl) (hx':iE n3 lc'=true:=by kernel_rfl) (hlt:ks.all (fun k=>Nat.blt k n2) =true:=by kernel_rfl) (hout:aEu (namesT (qH m n2 ks) l') ks (aD lc n2) lc'=sE lc':=by kernel_rfl) (hll:sE l'= (l'.map fun p=> (aD l' nb').look p.1) :=by kernel_rfl) :
  Spec P (.enter f args') (aD lc n2) (.ret v') (aD lc' n3) :=by
 subst e3 ev;exact aVi h0 hargs hm hm' hin hl hkl hl' hkl' hpl hk' hx hx' hlt hout hll
def bN (mf mc:List (Int×Int))(op n:Int) :Int:=if op=4 then(if 0≤n then n else -1-iL mf (-1-n))else if op=14 then iL mc n else n
def fK (mf mc:List (Int×Int))(to:List Int)(x:Node) :Node:= ⟨x.op,bN mf mc x.op x.n,x.kids.map (fC to),eJ mc x.pats⟩
def nOk (mf:List (Int×Int))(x:Node) :Prop:=bH x.pats<1000000∧ (x.op=4→x.n<0→ -1000000000≤x.n∧ -1000000000≤iL mf (-1-x.n) ∧iL mf (-1-x.n) ≤1000000000)
def wB (p:Prog)(mf mc:List (Int×Int))(to:List Int) :Nat→Int→List Node
 |0,_=>[]
 | f+1,a=>match p.nodes[a.toNat]? with
  |some x=>fK mf mc to x:: (x.kids.map (wB p mf mc to f)).flatten
  |none=>[]
section
variable (p :Prog) (mf mc:List (Int×Int)) (to:List Int)
variable {p mf mc to}
end
def aW1 (p:Prog)(mf mc:List (Int×Int))(to:List Int)(f:Nat) :List Node:= (p.funs.map (wB p mf mc to f)).flatten
section
variable {p :Prog} {mf mc:List (Int×Int)}
end
def sM :Nat→List (Int×Int)
 |0=>[]
 |n+1=>cB (n:Int) (n:Int) (sM n)
theorem qM {α β:Type}[DecidableEq α](k k':α)(v:β) :∀ (l:List (α×β)),dE k (cB k' v l) =if k=k' then some v else dE k l
 | [] =>by simp [cB,dE]
 | e ::l=>by
  simp only [cB];split
  · rename_i h;subst h;simp only [dE];split<;>rfl
  · rename_i h;simp only [dE,qM k k' v l];by_cases h1:k=e.1
    · subst h1;rw [if_pos rfl,if_pos rfl,if_neg (fun e=>h e.symm)]
    ·rw [if_neg h1,if_neg h1]
theorem aW2 :∀ (n:Nat) (i:Int),0≤i→i<n→dE i (sM n) =some i
 |0,i,h0,h1=>by omega
 | n+1,i,h0,h1=>by
  rw [sM,qM];by_cases h:i= (n:Int)
  ·rw [if_pos h,h]
  ·rw [if_neg h];exact aW2 n i h0 (by omega)
theorem aIZ {n:Nat}{i:Int}(h0:0≤i)(h1:i<n) :iL (sM n) i=i:=by unfold iL;rw [aW2 n i h0 h1];rfl
theorem aUb {P:Program}{m:Nat}{s:AS}{v v':AV}{h':Hp}(h:Ends P m s (.ret v) h')(hv:∀ (E:Emb) (cv:Value),VR E v cv→VR E v' cv) :Ends P m s (.ret v') h':=fun hm E fr ccs w f fs r cl base=>by
 obtain⟨cl',w',E',s1,⟨cv,rfl,g2⟩,r2,x2⟩ :=h hm E fr ccs w f fs r cl base;exact⟨_,w',E',s1,⟨cv,rfl,hv E' cv g2⟩,r2,x2⟩
theorem pJ {E:Emb}{e:Nat}{xs:List AV}{cv:Value}(h:VR E (.ilst e xs true) cv) :VR E (.ilst e xs false) cv:=by
 simp only [VR]at h ⊢;obtain⟨vs,h1,h2,h3⟩ :=h;refine⟨vs,h1,h2,?_⟩;rcases h3 with⟨rfl,a,cap,rfl,g,_⟩ | ⟨k,a,cap,C,g1,g2,g3,_,g5⟩
 ·exact .inl ⟨rfl,a,cap,rfl,g,fun hh=>by cases hh⟩
 ·exact .inr ⟨k,a,cap,C,g1,g2,g3,(fun hh=>by cases hh),g5⟩
section
variable {p :Prog}
end
end
end Go.Hb

set_option linter.defProp false
set_option linter.unusedVariables false
set_option linter.unusedSimpArgs false
set_option linter.unusedSectionVars false
set_option maxRecDepth 100000
set_option maxHeartbeats 8000000
namespace Go.Hb
open Bool (and_eq_true)
open List (count_append flatten_cons getElem?_cons_succ getElem?_cons_zero getElem?_eq_getElem getElem?_set_ne getElem?_set_self length_cons map map_cons mem_cons_of_mem mem_cons_self mem_of_getElem? replicate)
open Go.Proofs Tryz
noncomputable section
def pre (p:Prog) :Nat→Int→List Int
 |0,_=>[]
 | f+1,a=>match p.nodes[a.toNat]? with
  |some x=>a:: (x.kids.map (pre p f)).flatten
  |none=>[]
def eI :List Int→Int→List Int→List Int
 |l,_,[] =>l
 |l,n,b::bs=>eI (l.set b.toNat n) (n+1) bs
theorem aA8 :∀ (xs ys l:List Int) (n:Int),eI l n (xs++ys) =eI (eI l n xs) (n+xs.length) ys
 | [],ys,l,n=>by simp [eI]
 | x::xs,ys,l,n=>by
  rw [List.cons_append,eI,aA8 xs ys,eI,length_cons];congr 1;omega
theorem aGE :∀ (xs l:List Int) (n:Int) (m:Nat),(∀x∈xs,x.toNat≠m) → (eI l n xs)[m]?=l[m]?
 | [],l,n,m,h=>rfl
 | x::xs,l,n,m,h=>by
  rw [eI,aGE xs _ _ m (fun y hy=>h y (mem_cons_of_mem _ hy))];exact getElem?_set_ne (h x (mem_cons_self ..))
theorem aAl :∀ (xs l:List Int) (n:Int),xs.Nodup→ (∀x∈xs,0≤x∧x<l.length) →∀ (i:Nat) (b:Int),xs[i]?=some b→fC (eI l n xs) b=n+i
 | [],l,n,_,_,i,b,h=>by simp at h
 | x ::xs,l,n,hd,hr,i,b,h=>by
  have hd:=List.nodup_cons.1 hd;have hx:=hr x (mem_cons_self ..);cases i with
  | zero=>
   simp only [getElem?_cons_zero,Option.some.injEq]at h;subst h;unfold fC
   rw [eI,List.getD_eq_getElem?_getD,aGE xs _ _ x.toNat (fun y hy e=>hd.1 (by
    have:=hr y (mem_cons_of_mem _ hy);have:y=x:=by omega
    exact this ▸ hy)),getElem?_set_self (by omega)]
   simp
  | succ i=>
   simp only [getElem?_cons_succ]at h;rw [eI,aAl xs (l.set x.toNat n) (n+1) hd.2 (fun y hy=>by rw [List.length_set];exact hr y (mem_cons_of_mem _ hy)) i b h];omega
section
variable {p :Prog}
theorem qN (hp:FineP p){f:Nat}{a:Int}(ha:0≤a)(hn:a<p.nodes.length)(hf:p.nodes.length-a.toNat≤f) :∃x g,f=g+1∧p.nodes[a.toNat]?=some x∧pre p f a=a:: (x.kids.map (pre p g)).flatten:=by
 cases f with
 |zero=>omega
 | succ g=>
  obtain⟨x,hx⟩ :∃x,p.nodes[a.toNat]?=some x:= ⟨_,getElem?_eq_getElem (by omega)⟩;exact⟨x,g,rfl,hx,by rw [pre,hx]⟩
theorem aK4 {g:Int→List Int×Int→Option (List Int×Int)}{q:Int→List Int}:∀ (ks:List Int) (l:List Int) (n:Int),(∀k∈ks,∀ (l:List Int) (n:Int),n+ (q k).length≤1000000000→0≤n→g k (l,n) =some (eI l n (q k),n+ (q k).length)) →0≤n→n+ ((ks.map q).flatten).length≤1000000000 →
  wAs g ks (l,n) =some (eI l n (ks.map q).flatten,n+ ((ks.map q).flatten).length)
 | [],l,n,h,_,_=>by simp [wAs,eI]
 | k::ks,l,n,h,h0,hb=>by
  simp only [map_cons,flatten_cons,List.length_append]at hb ⊢;rw [wAs,h k (mem_cons_self ..) l n (by omega) h0];simp only;rw [aK4 ks _ _ (fun k hk=>h k (mem_cons_of_mem _ hk)) (by omega) (by omega),aA8];congr 2;omega
theorem aW3 (hp:FineP p) :∀ (f:Nat) (a:Int),0≤a→a<p.nodes.length→p.nodes.length-a.toNat≤f→∀ (l:List Int) (n:Int),n+ (pre p f a).length≤1000000000→0≤n→wA p f a (l,n) =some (eI l n (pre p f a),n+ (pre p f a).length)
 |0,a,ha,hn,hf,_,_,_,_=>by omega
 | f+1,a,ha,hn,hf,l,n,hb,h0=>by
  obtain⟨x,hx⟩ :∃x,p.nodes[a.toNat]?=some x:= ⟨_,getElem?_eq_getElem (by omega)⟩;obtain⟨_,_,hks⟩ :=hp.node _ _ hx;have e:pre p (f+1) a=a:: (x.kids.map (pre p f)).flatten:=by rw [pre,hx]
  rw [e]at hb ⊢;simp only [length_cons]at hb ⊢;rw [wA,if_pos (by omega),hx];simp only
  rw [aK4 (q:=pre p f) x.kids _ _ (fun k hk l n h1 h2=>by
   have:=hks k hk;exact aW3 hp f k (by omega) (by omega) (by omega) l n h1 h2) (by omega) (by omega),eI]
  congr 2;omega
theorem aGF (mf mc:List (Int×Int))(to:List Int) :∀ (f:Nat) (a:Int),(wB p mf mc to f a).length= (pre p f a).length
 |0,a=>rfl
 | f+1,a=>by
  rw [wB,pre];cases hx:p.nodes[a.toNat]?
  case some x=>
   simp only [length_cons,List.length_flatten,List.map_map];congr 2;exact List.map_congr_left (fun k _=>aGF mf mc to f k)
  rfl
end
section
variable {p :Prog} {mf mc:List (Int×Int)} {F C:List Int} {to:List Int}
def MOk (p:Prog)(mf mc:List (Int×Int))(F C:List Int) :Prop:=∀ (i:Nat) (x:Node),p.nodes[i]?=some x→bH x.pats<1000000∧mN F C x.op x.n=some (bN mf mc x.op x.n) ∧mC C x.pats=some (eJ mc x.pats)
theorem aCJ {g:Nat→Int→Option (List Node)}{h:Int→List Node}{q:Int→List Int}:∀ (ks:List Int) (len:Nat),
  (∀k∈ks,∀len:Nat,len+ (q k).length≤1000000→ (∀ (i:Nat) (b:Int),(q k)[i]?=some b→fC to b= ((len+i:Nat) :Int)) →g len k=some (h k)) → (∀k∈ks,(h k).length= (q k).length∧ (q k)[0]?=some k) →
  len+ ((ks.map q).flatten).length≤1000000→ (∀ (i:Nat) (b:Int),((ks.map q).flatten)[i]?=some b→fC to b= ((len+i:Nat) :Int)) →
  jD g len ks=some (ks.map (fC to),(ks.map h).flatten)
 | [],len,_,_,_,_=>rfl
 | k::ks,len,hg,hh,hb,ht=>by
  simp only [map_cons,flatten_cons,List.length_append]at hb ht ⊢;obtain⟨h1,h2⟩ :=hh k (mem_cons_self ..);have hlt:∀ {i:Nat} {b:Int},(q k)[i]?=some b→i< (q k).length:=fun e=> (List.getElem?_eq_some_iff.1 e).1;rw [jD,hg k (mem_cons_self ..) len (by omega) (fun i b e=>ht i b (by rw [List.getElem?_append_left (hlt e)];exact e))];simp only
  rw [aCJ ks (len+ (h k).length) (fun k hk=>hg k (mem_cons_of_mem _ hk)) (fun k hk=>hh k (mem_cons_of_mem _ hk)) (by omega) (fun i b e=>by
   rw [ht ((q k).length+i) b (by rw [List.getElem?_append_right (by omega),show(q k).length+i- (q k).length=i by omega];exact e),h1];congr 1;omega)]
  simp only;rw [ht 0 k (by rw [List.getElem?_append_left (hlt h2)];exact h2)];rfl
theorem aDy (hp:FineP p)(hm:MOk p mf mc F C) :∀ (k:Nat) (a:Int) (len:Nat),0≤a→a<p.nodes.length→p.nodes.length-a.toNat≤k→len+ (pre p k a).length≤1000000→ (∀ (i:Nat) (b:Int),(pre p k a)[i]?=some b→fC to b= ((len+i:Nat) :Int)) →
  dA p F C k len a=some (wB p mf mc to k a)
 |0,a,len,ha,hn,hf,_,_=>by omega
 | k +1,a,len,ha,hn,hf,hb,ht=>by
  obtain⟨x,hx⟩ :∃x,p.nodes[a.toNat]?=some x:= ⟨_,getElem?_eq_getElem (by omega)⟩;obtain⟨_,hk10,hks⟩ :=hp.node _ _ hx;obtain⟨m1,m2,m3⟩ :=hm _ _ hx;have e:pre p (k+1) a=a:: (x.kids.map (pre p k)).flatten:=by rw [pre,hx]
  rw [e]at hb ht;simp only [length_cons]at hb
  have hkk:=aCJ (to:=to) (g:=dA p F C k) (h:=wB p mf mc to k) (q:=pre p k) x.kids (len+1) (fun c hc len h1 h2=>by
    have:=hks c hc;exact aDy hp hm k c len (by omega) (by omega) (by omega) h1 h2) (fun c hc=>by
    have:=hks c hc;obtain⟨y,g,_,_,h3⟩ :=qN hp (f:=k) (a:=c) (by omega) (by omega) (by omega);exact⟨aGF mf mc to k c,by rw [h3];rfl⟩) (by omega) (fun i b h=>by
    rw [ht (i+1) b (by simpa using h)];congr 1;omega)
  rw [dA,if_pos ⟨ha,by omega⟩,hx];simp only;rw [if_pos ⟨by omega,m1⟩,m2];simp only;rw [m3];simp only;rw [hkk];simp only;rw [wB,hx];rfl
end
def sJ (x:Node)(i:Nat) :Nat→List Int→List Int→List Int
 |_,[],l=>l
 |j,k::ks,l=>sJ x i (j+1) ks (l.set k.toNat (l.getD i 0+aEF x j))
def nQ :Nat→List Node→List Int→List Int
 |_,[],l=>l
 |i,x::t,l=>nQ (i+1) t (sJ x i 0 x.kids l)
def vM :List Int→List Int→List Int
 | [],l=>l
 |f::fs,l=>vM fs (l.set f.toNat 1)
def zE (p:Prog) :List Int:=nQ 0 p.nodes (vM p.funs (replicate p.nodes.length 0))
theorem aBC (x:Node)(i:Nat) :∀ (t:List Int) (j:Nat) (l:List Int),(sJ x i j t l).length=l.length
 | [],_,_=>rfl
 |k::t,j,l=>by rw [sJ,aBC x i t];simp
theorem aEG :∀ (t:List Node) (i:Nat) (l:List Int),(nQ i t l).length=l.length
 | [],_,_=>rfl
 |x::t,i,l=>by rw [nQ,aEG t,aBC]
theorem aBD :∀ (t:List Int) (l:List Int),(vM t l).length=l.length
 | [],_=>rfl
 |f::t,l=>by rw [vM,aBD t];simp
theorem aQD (p:Prog) : (zE p).length=p.nodes.length:=by rw [zE,aEG,aBD];simp
theorem qO {lo n:Int}:∀ {ks:List Int} {u v:List Bool},marks lo n ks u=some v→∀k∈ks,lo≤k∧k≤n-1
 | [],_,_,_,k,hk=>by cases hk
 | a ::ks,u,v,h,k,hk=>by
  simp only [marks]at h;split at h
  · rename_i g;rcases List.mem_cons.1 hk with rfl|hk
    ·exact inB_iff.1 g.1
    ·exact qO h k hk
  ·cases h
theorem aAm {lo n:Int}:∀ {ks:List Int} {u v:List Bool},marks lo n ks u=some v→∀m:Nat,v[m]?=some true→u[m]?=some true∨∃k∈ks,k.toNat=m
 | [],u,v,h,m,hm=>by simp only [marks,Option.some.injEq]at h;rw [h];exact .inl hm
 | a ::ks,u,v,h,m,hm=>by
  simp only [marks]at h;split at h
  · rcases aAm h m hm with g| ⟨k,hk,e⟩
    · by_cases e:a.toNat=m
      ·exact .inr ⟨a,mem_cons_self ..,e⟩
      ·rw [getElem?_set_ne e]at g;exact .inl g
    ·exact .inr ⟨k,mem_cons_of_mem _ hk,e⟩
  ·cases h
theorem jV {lo n:Int}:∀ {ks:List Int} {u v:List Bool},marks lo n ks u=some v→∀m:Nat,u[m]?=some true→v[m]?=some true
 | [],u,v,h,m,hm=>by simp only [marks,Option.some.injEq]at h;rw [←h];exact hm
 | a ::ks,u,v,h,m,hm=>by
  simp only [marks]at h;split at h
  · rename_i g;refine jV h m ?_;by_cases e:a.toNat=m
    ·subst e;rw [hm]at g;exact absurd g.2 (by simp)
    ·rw [getElem?_set_ne e];exact hm
  ·cases h
theorem eX {lo n k:Int}{ks:List Int}{u v:List Bool}(h:marks lo n (k::ks) u=some v) :u[k.toNat]?=some false∧marks lo n ks (u.set k.toNat true) =some v:=by
 simp only [marks]at h;split at h
 ·rename_i g;exact⟨g.2,h⟩
 ·cases h
theorem eM {p:Prog}{i:Nat}{x:Node}{t:List Node}{u v:List Bool}(h:bW p i (x::t) u=some v) :bJ p x=true∧∃w,marks ((i:Int) +1) p.nodes.length x.kids u=some w∧bW p (i+1) t w=some v:=by
 simp only [bW]at h;split at h
 · rename_i g;split at h
   ·rename_i w hw;exact⟨g,w,hw,h⟩
   ·cases h
 ·cases h
theorem vN {p:Prog}:∀ {t:List Node} {i:Nat} {u v:List Bool},bW p i t u=some v→∀m:Nat,m≤i→v[m]?=some true→u[m]?=some true
 | [],i,u,v,h,m,_,hm=>by simp only [bW,Option.some.injEq]at h;rw [h];exact hm
 | x::t,i,u,v,h,m,hi,hm=>by
  obtain⟨_,w,hw,h2⟩ :=eM h;rcases aAm hw m (vN h2 m (by omega) hm)with g| ⟨k,hk,e⟩
  ·exact g
  ·have:=qO hw k hk;omega
theorem iZ {p:Prog}:∀ {t:List Node} {i:Nat} {u v:List Bool},bW p i t u=some v→v.length=u.length
 | [],i,u,v,h=>by simp only [bW,Option.some.injEq]at h;rw [h]
 | x::t,i,u,v,h=>by
  obtain⟨_,w,hw,h2⟩ :=eM h;rw [iZ h2,iG hw]
theorem pK {p:Prog}:∀ {t:List Node} {i:Nat} {u v:List Bool},bW p i t u=some v→∀ (j:Nat) (x:Node),t[j]?=some x→bJ p x=true∧∀k∈x.kids,((i+j:Nat) :Int) <k∧k<p.nodes.length
 | [],i,u,v,h,j,x,hx=>by simp at hx
 | y::t,i,u,v,h,j,x,hx=>by
  obtain⟨g,w,hw,h2⟩ :=eM h;cases j with
  | zero=>
   simp at hx;subst hx;exact⟨g,fun k hk=>by have:=qO hw k hk;omega⟩
  | succ j=>
   have:=pK h2 j x (by simpa using hx);exact⟨this.1,fun k hk=>by have:=this.2 k hk;omega⟩
theorem aCK {p:Prog}:∀ {t:List Node} {i:Nat} {u v:List Bool},bW p i t u=some v→∀m:Nat,v[m]?=some true→u[m]?=some true∨∃ (j:Nat) (x:Node) (k:Int),t[j]?=some x∧k∈x.kids∧k.toNat=m
 | [],i,u,v,h,m,hm=>by simp only [bW,Option.some.injEq]at h;rw [h];exact .inl hm
 | y ::t,i,u,v,h,m,hm=>by
  obtain⟨g,w,hw,h2⟩ :=eM h;rcases aCK h2 m hm with a| ⟨j,x,k,a1,a2,a3⟩
  · rcases aAm hw m a with b| ⟨k,b1,b2⟩
    ·exact .inl b
    ·exact .inr ⟨0,y,k,rfl,b1,b2⟩
  ·exact .inr ⟨j+1,x,k,by simpa using a1,a2,a3⟩
theorem rO {x:Node}{i:Nat}{lo n:Int}:∀ {t:List Int} {j:Nat} {u v:List Bool} {l:List Int},marks lo n t u=some v→∀m:Nat,u[m]?=some true→ (sJ x i j t l)[m]?=l[m]?
 | [],_,_,_,_,_,_,_=>rfl
 | k::t,j,u,v,l,h,m,hm=>by
  obtain⟨h1,h2⟩ :=eX h;have hne:k.toNat≠m:=fun e=>by rw [e,hm]at h1;cases h1
  rw [sJ,rO h2 m (by rw [getElem?_set_ne hne];exact hm),getElem?_set_ne hne]
theorem pL {p:Prog}:∀ {t:List Node} {i:Nat} {u v:List Bool} {l:List Int},bW p i t u=some v→∀m:Nat,u[m]?=some true→ (nQ i t l)[m]?=l[m]?
 | [],_,_,_,_,_,_,_=>rfl
 | x::t,i,u,v,l,h,m,hm=>by
  obtain⟨_,w,hw,h2⟩ :=eM h;rw [nQ,pL h2 m (jV hw m hm),rO hw m hm]
theorem aEH {lo n:Int}:∀ {t:List Int} {u v:List Bool} {l:List Int},marks lo n t u=some v→∀m:Nat,u[m]?=some true→ (vM t l)[m]?=l[m]?
 | [],_,_,_,_,_,_=>rfl
 | k::t,u,v,l,h,m,hm=>by
  obtain⟨h1,h2⟩ :=eX h;have hne:k.toNat≠m:=fun e=>by rw [e,hm]at h1;cases h1
  rw [vM,aEH h2 m (by rw [getElem?_set_ne hne];exact hm),getElem?_set_ne hne]
theorem aGG {x:Node}{i:Nat}{lo n:Int}:∀ {t:List Int} {j:Nat} {u v:List Bool} {l:List Int},marks lo n t u=some v→u.length=l.length→u[i]?=some true→∀ (d:Nat) (k:Int),t[d]?=some k→ (sJ x i j t l)[k.toNat]?=some (l.getD i 0+aEF x ((j+d:Nat) :Int))
 | [],_,_,_,_,_,_,_,d,k,hk=>by simp at hk
 | a::t,j,u,v,l,h,hul,hi,d,k,hk=>by
  obtain⟨h1,h2⟩ :=eX h;have hai:a.toNat≠i:=fun e=>by rw [e,hi]at h1;cases h1
  have hal:a.toNat<u.length:= (List.getElem?_eq_some_iff.1 h1).1;rw [sJ];cases d with
  | zero=>
   simp at hk;subst hk;rw [rO h2 _ (by rw [getElem?_set_self hal]),getElem?_set_self (by omega)];simp
  | succ d=>
   have:=aGG (x:=x) (i:=i) (j:=j+1) (l:=l.set a.toNat (l.getD i 0+aEF x j)) h2 (by simpa using hul) (by rw [getElem?_set_ne hai];exact hi) d k (by simpa using hk);rw [this,List.getD_eq_getElem?_getD,getElem?_set_ne hai,←List.getD_eq_getElem?_getD];congr 3;omega
theorem aEI {p:Prog}:∀ {t:List Node} {i:Nat} {u v:List Bool} {l:List Int},bW p i t u=some v→ (∀m,m<v.length→v[m]?=some true) →u.length=l.length→i+t.length≤u.length→∀ (j:Nat) (x:Node) (d:Nat) (k:Int),t[j]?=some x→x.kids[d]?=some k →
  ∃s,(nQ i t l)[i+j]?=some s∧ (nQ i t l)[k.toNat]?=some (s+aEF x d)
 | [],_,_,_,_,_,_,_,_,j,x,d,k,hx,_=>by simp at hx
 | y ::t,i,u,v,l,h,hv,hul,hil,j,x,d,k,hx,hk=>by
  obtain⟨_,w,hw,h2⟩ :=eM h;have hwl:=iG hw;simp only [length_cons]at hil;rw [nQ];cases j with
  | zero=>
   simp at hx;subst hx;have hvl:=iZ h;have hi:u[i]?=some true:=vN h i (Nat.le_refl _) (hv i (by omega));have hk2:=aGG (x:=y) (i:=i) (j:=0) (l:=l) hw hul hi d k hk;have hwk:w[k.toNat]?=some true:=by
    have hkin:=qO hw k (mem_of_getElem? hk);have all:∀ {lo n:Int} {ks:List Int} {u v:List Bool},marks lo n ks u=some v→∀k∈ks,v[k.toNat]?=some true:=by
     intro lo n ks
     induction ks with
     |nil=>intro u v _ k hk;cases hk
     | cons a ks ih=>
      intro u v h k hk;obtain⟨h1,h2⟩ :=eX h;rcases List.mem_cons.1 hk with rfl|hk
      ·exact jV h2 _ (getElem?_set_self (List.getElem?_eq_some_iff.1 h1).1)
      ·exact ih h2 k hk
    exact all hw k (mem_of_getElem? hk)
   refine⟨l.getD i 0,?_,?_⟩
   · show(nQ (i+1) t (sJ y i 0 y.kids l))[i]?=some (l.getD i 0);rw [pL h2 i (jV hw i hi),rO hw i hi,List.getD_eq_getElem?_getD,getElem?_eq_getElem (by omega)];rfl
   ·rw [pL h2 _ hwk,hk2];simp
  | succ j=>
   obtain⟨s,a1,a2⟩ :=aEI (l:=sJ y i 0 y.kids l) h2 hv (by rw [aBC,hwl,hul]) (by omega) j x d k (by simpa using hx) hk;exact⟨s,by rw [←a1];congr 1;omega,a2⟩
structure Sprop (p:Prog) (S:List Int) :Prop where
 len:S.length=p.nodes.length
 root:∀f∈p.funs,S[f.toNat]?=some 1
 kid:∀ (i:Nat) (x:Node) (d:Nat) (k:Int),p.nodes[i]?=some x→x.kids[d]?=some k→∃s,S[i]?=some s∧S[k.toNat]?=some (s+aEF x d)
def aRY (p:Prog) :Prop:=∀m,m<p.nodes.length→ (∃f∈p.funs,f.toNat=m) ∨∃ (i:Nat) (x:Node) (k:Int),p.nodes[i]?=some x∧k∈x.kids∧k.toNat=m∧i<m
theorem aEJ {lo n:Int}:∀ {t:List Int} {u v:List Bool} {l:List Int},marks lo n t u=some v→u.length=l.length→∀f∈t,(vM t l)[f.toNat]?=some 1
 | [],_,_,_,_,_,f,hf=>by cases hf
 | a::t,u,v,l,h,hul,f,hf=>by
  obtain⟨h1,h2⟩ :=eX h;have hal:a.toNat<u.length:= (List.getElem?_eq_some_iff.1 h1).1;rw [vM];rcases List.mem_cons.1 hf with rfl|hf
  ·rw [aEH h2 _ (getElem?_set_self hal),getElem?_set_self (by omega)]
  ·exact aEJ h2 (by simpa using hul) f hf
theorem aK5 {p:Prog}(hp:aJ p=true)(hf:aP p=true) :FineP p∧Sprop p (zE p) ∧aRY p:=by
 have hs:=hp;simp only [aJ,and_eq_true,decide_eq_true_eq]at hs;obtain⟨⟨⟨⟨s1,s2⟩,s3⟩,_⟩,s5⟩ :=hs;simp only [aP,and_eq_true]at hf;obtain⟨_,hf⟩ :=hf;split at hf
 · rename_i u hu;unfold allT at hf;split at hf
   · rename_i v hv;have hul:u.length=p.nodes.length:=by rw [iG hu];simp
     have hvl:v.length=p.nodes.length:=by rw [iZ hv,hul]
     have hall:∀m,m<v.length→v[m]?=some true:=fun m hm=>by
      rw [getElem?_eq_getElem hm];have:=List.all_eq_true.1 hf _ (List.getElem_mem hm);simpa using this
     have hnodes:=pK hv;refine⟨⟨s1,s2,fun i x hx=>?_,fun f hf=>?_⟩,⟨aQD p,fun f hf=>?_,fun i x d k hx hk=>?_⟩,fun m hm=>?_⟩
     · have:=hnodes i x hx;have h10:=List.all_eq_true.1 s5 x (mem_of_getElem? hx);simp only [aW,and_eq_true,decide_eq_true_eq]at h10;exact⟨rN this.1,h10.1.1,fun k hk=>by have:=this.2 k hk;omega⟩
     ·have:=qO hu f hf;omega
     · rw [zE];have hfm:u[f.toNat]?=some true:=by
        have all:∀ {lo n:Int} {ks:List Int} {u v:List Bool},marks lo n ks u=some v→∀k∈ks,v[k.toNat]?=some true:=by
         intro lo n ks
         induction ks with
         |nil=>intro u v _ k hk;cases hk
         | cons a ks ih=>
          intro u v h k hk;obtain⟨h1,h2⟩ :=eX h;rcases List.mem_cons.1 hk with rfl|hk
          ·exact jV h2 _ (getElem?_set_self (List.getElem?_eq_some_iff.1 h1).1)
          ·exact ih h2 k hk
        exact all hu f hf
       rw [pL hv _ hfm];exact aEJ hu (by simp) f hf
     · obtain⟨s,a1,a2⟩ :=aEI (l:=vM p.funs (replicate p.nodes.length 0)) hv hall (by rw [aBD,hul];simp) (by omega) i x d k hx hk;exact⟨s,by rw [zE,←a1];congr 1;omega,a2⟩
     · rcases aCK hv m (hall m (by omega))with g| ⟨j,x,k,g1,g2,g3⟩
       · rcases aAm hu m g with a| ⟨f,a1,a2⟩
         ·rw [List.getElem?_replicate]at a;split at a<;>simp at a
         ·exact .inl ⟨f,a1,a2⟩
       · have:= (hnodes j x g1).2 k g2;exact .inr ⟨j,x,k,g1,g2,g3,by omega⟩
   ·cases hf
 ·cases hf
inductive Reach (p:Prog) :Nat→Nat→Prop where
 |refl (a:Nat) :Reach p a a
 |step {a i:Nat} {x:Node} {k:Int}:Reach p a i→p.nodes[i]?=some x→k∈x.kids→Reach p a k.toNat
theorem Reach.first {p:Prog}{a m:Nat}(h:Reach p a m) :m=a∨∃ (x:Node) (k:Int),p.nodes[a]?=some x∧k∈x.kids∧Reach p k.toNat m:=by
 induction h with
 |refl=>exact .inl rfl
 | step h hx hk ih=>
  rename_i i x k;rcases ih with rfl| ⟨y,q,h1,h2,h3⟩
  ·exact .inr ⟨x,k,hx,hk,Reach.refl _⟩
  ·exact .inr ⟨y,q,h1,h2,h3.step hx hk⟩
theorem aNV {p:Prog}(hs:aJ p=true) :Pure PP 141 [Prog.av p] (.int .i64 (checkN (aP p))) :=by
 have h2:=aNR p hs;rw [aUa]at h2;exact h2
theorem nX {p:Prog}(hp:aJ p=true)(hf:aP p=true) :FineP p:=by
 have hs:=hp;simp only [aJ,and_eq_true,decide_eq_true_eq]at hs;obtain⟨⟨⟨⟨s1,s2⟩,s3⟩,_⟩,s5⟩ :=hs;simp only [aP,and_eq_true]at hf;obtain⟨_,hf⟩ :=hf;split at hf
 · rename_i u hu;unfold allT at hf;split at hf
   · rename_i v hv;refine⟨s1,s2,fun i x hx=>?_,fun f hf=>?_⟩
     · have:=pK hv i x hx;have h10:=List.all_eq_true.1 s5 x (mem_of_getElem? hx);simp only [aW,and_eq_true,decide_eq_true_eq]at h10;exact⟨rN this.1,h10.1.1,fun k hk=>by have:=this.2 k hk;omega⟩
     ·have:=qO hu f hf;omega
   ·cases hf
 ·cases hf
theorem aW4 {n:Nat}{i:Int}(h0:0≤i)(h1:i<n) : (numsL 0 n)[i.toNat]?=some i:=by
 rw [aIO 0 (by omega)];congr 1;omega
def aGH (n:Nat)(m:List (Int×Int))(l:List Int) :Prop:=∀i:Int,0≤i→i<n→l[i.toNat]?=some (iL m i)
theorem aK6 (n:Nat) :aGH n (sM n) (numsL 0 n) :=fun i h0 h1=>by rw [aW4 h0 h1,aIZ h0 h1]
mutual
theorem bFy (cons:List Con){mc:List (Int×Int)}{C:List Int}(hC:aGH cons.length mc C) :∀ (q:Pat),cM cons q=true→aGu C q=some (qS mc q)
 | .mk f n s ps,h=>by
  rw [cM,and_eq_true]at h;have hps:=aK7 cons hC ps h.2;have hN:aGt C f n=some (if f=6 then iL mc n else n) :=by
   unfold aGt;by_cases hf:f=6
   · subst hf;have hh:=h.1;simp only [cX]at hh;simp [dG]at hh;obtain⟨⟨⟨h0,h1⟩,_⟩,_⟩ :=hh;rw [if_pos rfl,if_pos rfl,if_pos h0,hC n h0 (by omega)]
   ·rw [if_neg hf,if_neg hf]
  rw [aGu,hN];simp only;rw [hps,qS]
theorem aK7 (cons:List Con){mc:List (Int×Int)}{C:List Int}(hC:aGH cons.length mc C) :∀ (ps:List Pat),bX cons ps=true→mC C ps=some (eJ mc ps)
 | [],_=>rfl
 | q::ps,h=>by
  rw [bX,and_eq_true]at h;rw [mC,bFy cons hC q h.1];simp only;rw [aK7 cons hC ps h.2,eJ]
end
theorem kW {cons:List Con}:∀ {ps:List Pat},(∀q∈ps,cM cons q=true) →bX cons ps=true
 | [],_=>rfl
 | q::ps,h=>by
  rw [bX,h q (mem_cons_self ..),kW (fun x hx=>h x (mem_cons_of_mem _ hx))];rfl
theorem aAn {c:Nat}:∀ {ps:List Pat},(∀q∈ps,cU q≤c) →bH ps≤c*ps.length
 | [],_=>by simp [bH]
 | q::ps,h=>by
  have h1:=h q (mem_cons_self ..);have h2:=aAn (c:=c) (ps:=ps) (fun x hx=>h x (mem_cons_of_mem _ hx));simp only [bH,length_cons];rw [Nat.mul_add,Nat.mul_one];omega
theorem aGI {p:Prog}{mf mc:List (Int×Int)}{F C:List Int}(hF:aGH p.funs.length mf F)(hC:aGH p.cons.length mc C)(hB:∀i:Int,0≤i→i<p.funs.length→0≤iL mf i∧iL mf i≤1000000)(hs:p.funs.length≤320){x:Node}(h:bJ p x=true)(h10:x.pats.length≤10) :
  (bH x.pats<1000000∧mN F C x.op x.n=some (bN mf mc x.op x.n) ∧mC C x.pats=some (eJ mc x.pats)) ∧nOk mf x:=by
 simp only [bJ,and_eq_true,fJ]at h;obtain⟨⟨⟨h1,_⟩,h2⟩,_⟩ :=h
 have hq:∀q∈x.pats,cU q≤12∧cM p.cons q=true:=fun q hq=>by
  have:=List.all_eq_true.1 h2 q hq;simpa [iY]using this
 have hps:bH x.pats≤12*x.pats.length:=aAn (fun q h=> (hq q h).1)
 have hr4:x.op=4→ -(p.funs.length:Int) ≤x.n∧x.n≤29:=fun e=>by
  rw [e]at h1;simp [bP,dG]at h1;omega
 have hr14:x.op=14→0≤x.n∧x.n<p.cons.length:=fun e=>by
  rw [e]at h1;simp [bP,dG]at h1;omega
 refine⟨⟨by omega,?_,aK7 p.cons hC x.pats (kW fun q h=> (hq q h).2)⟩,by omega,fun e hn=>?_⟩
 · unfold mN bN;by_cases h4:x.op=4
   · have hr:=hr4 h4;by_cases hn:x.n<0
     · have hb:=hB (-1-x.n) (by omega) (by omega);rw [if_pos ⟨h4,hn⟩,if_pos h4,if_neg (by omega),hF _ (by omega) (by omega)];simp only;rw [if_pos (by omega)]
     ·rw [if_neg (fun h=>hn h.2),if_neg (show ¬x.op=14 by omega),if_pos h4,if_pos (show 0≤x.n by omega)]
   · rw [if_neg (fun h=>h4 h.1),if_neg h4];by_cases h14:x.op=14
     · have hr:=hr14 h14;rw [if_pos h14,if_pos h14,if_pos hr.1,hC _ hr.1 hr.2]
     ·rw [if_neg h14,if_neg h14]
 · have hr:=hr4 e;have hb:=hB (-1-x.n) (by omega) (by omega);omega
theorem aUc {p:Prog}(hF:p.funs.length≤320){x:Node}(h:bJ p x=true)(h10:x.pats.length≤10) :
  (bH x.pats<1000000∧mN (numsL 0 p.funs.length) (numsL 0 p.cons.length) x.op x.n=some (bN (sM p.funs.length) (sM p.cons.length) x.op x.n) ∧mC (numsL 0 p.cons.length) x.pats=some (eJ (sM p.cons.length) x.pats)) ∧nOk (sM p.funs.length) x:=
 aGI (aK6 _) (aK6 _) (fun i h0 h1=>by rw [aIZ h0 h1];omega) hF h h10
def cT (p:Prog)(i:Int) :List Int:=match p.nodes[i.toNat]? with
 |some x=>x.kids
 |none=>[]
section
variable {p :Prog}
theorem vO {q:Int→List Int}(m:Int) :∀ (ks:List Int),(∀k∈ks,(q k).count m= [k].count m+ (((q k).map (cT p)).flatten).count m) →
  ((ks.map q).flatten).count m=ks.count m+ ((((ks.map q).flatten).map (cT p)).flatten).count m
 | [],_=>rfl
 | k::ks,h=>by
  have h1:=h k (mem_cons_self ..);have h2:=vO m ks (fun x hx=>h x (mem_cons_of_mem _ hx));rw [map_cons,flatten_cons,count_append,List.map_append,List.flatten_append,count_append,h1,h2,show k::ks= [k] ++ks from rfl,count_append];omega
theorem aDz (hp:FineP p)(m:Int) :∀ (f:Nat) (a:Int),0≤a→a<p.nodes.length→p.nodes.length-a.toNat≤f→ (pre p f a).count m= [a].count m+ (((pre p f a).map (cT p)).flatten).count m
 |0,a,ha,hn,hf=>by omega
 | f+1,a,ha,hn,hf=>by
  obtain⟨x,hx⟩ :∃x,p.nodes[a.toNat]?=some x:= ⟨_,getElem?_eq_getElem (by omega)⟩;obtain⟨_,_,hks⟩ :=hp.node _ _ hx;have e:pre p (f+1) a=a:: (x.kids.map (pre p f)).flatten:=by rw [pre,hx]
  have ek:cT p a=x.kids:=by unfold cT;rw [hx]
  have h2:=vO (p:=p) m x.kids (fun k hk=>by
   have:=hks k hk;exact aDz hp m f k (by omega) (by omega) (by omega))
  rw [e,map_cons,flatten_cons,count_append,ek,show a:: (x.kids.map (pre p f)).flatten= [a] ++ (x.kids.map (pre p f)).flatten from rfl,count_append,h2]
theorem aQE (hp:FineP p) :∀ (f:Nat) (a:Int),0≤a→a<p.nodes.length→∀y∈pre p f a,0≤y∧y<p.nodes.length
 |0,a,_,_,y,hy=>by cases hy
 | f +1,a,ha,hn,y,hy=>by
  obtain⟨x,hx⟩ :∃x,p.nodes[a.toNat]?=some x:= ⟨_,getElem?_eq_getElem (by omega)⟩;obtain⟨_,_,hks⟩ :=hp.node _ _ hx;have e:pre p (f+1) a=a:: (x.kids.map (pre p f)).flatten:=by rw [pre,hx]
  rw [e]at hy;rcases List.mem_cons.1 hy with rfl|hy
  ·exact⟨ha,hn⟩
  · obtain⟨l,hl,hy⟩ :=List.mem_flatten.1 hy;obtain⟨k,hk,rfl⟩ :=List.mem_map.1 hl;have:=hks k hk;exact aQE hp f k (by omega) (by omega) y hy
def lN (u:List Bool)(m:Int) :Nat:=if u[m.toNat]?=some true then 1 else 0
theorem jW {lo n:Int}(hlo:0≤lo){m:Int}(hm:0≤m) :∀ {ks:List Int} {u v:List Bool},marks lo n ks u=some v→ks.count m+lN u m=lN v m
 | [],u,v,h=>by cases h;simp
 | k ::ks,u,v,h=>by
  have hk:=qO h k (mem_cons_self ..);obtain⟨h1,h2⟩ :=eX h;have h3:=jW hlo hm h2;rw [←h3,show k::ks= [k] ++ks from rfl,count_append];have hlt:= (List.getElem?_eq_some_iff.1 h1).1;by_cases e:k=m
  · subst e;have a1:lN u k=0:=by unfold lN;rw [h1];rfl
    have a2:lN (u.set k.toNat true) k=1:=by unfold lN;rw [getElem?_set_self hlt];rfl
    rw [a1,a2];simp;omega
  · have a1:lN (u.set k.toNat true) m=lN u m:=by unfold lN;rw [getElem?_set_ne (by omega)]
    rw [a1,List.count_singleton,if_neg (by simpa using e)];omega
theorem mD {m:Int}(hm:0≤m) :∀ {t:List Node} {i:Nat} {u v:List Bool},bW p i t u=some v→ ((t.map Node.kids).flatten).count m+lN u m=lN v m
 | [],i,u,v,h=>by simp only [bW,Option.some.injEq]at h;subst h;simp
 | x::t,i,u,v,h=>by
  obtain⟨_,w,h1,h2⟩ :=eM h;have h3:=jW (by omega) hm h1;have h4:=mD hm h2;rw [map_cons,flatten_cons,count_append];omega
theorem aI0 {m:Int}:∀ {t:List Node},((t.map Node.kids).flatten).count m≤1→∀ (i j:Nat) (x y:Node),t[i]?=some x→t[j]?=some y→m∈x.kids→m∈y.kids→i=j
 | [],_,i,j,x,y,hx,_,_,_=>by simp at hx
 | z ::t,h,i,j,x,y,hx,hy,mx,my=>by
  rw [map_cons,flatten_cons,count_append]at h;have inT:∀ {i:Nat} {x:Node},t[i]?=some x→m∈x.kids→0< ((t.map Node.kids).flatten).count m:=fun {i x} hx mx=>
   List.count_pos_iff.2 (List.mem_flatten.2 ⟨x.kids,List.mem_map.2 ⟨x,mem_of_getElem? hx,rfl⟩,mx⟩)
  cases i with
  | zero=>
   simp only [getElem?_cons_zero,Option.some.injEq]at hx;subst hx;cases j with
   |zero=>rfl
   | succ j=>
    simp only [getElem?_cons_succ]at hy;have:=inT hy my;have:=List.count_pos_iff.2 mx;omega
  | succ i=>
   simp only [getElem?_cons_succ]at hx;cases j with
   | zero=>
    simp only [getElem?_cons_zero,Option.some.injEq]at hy;subst hy;have:=inT hx mx;have:=List.count_pos_iff.2 my;omega
   | succ j=>
    simp only [getElem?_cons_succ]at hy;rw [aI0 (by omega) i j x y hx hy mx my]
theorem aRZ {m:Int}:∀ {t:List Node} {i:Nat} {x:Node},t[i]?=some x→x.kids.count m≤ ((t.map Node.kids).flatten).count m
 | [],i,x,hx=>by simp at hx
 | z::t,0,x,hx=>by
  simp only [getElem?_cons_zero,Option.some.injEq]at hx;subst hx;rw [map_cons,flatten_cons,count_append];omega
 | z::t,i+1,x,hx=>by
  simp only [getElem?_cons_succ]at hx;have:=aRZ (m:=m) hx;rw [map_cons,flatten_cons,count_append];omega
theorem aR0 {m i:Int}:∀ (L:List Int),(∀j∈L,m∈cT p j→j=i) → ((L.map (cT p)).flatten).count m≤L.count i* (cT p i).count m
 | [],_=>by simp
 | j ::L,h=>by
  have h1:=aR0 L (fun x hx=>h x (mem_cons_of_mem _ hx));rw [map_cons,flatten_cons,count_append,show j::L= [j] ++L from rfl,count_append,Nat.add_mul];by_cases hm:m∈cT p j
  · have:=h j (mem_cons_self ..) hm;subst this;simp;exact h1
  · rw [List.count_eq_zero.2 hm];exact Nat.le_trans (by simpa using h1) (Nat.le_add_left ..)
theorem bH6 (hp:FineP p)(hK:∀m:Int,0≤m→p.funs.count m+ ((p.nodes.map Node.kids).flatten).count m≤1){L:List Int}(hin:∀x∈L,0≤x∧x<p.nodes.length)(hL:∀m:Int,L.count m=p.funs.count m+ ((L.map (cT p)).flatten).count m) :∀ (b m:Nat),m≤b→L.count (m:Int) ≤1:=by
 intro b
 induction b with
 | zero=>
  intro m hmb;have hm:m=0:=by omega
  subst hm;have e:=hL ((0:Nat) :Int);have z: ((L.map (cT p)).flatten).count ((0:Nat) :Int) =0:=by
   refine List.count_eq_zero.2 (fun h=>?_);obtain⟨l,hl,hy⟩ :=List.mem_flatten.1 h;obtain⟨j,hj,rfl⟩ :=List.mem_map.1 hl;unfold cT at hy;split at hy
   · rename_i x hx;have:= (hp.node _ _ hx).2.2 _ hy;omega
   ·cases hy
  have:=hK ((0:Nat) :Int) (by omega);omega
 | succ b ih=>
  intro m hmb;have e:=hL (m:Int);have hk:=hK (m:Int) (by omega);by_cases hz: ((L.map (cT p)).flatten).count (m:Int) =0
  ·omega
  · have hpos:=List.count_pos_iff.1 (Nat.pos_of_ne_zero hz);obtain⟨l,hl,hy⟩ :=List.mem_flatten.1 hpos;obtain⟨i,hi,rfl⟩ :=List.mem_map.1 hl;have hir:=hin i hi;obtain⟨x,hx⟩ :∃x,p.nodes[i.toNat]?=some x:= ⟨_,getElem?_eq_getElem (by omega)⟩;have ei:cT p i=x.kids:=by unfold cT;rw [hx]
    rw [ei]at hy;have him:= (hp.node _ _ hx).2.2 _ hy;have hci:L.count i≤1:=by
     have:=ih i.toNat (by omega);rwa [show((i.toNat:Nat) :Int) =i by omega]at this
    have hle:=aR0 (p:=p) (m:= (m:Int)) (i:=i) L (fun j hj hmj=>by
     have hjr:=hin j hj;obtain⟨y,hy'⟩ :∃y,p.nodes[j.toNat]?=some y:= ⟨_,getElem?_eq_getElem (by omega)⟩;have ej:cT p j=y.kids:=by unfold cT;rw [hy']
     rw [ej]at hmj;have:=aI0 (by omega) _ _ y x hy' hx hmj hy;omega)
    rw [ei]at hle;have hkl:=aRZ (m:= (m:Int)) hx;have:L.count i*x.kids.count (m:Int) ≤1*x.kids.count (m:Int) :=Nat.mul_le_mul_right _ hci;omega
theorem mX :∀ (n:Nat) (l:List Nat),l.Nodup→ (∀x∈l,x<n) →l.length≤n
 |0,[],_,_=>by simp
 |0,x::l,_,h=>by have:=h x (mem_cons_self ..);omega
 | n+1,l,hd,h=>by
  by_cases hm:n∈l
  · have h1:=mX n (l.erase n) (hd.erase n) (fun x hx=>by
     have:=h x (List.mem_of_mem_erase hx)
     have hne:x≠n:=fun e=>by
      subst e;exact hd.not_mem_erase hx
     omega)
    rw [List.length_erase_of_mem hm]at h1;omega
  · have:=mX n l hd (fun x hx=>by
     have:=h x hx;have hne:x≠n:=fun e=>hm (e ▸ hx);omega)
    omega
end
theorem aGJ {L:List Int}(h:∀a,L.count a≤1) :L.Nodup:=List.nodup_iff_count.2 h
theorem aR1 :∀ (n:Nat) (l:List Int),(∀i:Nat,i<n→ (i:Int) ∈l) →n≤l.length
 |0,l,_=>Nat.zero_le _
 | n+1,l,h=>by
  have h0:=h n (Nat.lt_succ_self n);have h1:=aR1 n (l.erase (n:Int)) (fun i hi=> (List.mem_erase_of_ne (by omega)).2 (h i (by omega)));rw [List.length_erase_of_mem h0]at h1;have:=List.length_pos_of_mem h0;omega
theorem all_in {p:Prog}(hp:FineP p)(hK:∀m:Nat,m<p.nodes.length→p.funs.count (m:Int) + ((p.nodes.map Node.kids).flatten).count (m:Int) =1){L:List Int}(hL:∀m:Int,L.count m=p.funs.count m+ ((L.map (cT p)).flatten).count m) :∀ (b m:Nat),m≤b→m<p.nodes.length→ (m:Int) ∈L:=by
 intro b
 induction b with
 | zero=>
  intro m hmb hm;have e:=hL (m:Int);have hk:=hK m hm;by_cases hz: ((p.nodes.map Node.kids).flatten).count (m:Int) =0
  ·exact List.count_pos_iff.1 (by omega)
  · obtain⟨l,hl,hy⟩ :=List.mem_flatten.1 (List.count_pos_iff.1 (Nat.pos_of_ne_zero hz));obtain⟨x,hx,rfl⟩ :=List.mem_map.1 hl;obtain⟨i,hi⟩ :=List.mem_iff_getElem?.1 hx;have:= (hp.node _ _ hi).2.2 _ hy;omega
 | succ b ih=>
  intro m hmb hm;have e:=hL (m:Int);have hk:=hK m hm;by_cases hz: ((p.nodes.map Node.kids).flatten).count (m:Int) =0
  ·exact List.count_pos_iff.1 (by omega)
  · obtain⟨l,hl,hy⟩ :=List.mem_flatten.1 (List.count_pos_iff.1 (Nat.pos_of_ne_zero hz));obtain⟨x,hx,rfl⟩ :=List.mem_map.1 hl;obtain⟨i,hi⟩ :=List.mem_iff_getElem?.1 hx;have him:= (hp.node _ _ hi).2.2 _ hy;have hiL:=ih i (by omega) (by omega);have: (m:Int) ∈ (L.map (cT p)).flatten:=List.mem_flatten.2 ⟨x.kids,List.mem_map.2 ⟨(i:Int),hiL,by unfold cT;rw [Int.toNat_natCast,hi]⟩,hy⟩;have:=List.count_pos_iff.2 this;exact List.count_pos_iff.1 (by omega)
theorem mY {p:Prog}(hs:aJ p=true)(hf:aP p=true) : ((p.funs.map (pre p p.nodes.length)).flatten).Nodup∧ ((p.funs.map (pre p p.nodes.length)).flatten).length=p.nodes.length∧ (∀x∈ (p.funs.map (pre p p.nodes.length)).flatten,0≤x∧x<p.nodes.length) ∧
  (∀ (i:Nat) (x:Node),p.nodes[i]?=some x→bJ p x=true) :=by
 have hp:=nX hs hf;simp only [aP,and_eq_true]at hf;obtain⟨_,hf⟩ :=hf;split at hf
 · rename_i u hu;unfold allT at hf;split at hf
   · rename_i v hv
     have hK:∀m:Int,0≤m→p.funs.count m+ ((p.nodes.map Node.kids).flatten).count m≤1:=fun m hm=>by
      have h1:=jW (by omega) hm hu;have h2:=mD hm hv;have h3:lN v m≤1:=by unfold lN;split<;>omega
      omega
     have hin:∀x∈ (p.funs.map (pre p p.nodes.length)).flatten,0≤x∧x<p.nodes.length:=fun x hx=>by
      obtain⟨l,hl,hy⟩ :=List.mem_flatten.1 hx;obtain⟨k,hk,rfl⟩ :=List.mem_map.1 hl;have:=hp.funs k hk;exact aQE hp _ k this.1 this.2 x hy
     have hL:∀m:Int,((p.funs.map (pre p p.nodes.length)).flatten).count m=p.funs.count m+ ((((p.funs.map (pre p p.nodes.length)).flatten).map (cT p)).flatten).count m:=fun m=>vO m p.funs (fun k hk=>by
      have:=hp.funs k hk;exact aDz hp m _ k this.1 this.2 (by omega))
     have hd: ((p.funs.map (pre p p.nodes.length)).flatten).Nodup:=aGJ (fun a=>by
      by_cases ha:a∈ (p.funs.map (pre p p.nodes.length)).flatten
      · have hr:=hin a ha;have:=bH6 hp hK hin hL a.toNat a.toNat (Nat.le_refl _);rwa [show((a.toNat:Nat) :Int) =a by omega]at this
      ·rw [List.count_eq_zero.2 ha];omega)
     refine⟨hd,?_,hin,fun i x hx=> (pK hv i x hx).1⟩;have hd2: (((p.funs.map (pre p p.nodes.length)).flatten).map Int.toNat).Nodup:=by
      rw [List.nodup_iff_pairwise_ne]at hd ⊢;refine List.pairwise_map.2 (hd.imp_of_mem (fun {a b} ha hb hne e=>?_));have:=hin a ha;have:=hin b hb;exact hne (by omega)
     have:=mX p.nodes.length _ hd2 (fun x hx=>by
      obtain⟨y,hy,rfl⟩ :=List.mem_map.1 hx;have:=hin y hy;omega)
     rw [List.length_map]at this;refine Nat.le_antisymm this (aR1 _ _ (fun i hi=>all_in hp (fun m hm=>?_) hL i i (Nat.le_refl _) hi));have h1:=jW (m:= (m:Int)) (by omega) (by omega) hu;have h2:=mD (m:= (m:Int)) (by omega) hv;have hl1:=iG hu;have hl2:=iZ hv;rw [List.length_replicate]at hl1;have h3:lN (replicate p.nodes.length false) (m:Int) =0:=by
      unfold lN;rw [Int.toNat_natCast,List.getElem?_replicate,if_pos hm];rfl
     have h4:lN v (m:Int) =1:=by
      unfold lN;have hlt:m<v.length:=by omega
      have:=List.all_eq_true.1 hf _ (List.getElem_mem hlt);rw [Int.toNat_natCast,getElem?_eq_getElem hlt,this];rfl
     omega
   ·cases hf
 ·cases hf
abbrev aK8 :AV:=.agg [.ilst 4 (map Node.av ([] :List Node)) true,.ilst 1 (map aY ([] :List Int)) true,.int .i64 0,.ilst 2 (map Con.av ([] :List Con)) true]
abbrev LN (l:List Node) :AObj:=.lst 4 (map Node.av l)
abbrev LI (l:List Int) :AObj:=.lst 1 (map aY l)
abbrev gN (b:Nat)(l:List Node) :AV:=.gl b 4 0 (List.length l) false
theorem bEk (l:List Node) : (LN l).kl:=aG _ (fun _=>rfl) _
def gI (s:aB) :List Con→Int→Int
 | [],_=> -1
 |c::t,i=>if c.name=s then i else gI s t (i+1)
theorem rP (s:aB) :∀ (l:List Con) (i:Int),0≤i→gI s l i= -1∨ (i≤gI s l i∧gI s l i<i+l.length∧∃d,l[(gI s l i-i).toNat]?=some d∧d.name=s)
 | [],i,h=>.inl rfl
 | c ::t,i,h=>by
  simp only [gI];split
  · rename_i e;exact .inr ⟨by omega,by simp;omega,c,by simp,e⟩
  · rcases rP s t (i+1) (by omega)with g| ⟨g1,g2,d,g3,g4⟩
    ·exact .inl g
    · refine .inr ⟨by omega,by rw [length_cons];omega,d,?_,g4⟩;rw [show(gI s t (i+1) -i).toNat= (gI s t (i+1) - (i+1)).toNat+1 by omega,getElem?_cons_succ];exact g3
def bGw (x:Node) :Prop:=x.kids.length<1000000∧bH x.pats<1000000
structure FitP (q:Prog) :Prop where
 nodes:q.nodes.length≤1000000
 funs:q.funs.length<1000000
 cons:q.cons.length<1000000
 node:∀x∈q.nodes,bGw x
theorem aDA {f:Nat}{args:List AV}{v v':AV}(h:Pure PP f args v)(hv:∀ (E:Emb) (cv:Value),VR E v cv→VR E v' cv) :Pure PP f args v':=fun hh=>by
 obtain⟨g,hg,he⟩ :=h hh;exact⟨g,hg,aUb he hv⟩
theorem bAf {E:Emb}{e:Int}{cv:Value}(h:VR E (.tup [aK8,.int .i64 e]) cv) :VR E (.tup [Prog.av ⟨[],[],0,[]⟩,.int .i64 e]) cv:=by
 simp only [VR]at h ⊢;obtain⟨us,h1,h2⟩ :=h;obtain⟨u,us',rfl,h3,h4⟩ :=h2.cons_inv;simp only [aK8,VR]at h3;obtain⟨ws,rfl,h5⟩ :=h3;obtain⟨a1,w1,rfl,c1,h5⟩ :=h5.cons_inv;obtain⟨a2,w2,rfl,c2,h5⟩ :=h5.cons_inv;obtain⟨a3,w3,rfl,c3,h5⟩ :=h5.cons_inv;obtain⟨a4,w4,rfl,c4,h5⟩ :=h5.cons_inv;refine⟨_,h1,VRs.cons ?_ h4⟩;simp only [Prog.av,VR];exact⟨_,rfl,VRs.cons (pJ c1) (VRs.cons (pJ c2) (VRs.cons c3 (VRs.cons (pJ c4) h5)))⟩
mutual
theorem aDB (mc:List (Int×Int)) :∀q:Pat,cU (qS mc q) =cU q
 | .mk f n t ps=>by rw [qS,cU,cU,aGK mc ps]
theorem aGK (mc:List (Int×Int)) :∀ps:List Pat,bH (eJ mc ps) =bH ps
 | [] =>rfl
 |q::ps=>by rw [eJ,bH,bH,aDB mc q,aGK mc ps]
end
end
end Go.Hb
