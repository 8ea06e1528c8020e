/-
  OWN WORK (V31, V32, V33, H10, V34, V102, H31, V8b, H33, V14, V103, H32): a machine on abstract values, its soundness, ways through the text (the ways WRITTEN BY A PROGRAM), plain laws.
-/
import Derived.Test.YtabmpnmmkeieiaaGreatHF
import Derived.Test.YtabmpnmmkeieiaaGreatHG
set_option linter.defProp false
set_option linter.unusedVariables false
set_option linter.unusedSimpArgs false
set_option linter.unusedSectionVars false
set_option maxRecDepth 100000
namespace Go.Hb
open Go.Proofs
def aKK (cons:List Int)(f n:Int) :Option Int:=if f=6 then(if 0≤n then cons[n.toNat]? else none)else some n
mutual
def aJJ (cons:List Int) :Pat→Option Pat
 | .mk f n t ps=>match aKK cons f n with
  | some n'=>match aCX cons ps with
   |some ps'=>some (.mk f n' t ps')
   |none=>none
  |none=>none
def aCX (cons:List Int) :List Pat→Option (List Pat)
 | [] =>some []
 | p::ps=>match aJJ cons p with
  | some p'=>match aCX cons ps with
   |some ps'=>some (p'::ps')
   |none=>none
  |none=>none
end
theorem aEB (f n:Int)(s:aC)(ps:List Pat)(cons:List Int)(n':Int)(hl:ps.length<1000000)(ih:∀p∈ps,∀p',aJJ cons p=some p'→Pure PP 194 [Pat.av p,.ilst 1 (List.map aO cons) false] (Pat.av p')) :
  ∀ (t:List Pat) (i:Nat) (acc t':List Pat),ps.drop i=t→acc.length=i→aCX cons t=some t'→Ends PP 0 (aAc f n s ps cons n' (i:Int) acc).as (.ret (Pat.av (.mk f n' s (acc++t')))) (aG [] 0)
 | [],i,acc,t',h,ha,ht=>by
  have:=bA h;cases ht;rw [List.append_nil];exact aOM f n s ps cons n' i acc sd
 | .mk f1 n1 s1 ps1::t,i,acc,t',h,ha,ht=>by
  obtain⟨g1,g2,g3⟩ :=aZ h;simp only [aCX]at ht;split at ht
  · rename_i p' hp';split at ht
    · rename_i t1 ht1;cases ht;obtain⟨f2,n2,s2,ps2⟩ :=p';refine(aOL f n s ps cons n' i acc f1 n1 s1 ps1 f2 n2 s2 ps2 sd sd sd (ih (.mk f1 n1 s1 ps1) (List.mem_of_getElem? g1) _ hp') (by simp;omega) sd).ends ?_;have:=aEB f n s ps cons n' hl ih t (i+1) (acc++ [.mk f2 n2 s2 ps2]) t1 g2 (by simp [ha]) ht1;rw [List.append_assoc]at this;exact this
    ·cases ht
  ·cases ht
mutual
theorem aME (cons:List Int) :∀ (p:Pat),aQ p<1000000→∀p',aJJ cons p=some p'→Pure PP 194 [Pat.av p,.ilst 1 (List.map aO cons) false] (Pat.av p')
 | .mk f n s ps,h,p',hp'=>by
  refine aV (by kernel_rfl) (by simp [AV.keylessL,eE,AV.keyless]) (eE _) ?_;simp only [aQ]at h;have:=bK ps;simp only [aJJ]at hp';split at hp'
  · rename_i n' hn';split at hp'
    · rename_i ps' hps';cases hp';have hloop:=aEB f n s ps cons n' (by omega) (aHy cons ps (by omega)) ps 0 [] ps' rfl rfl hps';unfold aKK at hn';split at hn'
      · rename_i hf;split at hn'
        · rename_i h0;exact(aOJ f n s ps cons n' (by simp [hf]) h0 hn').ends hloop
        ·cases hn'
      · rename_i hf;cases hn';exact(aOK f n s ps cons (by simp [hf])).ends hloop
    ·cases hp'
  ·cases hp'
theorem aHy (cons:List Int) :∀ (ps:List Pat),aM ps<1000000→∀p∈ps,∀p',aJJ cons p=some p'→Pure PP 194 [Pat.av p,.ilst 1 (List.map aO cons) false] (Pat.av p')
 | [],_,p,hp=>by cases hp
 | q::ps,h,p,hp=>by
  simp only [aM]at h;rcases List.mem_cons.1 hp with e|hp
  ·rw [e];exact aME cons q (by omega)
  ·exact aHy cons ps (by omega) p hp
end
end Go.Hb
namespace Go.Hb
open Go.Proofs
noncomputable section
def mN (funs cons:List Int)(op n:Int) :Option Int:=
 if op=4∧n<0 then
  match funs[(-1-n).toNat]? with
  |some g=>if -1000000000≤n∧ -1000000000≤g∧g≤1000000000 then some (-1-g)else none
  |none=>none
 else if op=14 then(if 0≤n then cons[n.toNat]? else none)else some n
def bB2 (f:Nat→Int→Option (List Node)) :Nat→List Int→Option (List Int×List Node)
 |_,[] =>some ([],[])
 | len,c::cs=>match f len c with
  | some ns=>match bB2 f (len+ns.length) cs with
   |some (ks,r) =>some ((len:Int) ::ks,ns++r)
   |none=>none
  |none=>none
def aON (p:Prog)(funs cons:List Int) :Nat→Nat→Int→Option (List Node)
 |0,_,_=>none
 | k+1, len,at0=>if 0≤at0∧len<1000000 then
   match p.nodes[at0.toNat]? with
   | some y=>if y.kids.length<1000000∧aM y.pats<1000000 then
     match mN funs cons y.op y.n with
     | some n'=>match aCX cons y.pats with
      | some ps'=>match bB2 (aON p funs cons k) (len+1) y.kids with
       |some (ks,r) =>some (⟨y.op,n',ks,ps'⟩ ::r)
       |none=>none
      |none=>none
     |none=>none
    else none
   |none=>none
  else none
abbrev PA (p:Prog) :AV:=.agg [(.ilst 4 (List.map Node.av p.nodes) false),(.ilst 1 (List.map aO p.funs) false),(.int .i64 p.main),(.ilst 2 (List.map Con.av p.cons) false)]
abbrev OL (L:List ONode) :AObj:=.lst 4 (List.map ONode.av L)
abbrev EndsL (s:TS)(L:List ONode) :Prop:=Ends PP 0 s.as (.ret (.gl 0 4 0 (List.length L) false)) (aG [(0,OL L,true)] 1)
def aUk (p:Prog)(funs cons:List Int)(c:Int)(L:List ONode)(ns:List Node) :Prop:=
 bE0 PP (.enter 139 [.gl 0 4 0 (List.length L) false,PA p,.int .i64 c,.ilst 1 (List.map aO funs) false,.ilst 1 (List.map aO cons) false]) (aG [(0,OL L,true)] 1)
  (.ret (.gl 0 4 0 (List.length (L++List.map Node.o ns)) false)) (aG [(0,OL (L++List.map Node.o ns),true)] 1)
theorem oJ (L:List ONode) : (OL L).kl:=aL _ (fun _=>bH _) _
end
end Go.Hb
namespace Go.Hb
open Go.Proofs
noncomputable section
theorem mE (l:List ONode)(y:ONode)(r:List ONode) : (l++y::r)[List.length l]?=some y:=by simp
theorem mF (l:List ONode)(y z:ONode)(r:List ONode) :List.set (l++y::r) (List.length l) z=l++z::r:=by simp
theorem EndsL.of {s:TS}{L L':List ONode}(h:EndsL s L)(e:L=L') :EndsL s L':=e ▸ h
section
variable (p :Prog) (funs cons:List Int) (k:Nat) (ih:∀ (L:List ONode) (c:Int) (ns:List Node),aON p funs cons k L.length c=some ns→aUk p funs cons c L ns)
 (l:List ONode) (at0 op n':Int) (ps':List Pat) (kids:List Int) (hkids:kids.length<1000000)
include ih hkids
end
end
end Go.Hb
namespace Go.Hb
open Go.Proofs
noncomputable section
open Go.Proofs Tryz
end
end Go.Hb
namespace Go.Hb
open Go.Proofs
noncomputable section
theorem cB {f:Nat}{args:List AV}{v:AV}{s:TS}(e: (start PP f args).as=s.as)(hb:lV PP f=true)(hk:AV.keylessL args=true)(hv:AV.keyless v=true)(he:Ends PP 0 s.as (.ret v) (aG [] 0)) :Pure PP f args v:=
 aV hb hk hv (by rw [e];exact he)
end
end Go.Hb
namespace Go.Hb
open Go.Proofs
set_option maxHeartbeats 2000000
theorem aOO :Pure PP 187 [] (.ilst 1 (List.map aA kwL) false) :=
 cB (s:=bBZ) (by kernel_rfl) (by kernel_rfl) rfl (by simp [AV.keyless]) aTX
theorem aMF (s:aC) :Pure PP 119 [aA s] (.bool (eZ kwL s)) :=
 aV (by kernel_rfl) rfl rfl (aNR s kwL _ aOO (qT kwL s (by unfold kwL;simp)))
theorem aOP (s:aC)(l:List Nat){k n:Nat}(hk: (strOf l).length=k)(hn:aE (strOf l) =n) :aU (List.length s) (aE s) k n=decide (s=strOf l) :=by
 rw [←hk,←hn];exact hQ s (strOf l)
theorem cK {s:aC}(l:List Nat){k n:Nat}(e:s=strOf l)(hk: (strOf l).length=k)(hn:aE (strOf l) =n) :aU (List.length s) (aE s) k n=true:=by rw [aOP s l hk hn];simp [e]
theorem dJ {s:aC}(l:List Nat){k n:Nat}(e:¬s=strOf l)(hk: (strOf l).length=k)(hn:aE (strOf l) =n) :aU (List.length s) (aE s) k n=false:=by rw [aOP s l hk hn];simp [e]
theorem dL {l:List aC}{s:aC}(i:Nat){w:aC}(hi:l[i]?=some w)(e:s=w) :eZ l s=true:=by
 unfold eZ;exact List.any_eq_true.2 ⟨w,List.mem_of_getElem? hi,by simp [e]⟩
theorem aOQ (s:aC) :Pure PP 176 [aA s] (.bool (eZ kwL s)) :=by
 refine aV (by kernel_rfl) rfl rfl ?_;by_cases e0:s=strOf [98,111,111,108]
 ·rw [dL 0 (by kernel_rfl) e0];exact aT2 s (cK _ e0 (by kernel_rfl) (by kernel_rfl))
 have n0:=dJ (k:=4) (n:=1819242338) _ e0 (by kernel_rfl) (by kernel_rfl);by_cases e1:s=strOf [99,101,108,108]
 ·rw [dL 1 (by kernel_rfl) e1];exact aT3 s n0 (cK _ e1 (by kernel_rfl) (by kernel_rfl))
 have n1:=dJ (k:=4) (n:=1819043171) _ e1 (by kernel_rfl) (by kernel_rfl);by_cases e2:s=strOf [99,104,97,110]
 ·rw [dL 2 (by kernel_rfl) e2];exact aT4 s n0 n1 (cK _ e2 (by kernel_rfl) (by kernel_rfl))
 have n2:=dJ (k:=4) (n:=1851877475) _ e2 (by kernel_rfl) (by kernel_rfl);by_cases e3:s=strOf [101,108,115,101]
 ·rw [dL 3 (by kernel_rfl) e3];exact aT5 s n0 n1 n2 (cK _ e3 (by kernel_rfl) (by kernel_rfl))
 have n3:=dJ (k:=4) (n:=1702063205) _ e3 (by kernel_rfl) (by kernel_rfl);by_cases e4:s=strOf [102,97,108,115,101]
 ·rw [dL 4 (by kernel_rfl) e4];exact aT6 s n0 n1 n2 n3 (cK _ e4 (by kernel_rfl) (by kernel_rfl))
 have n4:=dJ (k:=5) (n:=435728179558) _ e4 (by kernel_rfl) (by kernel_rfl);by_cases e5:s=strOf [102,117,110]
 ·rw [dL 5 (by kernel_rfl) e5];exact aT7 s n0 n1 n2 n3 n4 (cK _ e5 (by kernel_rfl) (by kernel_rfl))
 have n5:=dJ (k:=3) (n:=7239014) _ e5 (by kernel_rfl) (by kernel_rfl);by_cases e6:s=strOf [103,101,116]
 ·rw [dL 6 (by kernel_rfl) e6];exact aT8 s n0 n1 n2 n3 n4 n5 (cK _ e6 (by kernel_rfl) (by kernel_rfl))
 have n6:=dJ (k:=3) (n:=7628135) _ e6 (by kernel_rfl) (by kernel_rfl);by_cases e7:s=strOf [105,102]
 ·rw [dL 7 (by kernel_rfl) e7];exact aT9 s n0 n1 n2 n3 n4 n5 n6 (cK _ e7 (by kernel_rfl) (by kernel_rfl))
 have n7:=dJ (k:=2) (n:=26217) _ e7 (by kernel_rfl) (by kernel_rfl);by_cases e8:s=strOf [105,110]
 ·rw [dL 8 (by kernel_rfl) e8];exact aUa s n0 n1 n2 n3 n4 n5 n6 n7 (cK _ e8 (by kernel_rfl) (by kernel_rfl))
 have n8:=dJ (k:=2) (n:=28265) _ e8 (by kernel_rfl) (by kernel_rfl);by_cases e9:s=strOf [105,110,112,117,116]
 ·rw [dL 9 (by kernel_rfl) e9];exact aUb s n0 n1 n2 n3 n4 n5 n6 n7 n8 (cK _ e9 (by kernel_rfl) (by kernel_rfl))
 have n9:=dJ (k:=5) (n:=500186508905) _ e9 (by kernel_rfl) (by kernel_rfl);by_cases e10:s=strOf [105,110,116]
 ·rw [dL 10 (by kernel_rfl) e10];exact aNU s n0 n1 n2 n3 n4 n5 n6 n7 n8 n9 (cK _ e10 (by kernel_rfl) (by kernel_rfl))
 have n10:=dJ (k:=3) (n:=7630441) _ e10 (by kernel_rfl) (by kernel_rfl);by_cases e11:s=strOf [106,111,105,110]
 ·rw [dL 11 (by kernel_rfl) e11];exact aNV s n0 n1 n2 n3 n4 n5 n6 n7 n8 n9 n10 (cK _ e11 (by kernel_rfl) (by kernel_rfl))
 have n11:=dJ (k:=4) (n:=1852403562) _ e11 (by kernel_rfl) (by kernel_rfl);by_cases e12:s=strOf [108,101,116]
 ·rw [dL 12 (by kernel_rfl) e12];exact aNW s n0 n1 n2 n3 n4 n5 n6 n7 n8 n9 n10 n11 (cK _ e12 (by kernel_rfl) (by kernel_rfl))
 have n12:=dJ (k:=3) (n:=7628140) _ e12 (by kernel_rfl) (by kernel_rfl);by_cases e13:s=strOf [109,97,116,99,104]
 ·rw [dL 13 (by kernel_rfl) e13];exact aNX s n0 n1 n2 n3 n4 n5 n6 n7 n8 n9 n10 n11 n12 (cK _ e13 (by kernel_rfl) (by kernel_rfl))
 have n13:=dJ (k:=5) (n:=448345170285) _ e13 (by kernel_rfl) (by kernel_rfl);by_cases e14:s=strOf [109,111,100,117,108,101]
 ·rw [dL 14 (by kernel_rfl) e14];exact aNY s n0 n1 n2 n3 n4 n5 n6 n7 n8 n9 n10 n11 n12 n13 (cK _ e14 (by kernel_rfl) (by kernel_rfl))
 have n14:=dJ (k:=6) (n:=111516500389741) _ e14 (by kernel_rfl) (by kernel_rfl);by_cases e15:s=strOf [111,117,116]
 ·rw [dL 15 (by kernel_rfl) e15];exact aNZ s n0 n1 n2 n3 n4 n5 n6 n7 n8 n9 n10 n11 n12 n13 n14 (cK _ e15 (by kernel_rfl) (by kernel_rfl))
 have n15:=dJ (k:=3) (n:=7632239) _ e15 (by kernel_rfl) (by kernel_rfl);by_cases e16:s=strOf [112,97,117,115,101]
 ·rw [dL 16 (by kernel_rfl) e16];exact aN0 s n0 n1 n2 n3 n4 n5 n6 n7 n8 n9 n10 n11 n12 n13 n14 n15 (cK _ e16 (by kernel_rfl) (by kernel_rfl))
 have n16:=dJ (k:=5) (n:=435728769392) _ e16 (by kernel_rfl) (by kernel_rfl);by_cases e17:s=strOf [112,117,116]
 ·rw [dL 17 (by kernel_rfl) e17];exact aN1 s n0 n1 n2 n3 n4 n5 n6 n7 n8 n9 n10 n11 n12 n13 n14 n15 n16 (cK _ e17 (by kernel_rfl) (by kernel_rfl))
 have n17:=dJ (k:=3) (n:=7632240) _ e17 (by kernel_rfl) (by kernel_rfl);by_cases e18:s=strOf [114,101,115,101,116]
 ·rw [dL 18 (by kernel_rfl) e18];exact aN2 s n0 n1 n2 n3 n4 n5 n6 n7 n8 n9 n10 n11 n12 n13 n14 n15 n16 n17 (cK _ e18 (by kernel_rfl) (by kernel_rfl))
 have n18:=dJ (k:=5) (n:=499918267762) _ e18 (by kernel_rfl) (by kernel_rfl);by_cases e19:s=strOf [115,101,110,100]
 ·rw [dL 19 (by kernel_rfl) e19];exact aN3 s n0 n1 n2 n3 n4 n5 n6 n7 n8 n9 n10 n11 n12 n13 n14 n15 n16 n17 n18 (cK _ e19 (by kernel_rfl) (by kernel_rfl))
 have n19:=dJ (k:=4) (n:=1684956531) _ e19 (by kernel_rfl) (by kernel_rfl);by_cases e20:s=strOf [115,104,105,102,116]
 ·rw [dL 20 (by kernel_rfl) e20];exact aN4 s n0 n1 n2 n3 n4 n5 n6 n7 n8 n9 n10 n11 n12 n13 n14 n15 n16 n17 n18 n19 (cK _ e20 (by kernel_rfl) (by kernel_rfl))
 have n20:=dJ (k:=5) (n:=499934390387) _ e20 (by kernel_rfl) (by kernel_rfl);by_cases e21:s=strOf [115,112,97,119,110]
 ·rw [dL 21 (by kernel_rfl) e21];exact aN5 s n0 n1 n2 n3 n4 n5 n6 n7 n8 n9 n10 n11 n12 n13 n14 n15 n16 n17 n18 n19 n20 (cK _ e21 (by kernel_rfl) (by kernel_rfl))
 have n21:=dJ (k:=5) (n:=474449277043) _ e21 (by kernel_rfl) (by kernel_rfl);by_cases e22:s=strOf [116,97,107,101]
 ·rw [dL 22 (by kernel_rfl) e22];exact aN6 s n0 n1 n2 n3 n4 n5 n6 n7 n8 n9 n10 n11 n12 n13 n14 n15 n16 n17 n18 n19 n20 n21 (cK _ e22 (by kernel_rfl) (by kernel_rfl))
 have n22:=dJ (k:=4) (n:=1701536116) _ e22 (by kernel_rfl) (by kernel_rfl);by_cases e23:s=strOf [116,97,115,107]
 ·rw [dL 23 (by kernel_rfl) e23];exact aN7 s n0 n1 n2 n3 n4 n5 n6 n7 n8 n9 n10 n11 n12 n13 n14 n15 n16 n17 n18 n19 n20 n21 n22 (cK _ e23 (by kernel_rfl) (by kernel_rfl))
 have n23:=dJ (k:=4) (n:=1802723700) _ e23 (by kernel_rfl) (by kernel_rfl);by_cases e24:s=strOf [116,104,101,110]
 ·rw [dL 24 (by kernel_rfl) e24];exact aN8 s n0 n1 n2 n3 n4 n5 n6 n7 n8 n9 n10 n11 n12 n13 n14 n15 n16 n17 n18 n19 n20 n21 n22 n23 (cK _ e24 (by kernel_rfl) (by kernel_rfl))
 have n24:=dJ (k:=4) (n:=1852139636) _ e24 (by kernel_rfl) (by kernel_rfl);by_cases e25:s=strOf [116,114,117,101]
 ·rw [dL 25 (by kernel_rfl) e25];exact aN9 s n0 n1 n2 n3 n4 n5 n6 n7 n8 n9 n10 n11 n12 n13 n14 n15 n16 n17 n18 n19 n20 n21 n22 n23 n24 (cK _ e25 (by kernel_rfl) (by kernel_rfl))
 have n25:=dJ (k:=4) (n:=1702195828) _ e25 (by kernel_rfl) (by kernel_rfl);by_cases e26:s=strOf [116,121,112,101]
 ·rw [dL 26 (by kernel_rfl) e26];exact aOa s n0 n1 n2 n3 n4 n5 n6 n7 n8 n9 n10 n11 n12 n13 n14 n15 n16 n17 n18 n19 n20 n21 n22 n23 n24 n25 (cK _ e26 (by kernel_rfl) (by kernel_rfl))
 have n26:=dJ (k:=4) (n:=1701869940) _ e26 (by kernel_rfl) (by kernel_rfl);by_cases e27:s=strOf [117,110,105,116]
 ·rw [dL 27 (by kernel_rfl) e27];exact aOb s n0 n1 n2 n3 n4 n5 n6 n7 n8 n9 n10 n11 n12 n13 n14 n15 n16 n17 n18 n19 n20 n21 n22 n23 n24 n25 n26 (cK _ e27 (by kernel_rfl) (by kernel_rfl))
 have n27:=dJ (k:=4) (n:=1953066613) _ e27 (by kernel_rfl) (by kernel_rfl);have hno:eZ kwL s=false:=by
  unfold eZ kwL;simp only [List.any_cons,List.any_nil,Bool.or_false,Bool.or_eq_false_iff,decide_eq_false_iff_not];exact⟨fun h=>e0 h.symm,fun h=>e1 h.symm,fun h=>e2 h.symm,fun h=>e3 h.symm,fun h=>e4 h.symm,fun h=>e5 h.symm,fun h=>e6 h.symm,fun h=>e7 h.symm,fun h=>e8 h.symm,fun h=>e9 h.symm,fun h=>e10 h.symm,fun h=>e11 h.symm,fun h=>e12 h.symm,fun h=>e13 h.symm,fun h=>e14 h.symm,fun h=>e15 h.symm,fun h=>e16 h.symm,fun h=>e17 h.symm,fun h=>e18 h.symm,fun h=>e19 h.symm,fun h=>e20 h.symm,fun h=>e21 h.symm,fun h=>e22 h.symm,fun h=>e23 h.symm,fun h=>e24 h.symm,fun h=>e25 h.symm,fun h=>e26 h.symm,fun h=>e27 h.symm⟩
 rw [hno];exact aOc s n0 n1 n2 n3 n4 n5 n6 n7 n8 n9 n10 n11 n12 n13 n14 n15 n16 n17 n18 n19 n20 n21 n22 n23 n24 n25 n26 n27
def eT (s:aC) :Bool:=decide (1≤s.length) &&decide (s.length≤8) &&gU s&& !eZ kwL s
theorem mG (s:aC) :Pure PP 59 [aA s] (.bool (eT s)) :=by
 refine aV (by kernel_rfl) rfl rfl ?_;unfold eT;by_cases h1:1≤s.length
 · by_cases h2:s.length≤8
   · have hS:=aBr s (by omega);cases h3:gU s with
     | true=>
      rw [h3]at hS;have:=aTY s true _ sd sd hS rfl (aMF s);simpa [h1,h2]using this
     | false=>
      rw [h3]at hS;have:=aTZ s false sd sd hS rfl;simpa [h1,h2]using this
   · have:=aT0 s sd sd;simpa [h1,h2]using this
 · have:=aT1 s sd;simpa [h1]using this
theorem kR (s:aC) :Pure PP 103 [aA s] (.bool (eT s)) :=by
 refine aV (by kernel_rfl) rfl rfl ?_;unfold eT;by_cases h1:s= []
 · subst h1;have:=aUf [] (by rfl);simpa using this
 · have hpos:1≤s.length:=by cases s with
    |nil=>exact absurd rfl h1
    |cons _ _=>simp
   have h0: (!(aU (List.length s) (aE s) 0 0)) =true:=by
    have:=dJ (k:=0) (n:=0) (s:=s) [] h1 rfl rfl;rw [this];rfl
   by_cases h2:s.length≤8
   · have hS:=aBw s;cases h3:gU s with
     | true=>
      rw [h3]at hS;have:=aUc s true _ h0 sd hS rfl (aOQ s);simpa [hpos,h2]using this
     | false=>
      rw [h3]at hS;have:=aUd s false h0 sd hS rfl;simpa [hpos,h2]using this
   · have:=aUe s h0 sd;simpa [hpos,h2]using this
theorem fZ (n lo hi:Int) :Pure PP 60 [.int .i64 n,.int .i64 lo,.int .i64 hi] (.bool (bR n lo hi)) :=by
 refine aV (by kernel_rfl) rfl rfl ?_;by_cases h:n≥lo
 · have e:bR n lo hi=decide (n≤hi) :=by unfold bR;rw [decide_eq_true (show lo≤n from h),Bool.true_and]
   rw [e];exact aNS n lo hi (by simpa using h)
 · have e:bR n lo hi=false:=by unfold bR;rw [decide_eq_false (show ¬lo≤n from h),Bool.false_and]
   rw [e];exact aNT n lo hi (by simpa using h)
end Go.Hb
namespace Go.Hb
open Go.Proofs
noncomputable section
open Go.Proofs Tryz
def bB3(a b:Int)(c:aC)(d:List Pat):TS:=bF PP 186 [(.agg [(nI a),(nI b),(aA c),(iP d)])] [] 0
def aFM(b c:Int)(d:aC)(e:List Pat)(f:Int)(a:List aC):TS:=⟨(tf 186 27 [kp 1 0,(2,.nils),(3,(.gl 1 1 0 a.length false)),(4,(nI f))] [kc f186 244,kl f186 244,.inBlock 0,kc f186 31]),[],[oC 0 [(nI b),(nI c),(aA d),(iP e)],oL 1 1 (List.map aA a)],2⟩
def eU(b c:Int)(d:aC)(a:List Pat)(e:Bool)(f:Int):TS:=⟨(tf 189 97 [kp 1 0,(2,(bV false)),(3,(nI (a.length:Int))),(4,(bV e)),(5,(nI f))] [kc f189 500,kl f189 500,.inBlock 1,kc f189 63]),[],[oC 0 [(nI b),(nI c),(aA d),(iP a)]],1⟩
def bB4(b c:Int)(a:aC)(d:List Pat):=tT 0 (bB3 b c a d)<|.b 12 7 (b==2) (.i [rn 9,.toL 2 false [(aA a)]] [hr (some [(aA a)]),hr true]<|gu 0 1 (List.map aA [a])<|gs 0 2 (.gl 1 1 0 [a].length true)<|.i [.weak 2] []<|gz 0 2 1 1 aA [a] false<|gE 0 2 (iS [a]))<|.i [rn 13,.nilL 3 1] []<|gu 0 1 (List.map aA ([] :List aC))<|gs 0 3 (.gl 1 1 0 ([] :List aC).length false)<|.W 0 2 [0,1] (aFM b c a d 0 ([] :List aC))
def aUl:=fun a b c d e=>bB4 a b c d|>.t e tv
def aUm:=fun a b c d e=>bB4 a b c d|>.f e ⟨kk,trivial⟩
def bB5(e f:Int)(g:aC)(a:List Pat)(b:Int)(c:List aC):=tT 0 (aFM e f g a b c)<|gm 6 aH a<|gd 2 15 (b< (a.length:Int)) (mU 9 a b<|fun i j k l=>.y fun d:List aC=>gp 1 186 [(.agg [(nI i),(nI j),(aA k),(iP l)])] (iS d)<|ga 0 aA c d<|gw 6 17 (b+1)<|.W 3 3 [0,2] (aFM e f g a (b+1) (c++d)))<|gz 8 2 1 1 aA c false<|gE 0 2 (iS c)
def aUn:=fun a b c d e f g i j k l m n o p q r=>bB5 a b c d e f|>.t m g i j k n o l p q r ⟨kk,trivial⟩
def aUo:=fun a b c d e f g=>bB5 a b c d e f|>.f g tv
def kS(c d:Int)(a:aC)(b:List Pat):=tT 0 (start PP 189 [(.agg [(nI c),(nI d),(aA a),(iP b)])])<|gm 9 aH b<|.b 19 11 (c==1) (.b 7 16 ((b.length:Int) ==0) (.b 5 21 (d==0) (.W 14 1 [0] (eU c d a b (aU a.length (aE a) 0 0) 0))<|.W 14 1 [0] (eU c d a b false 0))<|.W 19 1 [0] (eU c d a b false 0))<|.b 5 11 (c==5) (.b 5 16 ((b.length:Int) ==0) (.b 5 21 (d==0) (.W 14 1 [0] (eU c d a b (aU a.length (aE a) 0 0) 0))<|.W 14 1 [0] (eU c d a b false 0))<|.W 19 1 [0] (eU c d a b false 0))<|.b 6 26 (c==2) (.b 5 30 ((b.length:Int) ==0) (.b 5 35 (d==0) (dG 2 59 [(aA a)]<|fun e=>.W 11 1 [0] (eU c d a b e 0))<|.W 14 1 [0] (eU c d a b false 0))<|.W 19 1 [0] (eU c d a b false 0))<|.b 6 40 (c==3) (.b 5 44 ((b.length:Int) ==0) (.b 5 49 (aU a.length (aE a) 0 0) (dG 2 60 [(nI d),(nI (-1000000000)),(nI 1000000000)]<|fun e=>.W 11 1 [0] (eU c d a b e 0))<|.W 14 1 [0] (eU c d a b false 0))<|.W 19 1 [0] (eU c d a b false 0))<|.b 6 54 (c==4) (.b 5 58 ((b.length:Int) ==0) (.b 5 63 (aU a.length (aE a) 0 0) (dG 2 60 [(nI d),(nI 0),(nI 1)]<|fun e=>.W 11 1 [0] (eU c d a b e 0))<|.W 14 1 [0] (eU c d a b false 0))<|.W 19 1 [0] (eU c d a b false 0))<|.b 6 68 (c==6) (gd 5 72 ((b.length:Int) ≤3) (.b 5 77 (d==0) (dG 2 120 [(aA a)]<|fun e=>.W 11 1 [0] (eU c d a b e 0))<|.W 14 1 [0] (eU c d a b false 0))<|.W 19 1 [0] (eU c d a b false 0))<|.W 10 1 [0] (eU c d a b false 0)
def aUp:=fun a b c d e f g=>kS a b c d|>.t e|>.t f|>.t g tv
def aUq:=fun a b c d e f g=>kS a b c d|>.t e|>.t f|>.f g tv
def aUr:=fun a b c d e f=>kS a b c d|>.t e|>.f f tv
def aUs:=fun a b c d e f g i=>kS a b c d|>.f e|>.t f|>.t g|>.t i tv
def aUt:=fun a b c d e f g i=>kS a b c d|>.f e|>.t f|>.t g|>.f i tv
def aUu:=fun a b c d e f g=>kS a b c d|>.f e|>.t f|>.f g tv
def aUv:=fun a b c d e f g i j k l=>kS a b c d|>.f f|>.f g|>.t i|>.t j|>.t k e l tv
def aUw:=fun a b c d e f g i j=>kS a b c d|>.f e|>.f f|>.t g|>.t i|>.f j tv
def aUx:=fun a b c d e f g i=>kS a b c d|>.f e|>.f f|>.t g|>.f i tv
def aUy:=fun a b c d e f g i j k l m=>kS a b c d|>.f f|>.f g|>.f i|>.t j|>.t k|>.t l e m tv
def aOR:=fun a b c d e f g i j k=>kS a b c d|>.f e|>.f f|>.f g|>.t i|>.t j|>.f k tv
def aOS:=fun a b c d e f g i j=>kS a b c d|>.f e|>.f f|>.f g|>.t i|>.f j tv
def aOT:=fun a b c d e f g i j k l m n=>kS a b c d|>.f f|>.f g|>.f i|>.f j|>.t k|>.t l|>.t m e n tv
def aOU:=fun a b c d e f g i j k l=>kS a b c d|>.f e|>.f f|>.f g|>.f i|>.t j|>.t k|>.f l tv
def aOV:=fun a b c d e f g i j k=>kS a b c d|>.f e|>.f f|>.f g|>.f i|>.t j|>.f k tv
def aOW:=fun a b c d e f g i j k l m n o=>kS a b c d|>.f f|>.f g|>.f i|>.f j|>.f k|>.t l|>.t m|>.t n e o tv
def aOX:=fun a b c d e f g i j k l m=>kS a b c d|>.f e|>.f f|>.f g|>.f i|>.f j|>.t k|>.t l|>.f m tv
def aOY:=fun a b c d e f g i j k l=>kS a b c d|>.f e|>.f f|>.f g|>.f i|>.f j|>.t k|>.f l tv
def aOZ:=fun a b c d e f g i j k=>kS a b c d|>.f e|>.f f|>.f g|>.f i|>.f j|>.f k tv
def aO0(d e:Int)(f:aC)(b:List Pat)(c:Bool)(a:Int):=tT 0 (eU d e f b c a)<|gd 7 85 (a< (b.length:Int)) (.b 3 87 c (mU 8 b a<|fun g i j k=>dG 1 189 [(.agg [(nI g),(nI i),(aA j),(iP k)])]<|fun l=>gw 6 89 (a+1)<|.W 3 1 [0] (eU d e f b l (a+1)))<|gE 8 1 (bV c))<|gE 11 1 (bV c)
def aUz:=fun a b c d e f g i j k l m n o p q r=>aO0 a b c d e f|>.t m|>.t n g i j k o p l q r tv
def aUA:=fun a b c d e f g i=>aO0 a b c d e f|>.t g|>.f i tv
def aUB:=fun a b c d e f g=>aO0 a b c d e f|>.f g tv
def aO1(a b:Int)(c:aC)(d:List Pat):=tT 0 (start PP 123 [(.agg [(nI a),(nI b),(aA c),(iP d)])])<|gpI 8 124 [(.agg [(nI a),(nI b),(aA c),(iP d)]),(nI 12)]<|fun f=>gd 2 6 (f≥0) (dG 1 189 [(.agg [(nI a),(nI b),(aA c),(iP d)])]<|fun g=>.b 2 10 g (.y fun e:List aC=>gp 1 186 [(.agg [(nI a),(nI b),(aA c),(iP d)])] (iS e)<|dG 0 49 [(iS e)]<|fun i=>gE 4 1 (bV i))<|gE 7 1 (bV false))<|gE 11 1 (bV false)
def aUC:=fun a b c d e f g i j k l m n o=>aO1 a b c d e j|>.t k f l|>.t m g n i o tv
def aUD:=fun a b c d e f g i j k=>aO1 a b c d e g|>.t i f j|>.f k tv
def aUE:=fun a b c d e f g=>aO1 a b c d e f|>.f g tv
end
end Go.Hb
namespace Go.Hb
end Go.Hb
namespace Go.Hb
open Go.Proofs
noncomputable section
open Go.Proofs Tryz
def bDQ(a b c d:Int)(e:aC)(f:List Pat):TS:=bF PP 269 [(.ptr 0 0),(.agg [(nI c),(nI d),(aA e),(iP f)])] [oC 0 [(nI a),(nI b)]] 1
def aKL(e b f g:Int)(i:aC)(a:List Pat)(c d:Int):TS:=⟨(tf 269 19 [kp 0 0,(9,(iP a)),(10,(nI (a.length:Int))),(11,(nI c))] [kc f269 60,kl f269 60,.inBlock 0]),[],[oC 0 [(nI d),(nI b)]],1⟩
def aKM(a:List (aC×Bool))(b c:Int)(d:aC)(e:List Pat):TS:=bF PP 270 [(.agg [(nI b),(nI c),(aA d),(iP e)]),(.map 0)] [(0,(.map (aB aA oD 0 a) a.length),true)] 1
def mW(d:List (aC×Bool))(e f:Int)(g:aC)(a:List Pat)(b:List (aC×Bool))(c:Int):TS:=⟨(tf 270 121 [(1,(.map 0)),(111,(iP a)),(112,(nI (a.length:Int))),(113,(nI c))] [kc f270 60,kl f270 60,.inBlock 1]),[],[(0,(.map (aB aA oD 0 b) b.length),true)],1⟩
def bB6(a b:Int)(c:aC)(d:List Pat):TS:=bF PP 234 [(.agg [(nI a),(nI b),(aA c),(iP d)])] [] 0
def bB7(a b d e:Int)(f:aC)(c:List Pat):=tT 1 (bDQ a b d e f c)<|gw 15 8 (a-1)<|gd 11 16 ((a-1) ≥0) (.b 13 3 (!(decide (0≤b))) (.P 7 2 [] [((.iface 299 (.agg [])),false)] [oC 0 [(nI (a-1)),(nI b)]] 1)<|gm 12 aH c<|.W 4 2 [] (aKL a b d e f c 0 (a-1)))<|.P 20 2 [] [((.iface 299 (.agg [])),false)] [oC 0 [(nI (a-1)),(nI b)]] 1
def bDR:=fun a b c d e f g i j=>bB7 a b c d e f g|>.t i|>.f j tv
def bDS:=fun a b c d e f g i=>bB7 a b c d e f g|>.f i tv
def aO2(k a l m:Int)(n:aC)(i:List Pat)(f j:Int):=tT 1 (aKL k a l m n i f j)<|gd 5 12 (f< (i.length:Int)) (mU 6 i f<|fun b c d e=>.o (.y fun g:Int=>gK 7 (.enter 269 [(.ptr 0 0),(.agg [(nI b),(nI c),(aA d),(iP e)])]) [oC 0 [(nI j),(nI a)],oC 1 [(nI b),(nI c),(aA d),(iP e)]] 2 [((.iface 299 (.agg [])),false)] [oC 0 [(nI g),(nI a)],oC 1 [(nI b),(nI c),(aA d),(iP e)]] 2<|.P 0 2 [] [((.iface 299 (.agg [])),false)] [oC 0 [(nI g),(nI a)]] 1)<|.y fun g:Int=>gk 7 (.enter 269 [(.ptr 0 0),(.agg [(nI b),(nI c),(aA d),(iP e)])]) [oC 0 [(nI j),(nI a)],oC 1 [(nI b),(nI c),(aA d),(iP e)]] 2 (.tup []) [oC 0 [(nI g),(nI a)],oC 1 [(nI b),(nI c),(aA d),(iP e)]] 2<|gw 4 18 (f+1)<|.W 3 2 [] (aKL k a l m n i (f+1) g))<|.E 3 1 [] (.tup []) [oC 0 [(nI j),(nI a)]] 1
def bDT:=fun a b c d e f g i j k l m n o p q r=>aO2 a b c d e f g i|>.t o j k l m p q|>.1 n r tv
def bDU:=fun a b c d e f g i j k l m n o p q r s=>aO2 a b c d e f g i|>.t o j k l m p q|>.2 n r s tv
def bDV:=fun a b c d e f g i j=>aO2 a b c d e f g i|>.f j tv
def fU(a:List (aC×Bool))(e d:Int)(b:aC)(c:List Pat):=tT 1 (aKM a e d b c)<|.b 17 9 (e==1) (gm 6 aH c<|.b 2 16 ((c.length:Int) ==0) (.b 5 21 (d==0) (.b 10 3 (!(aU b.length (aE b) 0 0)) (.P 6 2 [] [((.iface 299 (.agg [])),false)] [(0,(.map (aB aA oD 0 a) a.length),true)] 1)<|gm 10 aH c<|.W 4 2 [] (mW a e d b c a 0))<|.P 16 2 [] [((.iface 299 (.agg [])),false)] [(0,(.map (aB aA oD 0 a) a.length),true)] 1)<|.P 21 2 [] [((.iface 299 (.agg [])),false)] [(0,(.map (aB aA oD 0 a) a.length),true)] 1)<|.b 5 9 (e==5) (gm 4 aH c<|.b 2 16 ((c.length:Int) ==0) (.b 5 21 (d==0) (.b 10 3 (!(aU b.length (aE b) 0 0)) (.P 6 2 [] [((.iface 299 (.agg [])),false)] [(0,(.map (aB aA oD 0 a) a.length),true)] 1)<|gm 10 aH c<|.W 4 2 [] (mW a e d b c a 0))<|.P 16 2 [] [((.iface 299 (.agg [])),false)] [(0,(.map (aB aA oD 0 a) a.length),true)] 1)<|.P 21 2 [] [((.iface 299 (.agg [])),false)] [(0,(.map (aB aA oD 0 a) a.length),true)] 1)<|.b 6 27 (e==2) (gm 5 aH c<|.b 2 33 ((c.length:Int) ==0) (.b 5 38 (d==0) (dG 2 103 [(aA b)]<|fun f=>.b 2 43 f (.o (.y fun g:Bool=>.i [rn 3,.ans (.look (some (oH b a,(oD g))))] [.a (cJ b a=some g) (p':=dU (aA b) (aB aA oD 0 a) 0=some (some (oH b a,(oD g)))) (kB eV)]<|.b 8 3 (!(!g)) (.P 6 2 [] [((.iface 299 (.agg [])),false)] [(0,(.map (aB aA oD 0 a) a.length),true)] 1)<|.i [rn 9,.mput (aB aA oD 0 (eF b true a)) (eF b true a).length] [.q (p:=pZ (aB aA oD 0 a) a.length (aA b) (oD true) =some ((aB aA oD 0 (eF b true a)),List.length (eF b true a))) (aB1 eV _ _ _)]<|gm 6 aH c<|.W 4 2 [] (mW a e d b c (eF b true a) 0))<|.i [rn 3,.ans (.look none)] [.a (cJ b a=none) (p':=dU (aA b) (aB aA oD 0 a) 0=some none) (kA eV)]<|.i [rn 17,.mput (aB aA oD 0 (eF b true a)) (eF b true a).length] [.q (p:=pZ (aB aA oD 0 a) a.length (aA b) (oD true) =some ((aB aA oD 0 (eF b true a)),List.length (eF b true a))) (aB1 eV _ _ _)]<|gm 6 aH c<|.W 4 2 [] (mW a e d b c (eF b true a) 0))<|.P 18 2 [] [((.iface 299 (.agg [])),false)] [(0,(.map (aB aA oD 0 a) a.length),true)] 1)<|.P 23 2 [] [((.iface 299 (.agg [])),false)] [(0,(.map (aB aA oD 0 a) a.length),true)] 1)<|.P 28 2 [] [((.iface 299 (.agg [])),false)] [(0,(.map (aB aA oD 0 a) a.length),true)] 1)<|.b 6 54 (e==3) (gm 4 aH c<|.b 2 60 ((c.length:Int) ==0) (.b 5 65 (aU b.length (aE b) 0 0) (dG 2 251 [(nI d)]<|fun f=>.b 7 3 (!f) (.P 6 2 [] [((.iface 299 (.agg [])),false)] [(0,(.map (aB aA oD 0 a) a.length),true)] 1)<|gm 10 aH c<|.W 4 2 [] (mW a e d b c a 0))<|.P 16 2 [] [((.iface 299 (.agg [])),false)] [(0,(.map (aB aA oD 0 a) a.length),true)] 1)<|.P 21 2 [] [((.iface 299 (.agg [])),false)] [(0,(.map (aB aA oD 0 a) a.length),true)] 1)<|.b 6 71 (e==4) (gm 4 aH c<|.b 2 77 ((c.length:Int) ==0) (.b 5 82 (aU b.length (aE b) 0 0) (.b 4 86 (d==0) (gm 21 aH c<|.W 4 2 [] (mW a e d b c a 0))<|.b 11 3 (!(d==1)) (.P 6 2 [] [((.iface 299 (.agg [])),false)] [(0,(.map (aB aA oD 0 a) a.length),true)] 1)<|gm 10 aH c<|.W 4 2 [] (mW a e d b c a 0))<|.P 21 2 [] [((.iface 299 (.agg [])),false)] [(0,(.map (aB aA oD 0 a) a.length),true)] 1)<|.P 26 2 [] [((.iface 299 (.agg [])),false)] [(0,(.map (aB aA oD 0 a) a.length),true)] 1)<|.b 6 93 (e==6) (gm 4 aH c<|gd 2 99 ((c.length:Int) ≤3) (.b 5 104 (d==0) (dG 2 179 [(aA b)]<|fun f=>.b 7 3 (!f) (.P 6 2 [] [((.iface 299 (.agg [])),false)] [(0,(.map (aB aA oD 0 a) a.length),true)] 1)<|gm 10 aH c<|.W 4 2 [] (mW a e d b c a 0))<|.P 16 2 [] [((.iface 299 (.agg [])),false)] [(0,(.map (aB aA oD 0 a) a.length),true)] 1)<|.P 21 2 [] [((.iface 299 (.agg [])),false)] [(0,(.map (aB aA oD 0 a) a.length),true)] 1)<|.P 14 2 [] [((.iface 299 (.agg [])),false)] [(0,(.map (aB aA oD 0 a) a.length),true)] 1
def aUF:=fun a b c d e f g i j=>fU a b c d e|>.t f|>.t g|>.t i|>.t j ⟨aI (fun _=>rfl) (fun _=>rfl) _ _ _,trivial⟩
def aUG:=fun a b c d e f g i j=>fU a b c d e|>.t f|>.t g|>.t i|>.f j ⟨aI (fun _=>rfl) (fun _=>rfl) _ _ _,trivial⟩
def aUH:=fun a b c d e f g i=>fU a b c d e|>.t f|>.t g|>.f i ⟨aI (fun _=>rfl) (fun _=>rfl) _ _ _,trivial⟩
def aUI:=fun a b c d e f g=>fU a b c d e|>.t f|>.f g ⟨aI (fun _=>rfl) (fun _=>rfl) _ _ _,trivial⟩
def aUJ:=fun a b c d e f g i j k=>fU a b c d e|>.f f|>.t g|>.t i|>.t j|>.t k ⟨aI (fun _=>rfl) (fun _=>rfl) _ _ _,trivial⟩
def aUK:=fun a b c d e f g i j k=>fU a b c d e|>.f f|>.t g|>.t i|>.t j|>.f k ⟨aI (fun _=>rfl) (fun _=>rfl) _ _ _,trivial⟩
def aUL:=fun a b c d e f g i j=>fU a b c d e|>.f f|>.t g|>.t i|>.f j ⟨aI (fun _=>rfl) (fun _=>rfl) _ _ _,trivial⟩
def aUM:=fun a b c d e f g i=>fU a b c d e|>.f f|>.t g|>.f i ⟨aI (fun _=>rfl) (fun _=>rfl) _ _ _,trivial⟩
def aUN:=fun a b c d e f g i j k l m n o p q=>fU a b c d e|>.f i|>.f j|>.t k|>.t l|>.t m f n|>.t o|>.1 g p|>.t q ⟨aI (fun _=>rfl) (fun _=>rfl) _ _ _,trivial⟩
def aUO:=fun a b c d e f g i j k l m n o p q=>fU a b c d e|>.f i|>.f j|>.t k|>.t l|>.t m f n|>.t o|>.1 g p|>.f q ⟨aI (fun _=>rfl) (fun _=>rfl) _ _ _,trivial⟩
def aO3:=fun a b c d e f g i j k l m n o=>fU a b c d e|>.f g|>.f i|>.t j|>.t k|>.t l f m|>.t n|>.2 o ⟨aI (fun _=>rfl) (fun _=>rfl) _ _ _,trivial⟩
def aO4:=fun a b c d e f g i j k l m n=>fU a b c d e|>.f g|>.f i|>.t j|>.t k|>.t l f m|>.f n ⟨aI (fun _=>rfl) (fun _=>rfl) _ _ _,trivial⟩
def aO5:=fun a b c d e f g i j k=>fU a b c d e|>.f f|>.f g|>.t i|>.t j|>.f k ⟨aI (fun _=>rfl) (fun _=>rfl) _ _ _,trivial⟩
def aO6:=fun a b c d e f g i j=>fU a b c d e|>.f f|>.f g|>.t i|>.f j ⟨aI (fun _=>rfl) (fun _=>rfl) _ _ _,trivial⟩
def aO7:=fun a b c d e f g i j k l m n o=>fU a b c d e|>.f g|>.f i|>.f j|>.t k|>.t l|>.t m f n|>.t o ⟨aI (fun _=>rfl) (fun _=>rfl) _ _ _,trivial⟩
def aO8:=fun a b c d e f g i j k l m n o=>fU a b c d e|>.f g|>.f i|>.f j|>.t k|>.t l|>.t m f n|>.f o ⟨aI (fun _=>rfl) (fun _=>rfl) _ _ _,trivial⟩
def aO9:=fun a b c d e f g i j k l=>fU a b c d e|>.f f|>.f g|>.f i|>.t j|>.t k|>.f l ⟨aI (fun _=>rfl) (fun _=>rfl) _ _ _,trivial⟩
def aPa:=fun a b c d e f g i j k=>fU a b c d e|>.f f|>.f g|>.f i|>.t j|>.f k ⟨aI (fun _=>rfl) (fun _=>rfl) _ _ _,trivial⟩
def aPb:=fun a b c d e f g i j k l m n=>fU a b c d e|>.f f|>.f g|>.f i|>.f j|>.t k|>.t l|>.t m|>.t n ⟨aI (fun _=>rfl) (fun _=>rfl) _ _ _,trivial⟩
def aPc:=fun a b c d e f g i j k l m n o=>fU a b c d e|>.f f|>.f g|>.f i|>.f j|>.t k|>.t l|>.t m|>.f n|>.t o ⟨aI (fun _=>rfl) (fun _=>rfl) _ _ _,trivial⟩
def aPd:=fun a b c d e f g i j k l m n o=>fU a b c d e|>.f f|>.f g|>.f i|>.f j|>.t k|>.t l|>.t m|>.f n|>.f o ⟨aI (fun _=>rfl) (fun _=>rfl) _ _ _,trivial⟩
def aPe:=fun a b c d e f g i j k l m=>fU a b c d e|>.f f|>.f g|>.f i|>.f j|>.t k|>.t l|>.f m ⟨aI (fun _=>rfl) (fun _=>rfl) _ _ _,trivial⟩
def aPf:=fun a b c d e f g i j k l=>fU a b c d e|>.f f|>.f g|>.f i|>.f j|>.t k|>.f l ⟨aI (fun _=>rfl) (fun _=>rfl) _ _ _,trivial⟩
def aPg:=fun a b c d e f g i j k l m n o p q=>fU a b c d e|>.f g|>.f i|>.f j|>.f k|>.f l|>.t m|>.t n|>.t o f p|>.t q ⟨aI (fun _=>rfl) (fun _=>rfl) _ _ _,trivial⟩
def aPh:=fun a b c d e f g i j k l m n o p q=>fU a b c d e|>.f g|>.f i|>.f j|>.f k|>.f l|>.t m|>.t n|>.t o f p|>.f q ⟨aI (fun _=>rfl) (fun _=>rfl) _ _ _,trivial⟩
def aPi:=fun a b c d e f g i j k l m n=>fU a b c d e|>.f f|>.f g|>.f i|>.f j|>.f k|>.t l|>.t m|>.f n ⟨aI (fun _=>rfl) (fun _=>rfl) _ _ _,trivial⟩
def aPj:=fun a b c d e f g i j k l m=>fU a b c d e|>.f f|>.f g|>.f i|>.f j|>.f k|>.t l|>.f m ⟨aI (fun _=>rfl) (fun _=>rfl) _ _ _,trivial⟩
def aPk:=fun a b c d e f g i j k l=>fU a b c d e|>.f f|>.f g|>.f i|>.f j|>.f k|>.f l ⟨aI (fun _=>rfl) (fun _=>rfl) _ _ _,trivial⟩
def aPl(j:List (aC×Bool))(k l:Int)(m:aC)(i:List Pat)(b:List (aC×Bool))(g:Int):=tT 1 (mW j k l m i b g)<|gd 5 114 (g< (i.length:Int)) (mU 6 i g<|fun c d e f=>.o (.y fun a:List (aC×Bool)=>gK 7 (.enter 270 [(.agg [(nI c),(nI d),(aA e),(iP f)]),(.map 0)]) [(0,(.map (aB aA oD 0 b) b.length),true),oC 1 [(nI c),(nI d),(aA e),(iP f)]] 2 [((.iface 299 (.agg [])),false)] [(0,(.map (aB aA oD 0 a) a.length),true),oC 1 [(nI c),(nI d),(aA e),(iP f)]] 2<|.P 0 2 [] [((.iface 299 (.agg [])),false)] [(0,(.map (aB aA oD 0 a) a.length),true)] 1)<|.y fun a:List (aC×Bool)=>gk 7 (.enter 270 [(.agg [(nI c),(nI d),(aA e),(iP f)]),(.map 0)]) [(0,(.map (aB aA oD 0 b) b.length),true),oC 1 [(nI c),(nI d),(aA e),(iP f)]] 2 (.tup []) [(0,(.map (aB aA oD 0 a) a.length),true),oC 1 [(nI c),(nI d),(aA e),(iP f)]] 2<|gw 4 120 (g+1)<|.W 3 2 [] (mW j k l m i a (g+1)))<|.E 3 1 [] (.tup []) [(0,(.map (aB aA oD 0 b) b.length),true)] 1
def aUP:=fun a b c d e f g i j k l m n o p q=>aPl a b c d e f g|>.t n i j k l o p|>.1 m q ⟨aI (fun _=>rfl) (fun _=>rfl) _ _ _,trivial⟩
def aUQ:=fun a b c d e f g i j k l m n o p q r=>aPl a b c d e f g|>.t n i j k l o p|>.2 m q r ⟨aI (fun _=>rfl) (fun _=>rfl) _ _ _,trivial⟩
def aUR:=fun a b c d e f g i=>aPl a b c d e f g|>.f i ⟨aI (fun _=>rfl) (fun _=>rfl) _ _ _,trivial⟩
def aPm(a b:Int)(c:aC)(d:List Pat):=tT 0 (bB6 a b c d)<|.o (.y fun e:Int=>gK 36 (.enter 269 [(.ptr 2 0),(.agg [(nI a),(nI b),(aA c),(iP d)])]) [oC 0 [(nI a),(nI b),(aA c),(iP d)],oC 1 [(bV false)],oC 2 [(nI 12),(nI 0)]] 3 [((.iface 299 (.agg [])),false)] [oC 0 [(nI a),(nI b),(aA c),(iP d)],oC 1 [(bV false)],oC 2 [(nI e),(nI 0)]] 3<|gE 50 4 (nI 2))<|.y fun e:Int=>gk 36 (.enter 269 [(.ptr 2 0),(.agg [(nI a),(nI b),(aA c),(iP d)])]) [oC 0 [(nI a),(nI b),(aA c),(iP d)],oC 1 [(bV false)],oC 2 [(nI 12),(nI 0)]] 3 (.tup []) [oC 0 [(nI a),(nI b),(aA c),(iP d)],oC 1 [(bV false)],oC 2 [(nI e),(nI 0)]] 3<|.i [rn 4,.mset 3 (aB aA oD 0 ([] :List (aC×Bool))) ([] :List (aC×Bool)).length] [hr (aB aA oD 0 ([] :List (aC×Bool))),hr (List.length ([] :List (aC×Bool)))]<|.o (.y fun f:List (aC×Bool)=>gK 0 (.enter 270 [(.agg [(nI a),(nI b),(aA c),(iP d)]),(.map 3)]) [oC 0 [(nI a),(nI b),(aA c),(iP d)],oC 1 [(bV false)],oC 2 [(nI e),(nI 0)],(3,(.map (aB aA oD 0 ([] :List (aC×Bool))) ([] :List (aC×Bool)).length),true)] 4 [((.iface 299 (.agg [])),false)] [oC 0 [(nI a),(nI b),(aA c),(iP d)],oC 1 [(bV false)],oC 2 [(nI e),(nI 0)],(3,(.map (aB aA oD 0 f) f.length),true)] 4<|gE 50 5 (nI 2))<|.y fun f:List (aC×Bool)=>gk 0 (.enter 270 [(.agg [(nI a),(nI b),(aA c),(iP d)]),(.map 3)]) [oC 0 [(nI a),(nI b),(aA c),(iP d)],oC 1 [(bV false)],oC 2 [(nI e),(nI 0)],(3,(.map (aB aA oD 0 ([] :List (aC×Bool))) ([] :List (aC×Bool)).length),true)] 4 (.tup []) [oC 0 [(nI a),(nI b),(aA c),(iP d)],oC 1 [(bV false)],oC 2 [(nI e),(nI 0)],(3,(.map (aB aA oD 0 f) f.length),true)] 4<|gE 38 4 (nI 0)
def aUS:=fun a b c d e f=>aPm a b c d|>.1 e f tv
def aUT:=fun a b c d e f g i=>aPm a b c d|>.2 e g|>.1 f i tv
def aUU:=fun a b c d e f g i=>aPm a b c d|>.2 e g|>.2 f i tv
def bB8(a:Int):=tT 0 (start PP 251 [(nI a)])<|gd 9 5 (a≥ (-1000000000:Int)) (gE 6 0 (bV (decide (a≤1000000000))))<|gE 6 0 (bV false)
def aUV:=fun a b=>bB8 a|>.t b tv
def aUW:=fun a b=>bB8 a|>.f b tv
end
end Go.Hb
namespace Go.Hb
open Go.Proofs
set_option maxHeartbeats 2000000
theorem sdW {p:Prop}(h:p:=by simp_all only [inB_iff,aB3,beq_iff_eq,decide_eq_true_eq,decide_eq_false_iff_not] <;>omega) :p:=h
theorem idW {p:Prop}(h:p:=by exact⟨_,List.getElem?_eq_getElem (by simp_all only [inB_iff,aB3,beq_iff_eq,decide_eq_true_eq,decide_eq_false_iff_not] <;>omega)⟩) :p:=h
theorem aEC (l:List Pat)(p:Prog)(hl:l.length<1000000)(ih:∀q∈l,Pure PP 209 [Prog.av p,Pat.av q] (.bool (dB p.cons q))) :
  ∀ (t:List Pat) (i:Nat),l.drop i=t→Ends PP 0 (aB4 l p (i:Int)).as (.ret (.bool (bS p.cons t))) (aG [] 0)
 | [],i,h=>by
  have:=bA h;exact Ends.eqv (aOH l p i sd) (by simp [bS])
 | .mk f n s ps::t,i,h=>by
  obtain⟨g1,g2,g3⟩ :=aZ h;have hq:=ih (.mk f n s ps) (List.mem_of_getElem? g1);cases k:dB p.cons (.mk f n s ps)with
  | false=>
   rw [k]at hq;exact Ends.eqv (aOF l p i f n s ps false sd sd sd hq rfl) (by simp [bS,k])
  | true=>
   rw [k]at hq;refine(aOG l p i f n s ps true sd sd sd hq rfl sd).ends ?_;exact Ends.eqv (aEC l p hl ih t (i+1) g2) (by simp [bS,k])
theorem aMG (l:List Pat)(p:Prog)(hl:l.length<1000000)(ih:∀q∈l,Pure PP 209 [Prog.av p,Pat.av q] (.bool (dB p.cons q))) :
  Pure PP 211 [.ilst 4 (Pats.av l) false,.func 209 [Prog.av p] []] (.bool (bS p.cons l)) :=
 aV (by kernel_rfl) (by simp [AV.keylessL,AV.keyless,Prog.av]) rfl ((aOE l p).ends (aEC l p hl ih l 0 rfl))
theorem bDW (p:Prog)(q_form q_n:Int)(q_text:aC)(q_parts:List Pat)(hc:p.cons.length≤1000)(hev:Pure PP 211 [.ilst 4 (Pats.av q_parts) false,.func 209 [Prog.av p] []] (.bool (bS p.cons q_parts))) :
  Ends PP 0 (start PP 209 [Prog.av p,Pat.av (.mk q_form q_n q_text q_parts)]).as (.ret (.bool (dB p.cons (.mk q_form q_n q_text q_parts)))) (aG [] 0) :=by
 have hw:IntKind.i64.wrap ((p.cons.length:Int) -1) = (p.cons.length:Int) -1:=by apply wrap64<;>omega
 cases hb1: (!(aU (List.length q_text) (aE q_text) 0 0))with
 | true=>
  exact Ends.eqv (aOu p q_form q_n q_text q_parts   hb1) (by clear hev;simp_all [dB,cZ,fR,aD,gW] <;>rfl)
 | false =>
  cases hb2: (!(bS p.cons q_parts))with
  | true=>
   exact Ends.eqv (aOv p q_form q_n q_text q_parts  (bS p.cons q_parts) hb1 hev hb2) (by clear hev;simp_all [dB,cZ,fR,aD,gW] <;>rfl)
  | false =>
   cases hb3: (q_form== (1:Int))with
   | true=>
    cases hb4: (q_n== (0:Int))with
    | true=>
     exact Ends.eqv (aOw p q_form q_n q_text q_parts  (bS p.cons q_parts) hb1 hev hb2 hb3 hb4) (by clear hev;simp_all [dB,cZ,fR,aD,gW] <;>rfl)
    | false=>
     exact Ends.eqv (aOx p q_form q_n q_text q_parts  (bS p.cons q_parts) hb1 hev hb2 hb3 hb4) (by clear hev;simp_all [dB,cZ,fR,aD,gW] <;>rfl)
   | false =>
    cases hb5: (q_form== (2:Int))with
    | true=>
     cases hb6: (q_n== (0:Int))with
     | true=>
      exact Ends.eqv (aOy p q_form q_n q_text q_parts  (bS p.cons q_parts) hb1 hev hb2 hb3 hb5 hb6) (by clear hev;simp_all [dB,cZ,fR,aD,gW] <;>rfl)
     | false=>
      exact Ends.eqv (aOz p q_form q_n q_text q_parts  (bS p.cons q_parts) hb1 hev hb2 hb3 hb5 hb6) (by clear hev;simp_all [dB,cZ,fR,aD,gW] <;>rfl)
    | false=>
     cases hb7: (q_form== (5:Int))with
     | true=>
      cases hb8: (q_n== (0:Int))with
      | true=>
       exact Ends.eqv (aOA p q_form q_n q_text q_parts  (bS p.cons q_parts) hb1 hev hb2 hb3 hb5 hb7 hb8) (by clear hev;simp_all [dB,cZ,fR,aD,gW] <;>rfl)
      | false=>
       exact Ends.eqv (aOB p q_form q_n q_text q_parts  (bS p.cons q_parts) hb1 hev hb2 hb3 hb5 hb7 hb8) (by clear hev;simp_all [dB,cZ,fR,aD,gW] <;>rfl)
     | false=>
      cases hb9: (q_form== (3:Int))with
      | true=>
       cases hb10: (bR q_n (-1000000000) 1000000000)with
       | true=>
        exact Ends.eqv (aOC p q_form q_n q_text q_parts  (bS p.cons q_parts) (bR q_n (-1000000000) 1000000000) hb1 hev hb2 hb3 hb5 hb7 hb9 (aEx q_n) hb10) (by clear hev;simp_all [dB,cZ,fR,aD,gW] <;>rfl)
       | false=>
        exact Ends.eqv (aOD p q_form q_n q_text q_parts  (bS p.cons q_parts) (bR q_n (-1000000000) 1000000000) hb1 hev hb2 hb3 hb5 hb7 hb9 (aEx q_n) hb10) (by clear hev;simp_all [dB,cZ,fR,aD,gW] <;>rfl)
      | false=>
       cases hb11: (q_form== (4:Int))with
       | true=>
        cases hb12: (bR q_n 0 1)with
        | true=>
         exact Ends.eqv (aMy p q_form q_n q_text q_parts  (bS p.cons q_parts) (bR q_n 0 1) hb1 hev hb2 hb3 hb5 hb7 hb9 hb11 (uT q_n 0 1) hb12) (by clear hev;simp_all [dB,cZ,fR,aD,gW] <;>rfl)
        | false=>
         exact Ends.eqv (aMz p q_form q_n q_text q_parts  (bS p.cons q_parts) (bR q_n 0 1) hb1 hev hb2 hb3 hb5 hb7 hb9 hb11 (uT q_n 0 1) hb12) (by clear hev;simp_all [dB,cZ,fR,aD,gW] <;>rfl)
       | false=>
        cases hb13: (q_form== (6:Int))with
        | true=>
         cases hb14: (bR q_n 0 (IntKind.i64.wrap (((List.length p.cons:Nat) :Int) - (1:Int))))with
         | true=>
          obtain⟨y2,hx15⟩ :∃y,((p.cons)[q_n.toNat]?) =some y:=idW;exact Ends.eqv (aMA p q_form q_n q_text q_parts  (bS p.cons q_parts) (bR q_n 0 (IntKind.i64.wrap (((List.length p.cons:Nat) :Int) - (1:Int)))) y2 hb1 hev hb2 hb3 hb5 hb7 hb9 hb11 hb13 (uT q_n 0 (IntKind.i64.wrap (((List.length p.cons:Nat) :Int) - (1:Int)))) hb14 sdW hx15) (by clear hev;simp_all [dB,cZ,fR,aD,gW] <;>rfl)
         | false=>
          exact Ends.eqv (aMB p q_form q_n q_text q_parts  (bS p.cons q_parts) (bR q_n 0 (IntKind.i64.wrap (((List.length p.cons:Nat) :Int) - (1:Int)))) hb1 hev hb2 hb3 hb5 hb7 hb9 hb11 hb13 (uT q_n 0 (IntKind.i64.wrap (((List.length p.cons:Nat) :Int) - (1:Int)))) hb14) (by clear hev;simp_all [dB,cZ,fR,aD,gW] <;>rfl)
        | false=>
         exact Ends.eqv (aMC p q_form q_n q_text q_parts  (bS p.cons q_parts) hb1 hev hb2 hb3 hb5 hb7 hb9 hb11 hb13) (by clear hev;simp_all [dB,cZ,fR,aD,gW] <;>rfl)
mutual
theorem aMH (p:Prog)(hc:p.cons.length≤1000) :∀ (q:Pat),aQ q<1000000→Pure PP 209 [Prog.av p,Pat.av q] (.bool (dB p.cons q))
 | .mk f n s ps,h=>by
  refine aV (by kernel_rfl) (by simp [AV.keylessL,eE,AV.keyless,Prog.av]) rfl ?_;simp only [aQ]at h;have:=bK ps;exact bDW p f n s ps hc (aMG ps p (by omega) (aHz p hc ps (by omega)))
theorem aHz (p:Prog)(hc:p.cons.length≤1000) :∀ (ps:List Pat),aM ps<1000000→∀q∈ps,Pure PP 209 [Prog.av p,Pat.av q] (.bool (dB p.cons q))
 | [],_,q,hq=>by cases hq
 | r::ps,h,q,hq=>by
  simp only [aM]at h;rcases List.mem_cons.1 hq with e|hq
  ·rw [e];exact aMH p hc r (by omega)
  ·exact aHz p hc ps (by omega) q hq
end
end Go.Hb
namespace Go.Hb
open Go.Proofs
set_option maxHeartbeats 4000000
theorem aR {α:Type}(l:List α) : (((List.length l:Nat) :Int) == (0:Int)) =decide (l.length=0) :=by cases l<;>simp;omega
def bL (f n:Int)(t:aC)(ps:List Pat) :Bool:=
 if f=1∨f=5 then decide (ps.length=0) &&decide (n=0) &&decide (t= [])
 else if f=2 then decide (ps.length=0) &&decide (n=0) &&eT t
 else if f=3 then decide (ps.length=0) &&decide (t= []) &&bR n (-1000000000) 1000000000
 else if f=4 then decide (ps.length=0) &&decide (t= []) &&bR n 0 1
 else if f=6 then decide ((ps.length:Int) ≤3) &&decide (n=0) &&cG t
 else false
mutual
def aAX :Pat→Bool
 | .mk f n t ps=>bL f n t ps&&sR ps
def sR :List Pat→Bool
 | [] =>true
 |p::ps=>aAX p&&sR ps
end
mutual
def hI :Pat→List aC
 | .mk f _ t ps=>if f=2 then [t]else fV ps
def fV :List Pat→List aC
 | [] =>[]
 |p::ps=>hI p++fV ps
end
mutual
theorem xW :∀p,(hI p).length≤aQ p
 | .mk f _ t ps=>by
  have:=uU ps;rw [hI,aQ];split
  ·simp
  ·omega
theorem uU :∀ps,(fV ps).length≤aM ps
 | [] =>by simp [fV]
 | p::ps=>by
  have:=xW p;have:=uU ps;simp only [fV,aM,List.length_append];omega
end
theorem aHA (f n:Int)(s:aC)(ps:List Pat)(hl:ps.length<1000000)(ih:∀p∈ps,Pure PP 186 [Pat.av p] (.ilst 1 (List.map aA (hI p)) false)) :
  ∀ (t:List Pat) (i:Nat) (acc:List aC),ps.drop i=t→ (acc++fV t).length≤1000000→Ends PP 0 (aFM f n s ps (i:Int) acc).as (.ret (.ilst 1 (List.map aA (acc++fV t)) false)) (aG [] 0)
 | [],i,acc,h,hb=>by
  have:=bA h;rw [fV,List.append_nil];exact aUo f n s ps i acc sd
 | .mk f' n' s' ps'::t,i,acc,h,hb=>by
  obtain⟨g1,g2,g3⟩ :=aZ h;rw [fV,←List.append_assoc]at hb ⊢;refine(aUn f n s ps i acc f' n' s' ps' (hI (.mk f' n' s' ps')) sd sd sd (ih _ (List.mem_of_getElem? g1)) (by simp at hb ⊢;omega) sd).ends ?_;exact aHA f n s ps hl ih t (i+1) _ g2 hb
mutual
theorem aCY :∀ (p:Pat),aQ p≤1000→Pure PP 186 [Pat.av p] (.ilst 1 (List.map aA (hI p)) false)
 | .mk f n s ps,h=>by
  refine cB (s:=bB3 f n s ps) (by kernel_rfl) (by kernel_rfl) (by simp [AV.keylessL,eE]) (by simp [AV.keyless]) ?_;simp only [aQ]at h;have:=bK ps;have:=uU ps;rw [hI];by_cases hf:f=2
  · rw [if_pos hf];exact aUl f n s ps (by simp [hf])
  · rw [if_neg hf];exact(aUm f n s ps (by simp [hf])).ends (aHA f n s ps (by omega) (aKN ps (by omega)) ps 0 [] rfl (by simp;omega))
theorem aKN :∀ (ps:List Pat),aM ps≤1000→∀p∈ps,Pure PP 186 [Pat.av p] (.ilst 1 (List.map aA (hI p)) false)
 | [],_,p,hp=>by cases hp
 | q::ps,h,p,hp=>by
  simp only [aM]at h;rcases List.mem_cons.1 hp with e|hp
  ·rw [e];exact aCY q (by omega)
  ·exact aKN ps (by omega) p hp
end
theorem bE9 (q_form q_n:Int)(q_text:aC)(q_parts:List Pat)(b:Bool)(hk:∀i:Bool,i=bL q_form q_n q_text q_parts→Ends PP 0 (eU q_form q_n q_text q_parts i 0).as (.ret (.bool b)) (aG [] 0)) :
  Ends PP 0 (start PP 189 [Pat.av (.mk q_form q_n q_text q_parts)]).as (.ret (.bool b)) (aG [] 0) :=by
 cases hb1: (q_form== (1:Int))with
 | true=>
  cases hb2: (((List.length q_parts:Nat) :Int) == (0:Int))with
  | true=>
   cases hb3: (q_n== (0:Int))with
   | true=>
    exact LeadsM.ends (aUp q_form q_n q_text q_parts   hb1 hb2 hb3) (hk _ (by clear hk;simp_all [bL,aD,aR] <;>intros<;>omega))
   | false=>
    exact LeadsM.ends (aUq q_form q_n q_text q_parts   hb1 hb2 hb3) (hk _ (by clear hk;simp_all [bL,aD,aR] <;>intros<;>omega))
  | false=>
   exact LeadsM.ends (aUr q_form q_n q_text q_parts   hb1 hb2) (hk _ (by clear hk;simp_all [bL,aD,aR] <;>intros<;>omega))
 | false =>
  cases hb4: (q_form== (5:Int))with
  | true=>
   cases hb5: (((List.length q_parts:Nat) :Int) == (0:Int))with
   | true=>
    cases hb6: (q_n== (0:Int))with
    | true=>
     exact LeadsM.ends (aUs q_form q_n q_text q_parts   hb1 hb4 hb5 hb6) (hk _ (by clear hk;simp_all [bL,aD,aR] <;>intros<;>omega))
    | false=>
     exact LeadsM.ends (aUt q_form q_n q_text q_parts   hb1 hb4 hb5 hb6) (hk _ (by clear hk;simp_all [bL,aD,aR] <;>intros<;>omega))
   | false=>
    exact LeadsM.ends (aUu q_form q_n q_text q_parts   hb1 hb4 hb5) (hk _ (by clear hk;simp_all [bL,aD,aR] <;>intros<;>omega))
  | false =>
   cases hb7: (q_form== (2:Int))with
   | true=>
    cases hb8: (((List.length q_parts:Nat) :Int) == (0:Int))with
    | true=>
     cases hb9: (q_n== (0:Int))with
     | true=>
      exact LeadsM.ends (aUv q_form q_n q_text q_parts  (eT q_text) hb1 hb4 hb7 hb8 hb9 (mG q_text)) (hk _ (by clear hk;simp_all [bL,aD,aR] <;>intros<;>omega))
     | false=>
      exact LeadsM.ends (aUw q_form q_n q_text q_parts   hb1 hb4 hb7 hb8 hb9) (hk _ (by clear hk;simp_all [bL,aD,aR] <;>intros<;>omega))
    | false=>
     exact LeadsM.ends (aUx q_form q_n q_text q_parts   hb1 hb4 hb7 hb8) (hk _ (by clear hk;simp_all [bL,aD,aR] <;>intros<;>omega))
   | false=>
    cases hb10: (q_form== (3:Int))with
    | true=>
     cases hb11: (((List.length q_parts:Nat) :Int) == (0:Int))with
     | true=>
      cases hb12: (aU (List.length q_text) (aE q_text) 0 0)with
      | true=>
       exact LeadsM.ends (aUy q_form q_n q_text q_parts  (bR q_n (-1000000000) 1000000000) hb1 hb4 hb7 hb10 hb11 hb12 (fZ q_n (-1000000000) 1000000000)) (hk _ (by clear hk;simp_all [bL,aD,aR] <;>intros<;>omega))
      | false=>
       exact LeadsM.ends (aOR q_form q_n q_text q_parts   hb1 hb4 hb7 hb10 hb11 hb12) (hk _ (by clear hk;simp_all [bL,aD,aR] <;>intros<;>omega))
     | false=>
      exact LeadsM.ends (aOS q_form q_n q_text q_parts   hb1 hb4 hb7 hb10 hb11) (hk _ (by clear hk;simp_all [bL,aD,aR] <;>intros<;>omega))
    | false=>
     cases hb13: (q_form== (4:Int))with
     | true=>
      cases hb14: (((List.length q_parts:Nat) :Int) == (0:Int))with
      | true=>
       cases hb15: (aU (List.length q_text) (aE q_text) 0 0)with
       | true=>
        exact LeadsM.ends (aOT q_form q_n q_text q_parts  (bR q_n 0 1) hb1 hb4 hb7 hb10 hb13 hb14 hb15 (fZ q_n 0 1)) (hk _ (by clear hk;simp_all [bL,aD,aR] <;>intros<;>omega))
       | false=>
        exact LeadsM.ends (aOU q_form q_n q_text q_parts   hb1 hb4 hb7 hb10 hb13 hb14 hb15) (hk _ (by clear hk;simp_all [bL,aD,aR] <;>intros<;>omega))
      | false=>
       exact LeadsM.ends (aOV q_form q_n q_text q_parts   hb1 hb4 hb7 hb10 hb13 hb14) (hk _ (by clear hk;simp_all [bL,aD,aR] <;>intros<;>omega))
     | false=>
      cases hb16: (q_form== (6:Int))with
      | true=>
       cases hb17: (decide (((List.length q_parts:Nat) :Int) ≤ (3:Int)))with
       | true=>
        cases hb18: (q_n== (0:Int))with
        | true=>
         exact LeadsM.ends (aOW q_form q_n q_text q_parts  (cG q_text) hb1 hb4 hb7 hb10 hb13 hb16 hb17 hb18 (mC q_text)) (hk _ (by clear hk;simp_all [bL,aD,aR] <;>intros<;>omega))
        | false=>
         exact LeadsM.ends (aOX q_form q_n q_text q_parts   hb1 hb4 hb7 hb10 hb13 hb16 hb17 hb18) (hk _ (by clear hk;simp_all [bL,aD,aR] <;>intros<;>omega))
       | false=>
        exact LeadsM.ends (aOY q_form q_n q_text q_parts   hb1 hb4 hb7 hb10 hb13 hb16 hb17) (hk _ (by clear hk;simp_all [bL,aD,aR] <;>intros<;>omega))
      | false=>
       exact LeadsM.ends (aOZ q_form q_n q_text q_parts   hb1 hb4 hb7 hb10 hb13 hb16) (hk _ (by clear hk;simp_all [bL,aD,aR] <;>intros<;>omega))
theorem aHB (f n:Int)(s:aC)(ps:List Pat)(hl:ps.length<1000000)(ih:∀p∈ps,Pure PP 189 [Pat.av p] (.bool (aAX p))) :
  ∀ (t:List Pat) (i:Nat) (b:Bool),ps.drop i=t→Ends PP 0 (eU f n s ps b (i:Int)).as (.ret (.bool (b&&sR t))) (aG [] 0)
 | [],i,b,h=>by
  have:=bA h;exact Ends.eqv (aUB f n s ps b i sd) (by simp [sR])
 | .mk f' n' s' ps'::t,i,b,h=>by
  obtain⟨g1,g2,g3⟩ :=aZ h;cases b with
  |false=>exact Ends.eqv (aUA f n s ps false i sd rfl) (by simp)
  | true=>
   refine(aUz f n s ps true i f' n' s' ps' (aAX (.mk f' n' s' ps')) sd rfl sd sd (ih _ (List.mem_of_getElem? g1)) sd).ends ?_;exact Ends.eqv (aHB f n s ps hl ih t (i+1) _ g2) (by simp [sR])
mutual
theorem aHC :∀ (p:Pat),aQ p<1000000→Pure PP 189 [Pat.av p] (.bool (aAX p))
 | .mk f n s ps,h=>by
  refine aV (by kernel_rfl) (by simp [AV.keylessL,eE]) rfl ?_;simp only [aQ]at h;have:=bK ps;refine bE9 f n s ps _ (fun i hi=>?_);rw [hi,aAX];exact aHB f n s ps (by omega) (aKO ps (by omega)) ps 0 _ rfl
theorem aKO :∀ (ps:List Pat),aM ps<1000000→∀p∈ps,Pure PP 189 [Pat.av p] (.bool (aAX p))
 | [],_,p,hp=>by cases hp
 | q::ps,h,p,hp=>by
  simp only [aM]at h;rcases List.mem_cons.1 hp with e|hp
  ·rw [e];exact aHC q (by omega)
  ·exact aKO ps (by omega) p hp
end
def wA (p:Pat) :Bool:=decide (aQ p≤12) &&aAX p&&eK (hI p)
theorem aPn (p:Pat) :Pure PP 123 [Pat.av p] (.bool (wA p)) :=by
 obtain⟨f,n,s,ps⟩ :=p;refine aV (by kernel_rfl) (by simp [AV.keylessL,eE]) rfl ?_;have hw:=uQ (.mk f n s ps) 12 (by omega) (by omega);have hi:=aAU (.mk f n s ps) 12;unfold wA;by_cases h12:aQ (.mk f n s ps) ≤12
 · have hge:decide (mD (.mk f n s ps) 12≥ (0:Int)) =true:=by simp;exact hi.2 (by omega)
   have hp:=aHC (.mk f n s ps) (by omega);cases hf:aAX (.mk f n s ps)with
   | true=>
    rw [hf]at hp;have hn:=xW (.mk f n s ps);exact Ends.eqv (aUC f n s ps _ true _ _ hw hge hp rfl (aCY (.mk f n s ps) (by omega)) (sA _ (by omega))) (by simp [h12])
   | false=>
    rw [hf]at hp;exact Ends.eqv (aUD f n s ps _ false hw hge hp rfl) (by simp)
 ·exact Ends.eqv (aUE f n s ps _ hw (by simp;omega)) (by simp [h12])
end Go.Hb
namespace Go.Hb
open Go.Proofs
noncomputable section
open Go.Proofs Tryz
def aFN(a b:Int)(c:aC)(d:List Term)(e:List Pat)(j f g i:Int):TS:=⟨(tf 57 37 [(1,(nI g)),(2,(nI f)),kp 3 0,(6,(nI 0)),(7,(nI i))] [kc f57 244,kl f57 244,.inBlock 0,kc f57 31]),[],[oC 0 [(nI a),(nI b),(aA c),(.ilst 5 (Terms.av d) false),(iP e)]],1⟩
def aFO(a b:Int)(c:aC)(d:List Term)(e:List Pat)(f:Int):TS:=⟨(tf 63 36 [kp 1 0,(2,(bV false)),(3,(nI f))] [kc f63 116,kl f63 116,.inBlock 0,kc f63 15]),[],[oC 0 [(nI a),(nI b),(aA c),(.ilst 5 (Terms.av d) false),(iP e)]],1⟩
def aFP(a b:Int)(c:aC)(d:List Term)(e:List Pat)(f:Int):TS:=⟨(tf 63 36 [kp 1 0,(2,(bV false)),(4,(nI f))] [kc f63 244,kl f63 244,.inBlock 2,kc f63 31]),[],[oC 0 [(nI a),(nI b),(aA c),(.ilst 5 (Terms.av d) false),(iP e)]],1⟩
def aPo(c d:Int)(e:aC)(f:List Term)(g:List Pat)(a b:Int):=tT 0 (start PP 57 [(.agg [(nI c),(nI d),(aA e),(.ilst 5 (Terms.av f) false),(iP g)]),(nI a),(nI b)])<|gd 11 10 (a<1) (gE 10 1 (nI (-1)))<|gd 4 13 (b<1) (gE 6 1 (nI (-1)))<|gw 6 15 (a-1)<|.W 9 1 [0] (aFN c d e f g a b (a-1) 0)
def aUX:=fun a b c d e f g i=>aPo a b c d e f g|>.t i tv
def aUY:=fun a b c d e f g i j=>aPo a b c d e f g|>.f i|>.t j tv
def aUZ:=fun a b c d e f g i j k=>aPo a b c d e f g|>.f i|>.f j k tv
def aPp(e f:Int)(g:aC)(a:List Term)(i:List Pat)(j d b c:Int):=tT 0 (aFN e f g a i j d b c)<|gm 6 bG a<|gd 2 21 (c< (a.length:Int)) (gd 4 24 (b≥0) (aCR 8 a c<|fun k l m n o=>gw 4 34 (d-1)<|gpI 0 57 [(.agg [(nI k),(nI l),(aA m),(.ilst 5 (Terms.av n) false),(iP o)]),(nI b),(nI (d-1))]<|fun p=>gw 6 26 (c+1)<|.W 3 1 [0] (aFN e f g a i j d p (c+1)))<|gE 8 1 (nI b))<|gE 12 1 (nI b)
def aU0:=fun a b c d e f g i j k l m n o p q r s t u v w=>aPp a b c d e f g i j|>.t q|>.t r k l m n o s t u p v w tv
def aU1:=fun a b c d e f g i j k l=>aPp a b c d e f g i j|>.t k|>.f l tv
def aU2:=fun a b c d e f g i j k=>aPp a b c d e f g i j|>.f k tv
def uV(g e:Int)(b:aC)(i:List Term)(a:List Pat)(f d c:Bool):=tT 0 (start PP 188 [(.agg [(nI g),(nI e),(aA b),(.ilst 5 (Terms.av i) false),(iP a)]),(bV f),(bV d),(bV c)])<|.b 9 10 f (.b 7 17 d (.b 8 25 c (gE 9 1 (bV true))<|gm 2 aH a<|gE 6 1 (bV ((a.length:Int) ==0)))<|.b 6 23 (aU b.length (aE b) 0 0) (.b 2 25 c (gE 9 1 (bV true))<|gm 2 aH a<|gE 6 1 (bV ((a.length:Int) ==0)))<|gE 11 1 (bV false))<|.b 5 15 (e==0) (.b 2 17 d (.b 8 25 c (gE 9 1 (bV true))<|gm 2 aH a<|gE 6 1 (bV ((a.length:Int) ==0)))<|.b 6 23 (aU b.length (aE b) 0 0) (.b 2 25 c (gE 9 1 (bV true))<|gm 2 aH a<|gE 6 1 (bV ((a.length:Int) ==0)))<|gE 11 1 (bV false))<|gE 19 1 (bV false)
def aU3:=fun a b c d e f g i j k l=>uV a b c d e f g i|>.t j|>.t k|>.t l tv
def aU4:=fun a b c d e f g i j k l=>uV a b c d e f g i|>.t j|>.t k|>.f l tv
def aU5:=fun a b c d e f g i j k l m=>uV a b c d e f g i|>.t j|>.f k|>.t l|>.t m tv
def aU6:=fun a b c d e f g i j k l m=>uV a b c d e f g i|>.t j|>.f k|>.t l|>.f m tv
def aU7:=fun a b c d e f g i j k l=>uV a b c d e f g i|>.t j|>.f k|>.f l tv
def aU8:=fun a b c d e f g i j k l m=>uV a b c d e f g i|>.f j|>.t k|>.t l|>.t m tv
def aU9:=fun a b c d e f g i j k l m=>uV a b c d e f g i|>.f j|>.t k|>.t l|>.f m tv
def aVa:=fun a b c d e f g i j k l m n=>uV a b c d e f g i|>.f j|>.t k|>.f l|>.t m|>.t n tv
def aVb:=fun a b c d e f g i j k l m n=>uV a b c d e f g i|>.f j|>.t k|>.f l|>.t m|>.f n tv
def aVc:=fun a b c d e f g i j k l m=>uV a b c d e f g i|>.f j|>.t k|>.f l|>.f m tv
def aPq:=fun a b c d e f g i j k=>uV a b c d e f g i|>.f j|>.f k tv
def bI(b f:Int)(d:aC)(a:List Term)(e:List Pat):=tT 0 (start PP 122 [(.agg [(nI b),(nI f),(aA d),(.ilst 5 (Terms.av a) false),(iP e)])])<|gm 9 bG a<|.b 14 9 (b==1) (.b 6 13 ((a.length:Int) ==0) (dG 1 188 [(.agg [(nI b),(nI f),(aA d),(.ilst 5 (Terms.av a) false),(iP e)]),(bV true),(bV false),(bV false)]<|fun c=>.b 2 17 c (dG 2 60 [(nI f),(nI (-1000000000)),(nI 1000000000)]<|fun g=>gE 4 1 (bV g))<|gE 7 1 (bV false))<|gE 11 1 (bV false))<|.b 6 22 (b==2) (.b 6 26 ((a.length:Int) ==0) (dG 1 188 [(.agg [(nI b),(nI f),(aA d),(.ilst 5 (Terms.av a) false),(iP e)]),(bV true),(bV false),(bV false)]<|fun c=>.b 2 30 c (dG 2 60 [(nI f),(nI 0),(nI 1)]<|fun g=>gE 4 1 (bV g))<|gE 7 1 (bV false))<|gE 11 1 (bV false))<|.b 7 35 (b==3) (.b 8 42 ((a.length:Int) ==0) (dG 1 188 [(.agg [(nI b),(nI f),(aA d),(.ilst 5 (Terms.av a) false),(iP e)]),(bV false),(bV false),(bV false)]<|fun c=>gE 4 1 (bV c))<|gE 6 1 (bV false))<|.b 6 35 (b==21) (.b 8 42 ((a.length:Int) ==0) (dG 1 188 [(.agg [(nI b),(nI f),(aA d),(.ilst 5 (Terms.av a) false),(iP e)]),(bV false),(bV false),(bV false)]<|fun c=>gE 4 1 (bV c))<|gE 6 1 (bV false))<|.b 6 35 (b==25) (.b 8 42 ((a.length:Int) ==0) (dG 1 188 [(.agg [(nI b),(nI f),(aA d),(.ilst 5 (Terms.av a) false),(iP e)]),(bV false),(bV false),(bV false)]<|fun c=>gE 4 1 (bV c))<|gE 6 1 (bV false))<|.b 5 35 (b==28) (.b 6 42 ((a.length:Int) ==0) (dG 1 188 [(.agg [(nI b),(nI f),(aA d),(.ilst 5 (Terms.av a) false),(iP e)]),(bV false),(bV false),(bV false)]<|fun c=>gE 4 1 (bV c))<|gE 6 1 (bV false))<|.b 6 46 (b==4) (.b 6 50 ((a.length:Int) ==0) (dG 1 188 [(.agg [(nI b),(nI f),(aA d),(.ilst 5 (Terms.av a) false),(iP e)]),(bV false),(bV true),(bV false)]<|fun c=>.b 2 54 c (dG 2 59 [(aA d)]<|fun g=>gE 4 1 (bV g))<|gE 7 1 (bV false))<|gE 11 1 (bV false))<|.b 7 59 (b==5) (.b 8 64 ((a.length:Int) ==1) (dG 1 188 [(.agg [(nI b),(nI f),(aA d),(.ilst 5 (Terms.av a) false),(iP e)]),(bV false),(bV true),(bV false)]<|fun c=>.b 2 68 c (dG 2 59 [(aA d)]<|fun g=>gE 4 1 (bV g))<|gE 7 1 (bV false))<|gE 11 1 (bV false))<|.b 5 59 (b==27) (.b 6 64 ((a.length:Int) ==1) (dG 1 188 [(.agg [(nI b),(nI f),(aA d),(.ilst 5 (Terms.av a) false),(iP e)]),(bV false),(bV true),(bV false)]<|fun c=>.b 2 68 c (dG 2 59 [(aA d)]<|fun g=>gE 4 1 (bV g))<|gE 7 1 (bV false))<|gE 11 1 (bV false))<|.b 6 73 (b==7) (.b 6 77 ((a.length:Int) ==2) (dG 1 188 [(.agg [(nI b),(nI f),(aA d),(.ilst 5 (Terms.av a) false),(iP e)]),(bV false),(bV true),(bV false)]<|fun c=>.b 2 81 c (dG 2 59 [(aA d)]<|fun g=>gE 4 1 (bV g))<|gE 7 1 (bV false))<|gE 11 1 (bV false))<|.b 6 86 (b==8) (.b 6 90 ((a.length:Int) ==3) (dG 1 188 [(.agg [(nI b),(nI f),(aA d),(.ilst 5 (Terms.av a) false),(iP e)]),(bV false),(bV false),(bV false)]<|fun c=>gE 4 1 (bV c))<|gE 6 1 (bV false))<|.b 6 94 (b==14) (gd 6 98 ((a.length:Int) ≤3) (dG 1 188 [(.agg [(nI b),(nI f),(aA d),(.ilst 5 (Terms.av a) false),(iP e)]),(bV false),(bV true),(bV false)]<|fun c=>.b 2 102 c (dG 2 120 [(aA d)]<|fun g=>gE 4 1 (bV g))<|gE 7 1 (bV false))<|gE 11 1 (bV false))<|.b 6 107 (b==15) (gm 5 aH e<|dG 0 60 [(nI (e.length:Int)),(nI 1),(nI 5)]<|fun c=>.b 1 113 c (gm 3 aH e<|gw 1 118 (1+ (e.length:Int))<|.b 3 121 ((a.length:Int) == (1+ (e.length:Int))) (dG 1 188 [(.agg [(nI b),(nI f),(aA d),(.ilst 5 (Terms.av a) false),(iP e)]),(bV false),(bV false),(bV true)]<|fun g=>gE 4 1 (bV g))<|gE 6 1 (bV false))<|gE 14 1 (bV false))<|.b 7 125 (b==16) (.b 8 134 ((a.length:Int) ==1) (dG 1 188 [(.agg [(nI b),(nI f),(aA d),(.ilst 5 (Terms.av a) false),(iP e)]),(bV false),(bV false),(bV false)]<|fun c=>gE 4 1 (bV c))<|gE 6 1 (bV false))<|.b 6 125 (b==17) (.b 8 134 ((a.length:Int) ==1) (dG 1 188 [(.agg [(nI b),(nI f),(aA d),(.ilst 5 (Terms.av a) false),(iP e)]),(bV false),(bV false),(bV false)]<|fun c=>gE 4 1 (bV c))<|gE 6 1 (bV false))<|.b 6 125 (b==19) (.b 8 134 ((a.length:Int) ==1) (dG 1 188 [(.agg [(nI b),(nI f),(aA d),(.ilst 5 (Terms.av a) false),(iP e)]),(bV false),(bV false),(bV false)]<|fun c=>gE 4 1 (bV c))<|gE 6 1 (bV false))<|.b 6 125 (b==20) (.b 8 134 ((a.length:Int) ==1) (dG 1 188 [(.agg [(nI b),(nI f),(aA d),(.ilst 5 (Terms.av a) false),(iP e)]),(bV false),(bV false),(bV false)]<|fun c=>gE 4 1 (bV c))<|gE 6 1 (bV false))<|.b 6 125 (b==23) (.b 8 134 ((a.length:Int) ==1) (dG 1 188 [(.agg [(nI b),(nI f),(aA d),(.ilst 5 (Terms.av a) false),(iP e)]),(bV false),(bV false),(bV false)]<|fun c=>gE 4 1 (bV c))<|gE 6 1 (bV false))<|.b 5 125 (b==26) (.b 6 134 ((a.length:Int) ==1) (dG 1 188 [(.agg [(nI b),(nI f),(aA d),(.ilst 5 (Terms.av a) false),(iP e)]),(bV false),(bV false),(bV false)]<|fun c=>gE 4 1 (bV c))<|gE 6 1 (bV false))<|.b 6 138 (b==24) (.b 6 142 ((a.length:Int) ==1) (dG 1 188 [(.agg [(nI b),(nI f),(aA d),(.ilst 5 (Terms.av a) false),(iP e)]),(bV true),(bV false),(bV false)]<|fun c=>.b 2 146 c (dG 2 60 [(nI f),(nI 0),(nI 3)]<|fun g=>gE 4 1 (bV g))<|gE 7 1 (bV false))<|gE 11 1 (bV false))<|.b 7 151 (b==6) (.b 8 162 ((a.length:Int) ==2) (dG 1 188 [(.agg [(nI b),(nI f),(aA d),(.ilst 5 (Terms.av a) false),(iP e)]),(bV false),(bV false),(bV false)]<|fun c=>gE 4 1 (bV c))<|gE 6 1 (bV false))<|.b 6 151 (b==9) (.b 8 162 ((a.length:Int) ==2) (dG 1 188 [(.agg [(nI b),(nI f),(aA d),(.ilst 5 (Terms.av a) false),(iP e)]),(bV false),(bV false),(bV false)]<|fun c=>gE 4 1 (bV c))<|gE 6 1 (bV false))<|.b 6 151 (b==10) (.b 8 162 ((a.length:Int) ==2) (dG 1 188 [(.agg [(nI b),(nI f),(aA d),(.ilst 5 (Terms.av a) false),(iP e)]),(bV false),(bV false),(bV false)]<|fun c=>gE 4 1 (bV c))<|gE 6 1 (bV false))<|.b 6 151 (b==11) (.b 8 162 ((a.length:Int) ==2) (dG 1 188 [(.agg [(nI b),(nI f),(aA d),(.ilst 5 (Terms.av a) false),(iP e)]),(bV false),(bV false),(bV false)]<|fun c=>gE 4 1 (bV c))<|gE 6 1 (bV false))<|.b 6 151 (b==12) (.b 8 162 ((a.length:Int) ==2) (dG 1 188 [(.agg [(nI b),(nI f),(aA d),(.ilst 5 (Terms.av a) false),(iP e)]),(bV false),(bV false),(bV false)]<|fun c=>gE 4 1 (bV c))<|gE 6 1 (bV false))<|.b 6 151 (b==13) (.b 8 162 ((a.length:Int) ==2) (dG 1 188 [(.agg [(nI b),(nI f),(aA d),(.ilst 5 (Terms.av a) false),(iP e)]),(bV false),(bV false),(bV false)]<|fun c=>gE 4 1 (bV c))<|gE 6 1 (bV false))<|.b 6 151 (b==18) (.b 8 162 ((a.length:Int) ==2) (dG 1 188 [(.agg [(nI b),(nI f),(aA d),(.ilst 5 (Terms.av a) false),(iP e)]),(bV false),(bV false),(bV false)]<|fun c=>gE 4 1 (bV c))<|gE 6 1 (bV false))<|.b 5 151 (b==22) (.b 6 162 ((a.length:Int) ==2) (dG 1 188 [(.agg [(nI b),(nI f),(aA d),(.ilst 5 (Terms.av a) false),(iP e)]),(bV false),(bV false),(bV false)]<|fun c=>gE 4 1 (bV c))<|gE 6 1 (bV false))<|gE 8 1 (bV false)
def aVd:=fun a b c d e f g i j k l m=>bI a b c d e|>.t i|>.t j f k|>.t l g m tv
def aVe:=fun a b c d e f g i j k=>bI a b c d e|>.t g|>.t i f j|>.f k tv
def aVf:=fun a b c d e f g=>bI a b c d e|>.t f|>.f g tv
def aVg:=fun a b c d e f g i j k l m n=>bI a b c d e|>.f i|>.t j|>.t k f l|>.t m g n tv
def aVh:=fun a b c d e f g i j k l=>bI a b c d e|>.f g|>.t i|>.t j f k|>.f l tv
def aVi:=fun a b c d e f g i=>bI a b c d e|>.f f|>.t g|>.f i tv
def aVj:=fun a b c d e f g i j k l=>bI a b c d e|>.f g|>.f i|>.t j|>.t k f l tv
def aVk:=fun a b c d e f g i j=>bI a b c d e|>.f f|>.f g|>.t i|>.f j tv
def aVl:=fun a b c d e f g i j k l m=>bI a b c d e|>.f g|>.f i|>.f j|>.t k|>.t l f m tv
def aVm:=fun a b c d e f g i j k=>bI a b c d e|>.f f|>.f g|>.f i|>.t j|>.f k tv
def aPr:=fun a b c d e f g i j k l m n=>bI a b c d e|>.f g|>.f i|>.f j|>.f k|>.t l|>.t m f n tv
def aPs:=fun a b c d e f g i j k l=>bI a b c d e|>.f f|>.f g|>.f i|>.f j|>.t k|>.f l tv
def aPt:=fun a b c d e f g i j k l m n o=>bI a b c d e|>.f g|>.f i|>.f j|>.f k|>.f l|>.t m|>.t n f o tv
def aPu:=fun a b c d e f g i j k l m=>bI a b c d e|>.f f|>.f g|>.f i|>.f j|>.f k|>.t l|>.f m tv
def aPv:=fun a b c d e f g i j k l m n o p q r s=>bI a b c d e|>.f i|>.f j|>.f k|>.f l|>.f m|>.f n|>.t o|>.t p f q|>.t r g s tv
def aPw:=fun a b c d e f g i j k l m n o p q=>bI a b c d e|>.f g|>.f i|>.f j|>.f k|>.f l|>.f m|>.t n|>.t o f p|>.f q tv
def aPx:=fun a b c d e f g i j k l m n=>bI a b c d e|>.f f|>.f g|>.f i|>.f j|>.f k|>.f l|>.t m|>.f n tv
def aPy:=fun a b c d e f g i j k l m n o p q r s t=>bI a b c d e|>.f i|>.f j|>.f k|>.f l|>.f m|>.f n|>.f o|>.t p|>.t q f r|>.t s g t tv
def aPz:=fun a b c d e f g i j k l m n o p q r=>bI a b c d e|>.f g|>.f i|>.f j|>.f k|>.f l|>.f m|>.f n|>.t o|>.t p f q|>.f r tv
def aPA:=fun a b c d e f g i j k l m n o=>bI a b c d e|>.f f|>.f g|>.f i|>.f j|>.f k|>.f l|>.f m|>.t n|>.f o tv
def aPB:=fun a b c d e f g i j k l m n o p q r s t u=>bI a b c d e|>.f i|>.f j|>.f k|>.f l|>.f m|>.f n|>.f o|>.f p|>.t q|>.t r f s|>.t t g u tv
def aPC:=fun a b c d e f g i j k l m n o p q r s=>bI a b c d e|>.f g|>.f i|>.f j|>.f k|>.f l|>.f m|>.f n|>.f o|>.t p|>.t q f r|>.f s tv
def aPD:=fun a b c d e f g i j k l m n o p=>bI a b c d e|>.f f|>.f g|>.f i|>.f j|>.f k|>.f l|>.f m|>.f n|>.t o|>.f p tv
def aPE:=fun a b c d e f g i j k l m n o p q r s t u v=>bI a b c d e|>.f i|>.f j|>.f k|>.f l|>.f m|>.f n|>.f o|>.f p|>.f q|>.t r|>.t s f t|>.t u g v tv
def aPF:=fun a b c d e f g i j k l m n o p q r s t=>bI a b c d e|>.f g|>.f i|>.f j|>.f k|>.f l|>.f m|>.f n|>.f o|>.f p|>.t q|>.t r f s|>.f t tv
def aPG:=fun a b c d e f g i j k l m n o p q=>bI a b c d e|>.f f|>.f g|>.f i|>.f j|>.f k|>.f l|>.f m|>.f n|>.f o|>.t p|>.f q tv
def aPH:=fun a b c d e f g i j k l m n o p q r s t=>bI a b c d e|>.f g|>.f i|>.f j|>.f k|>.f l|>.f m|>.f n|>.f o|>.f p|>.f q|>.t r|>.t s f t tv
def aPI:=fun a b c d e f g i j k l m n o p q r=>bI a b c d e|>.f f|>.f g|>.f i|>.f j|>.f k|>.f l|>.f m|>.f n|>.f o|>.f p|>.t q|>.f r tv
def aPJ:=fun a b c d e f g i j k l m n o p q r s t u v w x=>bI a b c d e|>.f i|>.f j|>.f k|>.f l|>.f m|>.f n|>.f o|>.f p|>.f q|>.f r|>.f s|>.t t|>.t u f v|>.t w g x tv
def aPK:=fun a b c d e f g i j k l m n o p q r s t u v=>bI a b c d e|>.f g|>.f i|>.f j|>.f k|>.f l|>.f m|>.f n|>.f o|>.f p|>.f q|>.f r|>.t s|>.t t f u|>.f v tv
def aPL:=fun a b c d e f g i j k l m n o p q r s=>bI a b c d e|>.f f|>.f g|>.f i|>.f j|>.f k|>.f l|>.f m|>.f n|>.f o|>.f p|>.f q|>.t r|>.f s tv
def aPM:=fun a b c d e f g i j k l m n o p q r s t u v w x y z=>bI a b c d e|>.f i|>.f j|>.f k|>.f l|>.f m|>.f n|>.f o|>.f p|>.f q|>.f r|>.f s|>.f t|>.t u f v|>.t w x|>.t y g z tv
def aPN:=fun a b c d e f g i j k l m n o p q r s t u v w x=>bI a b c d e|>.f g|>.f i|>.f j|>.f k|>.f l|>.f m|>.f n|>.f o|>.f p|>.f q|>.f r|>.f s|>.t t f u|>.t v w|>.f x tv
def aPO:=fun a b c d e f g i j k l m n o p q r s t u v=>bI a b c d e|>.f g|>.f i|>.f j|>.f k|>.f l|>.f m|>.f n|>.f o|>.f p|>.f q|>.f r|>.f s|>.t t f u|>.f v tv
def aPP:=fun a b c d e f g i j k l m n o p q r s t u v w=>bI a b c d e|>.f g|>.f i|>.f j|>.f k|>.f l|>.f m|>.f n|>.f o|>.f p|>.f q|>.f r|>.f s|>.f t|>.t u|>.t v f w tv
def aPQ:=fun a b c d e f g i j k l m n o p q r s t u=>bI a b c d e|>.f f|>.f g|>.f i|>.f j|>.f k|>.f l|>.f m|>.f n|>.f o|>.f p|>.f q|>.f r|>.f s|>.t t|>.f u tv
def aPR:=fun a b c d e f g i j k l m n o p q r s t u v w x=>bI a b c d e|>.f g|>.f i|>.f j|>.f k|>.f l|>.f m|>.f n|>.f o|>.f p|>.f q|>.f r|>.f s|>.f t|>.f u|>.t v|>.t w f x tv
def aPS:=fun a b c d e f g i j k l m n o p q r s t u v=>bI a b c d e|>.f f|>.f g|>.f i|>.f j|>.f k|>.f l|>.f m|>.f n|>.f o|>.f p|>.f q|>.f r|>.f s|>.f t|>.t u|>.f v tv
def aPT:=fun a b c d e f g i j k l m n o p q r s t u v w x y=>bI a b c d e|>.f g|>.f i|>.f j|>.f k|>.f l|>.f m|>.f n|>.f o|>.f p|>.f q|>.f r|>.f s|>.f t|>.f u|>.f v|>.t w|>.t x f y tv
def aPU:=fun a b c d e f g i j k l m n o p q r s t u v w=>bI a b c d e|>.f f|>.f g|>.f i|>.f j|>.f k|>.f l|>.f m|>.f n|>.f o|>.f p|>.f q|>.f r|>.f s|>.f t|>.f u|>.t v|>.f w tv
def aPV:=fun a b c d e f g i j k l m n o p q r s t u v w x y z=>bI a b c d e|>.f g|>.f i|>.f j|>.f k|>.f l|>.f m|>.f n|>.f o|>.f p|>.f q|>.f r|>.f s|>.f t|>.f u|>.f v|>.f w|>.t x|>.t y f z tv
def aPW:=fun a b c d e f g i j k l m n o p q r s t u v w x=>bI a b c d e|>.f f|>.f g|>.f i|>.f j|>.f k|>.f l|>.f m|>.f n|>.f o|>.f p|>.f q|>.f r|>.f s|>.f t|>.f u|>.f v|>.t w|>.f x tv
def aPX:=fun a b c d e f g i j k l m n o p q r s t u v w x y z A=>bI a b c d e|>.f g|>.f i|>.f j|>.f k|>.f l|>.f m|>.f n|>.f o|>.f p|>.f q|>.f r|>.f s|>.f t|>.f u|>.f v|>.f w|>.f x|>.t y|>.t z f A tv
def aPY:=fun a b c d e f g i j k l m n o p q r s t u v w x y=>bI a b c d e|>.f f|>.f g|>.f i|>.f j|>.f k|>.f l|>.f m|>.f n|>.f o|>.f p|>.f q|>.f r|>.f s|>.f t|>.f u|>.f v|>.f w|>.t x|>.f y tv
def aPZ:=fun a b c d e f g i j k l m n o p q r s t u v w x y z A B=>bI a b c d e|>.f g|>.f i|>.f j|>.f k|>.f l|>.f m|>.f n|>.f o|>.f p|>.f q|>.f r|>.f s|>.f t|>.f u|>.f v|>.f w|>.f x|>.f y|>.t z|>.t A f B tv
def aP0:=fun a b c d e f g i j k l m n o p q r s t u v w x y z=>bI a b c d e|>.f f|>.f g|>.f i|>.f j|>.f k|>.f l|>.f m|>.f n|>.f o|>.f p|>.f q|>.f r|>.f s|>.f t|>.f u|>.f v|>.f w|>.f x|>.t y|>.f z tv
def aP1:=fun a b c d e f g i j k l m n o p q r s t u v w x y z A B C D F G=>bI a b c d e|>.f i|>.f j|>.f k|>.f l|>.f m|>.f n|>.f o|>.f p|>.f q|>.f r|>.f s|>.f t|>.f u|>.f v|>.f w|>.f x|>.f y|>.f z|>.f A|>.t B|>.t C f D|>.t F g G tv
def aP2:=fun a b c d e f g i j k l m n o p q r s t u v w x y z A B C D=>bI a b c d e|>.f g|>.f i|>.f j|>.f k|>.f l|>.f m|>.f n|>.f o|>.f p|>.f q|>.f r|>.f s|>.f t|>.f u|>.f v|>.f w|>.f x|>.f y|>.f z|>.t A|>.t B f C|>.f D tv
def aP3:=fun a b c d e f g i j k l m n o p q r s t u v w x y z A=>bI a b c d e|>.f f|>.f g|>.f i|>.f j|>.f k|>.f l|>.f m|>.f n|>.f o|>.f p|>.f q|>.f r|>.f s|>.f t|>.f u|>.f v|>.f w|>.f x|>.f y|>.t z|>.f A tv
def aP4:=fun a b c d e f g i j k l m n o p q r s t u v w x y z A B C D=>bI a b c d e|>.f g|>.f i|>.f j|>.f k|>.f l|>.f m|>.f n|>.f o|>.f p|>.f q|>.f r|>.f s|>.f t|>.f u|>.f v|>.f w|>.f x|>.f y|>.f z|>.f A|>.t B|>.t C f D tv
def aP5:=fun a b c d e f g i j k l m n o p q r s t u v w x y z A B=>bI a b c d e|>.f f|>.f g|>.f i|>.f j|>.f k|>.f l|>.f m|>.f n|>.f o|>.f p|>.f q|>.f r|>.f s|>.f t|>.f u|>.f v|>.f w|>.f x|>.f y|>.f z|>.t A|>.f B tv
def aP6:=fun a b c d e f g i j k l m n o p q r s t u v w x y z A B C D F=>bI a b c d e|>.f g|>.f i|>.f j|>.f k|>.f l|>.f m|>.f n|>.f o|>.f p|>.f q|>.f r|>.f s|>.f t|>.f u|>.f v|>.f w|>.f x|>.f y|>.f z|>.f A|>.f B|>.t C|>.t D f F tv
def aP7:=fun a b c d e f g i j k l m n o p q r s t u v w x y z A B C=>bI a b c d e|>.f f|>.f g|>.f i|>.f j|>.f k|>.f l|>.f m|>.f n|>.f o|>.f p|>.f q|>.f r|>.f s|>.f t|>.f u|>.f v|>.f w|>.f x|>.f y|>.f z|>.f A|>.t B|>.f C tv
def aP8:=fun a b c d e f g i j k l m n o p q r s t u v w x y z A B C D F G=>bI a b c d e|>.f g|>.f i|>.f j|>.f k|>.f l|>.f m|>.f n|>.f o|>.f p|>.f q|>.f r|>.f s|>.f t|>.f u|>.f v|>.f w|>.f x|>.f y|>.f z|>.f A|>.f B|>.f C|>.t D|>.t F f G tv
def aP9:=fun a b c d e f g i j k l m n o p q r s t u v w x y z A B C D=>bI a b c d e|>.f f|>.f g|>.f i|>.f j|>.f k|>.f l|>.f m|>.f n|>.f o|>.f p|>.f q|>.f r|>.f s|>.f t|>.f u|>.f v|>.f w|>.f x|>.f y|>.f z|>.f A|>.f B|>.t C|>.f D tv
def aQa:=fun a b c d e f g i j k l m n o p q r s t u v w x y z A B C D F G H=>bI a b c d e|>.f g|>.f i|>.f j|>.f k|>.f l|>.f m|>.f n|>.f o|>.f p|>.f q|>.f r|>.f s|>.f t|>.f u|>.f v|>.f w|>.f x|>.f y|>.f z|>.f A|>.f B|>.f C|>.f D|>.t F|>.t G f H tv
def aQb:=fun a b c d e f g i j k l m n o p q r s t u v w x y z A B C D F=>bI a b c d e|>.f f|>.f g|>.f i|>.f j|>.f k|>.f l|>.f m|>.f n|>.f o|>.f p|>.f q|>.f r|>.f s|>.f t|>.f u|>.f v|>.f w|>.f x|>.f y|>.f z|>.f A|>.f B|>.f C|>.t D|>.f F tv
def aQc:=fun a b c d e f g i j k l m n o p q r s t u v w x y z A B C D F G H I=>bI a b c d e|>.f g|>.f i|>.f j|>.f k|>.f l|>.f m|>.f n|>.f o|>.f p|>.f q|>.f r|>.f s|>.f t|>.f u|>.f v|>.f w|>.f x|>.f y|>.f z|>.f A|>.f B|>.f C|>.f D|>.f F|>.t G|>.t H f I tv
def aQd:=fun a b c d e f g i j k l m n o p q r s t u v w x y z A B C D F G=>bI a b c d e|>.f f|>.f g|>.f i|>.f j|>.f k|>.f l|>.f m|>.f n|>.f o|>.f p|>.f q|>.f r|>.f s|>.f t|>.f u|>.f v|>.f w|>.f x|>.f y|>.f z|>.f A|>.f B|>.f C|>.f D|>.t F|>.f G tv
def aQe:=fun a b c d e f g i j k l m n o p q r s t u v w x y z A B C D F G H I J=>bI a b c d e|>.f g|>.f i|>.f j|>.f k|>.f l|>.f m|>.f n|>.f o|>.f p|>.f q|>.f r|>.f s|>.f t|>.f u|>.f v|>.f w|>.f x|>.f y|>.f z|>.f A|>.f B|>.f C|>.f D|>.f F|>.f G|>.t H|>.t I f J tv
def aQf:=fun a b c d e f g i j k l m n o p q r s t u v w x y z A B C D F G H=>bI a b c d e|>.f f|>.f g|>.f i|>.f j|>.f k|>.f l|>.f m|>.f n|>.f o|>.f p|>.f q|>.f r|>.f s|>.f t|>.f u|>.f v|>.f w|>.f x|>.f y|>.f z|>.f A|>.f B|>.f C|>.f D|>.f F|>.t G|>.f H tv
def aQg:=fun a b c d e f g i j k l m n o p q r s t u v w x y z A B C D F G H I J K=>bI a b c d e|>.f g|>.f i|>.f j|>.f k|>.f l|>.f m|>.f n|>.f o|>.f p|>.f q|>.f r|>.f s|>.f t|>.f u|>.f v|>.f w|>.f x|>.f y|>.f z|>.f A|>.f B|>.f C|>.f D|>.f F|>.f G|>.f H|>.t I|>.t J f K tv
def aQh:=fun a b c d e f g i j k l m n o p q r s t u v w x y z A B C D F G H I=>bI a b c d e|>.f f|>.f g|>.f i|>.f j|>.f k|>.f l|>.f m|>.f n|>.f o|>.f p|>.f q|>.f r|>.f s|>.f t|>.f u|>.f v|>.f w|>.f x|>.f y|>.f z|>.f A|>.f B|>.f C|>.f D|>.f F|>.f G|>.t H|>.f I tv
def aQi:=fun a b c d e f g i j k l m n o p q r s t u v w x y z A B C D F G H I J K L=>bI a b c d e|>.f g|>.f i|>.f j|>.f k|>.f l|>.f m|>.f n|>.f o|>.f p|>.f q|>.f r|>.f s|>.f t|>.f u|>.f v|>.f w|>.f x|>.f y|>.f z|>.f A|>.f B|>.f C|>.f D|>.f F|>.f G|>.f H|>.f I|>.t J|>.t K f L tv
def aQj:=fun a b c d e f g i j k l m n o p q r s t u v w x y z A B C D F G H I J=>bI a b c d e|>.f f|>.f g|>.f i|>.f j|>.f k|>.f l|>.f m|>.f n|>.f o|>.f p|>.f q|>.f r|>.f s|>.f t|>.f u|>.f v|>.f w|>.f x|>.f y|>.f z|>.f A|>.f B|>.f C|>.f D|>.f F|>.f G|>.f H|>.t I|>.f J tv
def aQk:=fun a b c d e f g i j k l m n o p q r s t u v w x y z A B C D F G H I=>bI a b c d e|>.f f|>.f g|>.f i|>.f j|>.f k|>.f l|>.f m|>.f n|>.f o|>.f p|>.f q|>.f r|>.f s|>.f t|>.f u|>.f v|>.f w|>.f x|>.f y|>.f z|>.f A|>.f B|>.f C|>.f D|>.f F|>.f G|>.f H|>.f I tv
def bB9(a b:Int)(c:aC)(d:List Term)(e:List Pat):=tT 0 (start PP 63 [(.agg [(nI a),(nI b),(aA c),(.ilst 5 (Terms.av d) false),(iP e)])])<|dG 9 122 [(.agg [(nI a),(nI b),(aA c),(.ilst 5 (Terms.av d) false),(iP e)])]<|fun f=>.b 2 7 (!f) (gE 6 1 (bV false))<|.W 9 1 [0] (aFO a b c d e 0)
def aVn:=fun a b c d e f g i=>bB9 a b c d e f g|>.t i tv
def aVo:=fun a b c d e f g i=>bB9 a b c d e f g|>.f i tv
def aQl(c d:Int)(e:aC)(f:List Term)(a:List Pat)(b:Int):=tT 0 (aFO c d e f a b)<|gm 6 aH a<|gd 2 12 (b< (a.length:Int)) (mU 9 a b<|fun g i j k=>dG 1 123 [(.agg [(nI g),(nI i),(aA j),(iP k)])]<|fun l=>.b 2 21 (!l) (gE 6 1 (bV false))<|gw 6 14 (b+1)<|.W 3 1 [0] (aFO c d e f a (b+1)))<|.W 9 1 [0] (aFP c d e f a 0)
def aVp:=fun a b c d e f g i j k l m n o p q=>aQl a b c d e f|>.t m g i j k n o l p|>.t q tv
def aVq:=fun a b c d e f g i j k l m n o p q r=>aQl a b c d e f|>.t m g i j k n o l p|>.f q r tv
def aVr:=fun a b c d e f g=>aQl a b c d e f|>.f g tv
def aQm(c d:Int)(e:aC)(a:List Term)(f:List Pat)(b:Int):=tT 0 (aFP c d e a f b)<|gm 6 bG a<|gd 2 26 (b< (a.length:Int)) (aCR 9 a b<|fun g i j k l=>dG 1 63 [(.agg [(nI g),(nI i),(aA j),(.ilst 5 (Terms.av k) false),(iP l)])]<|fun m=>.b 2 35 (!m) (gE 6 1 (bV false))<|gw 6 28 (b+1)<|.W 3 1 [0] (aFP c d e a f (b+1)))<|gE 7 1 (bV true)
def aVs:=fun a b c d e f g i j k l m n o p q r=>aQm a b c d e f|>.t n g i j k l o p m q|>.t r tv
def aVt:=fun a b c d e f g i j k l m n o p q r s=>aQm a b c d e f|>.t n g i j k l o p m q|>.f r s tv
def aVu:=fun a b c d e f g=>aQm a b c d e f|>.f g tv
def bCa(a b:Int)(c:aC)(d:List Term)(e:List Pat):=tT 0 (start PP 15 [(.agg [(nI a),(nI b),(aA c),(.ilst 5 (Terms.av d) false),(iP e)])])<|gpI 8 57 [(.agg [(nI a),(nI b),(aA c),(.ilst 5 (Terms.av d) false),(iP e)]),(nI 60),(nI 14)]<|fun f=>gd 2 6 (f≥0) (dG 1 63 [(.agg [(nI a),(nI b),(aA c),(.ilst 5 (Terms.av d) false),(iP e)])]<|fun g=>gE 4 1 (bV g))<|gE 6 1 (bV false)
def aVv:=fun a b c d e f g i j k=>bCa a b c d e f i|>.t j g k tv
def aVw:=fun a b c d e f g i=>bCa a b c d e f g|>.f i tv
end
end Go.Hb
