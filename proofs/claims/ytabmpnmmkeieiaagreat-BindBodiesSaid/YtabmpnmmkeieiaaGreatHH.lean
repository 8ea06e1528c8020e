/-
  OWN WORK (V31, V32, V33, H10, V34, V102, H31, V8b, H33, V14, V103, H32): a machine on abstract values, its soundness, ways through the text (the ways WRITTEN BY A PROGRAM), plain laws.
-/
import Derived.Test.YtabmpnmmkeieiaaGreatHF
import Derived.Test.YtabmpnmmkeieiaaGreatHG
set_option linter.defProp false
set_option linter.unusedVariables false
set_option linter.unusedSimpArgs false
set_option linter.unusedSectionVars false
set_option maxRecDepth 100000
namespace Go.Hb
open Go.Proofs
def aOf (cons:List Int)(f n:Int) :Option Int:=if f=6 then(if 0≤n then cons[n.toNat]? else none)else some n
mutual
def aM3 (cons:List Int) :Pat→Option Pat
 | .mk f n t ps=>match aOf cons f n with
  | some n'=>match aD3 cons ps with
   |some ps'=>some (.mk f n' t ps')
   |none=>none
  |none=>none
def aD3 (cons:List Int) :List Pat→Option (List Pat)
 | [] =>some []
 | p::ps=>match aM3 cons p with
  | some p'=>match aD3 cons ps with
   |some ps'=>some (p'::ps')
   |none=>none
  |none=>none
end
theorem aFU (f n:Int)(s:aE)(ps:List Pat)(cons:List Int)(n':Int)(hl:ps.length<1000000)(ih:∀p∈ps,∀p',aM3 cons p=some p'→Pure PP 194 [Pat.av p,.ilst 1 (List.map dF cons) false] (Pat.av p')) :
  ∀ (t:List Pat) (i:Nat) (acc t':List Pat),ps.drop i=t→acc.length=i→aD3 cons t=some t'→Ends PP 0 (aAY f n s ps cons n' (i:Int) acc).as (.ret (Pat.av (.mk f n' s (acc++t')))) (aG [] 0)
 | [],i,acc,t',h,ha,ht=>by
  have:=bD h;cases ht;rw [List.append_nil];exact aTc f n s ps cons n' i acc sd
 | .mk f1 n1 s1 ps1::t,i,acc,t',h,ha,ht=>by
  obtain⟨g1,g2,g3⟩ :=bB h;simp only [aD3]at ht;split at ht
  · rename_i p' hp';split at ht
    · rename_i t1 ht1;cases ht;obtain⟨f2,n2,s2,ps2⟩ :=p';refine(aTb f n s ps cons n' i acc f1 n1 s1 ps1 f2 n2 s2 ps2 sd sd sd (ih (.mk f1 n1 s1 ps1) (List.mem_of_getElem? g1) _ hp') (by simp;omega) sd).ends ?_;have:=aFU f n s ps cons n' hl ih t (i+1) (acc++ [.mk f2 n2 s2 ps2]) t1 g2 (by simp [ha]) ht1;rw [List.append_assoc]at this;exact this
    ·cases ht
  ·cases ht
mutual
theorem aQE (cons:List Int) :∀ (p:Pat),aP p<1000000→∀p',aM3 cons p=some p'→Pure PP 194 [Pat.av p,.ilst 1 (List.map dF cons) false] (Pat.av p')
 | .mk f n s ps,h,p',hp'=>by
  refine aM (by kernel_rfl) (by simp [AV.keylessL,fC,AV.keyless]) (fC _) ?_;simp only [aP]at h;have:=cL ps;simp only [aM3]at hp';split at hp'
  · rename_i n' hn';split at hp'
    · rename_i ps' hps';cases hp';have hloop:=aFU f n s ps cons n' (by omega) (aKe cons ps (by omega)) ps 0 [] ps' rfl rfl hps';unfold aOf at hn';split at hn'
      · rename_i hf;split at hn'
        · rename_i h0;exact(aS9 f n s ps cons n' (by simp [hf]) h0 hn').ends hloop
        ·cases hn'
      · rename_i hf;cases hn';exact(aTa f n s ps cons (by simp [hf])).ends hloop
    ·cases hp'
  ·cases hp'
theorem aKe (cons:List Int) :∀ (ps:List Pat),aK ps<1000000→∀p∈ps,∀p',aM3 cons p=some p'→Pure PP 194 [Pat.av p,.ilst 1 (List.map dF cons) false] (Pat.av p')
 | [],_,p,hp=>by cases hp
 | q::ps,h,p,hp=>by
  simp only [aK]at h;rcases List.mem_cons.1 hp with e|hp
  ·rw [e];exact aQE cons q (by omega)
  ·exact aKe cons ps (by omega) p hp
end
end Go.Hb
namespace Go.Hb
open Go.Proofs
noncomputable section
def mN (funs cons:List Int)(op n:Int) :Option Int:=
 if op=4∧n<0 then
  match funs[(-1-n).toNat]? with
  |some g=>if -1000000000≤n∧ -1000000000≤g∧g≤1000000000 then some (-1-g)else none
  |none=>none
 else if op=14 then(if 0≤n then cons[n.toNat]? else none)else some n
def bEM (f:Nat→Int→Option (List Node)) :Nat→List Int→Option (List Int×List Node)
 |_,[] =>some ([],[])
 | len,c::cs=>match f len c with
  | some ns=>match bEM f (len+ns.length) cs with
   |some (ks,r) =>some ((len:Int) ::ks,ns++r)
   |none=>none
  |none=>none
def aTd (p:Prog)(funs cons:List Int) :Nat→Nat→Int→Option (List Node)
 |0,_,_=>none
 | k+1, len,at0=>if 0≤at0∧len<1000000 then
   match p.nodes[at0.toNat]? with
   | some y=>if y.kids.length<1000000∧aK y.pats<1000000 then
     match mN funs cons y.op y.n with
     | some n'=>match aD3 cons y.pats with
      | some ps'=>match bEM (aTd p funs cons k) (len+1) y.kids with
       |some (ks,r) =>some (⟨y.op,n',ks,ps'⟩ ::r)
       |none=>none
      |none=>none
     |none=>none
    else none
   |none=>none
  else none
abbrev PA (p:Prog) :AV:=.agg [(.ilst 4 (List.map Node.av p.nodes) false),(.ilst 1 (List.map dF p.funs) false),(.int .i64 p.main),(.ilst 2 (List.map Con.av p.cons) false)]
abbrev OL (L:List ONode) :AObj:=.lst 4 (List.map ONode.av L)
abbrev EndsL (s:TS)(L:List ONode) :Prop:=Ends PP 0 s.as (.ret (.gl 0 4 0 (List.length L) false)) (aG [(0,OL L,true)] 1)
def aYx (p:Prog)(funs cons:List Int)(c:Int)(L:List ONode)(ns:List Node) :Prop:=
 bHH PP (.enter 139 [.gl 0 4 0 (List.length L) false,PA p,.int .i64 c,.ilst 1 (List.map dF funs) false,.ilst 1 (List.map dF cons) false]) (aG [(0,OL L,true)] 1)
  (.ret (.gl 0 4 0 (List.length (L++List.map Node.o ns)) false)) (aG [(0,OL (L++List.map Node.o ns),true)] 1)
end
end Go.Hb
namespace Go.Hb
open Go.Proofs
noncomputable section
theorem EndsL.of {s:TS}{L L':List ONode}(h:EndsL s L)(e:L=L') :EndsL s L':=e ▸ h
section
variable (p :Prog) (funs cons:List Int) (k:Nat) (ih:∀ (L:List ONode) (c:Int) (ns:List Node),aTd p funs cons k L.length c=some ns→aYx p funs cons c L ns)
 (l:List ONode) (at0 op n':Int) (ps':List Pat) (kids:List Int) (hkids:kids.length<1000000)
include ih hkids
end
end
end Go.Hb
namespace Go.Hb
open Go.Proofs
noncomputable section
open Go.Proofs Tryz
end
end Go.Hb
namespace Go.Hb
open Go.Proofs
noncomputable section
theorem bM {f:Nat}{args:List AV}{v:AV}{s:TS}(e: (start PP f args).as=s.as)(hb:mJ PP f=true)(hk:AV.keylessL args=true)(hv:AV.keyless v=true)(he:Ends PP 0 s.as (.ret v) (aG [] 0)) :Pure PP f args v:=
 aM hb hk hv (by rw [e];exact he)
end
end Go.Hb
namespace Go.Hb
open Go.Proofs
set_option maxHeartbeats 2000000
theorem aTe :Pure PP 187 [] (.ilst 1 (List.map aC kwL) false) :=
 bM (s:=bEK) (by kernel_rfl) (by kernel_rfl) rfl (by simp [AV.keyless]) aX6
theorem aQF (s:aE) :Pure PP 119 [aC s] (.bool (jG kwL s)) :=
 aM (by kernel_rfl) rfl rfl (aR0 s kwL _ aTe (xK kwL s (by unfold kwL;simp)))
theorem aTf (s:aE)(l:List Nat){k n:Nat}(hk: (strOf l).length=k)(hn:aB (strOf l) =n) :aQ (List.length s) (aB s) k n=decide (s=strOf l) :=by
 rw [←hk,←hn];exact mV s (strOf l)
theorem cQ {s:aE}(l:List Nat){k n:Nat}(e:s=strOf l)(hk: (strOf l).length=k)(hn:aB (strOf l) =n) :aQ (List.length s) (aB s) k n=true:=by rw [aTf s l hk hn];simp [e]
theorem dS {s:aE}(l:List Nat){k n:Nat}(e:¬s=strOf l)(hk: (strOf l).length=k)(hn:aB (strOf l) =n) :aQ (List.length s) (aB s) k n=false:=by rw [aTf s l hk hn];simp [e]
theorem dU {l:List aE}{s:aE}(i:Nat){w:aE}(hi:l[i]?=some w)(e:s=w) :jG l s=true:=by
 unfold jG;exact List.any_eq_true.2 ⟨w,List.mem_of_getElem? hi,by simp [e]⟩
theorem aTg (s:aE) :Pure PP 176 [aC s] (.bool (jG kwL s)) :=by
 refine aM (by kernel_rfl) rfl rfl ?_;by_cases e0:s=strOf [98,111,111,108]
 ·rw [dU 0 (by kernel_rfl) e0];exact aYb s (cQ _ e0 (by kernel_rfl) (by kernel_rfl))
 have n0:=dS (k:=4) (n:=1819242338) _ e0 (by kernel_rfl) (by kernel_rfl);by_cases e1:s=strOf [99,101,108,108]
 ·rw [dU 1 (by kernel_rfl) e1];exact aYc s n0 (cQ _ e1 (by kernel_rfl) (by kernel_rfl))
 have n1:=dS (k:=4) (n:=1819043171) _ e1 (by kernel_rfl) (by kernel_rfl);by_cases e2:s=strOf [99,104,97,110]
 ·rw [dU 2 (by kernel_rfl) e2];exact aYd s n0 n1 (cQ _ e2 (by kernel_rfl) (by kernel_rfl))
 have n2:=dS (k:=4) (n:=1851877475) _ e2 (by kernel_rfl) (by kernel_rfl);by_cases e3:s=strOf [101,108,115,101]
 ·rw [dU 3 (by kernel_rfl) e3];exact aYe s n0 n1 n2 (cQ _ e3 (by kernel_rfl) (by kernel_rfl))
 have n3:=dS (k:=4) (n:=1702063205) _ e3 (by kernel_rfl) (by kernel_rfl);by_cases e4:s=strOf [102,97,108,115,101]
 ·rw [dU 4 (by kernel_rfl) e4];exact aYf s n0 n1 n2 n3 (cQ _ e4 (by kernel_rfl) (by kernel_rfl))
 have n4:=dS (k:=5) (n:=435728179558) _ e4 (by kernel_rfl) (by kernel_rfl);by_cases e5:s=strOf [102,117,110]
 ·rw [dU 5 (by kernel_rfl) e5];exact aYg s n0 n1 n2 n3 n4 (cQ _ e5 (by kernel_rfl) (by kernel_rfl))
 have n5:=dS (k:=3) (n:=7239014) _ e5 (by kernel_rfl) (by kernel_rfl);by_cases e6:s=strOf [103,101,116]
 ·rw [dU 6 (by kernel_rfl) e6];exact aYh s n0 n1 n2 n3 n4 n5 (cQ _ e6 (by kernel_rfl) (by kernel_rfl))
 have n6:=dS (k:=3) (n:=7628135) _ e6 (by kernel_rfl) (by kernel_rfl);by_cases e7:s=strOf [105,102]
 ·rw [dU 7 (by kernel_rfl) e7];exact aYi s n0 n1 n2 n3 n4 n5 n6 (cQ _ e7 (by kernel_rfl) (by kernel_rfl))
 have n7:=dS (k:=2) (n:=26217) _ e7 (by kernel_rfl) (by kernel_rfl);by_cases e8:s=strOf [105,110]
 ·rw [dU 8 (by kernel_rfl) e8];exact aYj s n0 n1 n2 n3 n4 n5 n6 n7 (cQ _ e8 (by kernel_rfl) (by kernel_rfl))
 have n8:=dS (k:=2) (n:=28265) _ e8 (by kernel_rfl) (by kernel_rfl);by_cases e9:s=strOf [105,110,112,117,116]
 ·rw [dU 9 (by kernel_rfl) e9];exact aYk s n0 n1 n2 n3 n4 n5 n6 n7 n8 (cQ _ e9 (by kernel_rfl) (by kernel_rfl))
 have n9:=dS (k:=5) (n:=500186508905) _ e9 (by kernel_rfl) (by kernel_rfl);by_cases e10:s=strOf [105,110,116]
 ·rw [dU 10 (by kernel_rfl) e10];exact aR3 s n0 n1 n2 n3 n4 n5 n6 n7 n8 n9 (cQ _ e10 (by kernel_rfl) (by kernel_rfl))
 have n10:=dS (k:=3) (n:=7630441) _ e10 (by kernel_rfl) (by kernel_rfl);by_cases e11:s=strOf [106,111,105,110]
 ·rw [dU 11 (by kernel_rfl) e11];exact aR4 s n0 n1 n2 n3 n4 n5 n6 n7 n8 n9 n10 (cQ _ e11 (by kernel_rfl) (by kernel_rfl))
 have n11:=dS (k:=4) (n:=1852403562) _ e11 (by kernel_rfl) (by kernel_rfl);by_cases e12:s=strOf [108,101,116]
 ·rw [dU 12 (by kernel_rfl) e12];exact aR5 s n0 n1 n2 n3 n4 n5 n6 n7 n8 n9 n10 n11 (cQ _ e12 (by kernel_rfl) (by kernel_rfl))
 have n12:=dS (k:=3) (n:=7628140) _ e12 (by kernel_rfl) (by kernel_rfl);by_cases e13:s=strOf [109,97,116,99,104]
 ·rw [dU 13 (by kernel_rfl) e13];exact aR6 s n0 n1 n2 n3 n4 n5 n6 n7 n8 n9 n10 n11 n12 (cQ _ e13 (by kernel_rfl) (by kernel_rfl))
 have n13:=dS (k:=5) (n:=448345170285) _ e13 (by kernel_rfl) (by kernel_rfl);by_cases e14:s=strOf [109,111,100,117,108,101]
 ·rw [dU 14 (by kernel_rfl) e14];exact aR7 s n0 n1 n2 n3 n4 n5 n6 n7 n8 n9 n10 n11 n12 n13 (cQ _ e14 (by kernel_rfl) (by kernel_rfl))
 have n14:=dS (k:=6) (n:=111516500389741) _ e14 (by kernel_rfl) (by kernel_rfl);by_cases e15:s=strOf [111,117,116]
 ·rw [dU 15 (by kernel_rfl) e15];exact aR8 s n0 n1 n2 n3 n4 n5 n6 n7 n8 n9 n10 n11 n12 n13 n14 (cQ _ e15 (by kernel_rfl) (by kernel_rfl))
 have n15:=dS (k:=3) (n:=7632239) _ e15 (by kernel_rfl) (by kernel_rfl);by_cases e16:s=strOf [112,97,117,115,101]
 ·rw [dU 16 (by kernel_rfl) e16];exact aR9 s n0 n1 n2 n3 n4 n5 n6 n7 n8 n9 n10 n11 n12 n13 n14 n15 (cQ _ e16 (by kernel_rfl) (by kernel_rfl))
 have n16:=dS (k:=5) (n:=435728769392) _ e16 (by kernel_rfl) (by kernel_rfl);by_cases e17:s=strOf [112,117,116]
 ·rw [dU 17 (by kernel_rfl) e17];exact aSa s n0 n1 n2 n3 n4 n5 n6 n7 n8 n9 n10 n11 n12 n13 n14 n15 n16 (cQ _ e17 (by kernel_rfl) (by kernel_rfl))
 have n17:=dS (k:=3) (n:=7632240) _ e17 (by kernel_rfl) (by kernel_rfl);by_cases e18:s=strOf [114,101,115,101,116]
 ·rw [dU 18 (by kernel_rfl) e18];exact aSb s n0 n1 n2 n3 n4 n5 n6 n7 n8 n9 n10 n11 n12 n13 n14 n15 n16 n17 (cQ _ e18 (by kernel_rfl) (by kernel_rfl))
 have n18:=dS (k:=5) (n:=499918267762) _ e18 (by kernel_rfl) (by kernel_rfl);by_cases e19:s=strOf [115,101,110,100]
 ·rw [dU 19 (by kernel_rfl) e19];exact aSc s n0 n1 n2 n3 n4 n5 n6 n7 n8 n9 n10 n11 n12 n13 n14 n15 n16 n17 n18 (cQ _ e19 (by kernel_rfl) (by kernel_rfl))
 have n19:=dS (k:=4) (n:=1684956531) _ e19 (by kernel_rfl) (by kernel_rfl);by_cases e20:s=strOf [115,104,105,102,116]
 ·rw [dU 20 (by kernel_rfl) e20];exact aSd s n0 n1 n2 n3 n4 n5 n6 n7 n8 n9 n10 n11 n12 n13 n14 n15 n16 n17 n18 n19 (cQ _ e20 (by kernel_rfl) (by kernel_rfl))
 have n20:=dS (k:=5) (n:=499934390387) _ e20 (by kernel_rfl) (by kernel_rfl);by_cases e21:s=strOf [115,112,97,119,110]
 ·rw [dU 21 (by kernel_rfl) e21];exact aSe s n0 n1 n2 n3 n4 n5 n6 n7 n8 n9 n10 n11 n12 n13 n14 n15 n16 n17 n18 n19 n20 (cQ _ e21 (by kernel_rfl) (by kernel_rfl))
 have n21:=dS (k:=5) (n:=474449277043) _ e21 (by kernel_rfl) (by kernel_rfl);by_cases e22:s=strOf [116,97,107,101]
 ·rw [dU 22 (by kernel_rfl) e22];exact aSf s n0 n1 n2 n3 n4 n5 n6 n7 n8 n9 n10 n11 n12 n13 n14 n15 n16 n17 n18 n19 n20 n21 (cQ _ e22 (by kernel_rfl) (by kernel_rfl))
 have n22:=dS (k:=4) (n:=1701536116) _ e22 (by kernel_rfl) (by kernel_rfl);by_cases e23:s=strOf [116,97,115,107]
 ·rw [dU 23 (by kernel_rfl) e23];exact aSg s n0 n1 n2 n3 n4 n5 n6 n7 n8 n9 n10 n11 n12 n13 n14 n15 n16 n17 n18 n19 n20 n21 n22 (cQ _ e23 (by kernel_rfl) (by kernel_rfl))
 have n23:=dS (k:=4) (n:=1802723700) _ e23 (by kernel_rfl) (by kernel_rfl);by_cases e24:s=strOf [116,104,101,110]
 ·rw [dU 24 (by kernel_rfl) e24];exact aSh s n0 n1 n2 n3 n4 n5 n6 n7 n8 n9 n10 n11 n12 n13 n14 n15 n16 n17 n18 n19 n20 n21 n22 n23 (cQ _ e24 (by kernel_rfl) (by kernel_rfl))
 have n24:=dS (k:=4) (n:=1852139636) _ e24 (by kernel_rfl) (by kernel_rfl);by_cases e25:s=strOf [116,114,117,101]
 ·rw [dU 25 (by kernel_rfl) e25];exact aSi s n0 n1 n2 n3 n4 n5 n6 n7 n8 n9 n10 n11 n12 n13 n14 n15 n16 n17 n18 n19 n20 n21 n22 n23 n24 (cQ _ e25 (by kernel_rfl) (by kernel_rfl))
 have n25:=dS (k:=4) (n:=1702195828) _ e25 (by kernel_rfl) (by kernel_rfl);by_cases e26:s=strOf [116,121,112,101]
 ·rw [dU 26 (by kernel_rfl) e26];exact aSj s n0 n1 n2 n3 n4 n5 n6 n7 n8 n9 n10 n11 n12 n13 n14 n15 n16 n17 n18 n19 n20 n21 n22 n23 n24 n25 (cQ _ e26 (by kernel_rfl) (by kernel_rfl))
 have n26:=dS (k:=4) (n:=1701869940) _ e26 (by kernel_rfl) (by kernel_rfl);by_cases e27:s=strOf [117,110,105,116]
 ·rw [dU 27 (by kernel_rfl) e27];exact aSk s n0 n1 n2 n3 n4 n5 n6 n7 n8 n9 n10 n11 n12 n13 n14 n15 n16 n17 n18 n19 n20 n21 n22 n23 n24 n25 n26 (cQ _ e27 (by kernel_rfl) (by kernel_rfl))
 have n27:=dS (k:=4) (n:=1953066613) _ e27 (by kernel_rfl) (by kernel_rfl);have hno:jG kwL s=false:=by
  unfold jG kwL;simp only [List.any_cons,List.any_nil,Bool.or_false,Bool.or_eq_false_iff,decide_eq_false_iff_not];exact⟨fun h=>e0 h.symm,fun h=>e1 h.symm,fun h=>e2 h.symm,fun h=>e3 h.symm,fun h=>e4 h.symm,fun h=>e5 h.symm,fun h=>e6 h.symm,fun h=>e7 h.symm,fun h=>e8 h.symm,fun h=>e9 h.symm,fun h=>e10 h.symm,fun h=>e11 h.symm,fun h=>e12 h.symm,fun h=>e13 h.symm,fun h=>e14 h.symm,fun h=>e15 h.symm,fun h=>e16 h.symm,fun h=>e17 h.symm,fun h=>e18 h.symm,fun h=>e19 h.symm,fun h=>e20 h.symm,fun h=>e21 h.symm,fun h=>e22 h.symm,fun h=>e23 h.symm,fun h=>e24 h.symm,fun h=>e25 h.symm,fun h=>e26 h.symm,fun h=>e27 h.symm⟩
 rw [hno];exact aSl s n0 n1 n2 n3 n4 n5 n6 n7 n8 n9 n10 n11 n12 n13 n14 n15 n16 n17 n18 n19 n20 n21 n22 n23 n24 n25 n26 n27
def dE (s:aE) :Bool:=decide (1≤s.length) &&decide (s.length≤8) &&eT s&& !jG kwL s
theorem sF (s:aE) :Pure PP 59 [aC s] (.bool (dE s)) :=by
 refine aM (by kernel_rfl) rfl rfl ?_;unfold dE;by_cases h1:1≤s.length
 · by_cases h2:s.length≤8
   · have hS:=aB7 s (by omega);cases h3:eT s with
     | true=>
      rw [h3]at hS;have:=aX7 s true _ sd sd hS rfl (aQF s);simpa [h1,h2]using this
     | false=>
      rw [h3]at hS;have:=aX8 s false sd sd hS rfl;simpa [h1,h2]using this
   · have:=aX9 s sd sd;simpa [h1,h2]using this
 · have:=aYa s sd;simpa [h1]using this
theorem iV (s:aE) :Pure PP 103 [aC s] (.bool (dE s)) :=by
 refine aM (by kernel_rfl) rfl rfl ?_;unfold dE;by_cases h1:s= []
 · subst h1;have:=aYo [] (by rfl);simpa using this
 · have hpos:1≤s.length:=by cases s with
    |nil=>exact absurd rfl h1
    |cons _ _=>simp
   have h0: (!(aQ (List.length s) (aB s) 0 0)) =true:=by
    have:=dS (k:=0) (n:=0) (s:=s) [] h1 rfl rfl;rw [this];rfl
   by_cases h2:s.length≤8
   · have hS:=aCc s;cases h3:eT s with
     | true=>
      rw [h3]at hS;have:=aYl s true _ h0 sd hS rfl (aTg s);simpa [hpos,h2]using this
     | false=>
      rw [h3]at hS;have:=aYm s false h0 sd hS rfl;simpa [hpos,h2]using this
   · have:=aYn s h0 sd;simpa [hpos,h2]using this
theorem jL (n lo hi:Int) :Pure PP 60 [.int .i64 n,.int .i64 lo,.int .i64 hi] (.bool (aW n lo hi)) :=by
 refine aM (by kernel_rfl) rfl rfl ?_;by_cases h:n≥lo
 · have e:aW n lo hi=decide (n≤hi) :=by unfold aW;rw [decide_eq_true (show lo≤n from h),Bool.true_and]
   rw [e];exact aR1 n lo hi (by simpa using h)
 · have e:aW n lo hi=false:=by unfold aW;rw [decide_eq_false (show ¬lo≤n from h),Bool.false_and]
   rw [e];exact aR2 n lo hi (by simpa using h)
end Go.Hb
namespace Go.Hb
open Go.Proofs
noncomputable section
open Go.Proofs Tryz
def bEN(a b:Int)(c:aE)(d:List Pat):TS:=bW PP 186 [(.agg [(nI a),(nI b),(aC c),(iP d)])] [] 0
def aHH(b c:Int)(d:aE)(e:List Pat)(f:Int)(a:List aE):TS:=⟨(tf 186 27 [kp 1 0,(2,.nils),(3,(.gl 1 1 0 a.length false)),(4,(nI f))] [kc f186 244,kl f186 244,.inBlock 0,kc f186 31]),[],[oC 0 [(nI b),(nI c),(aC d),(iP e)],oL 1 1 (List.map aC a)],2⟩
def eV(b c:Int)(d:aE)(a:List Pat)(e:Bool)(f:Int):TS:=⟨(tf 189 97 [kp 1 0,(2,(bV false)),(3,(nI (a.length:Int))),(4,(bV e)),(5,(nI f))] [kc f189 500,kl f189 500,.inBlock 1,kc f189 63]),[],[oC 0 [(nI b),(nI c),(aC d),(iP a)]],1⟩
def bEO(b c:Int)(a:aE)(d:List Pat):=tT 0 (bEN b c a d)<|.b 12 7 (b==2) (.i [rn 9,.toL 2 false [(aC a)]] [hr (some [(aC a)]),hr true]<|gu 0 1 (List.map aC [a])<|gs 0 2 (.gl 1 1 0 [a].length true)<|.i [.weak 2] []<|gz 0 2 1 1 aC [a] false<|gE 0 2 (iS [a]))<|.i [rn 13,.nilL 3 1] []<|gu 0 1 (List.map aC ([] :List aE))<|gs 0 3 (.gl 1 1 0 ([] :List aE).length false)<|.W 0 2 [0,1] (aHH b c a d 0 ([] :List aE))
def aYy:=fun a b c d e=>bEO a b c d|>.t e tv
def aYz:=fun a b c d e=>bEO a b c d|>.f e ⟨kk,trivial⟩
def bEP(e f:Int)(g:aE)(a:List Pat)(b:Int)(c:List aE):=tT 0 (aHH e f g a b c)<|gm 6 aF a<|gd 2 15 (b< (a.length:Int)) (mW 9 a b<|fun i j k l=>.y fun d:List aE=>gp 1 186 [(.agg [(nI i),(nI j),(aC k),(iP l)])] (iS d)<|ga 0 aC c d<|gw 6 17 (b+1)<|.W 3 3 [0,2] (aHH e f g a (b+1) (c++d)))<|gz 8 2 1 1 aC c false<|gE 0 2 (iS c)
def aYA:=fun a b c d e f g i j k l m n o p q r=>bEP a b c d e f|>.t m g i j k n o l p q r ⟨kk,trivial⟩
def aYB:=fun a b c d e f g=>bEP a b c d e f|>.f g tv
def lE(c d:Int)(a:aE)(b:List Pat):=tT 0 (start PP 189 [(.agg [(nI c),(nI d),(aC a),(iP b)])])<|gm 9 aF b<|.b 19 11 (c==1) (.b 7 16 ((b.length:Int) ==0) (.b 5 21 (d==0) (.W 14 1 [0] (eV c d a b (aQ a.length (aB a) 0 0) 0))<|.W 14 1 [0] (eV c d a b false 0))<|.W 19 1 [0] (eV c d a b false 0))<|.b 5 11 (c==5) (.b 5 16 ((b.length:Int) ==0) (.b 5 21 (d==0) (.W 14 1 [0] (eV c d a b (aQ a.length (aB a) 0 0) 0))<|.W 14 1 [0] (eV c d a b false 0))<|.W 19 1 [0] (eV c d a b false 0))<|.b 6 26 (c==2) (.b 5 30 ((b.length:Int) ==0) (.b 5 35 (d==0) (cP 2 59 [(aC a)]<|fun e=>.W 11 1 [0] (eV c d a b e 0))<|.W 14 1 [0] (eV c d a b false 0))<|.W 19 1 [0] (eV c d a b false 0))<|.b 6 40 (c==3) (.b 5 44 ((b.length:Int) ==0) (.b 5 49 (aQ a.length (aB a) 0 0) (cP 2 60 [(nI d),(nI (-1000000000)),(nI 1000000000)]<|fun e=>.W 11 1 [0] (eV c d a b e 0))<|.W 14 1 [0] (eV c d a b false 0))<|.W 19 1 [0] (eV c d a b false 0))<|.b 6 54 (c==4) (.b 5 58 ((b.length:Int) ==0) (.b 5 63 (aQ a.length (aB a) 0 0) (cP 2 60 [(nI d),(nI 0),(nI 1)]<|fun e=>.W 11 1 [0] (eV c d a b e 0))<|.W 14 1 [0] (eV c d a b false 0))<|.W 19 1 [0] (eV c d a b false 0))<|.b 6 68 (c==6) (gd 5 72 ((b.length:Int) ≤3) (.b 5 77 (d==0) (cP 2 120 [(aC a)]<|fun e=>.W 11 1 [0] (eV c d a b e 0))<|.W 14 1 [0] (eV c d a b false 0))<|.W 19 1 [0] (eV c d a b false 0))<|.W 10 1 [0] (eV c d a b false 0)
def aYC:=fun a b c d e f g=>lE a b c d|>.t e|>.t f|>.t g tv
def aYD:=fun a b c d e f g=>lE a b c d|>.t e|>.t f|>.f g tv
def aYE:=fun a b c d e f=>lE a b c d|>.t e|>.f f tv
def aYF:=fun a b c d e f g i=>lE a b c d|>.f e|>.t f|>.t g|>.t i tv
def aYG:=fun a b c d e f g i=>lE a b c d|>.f e|>.t f|>.t g|>.f i tv
def aYH:=fun a b c d e f g=>lE a b c d|>.f e|>.t f|>.f g tv
def aYI:=fun a b c d e f g i j k l=>lE a b c d|>.f f|>.f g|>.t i|>.t j|>.t k e l tv
def aYJ:=fun a b c d e f g i j=>lE a b c d|>.f e|>.f f|>.t g|>.t i|>.f j tv
def aYK:=fun a b c d e f g i=>lE a b c d|>.f e|>.f f|>.t g|>.f i tv
def aYL:=fun a b c d e f g i j k l m=>lE a b c d|>.f f|>.f g|>.f i|>.t j|>.t k|>.t l e m tv
def aTh:=fun a b c d e f g i j k=>lE a b c d|>.f e|>.f f|>.f g|>.t i|>.t j|>.f k tv
def aTi:=fun a b c d e f g i j=>lE a b c d|>.f e|>.f f|>.f g|>.t i|>.f j tv
def aTj:=fun a b c d e f g i j k l m n=>lE a b c d|>.f f|>.f g|>.f i|>.f j|>.t k|>.t l|>.t m e n tv
def aTk:=fun a b c d e f g i j k l=>lE a b c d|>.f e|>.f f|>.f g|>.f i|>.t j|>.t k|>.f l tv
def aTl:=fun a b c d e f g i j k=>lE a b c d|>.f e|>.f f|>.f g|>.f i|>.t j|>.f k tv
def aTm:=fun a b c d e f g i j k l m n o=>lE a b c d|>.f f|>.f g|>.f i|>.f j|>.f k|>.t l|>.t m|>.t n e o tv
def aTn:=fun a b c d e f g i j k l m=>lE a b c d|>.f e|>.f f|>.f g|>.f i|>.f j|>.t k|>.t l|>.f m tv
def aTo:=fun a b c d e f g i j k l=>lE a b c d|>.f e|>.f f|>.f g|>.f i|>.f j|>.t k|>.f l tv
def aTp:=fun a b c d e f g i j k=>lE a b c d|>.f e|>.f f|>.f g|>.f i|>.f j|>.f k tv
def aTq(d e:Int)(f:aE)(b:List Pat)(c:Bool)(a:Int):=tT 0 (eV d e f b c a)<|gd 7 85 (a< (b.length:Int)) (.b 3 87 c (mW 8 b a<|fun g i j k=>cP 1 189 [(.agg [(nI g),(nI i),(aC j),(iP k)])]<|fun l=>gw 6 89 (a+1)<|.W 3 1 [0] (eV d e f b l (a+1)))<|gE 8 1 (bV c))<|gE 11 1 (bV c)
def aYM:=fun a b c d e f g i j k l m n o p q r=>aTq a b c d e f|>.t m|>.t n g i j k o p l q r tv
def aYN:=fun a b c d e f g i=>aTq a b c d e f|>.t g|>.f i tv
def aYO:=fun a b c d e f g=>aTq a b c d e f|>.f g tv
def aTr(a b:Int)(c:aE)(d:List Pat):=tT 0 (start PP 123 [(.agg [(nI a),(nI b),(aC c),(iP d)])])<|gpI 8 124 [(.agg [(nI a),(nI b),(aC c),(iP d)]),(nI 12)]<|fun f=>gd 2 6 (f≥0) (cP 1 189 [(.agg [(nI a),(nI b),(aC c),(iP d)])]<|fun g=>.b 2 10 g (.y fun e:List aE=>gp 1 186 [(.agg [(nI a),(nI b),(aC c),(iP d)])] (iS e)<|cP 0 49 [(iS e)]<|fun i=>gE 4 1 (bV i))<|gE 7 1 (bV false))<|gE 11 1 (bV false)
def aYP:=fun a b c d e f g i j k l m n o=>aTr a b c d e j|>.t k f l|>.t m g n i o tv
def aYQ:=fun a b c d e f g i j k=>aTr a b c d e g|>.t i f j|>.f k tv
def aYR:=fun a b c d e f g=>aTr a b c d e f|>.f g tv
end
end Go.Hb
namespace Go.Hb
end Go.Hb
namespace Go.Hb
open Go.Proofs
noncomputable section
open Go.Proofs Tryz
def bGE(a b c d:Int)(e:aE)(f:List Pat):TS:=bW PP 269 [(.ptr 0 0),(.agg [(nI c),(nI d),(aC e),(iP f)])] [oC 0 [(nI a),(nI b)]] 1
def aOg(e b f g:Int)(i:aE)(a:List Pat)(c d:Int):TS:=⟨(tf 269 19 [kp 0 0,(9,(iP a)),(10,(nI (a.length:Int))),(11,(nI c))] [kc f269 60,kl f269 60,.inBlock 0]),[],[oC 0 [(nI d),(nI b)]],1⟩
def aOh(a:List (aE×Bool))(b c:Int)(d:aE)(e:List Pat):TS:=bW PP 270 [(.agg [(nI b),(nI c),(aC d),(iP e)]),(.map 0)] [(0,(.map (aV aC hI 0 a) a.length),true)] 1
def nM(d:List (aE×Bool))(e f:Int)(g:aE)(a:List Pat)(b:List (aE×Bool))(c:Int):TS:=⟨(tf 270 121 [(1,(.map 0)),(111,(iP a)),(112,(nI (a.length:Int))),(113,(nI c))] [kc f270 60,kl f270 60,.inBlock 1]),[],[(0,(.map (aV aC hI 0 b) b.length),true)],1⟩
def bEQ(a b:Int)(c:aE)(d:List Pat):TS:=bW PP 234 [(.agg [(nI a),(nI b),(aC c),(iP d)])] [] 0
def bER(a b d e:Int)(f:aE)(c:List Pat):=tT 1 (bGE a b d e f c)<|gw 15 8 (a-1)<|gd 11 16 ((a-1) ≥0) (.b 13 3 (!(decide (0≤b))) (.P 7 2 [] [((.iface 299 (.agg [])),false)] [oC 0 [(nI (a-1)),(nI b)]] 1)<|gm 12 aF c<|.W 4 2 [] (aOg a b d e f c 0 (a-1)))<|.P 20 2 [] [((.iface 299 (.agg [])),false)] [oC 0 [(nI (a-1)),(nI b)]] 1
def bGF:=fun a b c d e f g i j=>bER a b c d e f g|>.t i|>.f j tv
def bGG:=fun a b c d e f g i=>bER a b c d e f g|>.f i tv
def aTs(k a l m:Int)(n:aE)(i:List Pat)(f j:Int):=tT 1 (aOg k a l m n i f j)<|gd 5 12 (f< (i.length:Int)) (mW 6 i f<|fun b c d e=>.o (.y fun g:Int=>gK 7 (.enter 269 [(.ptr 0 0),(.agg [(nI b),(nI c),(aC d),(iP e)])]) [oC 0 [(nI j),(nI a)],oC 1 [(nI b),(nI c),(aC d),(iP e)]] 2 [((.iface 299 (.agg [])),false)] [oC 0 [(nI g),(nI a)],oC 1 [(nI b),(nI c),(aC d),(iP e)]] 2<|.P 0 2 [] [((.iface 299 (.agg [])),false)] [oC 0 [(nI g),(nI a)]] 1)<|.y fun g:Int=>gk 7 (.enter 269 [(.ptr 0 0),(.agg [(nI b),(nI c),(aC d),(iP e)])]) [oC 0 [(nI j),(nI a)],oC 1 [(nI b),(nI c),(aC d),(iP e)]] 2 (.tup []) [oC 0 [(nI g),(nI a)],oC 1 [(nI b),(nI c),(aC d),(iP e)]] 2<|gw 4 18 (f+1)<|.W 3 2 [] (aOg k a l m n i (f+1) g))<|.E 3 1 [] (.tup []) [oC 0 [(nI j),(nI a)]] 1
def bGH:=fun a b c d e f g i j k l m n o p q r=>aTs a b c d e f g i|>.t o j k l m p q|>.1 n r tv
def bGI:=fun a b c d e f g i j k l m n o p q r s=>aTs a b c d e f g i|>.t o j k l m p q|>.2 n r s tv
def bGJ:=fun a b c d e f g i j=>aTs a b c d e f g i|>.f j tv
def gC(a:List (aE×Bool))(e d:Int)(b:aE)(c:List Pat):=tT 1 (aOh a e d b c)<|.b 17 9 (e==1) (gm 6 aF c<|.b 2 16 ((c.length:Int) ==0) (.b 5 21 (d==0) (.b 10 3 (!(aQ b.length (aB b) 0 0)) (.P 6 2 [] [((.iface 299 (.agg [])),false)] [(0,(.map (aV aC hI 0 a) a.length),true)] 1)<|gm 10 aF c<|.W 4 2 [] (nM a e d b c a 0))<|.P 16 2 [] [((.iface 299 (.agg [])),false)] [(0,(.map (aV aC hI 0 a) a.length),true)] 1)<|.P 21 2 [] [((.iface 299 (.agg [])),false)] [(0,(.map (aV aC hI 0 a) a.length),true)] 1)<|.b 5 9 (e==5) (gm 4 aF c<|.b 2 16 ((c.length:Int) ==0) (.b 5 21 (d==0) (.b 10 3 (!(aQ b.length (aB b) 0 0)) (.P 6 2 [] [((.iface 299 (.agg [])),false)] [(0,(.map (aV aC hI 0 a) a.length),true)] 1)<|gm 10 aF c<|.W 4 2 [] (nM a e d b c a 0))<|.P 16 2 [] [((.iface 299 (.agg [])),false)] [(0,(.map (aV aC hI 0 a) a.length),true)] 1)<|.P 21 2 [] [((.iface 299 (.agg [])),false)] [(0,(.map (aV aC hI 0 a) a.length),true)] 1)<|.b 6 27 (e==2) (gm 5 aF c<|.b 2 33 ((c.length:Int) ==0) (.b 5 38 (d==0) (cP 2 103 [(aC b)]<|fun f=>.b 2 43 f (.o (.y fun g:Bool=>.i [rn 3,.ans (.look (some (aDG b a,(hI g))))] [.a (iU b a=some g) (p':=iL (aC b) (aV aC hI 0 a) 0=some (some (aDG b a,(hI g)))) (aFI aAQ)]<|.b 8 3 (!(!g)) (.P 6 2 [] [((.iface 299 (.agg [])),false)] [(0,(.map (aV aC hI 0 a) a.length),true)] 1)<|.i [rn 9,.mput (aV aC hI 0 (fB b true a)) (fB b true a).length] [.q (p:=tL (aV aC hI 0 a) a.length (aC b) (hI true) =some ((aV aC hI 0 (fB b true a)),List.length (fB b true a))) (aHi aAQ _ _ _)]<|gm 6 aF c<|.W 4 2 [] (nM a e d b c (fB b true a) 0))<|.i [rn 3,.ans (.look none)] [.a (iU b a=none) (p':=iL (aC b) (aV aC hI 0 a) 0=some none) (aFH aAQ)]<|.i [rn 17,.mput (aV aC hI 0 (fB b true a)) (fB b true a).length] [.q (p:=tL (aV aC hI 0 a) a.length (aC b) (hI true) =some ((aV aC hI 0 (fB b true a)),List.length (fB b true a))) (aHi aAQ _ _ _)]<|gm 6 aF c<|.W 4 2 [] (nM a e d b c (fB b true a) 0))<|.P 18 2 [] [((.iface 299 (.agg [])),false)] [(0,(.map (aV aC hI 0 a) a.length),true)] 1)<|.P 23 2 [] [((.iface 299 (.agg [])),false)] [(0,(.map (aV aC hI 0 a) a.length),true)] 1)<|.P 28 2 [] [((.iface 299 (.agg [])),false)] [(0,(.map (aV aC hI 0 a) a.length),true)] 1)<|.b 6 54 (e==3) (gm 4 aF c<|.b 2 60 ((c.length:Int) ==0) (.b 5 65 (aQ b.length (aB b) 0 0) (cP 2 251 [(nI d)]<|fun f=>.b 7 3 (!f) (.P 6 2 [] [((.iface 299 (.agg [])),false)] [(0,(.map (aV aC hI 0 a) a.length),true)] 1)<|gm 10 aF c<|.W 4 2 [] (nM a e d b c a 0))<|.P 16 2 [] [((.iface 299 (.agg [])),false)] [(0,(.map (aV aC hI 0 a) a.length),true)] 1)<|.P 21 2 [] [((.iface 299 (.agg [])),false)] [(0,(.map (aV aC hI 0 a) a.length),true)] 1)<|.b 6 71 (e==4) (gm 4 aF c<|.b 2 77 ((c.length:Int) ==0) (.b 5 82 (aQ b.length (aB b) 0 0) (.b 4 86 (d==0) (gm 21 aF c<|.W 4 2 [] (nM a e d b c a 0))<|.b 11 3 (!(d==1)) (.P 6 2 [] [((.iface 299 (.agg [])),false)] [(0,(.map (aV aC hI 0 a) a.length),true)] 1)<|gm 10 aF c<|.W 4 2 [] (nM a e d b c a 0))<|.P 21 2 [] [((.iface 299 (.agg [])),false)] [(0,(.map (aV aC hI 0 a) a.length),true)] 1)<|.P 26 2 [] [((.iface 299 (.agg [])),false)] [(0,(.map (aV aC hI 0 a) a.length),true)] 1)<|.b 6 93 (e==6) (gm 4 aF c<|gd 2 99 ((c.length:Int) ≤3) (.b 5 104 (d==0) (cP 2 179 [(aC b)]<|fun f=>.b 7 3 (!f) (.P 6 2 [] [((.iface 299 (.agg [])),false)] [(0,(.map (aV aC hI 0 a) a.length),true)] 1)<|gm 10 aF c<|.W 4 2 [] (nM a e d b c a 0))<|.P 16 2 [] [((.iface 299 (.agg [])),false)] [(0,(.map (aV aC hI 0 a) a.length),true)] 1)<|.P 21 2 [] [((.iface 299 (.agg [])),false)] [(0,(.map (aV aC hI 0 a) a.length),true)] 1)<|.P 14 2 [] [((.iface 299 (.agg [])),false)] [(0,(.map (aV aC hI 0 a) a.length),true)] 1
def aYS:=fun a b c d e f g i j=>gC a b c d e|>.t f|>.t g|>.t i|>.t j ⟨bK (fun _=>rfl) (fun _=>rfl) _ _ _,trivial⟩
def aYT:=fun a b c d e f g i j=>gC a b c d e|>.t f|>.t g|>.t i|>.f j ⟨bK (fun _=>rfl) (fun _=>rfl) _ _ _,trivial⟩
def aYU:=fun a b c d e f g i=>gC a b c d e|>.t f|>.t g|>.f i ⟨bK (fun _=>rfl) (fun _=>rfl) _ _ _,trivial⟩
def aYV:=fun a b c d e f g=>gC a b c d e|>.t f|>.f g ⟨bK (fun _=>rfl) (fun _=>rfl) _ _ _,trivial⟩
def aYW:=fun a b c d e f g i j k=>gC a b c d e|>.f f|>.t g|>.t i|>.t j|>.t k ⟨bK (fun _=>rfl) (fun _=>rfl) _ _ _,trivial⟩
def aYX:=fun a b c d e f g i j k=>gC a b c d e|>.f f|>.t g|>.t i|>.t j|>.f k ⟨bK (fun _=>rfl) (fun _=>rfl) _ _ _,trivial⟩
def aYY:=fun a b c d e f g i j=>gC a b c d e|>.f f|>.t g|>.t i|>.f j ⟨bK (fun _=>rfl) (fun _=>rfl) _ _ _,trivial⟩
def aYZ:=fun a b c d e f g i=>gC a b c d e|>.f f|>.t g|>.f i ⟨bK (fun _=>rfl) (fun _=>rfl) _ _ _,trivial⟩
def aY0:=fun a b c d e f g i j k l m n o p q=>gC a b c d e|>.f i|>.f j|>.t k|>.t l|>.t m f n|>.t o|>.1 g p|>.t q ⟨bK (fun _=>rfl) (fun _=>rfl) _ _ _,trivial⟩
def aY1:=fun a b c d e f g i j k l m n o p q=>gC a b c d e|>.f i|>.f j|>.t k|>.t l|>.t m f n|>.t o|>.1 g p|>.f q ⟨bK (fun _=>rfl) (fun _=>rfl) _ _ _,trivial⟩
def aTt:=fun a b c d e f g i j k l m n o=>gC a b c d e|>.f g|>.f i|>.t j|>.t k|>.t l f m|>.t n|>.2 o ⟨bK (fun _=>rfl) (fun _=>rfl) _ _ _,trivial⟩
def aTu:=fun a b c d e f g i j k l m n=>gC a b c d e|>.f g|>.f i|>.t j|>.t k|>.t l f m|>.f n ⟨bK (fun _=>rfl) (fun _=>rfl) _ _ _,trivial⟩
def aTv:=fun a b c d e f g i j k=>gC a b c d e|>.f f|>.f g|>.t i|>.t j|>.f k ⟨bK (fun _=>rfl) (fun _=>rfl) _ _ _,trivial⟩
def aTw:=fun a b c d e f g i j=>gC a b c d e|>.f f|>.f g|>.t i|>.f j ⟨bK (fun _=>rfl) (fun _=>rfl) _ _ _,trivial⟩
def aTx:=fun a b c d e f g i j k l m n o=>gC a b c d e|>.f g|>.f i|>.f j|>.t k|>.t l|>.t m f n|>.t o ⟨bK (fun _=>rfl) (fun _=>rfl) _ _ _,trivial⟩
def aTy:=fun a b c d e f g i j k l m n o=>gC a b c d e|>.f g|>.f i|>.f j|>.t k|>.t l|>.t m f n|>.f o ⟨bK (fun _=>rfl) (fun _=>rfl) _ _ _,trivial⟩
def aTz:=fun a b c d e f g i j k l=>gC a b c d e|>.f f|>.f g|>.f i|>.t j|>.t k|>.f l ⟨bK (fun _=>rfl) (fun _=>rfl) _ _ _,trivial⟩
def aTA:=fun a b c d e f g i j k=>gC a b c d e|>.f f|>.f g|>.f i|>.t j|>.f k ⟨bK (fun _=>rfl) (fun _=>rfl) _ _ _,trivial⟩
def aTB:=fun a b c d e f g i j k l m n=>gC a b c d e|>.f f|>.f g|>.f i|>.f j|>.t k|>.t l|>.t m|>.t n ⟨bK (fun _=>rfl) (fun _=>rfl) _ _ _,trivial⟩
def aTC:=fun a b c d e f g i j k l m n o=>gC a b c d e|>.f f|>.f g|>.f i|>.f j|>.t k|>.t l|>.t m|>.f n|>.t o ⟨bK (fun _=>rfl) (fun _=>rfl) _ _ _,trivial⟩
def aTD:=fun a b c d e f g i j k l m n o=>gC a b c d e|>.f f|>.f g|>.f i|>.f j|>.t k|>.t l|>.t m|>.f n|>.f o ⟨bK (fun _=>rfl) (fun _=>rfl) _ _ _,trivial⟩
def aTE:=fun a b c d e f g i j k l m=>gC a b c d e|>.f f|>.f g|>.f i|>.f j|>.t k|>.t l|>.f m ⟨bK (fun _=>rfl) (fun _=>rfl) _ _ _,trivial⟩
def aTF:=fun a b c d e f g i j k l=>gC a b c d e|>.f f|>.f g|>.f i|>.f j|>.t k|>.f l ⟨bK (fun _=>rfl) (fun _=>rfl) _ _ _,trivial⟩
def aTG:=fun a b c d e f g i j k l m n o p q=>gC a b c d e|>.f g|>.f i|>.f j|>.f k|>.f l|>.t m|>.t n|>.t o f p|>.t q ⟨bK (fun _=>rfl) (fun _=>rfl) _ _ _,trivial⟩
def aTH:=fun a b c d e f g i j k l m n o p q=>gC a b c d e|>.f g|>.f i|>.f j|>.f k|>.f l|>.t m|>.t n|>.t o f p|>.f q ⟨bK (fun _=>rfl) (fun _=>rfl) _ _ _,trivial⟩
def aTI:=fun a b c d e f g i j k l m n=>gC a b c d e|>.f f|>.f g|>.f i|>.f j|>.f k|>.t l|>.t m|>.f n ⟨bK (fun _=>rfl) (fun _=>rfl) _ _ _,trivial⟩
def aTJ:=fun a b c d e f g i j k l m=>gC a b c d e|>.f f|>.f g|>.f i|>.f j|>.f k|>.t l|>.f m ⟨bK (fun _=>rfl) (fun _=>rfl) _ _ _,trivial⟩
def aTK:=fun a b c d e f g i j k l=>gC a b c d e|>.f f|>.f g|>.f i|>.f j|>.f k|>.f l ⟨bK (fun _=>rfl) (fun _=>rfl) _ _ _,trivial⟩
def aTL(j:List (aE×Bool))(k l:Int)(m:aE)(i:List Pat)(b:List (aE×Bool))(g:Int):=tT 1 (nM j k l m i b g)<|gd 5 114 (g< (i.length:Int)) (mW 6 i g<|fun c d e f=>.o (.y fun a:List (aE×Bool)=>gK 7 (.enter 270 [(.agg [(nI c),(nI d),(aC e),(iP f)]),(.map 0)]) [(0,(.map (aV aC hI 0 b) b.length),true),oC 1 [(nI c),(nI d),(aC e),(iP f)]] 2 [((.iface 299 (.agg [])),false)] [(0,(.map (aV aC hI 0 a) a.length),true),oC 1 [(nI c),(nI d),(aC e),(iP f)]] 2<|.P 0 2 [] [((.iface 299 (.agg [])),false)] [(0,(.map (aV aC hI 0 a) a.length),true)] 1)<|.y fun a:List (aE×Bool)=>gk 7 (.enter 270 [(.agg [(nI c),(nI d),(aC e),(iP f)]),(.map 0)]) [(0,(.map (aV aC hI 0 b) b.length),true),oC 1 [(nI c),(nI d),(aC e),(iP f)]] 2 (.tup []) [(0,(.map (aV aC hI 0 a) a.length),true),oC 1 [(nI c),(nI d),(aC e),(iP f)]] 2<|gw 4 120 (g+1)<|.W 3 2 [] (nM j k l m i a (g+1)))<|.E 3 1 [] (.tup []) [(0,(.map (aV aC hI 0 b) b.length),true)] 1
def aY2:=fun a b c d e f g i j k l m n o p q=>aTL a b c d e f g|>.t n i j k l o p|>.1 m q ⟨bK (fun _=>rfl) (fun _=>rfl) _ _ _,trivial⟩
def aY3:=fun a b c d e f g i j k l m n o p q r=>aTL a b c d e f g|>.t n i j k l o p|>.2 m q r ⟨bK (fun _=>rfl) (fun _=>rfl) _ _ _,trivial⟩
def aY4:=fun a b c d e f g i=>aTL a b c d e f g|>.f i ⟨bK (fun _=>rfl) (fun _=>rfl) _ _ _,trivial⟩
def aTM(a b:Int)(c:aE)(d:List Pat):=tT 0 (bEQ a b c d)<|.o (.y fun e:Int=>gK 36 (.enter 269 [(.ptr 2 0),(.agg [(nI a),(nI b),(aC c),(iP d)])]) [oC 0 [(nI a),(nI b),(aC c),(iP d)],oC 1 [(bV false)],oC 2 [(nI 12),(nI 0)]] 3 [((.iface 299 (.agg [])),false)] [oC 0 [(nI a),(nI b),(aC c),(iP d)],oC 1 [(bV false)],oC 2 [(nI e),(nI 0)]] 3<|gE 50 4 (nI 2))<|.y fun e:Int=>gk 36 (.enter 269 [(.ptr 2 0),(.agg [(nI a),(nI b),(aC c),(iP d)])]) [oC 0 [(nI a),(nI b),(aC c),(iP d)],oC 1 [(bV false)],oC 2 [(nI 12),(nI 0)]] 3 (.tup []) [oC 0 [(nI a),(nI b),(aC c),(iP d)],oC 1 [(bV false)],oC 2 [(nI e),(nI 0)]] 3<|.i [rn 4,.mset 3 (aV aC hI 0 ([] :List (aE×Bool))) ([] :List (aE×Bool)).length] [hr (aV aC hI 0 ([] :List (aE×Bool))),hr (List.length ([] :List (aE×Bool)))]<|.o (.y fun f:List (aE×Bool)=>gK 0 (.enter 270 [(.agg [(nI a),(nI b),(aC c),(iP d)]),(.map 3)]) [oC 0 [(nI a),(nI b),(aC c),(iP d)],oC 1 [(bV false)],oC 2 [(nI e),(nI 0)],(3,(.map (aV aC hI 0 ([] :List (aE×Bool))) ([] :List (aE×Bool)).length),true)] 4 [((.iface 299 (.agg [])),false)] [oC 0 [(nI a),(nI b),(aC c),(iP d)],oC 1 [(bV false)],oC 2 [(nI e),(nI 0)],(3,(.map (aV aC hI 0 f) f.length),true)] 4<|gE 50 5 (nI 2))<|.y fun f:List (aE×Bool)=>gk 0 (.enter 270 [(.agg [(nI a),(nI b),(aC c),(iP d)]),(.map 3)]) [oC 0 [(nI a),(nI b),(aC c),(iP d)],oC 1 [(bV false)],oC 2 [(nI e),(nI 0)],(3,(.map (aV aC hI 0 ([] :List (aE×Bool))) ([] :List (aE×Bool)).length),true)] 4 (.tup []) [oC 0 [(nI a),(nI b),(aC c),(iP d)],oC 1 [(bV false)],oC 2 [(nI e),(nI 0)],(3,(.map (aV aC hI 0 f) f.length),true)] 4<|gE 38 4 (nI 0)
def aY5:=fun a b c d e f=>aTM a b c d|>.1 e f tv
def aY6:=fun a b c d e f g i=>aTM a b c d|>.2 e g|>.1 f i tv
def aY7:=fun a b c d e f g i=>aTM a b c d|>.2 e g|>.2 f i tv
def bES(a:Int):=tT 0 (start PP 251 [(nI a)])<|gd 9 5 (a≥ (-1000000000:Int)) (gE 6 0 (bV (decide (a≤1000000000))))<|gE 6 0 (bV false)
def aY8:=fun a b=>bES a|>.t b tv
def aY9:=fun a b=>bES a|>.f b tv
end
end Go.Hb
namespace Go.Hb
open Go.Proofs
set_option maxHeartbeats 2000000
theorem sdW {p:Prop}(h:p:=by simp_all only [inB_iff,inB_not,beq_iff_eq,decide_eq_true_eq,decide_eq_false_iff_not] <;>omega) :p:=h
theorem idW {p:Prop}(h:p:=by exact⟨_,List.getElem?_eq_getElem (by simp_all only [inB_iff,inB_not,beq_iff_eq,decide_eq_true_eq,decide_eq_false_iff_not] <;>omega)⟩) :p:=h
theorem aFV (l:List Pat)(p:Prog)(hl:l.length<1000000)(ih:∀q∈l,Pure PP 209 [Prog.av p,Pat.av q] (.bool (cT p.cons q))) :
  ∀ (t:List Pat) (i:Nat),l.drop i=t→Ends PP 0 (aCO l p (i:Int)).as (.ret (.bool (cB p.cons t))) (aG [] 0)
 | [],i,h=>by
  have:=bD h;exact Ends.eqv (aST l p i sd) (by simp [cB])
 | .mk f n s ps::t,i,h=>by
  obtain⟨g1,g2,g3⟩ :=bB h;have hq:=ih (.mk f n s ps) (List.mem_of_getElem? g1);cases k:cT p.cons (.mk f n s ps)with
  | false=>
   rw [k]at hq;exact Ends.eqv (aSR l p i f n s ps false sd sd sd hq rfl) (by simp [cB,k])
  | true=>
   rw [k]at hq;refine(aSS l p i f n s ps true sd sd sd hq rfl sd).ends ?_;exact Ends.eqv (aFV l p hl ih t (i+1) g2) (by simp [cB,k])
theorem aQG (l:List Pat)(p:Prog)(hl:l.length<1000000)(ih:∀q∈l,Pure PP 209 [Prog.av p,Pat.av q] (.bool (cT p.cons q))) :
  Pure PP 211 [.ilst 4 (Pats.av l) false,.func 209 [Prog.av p] []] (.bool (cB p.cons l)) :=
 aM (by kernel_rfl) (by simp [AV.keylessL,AV.keyless,Prog.av]) rfl ((aSQ l p).ends (aFV l p hl ih l 0 rfl))
theorem bGK (p:Prog)(q_form q_n:Int)(q_text:aE)(q_parts:List Pat)(hc:p.cons.length≤1000)(hev:Pure PP 211 [.ilst 4 (Pats.av q_parts) false,.func 209 [Prog.av p] []] (.bool (cB p.cons q_parts))) :
  Ends PP 0 (start PP 209 [Prog.av p,Pat.av (.mk q_form q_n q_text q_parts)]).as (.ret (.bool (cT p.cons (.mk q_form q_n q_text q_parts)))) (aG [] 0) :=by
 have hw:IntKind.i64.wrap ((p.cons.length:Int) -1) = (p.cons.length:Int) -1:=by apply wrap64<;>omega
 cases hb1: (!(aQ (List.length q_text) (aB q_text) 0 0))with
 | true=>
  exact Ends.eqv (aSG p q_form q_n q_text q_parts   hb1) (by clear hev;simp_all [cT,dA,eU,aA,gJ] <;>rfl)
 | false =>
  cases hb2: (!(cB p.cons q_parts))with
  | true=>
   exact Ends.eqv (aSH p q_form q_n q_text q_parts  (cB p.cons q_parts) hb1 hev hb2) (by clear hev;simp_all [cT,dA,eU,aA,gJ] <;>rfl)
  | false =>
   cases hb3: (q_form== (1:Int))with
   | true=>
    cases hb4: (q_n== (0:Int))with
    | true=>
     exact Ends.eqv (aSI p q_form q_n q_text q_parts  (cB p.cons q_parts) hb1 hev hb2 hb3 hb4) (by clear hev;simp_all [cT,dA,eU,aA,gJ] <;>rfl)
    | false=>
     exact Ends.eqv (aSJ p q_form q_n q_text q_parts  (cB p.cons q_parts) hb1 hev hb2 hb3 hb4) (by clear hev;simp_all [cT,dA,eU,aA,gJ] <;>rfl)
   | false =>
    cases hb5: (q_form== (2:Int))with
    | true=>
     cases hb6: (q_n== (0:Int))with
     | true=>
      exact Ends.eqv (aSK p q_form q_n q_text q_parts  (cB p.cons q_parts) hb1 hev hb2 hb3 hb5 hb6) (by clear hev;simp_all [cT,dA,eU,aA,gJ] <;>rfl)
     | false=>
      exact Ends.eqv (aSL p q_form q_n q_text q_parts  (cB p.cons q_parts) hb1 hev hb2 hb3 hb5 hb6) (by clear hev;simp_all [cT,dA,eU,aA,gJ] <;>rfl)
    | false=>
     cases hb7: (q_form== (5:Int))with
     | true=>
      cases hb8: (q_n== (0:Int))with
      | true=>
       exact Ends.eqv (aSM p q_form q_n q_text q_parts  (cB p.cons q_parts) hb1 hev hb2 hb3 hb5 hb7 hb8) (by clear hev;simp_all [cT,dA,eU,aA,gJ] <;>rfl)
      | false=>
       exact Ends.eqv (aSN p q_form q_n q_text q_parts  (cB p.cons q_parts) hb1 hev hb2 hb3 hb5 hb7 hb8) (by clear hev;simp_all [cT,dA,eU,aA,gJ] <;>rfl)
     | false=>
      cases hb9: (q_form== (3:Int))with
      | true=>
       cases hb10: (aW q_n (-1000000000) 1000000000)with
       | true=>
        exact Ends.eqv (aSO p q_form q_n q_text q_parts  (cB p.cons q_parts) (aW q_n (-1000000000) 1000000000) hb1 hev hb2 hb3 hb5 hb7 hb9 (aBC q_n) hb10) (by clear hev;simp_all [cT,dA,eU,aA,gJ] <;>rfl)
       | false=>
        exact Ends.eqv (aSP p q_form q_n q_text q_parts  (cB p.cons q_parts) (aW q_n (-1000000000) 1000000000) hb1 hev hb2 hb3 hb5 hb7 hb9 (aBC q_n) hb10) (by clear hev;simp_all [cT,dA,eU,aA,gJ] <;>rfl)
      | false=>
       cases hb11: (q_form== (4:Int))with
       | true=>
        cases hb12: (aW q_n 0 1)with
        | true=>
         exact Ends.eqv (aQj p q_form q_n q_text q_parts  (cB p.cons q_parts) (aW q_n 0 1) hb1 hev hb2 hb3 hb5 hb7 hb9 hb11 (fP q_n 0 1) hb12) (by clear hev;simp_all [cT,dA,eU,aA,gJ] <;>rfl)
        | false=>
         exact Ends.eqv (aQk p q_form q_n q_text q_parts  (cB p.cons q_parts) (aW q_n 0 1) hb1 hev hb2 hb3 hb5 hb7 hb9 hb11 (fP q_n 0 1) hb12) (by clear hev;simp_all [cT,dA,eU,aA,gJ] <;>rfl)
       | false=>
        cases hb13: (q_form== (6:Int))with
        | true=>
         cases hb14: (aW q_n 0 (IntKind.i64.wrap (((List.length p.cons:Nat) :Int) - (1:Int))))with
         | true=>
          obtain⟨y2,hx15⟩ :∃y,((p.cons)[q_n.toNat]?) =some y:=idW;exact Ends.eqv (aQl p q_form q_n q_text q_parts  (cB p.cons q_parts) (aW q_n 0 (IntKind.i64.wrap (((List.length p.cons:Nat) :Int) - (1:Int)))) y2 hb1 hev hb2 hb3 hb5 hb7 hb9 hb11 hb13 (fP q_n 0 (IntKind.i64.wrap (((List.length p.cons:Nat) :Int) - (1:Int)))) hb14 sdW hx15) (by clear hev;simp_all [cT,dA,eU,aA,gJ] <;>rfl)
         | false=>
          exact Ends.eqv (aQm p q_form q_n q_text q_parts  (cB p.cons q_parts) (aW q_n 0 (IntKind.i64.wrap (((List.length p.cons:Nat) :Int) - (1:Int)))) hb1 hev hb2 hb3 hb5 hb7 hb9 hb11 hb13 (fP q_n 0 (IntKind.i64.wrap (((List.length p.cons:Nat) :Int) - (1:Int)))) hb14) (by clear hev;simp_all [cT,dA,eU,aA,gJ] <;>rfl)
        | false=>
         exact Ends.eqv (aQn p q_form q_n q_text q_parts  (cB p.cons q_parts) hb1 hev hb2 hb3 hb5 hb7 hb9 hb11 hb13) (by clear hev;simp_all [cT,dA,eU,aA,gJ] <;>rfl)
mutual
theorem aFW (p:Prog)(hc:p.cons.length≤1000) :∀ (q:Pat),aP q<1000000→Pure PP 209 [Prog.av p,Pat.av q] (.bool (cT p.cons q))
 | .mk f n s ps,h=>by
  refine aM (by kernel_rfl) (by simp [AV.keylessL,fC,AV.keyless,Prog.av]) rfl ?_;simp only [aP]at h;have:=cL ps;exact bGK p f n s ps hc (aQG ps p (by omega) (aKf p hc ps (by omega)))
theorem aKf (p:Prog)(hc:p.cons.length≤1000) :∀ (ps:List Pat),aK ps<1000000→∀q∈ps,Pure PP 209 [Prog.av p,Pat.av q] (.bool (cT p.cons q))
 | [],_,q,hq=>by cases hq
 | r::ps,h,q,hq=>by
  simp only [aK]at h;rcases List.mem_cons.1 hq with e|hq
  ·rw [e];exact aFW p hc r (by omega)
  ·exact aKf p hc ps (by omega) q hq
end
def cU (op:Int) :Option Int:=
 if op=1∨op=2∨op=3∨op=4∨op=21∨op=25∨op=28 then some 0
 else if op=5∨op=27∨op=16∨op=17∨op=19∨op=20∨op=23∨op=26∨op=24 then some 1
 else if op=6∨op=7∨op=9∨op=10∨op=11∨op=12∨op=13∨op=18∨op=22 then some 2
 else if op=8 then some 3 else none
def bI (op:Int) :AV:=
 match cU op with
 |some k=>.iface 306 (.int .i64 k)
 |none=>if op=15 then .iface 258 (.agg [])else if op=14 then .iface 307 (.agg [])else .nili
theorem aKg {op k:Int}(h:cU op=some k)(pats args:Int) :dH op pats args=k∧op≠15∧op≠14:=by
 unfold cU at h;unfold dH;split at h
 ·rename_i g;rw [if_pos g];simp only [Option.some.injEq]at h;refine⟨h,?_,?_⟩ <;>omega
 · rename_i g0;rw [if_neg g0];split at h
   ·rename_i g;rw [if_pos g];simp only [Option.some.injEq]at h;refine⟨h,?_,?_⟩ <;>omega
   · rename_i g1;rw [if_neg g1];split at h
     ·rename_i g;rw [if_pos g];simp only [Option.some.injEq]at h;refine⟨h,?_,?_⟩ <;>omega
     · rename_i g2;rw [if_neg g2];split at h
       ·rename_i g;rw [if_pos g];simp only [Option.some.injEq]at h;refine⟨h,?_,?_⟩ <;>omega
       ·cases h
theorem aM4 {op:Int}(h:cU op=none)(pats args:Int) :dH op pats args=if op=15 then 1+pats else if op=14 then args else -1:=by
 unfold cU at h;unfold dH;split at h
 ·cases h
 · rename_i g0;rw [if_neg g0];split at h
   ·cases h
   · rename_i g1;rw [if_neg g1];split at h
     ·cases h
     · rename_i g2;rw [if_neg g2];split at h
       ·cases h
       ·rename_i g;rw [if_neg g]
theorem bKidsOf_E (op : Int) :Ends PP 0 (start PP 206 [.int .i64 op]).as (.ret (bI op)) (aG [] 0) :=by
 cases hb1: (op== (1:Int))with
 | true=>
  exact Ends.eqv (aJJ op   hb1) (by simp_all [bI,cU])
 | false =>
  cases hb2: (op== (2:Int))with
  | true=>
   exact Ends.eqv (aJK op   hb1 hb2) (by simp_all [bI,cU])
  | false =>
   cases hb3: (op== (3:Int))with
   | true=>
    exact Ends.eqv (aJL op   hb1 hb2 hb3) (by simp_all [bI,cU])
   | false =>
    cases hb4: (op== (4:Int))with
    | true=>
     exact Ends.eqv (aJM op   hb1 hb2 hb3 hb4) (by simp_all [bI,cU])
    | false =>
     cases hb5: (op== (21:Int))with
     | true=>
      exact Ends.eqv (aJN op   hb1 hb2 hb3 hb4 hb5) (by simp_all [bI,cU])
     | false =>
      cases hb6: (op== (25:Int))with
      | true=>
       exact Ends.eqv (aJO op   hb1 hb2 hb3 hb4 hb5 hb6) (by simp_all [bI,cU])
      | false =>
       cases hb7: (op== (28:Int))with
       | true=>
        exact Ends.eqv (aJP op   hb1 hb2 hb3 hb4 hb5 hb6 hb7) (by simp_all [bI,cU])
       | false =>
        cases hb8: (op== (5:Int))with
        | true=>
         exact Ends.eqv (aJQ op   hb1 hb2 hb3 hb4 hb5 hb6 hb7 hb8) (by simp_all [bI,cU])
        | false =>
         cases hb9: (op== (27:Int))with
         | true=>
          exact Ends.eqv (aJR op   hb1 hb2 hb3 hb4 hb5 hb6 hb7 hb8 hb9) (by simp_all [bI,cU])
         | false =>
          cases hb10: (op== (16:Int))with
          | true=>
           exact Ends.eqv (aJS op   hb1 hb2 hb3 hb4 hb5 hb6 hb7 hb8 hb9 hb10) (by simp_all [bI,cU])
          | false =>
           cases hb11: (op== (17:Int))with
           | true=>
            exact Ends.eqv (aHm op   hb1 hb2 hb3 hb4 hb5 hb6 hb7 hb8 hb9 hb10 hb11) (by simp_all [bI,cU])
           | false =>
            cases hb12: (op== (19:Int))with
            | true=>
             exact Ends.eqv (aHn op   hb1 hb2 hb3 hb4 hb5 hb6 hb7 hb8 hb9 hb10 hb11 hb12) (by simp_all [bI,cU])
            | false =>
             cases hb13: (op== (20:Int))with
             | true=>
              exact Ends.eqv (aHo op   hb1 hb2 hb3 hb4 hb5 hb6 hb7 hb8 hb9 hb10 hb11 hb12 hb13) (by simp_all [bI,cU])
             | false =>
              cases hb14: (op== (23:Int))with
              | true=>
               exact Ends.eqv (aHp op   hb1 hb2 hb3 hb4 hb5 hb6 hb7 hb8 hb9 hb10 hb11 hb12 hb13 hb14) (by simp_all [bI,cU])
              | false =>
               cases hb15: (op== (24:Int))with
               | true=>
                exact Ends.eqv (aHq op   hb1 hb2 hb3 hb4 hb5 hb6 hb7 hb8 hb9 hb10 hb11 hb12 hb13 hb14 hb15) (by simp_all [bI,cU])
               | false =>
                cases hb16: (op== (26:Int))with
                | true=>
                 exact Ends.eqv (aHr op   hb1 hb2 hb3 hb4 hb5 hb6 hb7 hb8 hb9 hb10 hb11 hb12 hb13 hb14 hb15 hb16) (by simp_all [bI,cU])
                | false =>
                 cases hb17: (op== (6:Int))with
                 | true=>
                  exact Ends.eqv (aHs op   hb1 hb2 hb3 hb4 hb5 hb6 hb7 hb8 hb9 hb10 hb11 hb12 hb13 hb14 hb15 hb16 hb17) (by simp_all [bI,cU])
                 | false =>
                  cases hb18: (op== (7:Int))with
                  | true=>
                   exact Ends.eqv (aHt op   hb1 hb2 hb3 hb4 hb5 hb6 hb7 hb8 hb9 hb10 hb11 hb12 hb13 hb14 hb15 hb16 hb17 hb18) (by simp_all [bI,cU])
                  | false =>
                   cases hb19: (op== (9:Int))with
                   | true=>
                    exact Ends.eqv (aHu op   hb1 hb2 hb3 hb4 hb5 hb6 hb7 hb8 hb9 hb10 hb11 hb12 hb13 hb14 hb15 hb16 hb17 hb18 hb19) (by simp_all [bI,cU])
                   | false =>
                    cases hb20: (op== (10:Int))with
                    | true=>
                     exact Ends.eqv (aHv op   hb1 hb2 hb3 hb4 hb5 hb6 hb7 hb8 hb9 hb10 hb11 hb12 hb13 hb14 hb15 hb16 hb17 hb18 hb19 hb20) (by simp_all [bI,cU])
                    | false =>
                     cases hb21: (op== (11:Int))with
                     | true=>
                      exact Ends.eqv (aHw op   hb1 hb2 hb3 hb4 hb5 hb6 hb7 hb8 hb9 hb10 hb11 hb12 hb13 hb14 hb15 hb16 hb17 hb18 hb19 hb20 hb21) (by simp_all [bI,cU])
                     | false =>
                      cases hb22: (op== (12:Int))with
                      | true=>
                       exact Ends.eqv (aHx op   hb1 hb2 hb3 hb4 hb5 hb6 hb7 hb8 hb9 hb10 hb11 hb12 hb13 hb14 hb15 hb16 hb17 hb18 hb19 hb20 hb21 hb22) (by simp_all [bI,cU])
                      | false =>
                       cases hb23: (op== (13:Int))with
                       | true=>
                        exact Ends.eqv (aHy op   hb1 hb2 hb3 hb4 hb5 hb6 hb7 hb8 hb9 hb10 hb11 hb12 hb13 hb14 hb15 hb16 hb17 hb18 hb19 hb20 hb21 hb22 hb23) (by simp_all [bI,cU])
                       | false=>
                        cases hb24: (op== (18:Int))with
                        | true=>
                         exact Ends.eqv (aHz op   hb1 hb2 hb3 hb4 hb5 hb6 hb7 hb8 hb9 hb10 hb11 hb12 hb13 hb14 hb15 hb16 hb17 hb18 hb19 hb20 hb21 hb22 hb23 hb24) (by simp_all [bI,cU])
                        | false=>
                         cases hb25: (op== (22:Int))with
                         | true=>
                          exact Ends.eqv (aHA op   hb1 hb2 hb3 hb4 hb5 hb6 hb7 hb8 hb9 hb10 hb11 hb12 hb13 hb14 hb15 hb16 hb17 hb18 hb19 hb20 hb21 hb22 hb23 hb24 hb25) (by simp_all [bI,cU])
                         | false=>
                          cases hb26: (op== (8:Int))with
                          | true=>
                           exact Ends.eqv (aHB op   hb1 hb2 hb3 hb4 hb5 hb6 hb7 hb8 hb9 hb10 hb11 hb12 hb13 hb14 hb15 hb16 hb17 hb18 hb19 hb20 hb21 hb22 hb23 hb24 hb25 hb26) (by simp_all [bI,cU])
                          | false=>
                           cases hb27: (op== (14:Int))with
                           | true=>
                            exact Ends.eqv (aHC op   hb1 hb2 hb3 hb4 hb5 hb6 hb7 hb8 hb9 hb10 hb11 hb12 hb13 hb14 hb15 hb16 hb17 hb18 hb19 hb20 hb21 hb22 hb23 hb24 hb25 hb26 hb27) (by simp_all [bI,cU])
                           | false=>
                            cases hb28: (op== (15:Int))with
                            | true=>
                             exact Ends.eqv (aHD op   hb1 hb2 hb3 hb4 hb5 hb6 hb7 hb8 hb9 hb10 hb11 hb12 hb13 hb14 hb15 hb16 hb17 hb18 hb19 hb20 hb21 hb22 hb23 hb24 hb25 hb26 hb27 hb28) (by simp_all [bI,cU])
                            | false=>
                             exact Ends.eqv (aHE op   hb1 hb2 hb3 hb4 hb5 hb6 hb7 hb8 hb9 hb10 hb11 hb12 hb13 hb14 hb15 hb16 hb17 hb18 hb19 hb20 hb21 hb22 hb23 hb24 hb25 hb26 hb27 hb28) (by simp_all [bI,cU])
theorem aM5 (op:Int) :AV.keyless (bI op) =true:=by
 unfold bI;split
 ·rfl
 · split
   ·rfl
   ·split<;>rfl
theorem aHI (op:Int) :Pure PP 206 [.int .i64 op] (bI op) :=
 aM (by kernel_rfl) rfl (aM5 op) (bKidsOf_E op)
theorem aD4 (p:Prog)(x:Node)(hc:p.cons.length≤1000)(hx:x.pats.length≤10) :
  ∀ (t:List Pat) (i:Nat),x.pats.drop i=t→Ends PP 0 (sE p x (i:Int)).as (.ret (.bool (t.all (jK p.cons)))) (aG [] 0)
 | [],i,h=>by
  have:=bD h;exact Ends.eqv (aQA p x i sd) (by simp)
 | .mk f n s ps::t,i,h=>by
  obtain⟨g1,g2,g3⟩ :=bB h;have hs:=aD2 (.mk f n s ps) 12 (by omega) (by omega);by_cases k:aP (.mk f n s ps) ≤12
  · have hg:pO (.mk f n s ps) 12≤12:= (aFS (.mk f n s ps) 12 (by omega)).2 (by omega);have hq:=aFW p hc (.mk f n s ps) (by omega);cases kq:cT p.cons (.mk f n s ps)with
    | false=>
     rw [kq]at hq;exact Ends.eqv (aQx p x i f n s ps _ false sd sd sd hs (decide_eq_true hg) hq rfl) (by simp [jK,kq])
    | true=>
     rw [kq]at hq;refine(aQy p x i f n s ps _ true sd sd sd hs (decide_eq_true hg) hq rfl sd).ends ?_;exact Ends.eqv (aD4 p x hc hx t (i+1) g2) (by simp [jK,k,kq])
  · have hg:¬pO (.mk f n s ps) 12≤12:=fun g=>k (by have:= (aFS (.mk f n s ps) 12 (by omega)).1 g;omega);exact Ends.eqv (aQz p x i f n s ps _ sd sd sd hs (decide_eq_false hg)) (by simp [jK,k])
theorem aM6 (p:Prog)(x:Node)(hc:p.cons.length≤1000)(hf:p.funs.length≤1000)(hx:x.pats.length≤10)(hk:x.kids.length≤10) :Pure PP 161 [Prog.av p,Node.av x] (.bool (cO p x)) :=by
 refine aM (by kernel_rfl) rfl rfl ?_;have hw:IntKind.i64.wrap ((p.cons.length:Int) -1) = (p.cons.length:Int) -1:=by apply wrap64<;>omega
 have hko:=aHI x.op;have hn:=aHG p x hf;have hl:=aD4 p x hc hx x.pats 0 rfl;cases kf:cU x.op with
 | some k=>
  obtain⟨e1,e2,e3⟩ :=aKg kf (x.pats.length:Int) (lC p x);have ev:bI x.op= .iface 306 (.int .i64 k) :=by unfold bI;rw [kf]
  rw [ev]at hko;have en:cO p x= (nS p x&&decide (x.pats.length=0) &&x.pats.all (jK p.cons) &&decide ((x.kids.length:Int) =k)) :=by
   simp only [cO,mX,nS,e1,if_neg e2,if_neg e3]
  rw [en];by_cases g0:x.pats.length=0
  · by_cases g1: (x.kids.length:Int) =k
    · have b1: (((List.length x.kids:Nat) :Int) ==k) =true:=by simp [g1]
      cases g2:nS p x with
      | false=>
       rw [g2]at hn;exact Ends.eqv (aMY p x k false hko sd b1 hn rfl) (by simp)
      | true=>
       rw [g2]at hn;refine(aMX p x k true hko sd b1 hn rfl).ends ?_;exact Ends.eqv hl (by simp [g0,g1])
    · have b1: (((List.length x.kids:Nat) :Int) ==k) =false:=by simp [g1]
      exact Ends.eqv (aMZ p x k hko sd b1) (by simp [g1])
  ·exact Ends.eqv (aQw p x k hko sd) (by simp [g0])
 | none =>
  have e1:=aM4 kf (x.pats.length:Int) (lC p x);by_cases h15:x.op=15
  · have ev:bI x.op= .iface 258 (.agg []) :=by unfold bI;rw [kf];simp only [h15,if_true]
    rw [ev]at hko;have en:cO p x= (nS p x&&aW (x.pats.length:Int) 1 5&&x.pats.all (jK p.cons) &&decide ((x.kids.length:Int) =1+ (x.pats.length:Int))) :=by
     simp only [cO,mX,nS,e1,if_pos h15,if_neg (show ¬x.op=14 by omega)]
    rw [en];have hi:=fP (x.pats.length:Int) 1 5;cases g0:aW (x.pats.length:Int) 1 5 with
    | false=>
     rw [g0]at hi;exact Ends.eqv (aQr p x false hko hi rfl) (by simp)
    | true=>
     rw [g0]at hi;by_cases g1: (x.kids.length:Int) =1+ (x.pats.length:Int)
     · have b1: (((List.length x.kids:Nat) :Int) == ((1:Int) + ((List.length x.pats:Nat) :Int))) =true:=by simp [g1]
       cases g2:nS p x with
       | false=>
        rw [g2]at hn;exact Ends.eqv (aQp p x true false hko hi rfl sd b1 hn rfl) (by simp)
       | true=>
        rw [g2]at hn;refine(aQo p x true true hko hi rfl sd b1 hn rfl).ends ?_;exact Ends.eqv hl (by simp [g1])
     · have b1: (((List.length x.kids:Nat) :Int) == ((1:Int) + ((List.length x.pats:Nat) :Int))) =false:=by simp [g1]
       exact Ends.eqv (aQq p x true hko hi rfl sd b1) (by simp [g1])
  · by_cases h14:x.op=14
    · have ev:bI x.op= .iface 307 (.agg []) :=by unfold bI;rw [kf];simp [h14]
      rw [ev]at hko;have en:cO p x= (aW x.n 0 ((p.cons.length:Int) -1) &&decide (x.pats.length=0) &&x.pats.all (jK p.cons) &&decide ((x.kids.length:Int) =lC p x)) :=by
       simp only [cO,mX,eG,e1,if_neg h15,if_pos h14,if_neg (show ¬x.op=1 by omega),if_neg (show ¬x.op=2 by omega),if_neg (show ¬x.op=4 by omega),if_neg (show ¬x.op=24 by omega)]
      rw [en];by_cases g0:x.pats.length=0
      · have hi:=fP x.n 0 ((p.cons.length:Int) -1);rw [←hw]at hi;cases g1:aW x.n 0 ((p.cons.length:Int) -1)with
        | false=>
         rw [hw,g1,←hw]at hi;exact Ends.eqv (aQv p x false hko sd hi rfl) (by simp)
        | true=>
         rw [hw,g1,←hw]at hi;have hb:=inB_iff.1 g1;obtain⟨c,hcx⟩ :∃c,p.cons[x.n.toNat]?=some c:= ⟨_,List.getElem?_eq_getElem (by omega)⟩;have ea:lC p x=c.args:=by simp [lC,h14,g1,eU,hcx]
         rw [ea];by_cases g2: (x.kids.length:Int) =c.args
         · have b1: (((List.length x.kids:Nat) :Int) ==c.args) =true:=by simp [g2]
           have hnn:nS p x=true:=by simp [nS,h14]
           rw [hnn]at hn;refine(aQt p x true c true hko sd hi rfl (by omega) hcx b1 hn rfl).ends ?_;exact Ends.eqv hl (by simp [g0,g2])
         · have b1: (((List.length x.kids:Nat) :Int) ==c.args) =false:=by simp [g2]
           exact Ends.eqv (aQu p x true c hko sd hi rfl (by omega) hcx b1) (by simp [g2])
      ·exact Ends.eqv (aQs p x hko sd) (by simp [g0])
    · have ev:bI x.op= .nili:=by unfold bI;rw [kf];simp [h15,h14]
      rw [ev]at hko;have en:cO p x=false:=by
       have:dH x.op x.pats.length (lC p x) = -1:=by rw [e1,if_neg h15,if_neg h14]
       have h2:¬ (x.kids.length:Int) = -1:=by omega
       simp [cO,this,h2]
      rw [en];exact aM0 p x hko
end Go.Hb
namespace Go.Hb
open Go.Proofs
set_option maxHeartbeats 4000000
theorem aO {α:Type}(l:List α) : (((List.length l:Nat) :Int) == (0:Int)) =decide (l.length=0) :=by cases l<;>simp;omega
def bR (f n:Int)(t:aE)(ps:List Pat) :Bool:=
 if f=1∨f=5 then decide (ps.length=0) &&decide (n=0) &&decide (t= [])
 else if f=2 then decide (ps.length=0) &&decide (n=0) &&dE t
 else if f=3 then decide (ps.length=0) &&decide (t= []) &&aW n (-1000000000) 1000000000
 else if f=4 then decide (ps.length=0) &&decide (t= []) &&aW n 0 1
 else if f=6 then decide ((ps.length:Int) ≤3) &&decide (n=0) &&cH t
 else false
mutual
def aD5 :Pat→Bool
 | .mk f n t ps=>bR f n t ps&&yT ps
def yT :List Pat→Bool
 | [] =>true
 |p::ps=>aD5 p&&yT ps
end
mutual
def jR :Pat→List aE
 | .mk f _ t ps=>if f=2 then [t]else jM ps
def jM :List Pat→List aE
 | [] =>[]
 |p::ps=>jR p++jM ps
end
mutual
theorem zN :∀p,(jR p).length≤aP p
 | .mk f _ t ps=>by
  have:=wI ps;rw [jR,aP];split
  ·simp
  ·omega
theorem wI :∀ps,(jM ps).length≤aK ps
 | [] =>by simp [jM]
 | p::ps=>by
  have:=zN p;have:=wI ps;simp only [jM,aK,List.length_append];omega
end
theorem aKh (f n:Int)(s:aE)(ps:List Pat)(hl:ps.length<1000000)(ih:∀p∈ps,Pure PP 186 [Pat.av p] (.ilst 1 (List.map aC (jR p)) false)) :
  ∀ (t:List Pat) (i:Nat) (acc:List aE),ps.drop i=t→ (acc++jM t).length≤1000000→Ends PP 0 (aHH f n s ps (i:Int) acc).as (.ret (.ilst 1 (List.map aC (acc++jM t)) false)) (aG [] 0)
 | [],i,acc,h,hb=>by
  have:=bD h;rw [jM,List.append_nil];exact aYB f n s ps i acc sd
 | .mk f' n' s' ps'::t,i,acc,h,hb=>by
  obtain⟨g1,g2,g3⟩ :=bB h;rw [jM,←List.append_assoc]at hb ⊢;refine(aYA f n s ps i acc f' n' s' ps' (jR (.mk f' n' s' ps')) sd sd sd (ih _ (List.mem_of_getElem? g1)) (by simp at hb ⊢;omega) sd).ends ?_;exact aKh f n s ps hl ih t (i+1) _ g2 hb
mutual
theorem aD6 :∀ (p:Pat),aP p≤1000→Pure PP 186 [Pat.av p] (.ilst 1 (List.map aC (jR p)) false)
 | .mk f n s ps,h=>by
  refine bM (s:=bEN f n s ps) (by kernel_rfl) (by kernel_rfl) (by simp [AV.keylessL,fC]) (by simp [AV.keyless]) ?_;simp only [aP]at h;have:=cL ps;have:=wI ps;rw [jR];by_cases hf:f=2
  · rw [if_pos hf];exact aYy f n s ps (by simp [hf])
  · rw [if_neg hf];exact(aYz f n s ps (by simp [hf])).ends (aKh f n s ps (by omega) (aOi ps (by omega)) ps 0 [] rfl (by simp;omega))
theorem aOi :∀ (ps:List Pat),aK ps≤1000→∀p∈ps,Pure PP 186 [Pat.av p] (.ilst 1 (List.map aC (jR p)) false)
 | [],_,p,hp=>by cases hp
 | q::ps,h,p,hp=>by
  simp only [aK]at h;rcases List.mem_cons.1 hp with e|hp
  ·rw [e];exact aD6 q (by omega)
  ·exact aOi ps (by omega) p hp
end
theorem bHY (q_form q_n:Int)(q_text:aE)(q_parts:List Pat)(b:Bool)(hk:∀i:Bool,i=bR q_form q_n q_text q_parts→Ends PP 0 (eV q_form q_n q_text q_parts i 0).as (.ret (.bool b)) (aG [] 0)) :
  Ends PP 0 (start PP 189 [Pat.av (.mk q_form q_n q_text q_parts)]).as (.ret (.bool b)) (aG [] 0) :=by
 cases hb1: (q_form== (1:Int))with
 | true=>
  cases hb2: (((List.length q_parts:Nat) :Int) == (0:Int))with
  | true=>
   cases hb3: (q_n== (0:Int))with
   | true=>
    exact LeadsM.ends (aYC q_form q_n q_text q_parts   hb1 hb2 hb3) (hk _ (by clear hk;simp_all [bR,aA,aO] <;>intros<;>omega))
   | false=>
    exact LeadsM.ends (aYD q_form q_n q_text q_parts   hb1 hb2 hb3) (hk _ (by clear hk;simp_all [bR,aA,aO] <;>intros<;>omega))
  | false=>
   exact LeadsM.ends (aYE q_form q_n q_text q_parts   hb1 hb2) (hk _ (by clear hk;simp_all [bR,aA,aO] <;>intros<;>omega))
 | false =>
  cases hb4: (q_form== (5:Int))with
  | true=>
   cases hb5: (((List.length q_parts:Nat) :Int) == (0:Int))with
   | true=>
    cases hb6: (q_n== (0:Int))with
    | true=>
     exact LeadsM.ends (aYF q_form q_n q_text q_parts   hb1 hb4 hb5 hb6) (hk _ (by clear hk;simp_all [bR,aA,aO] <;>intros<;>omega))
    | false=>
     exact LeadsM.ends (aYG q_form q_n q_text q_parts   hb1 hb4 hb5 hb6) (hk _ (by clear hk;simp_all [bR,aA,aO] <;>intros<;>omega))
   | false=>
    exact LeadsM.ends (aYH q_form q_n q_text q_parts   hb1 hb4 hb5) (hk _ (by clear hk;simp_all [bR,aA,aO] <;>intros<;>omega))
  | false =>
   cases hb7: (q_form== (2:Int))with
   | true=>
    cases hb8: (((List.length q_parts:Nat) :Int) == (0:Int))with
    | true=>
     cases hb9: (q_n== (0:Int))with
     | true=>
      exact LeadsM.ends (aYI q_form q_n q_text q_parts  (dE q_text) hb1 hb4 hb7 hb8 hb9 (sF q_text)) (hk _ (by clear hk;simp_all [bR,aA,aO] <;>intros<;>omega))
     | false=>
      exact LeadsM.ends (aYJ q_form q_n q_text q_parts   hb1 hb4 hb7 hb8 hb9) (hk _ (by clear hk;simp_all [bR,aA,aO] <;>intros<;>omega))
    | false=>
     exact LeadsM.ends (aYK q_form q_n q_text q_parts   hb1 hb4 hb7 hb8) (hk _ (by clear hk;simp_all [bR,aA,aO] <;>intros<;>omega))
   | false=>
    cases hb10: (q_form== (3:Int))with
    | true=>
     cases hb11: (((List.length q_parts:Nat) :Int) == (0:Int))with
     | true=>
      cases hb12: (aQ (List.length q_text) (aB q_text) 0 0)with
      | true=>
       exact LeadsM.ends (aYL q_form q_n q_text q_parts  (aW q_n (-1000000000) 1000000000) hb1 hb4 hb7 hb10 hb11 hb12 (jL q_n (-1000000000) 1000000000)) (hk _ (by clear hk;simp_all [bR,aA,aO] <;>intros<;>omega))
      | false=>
       exact LeadsM.ends (aTh q_form q_n q_text q_parts   hb1 hb4 hb7 hb10 hb11 hb12) (hk _ (by clear hk;simp_all [bR,aA,aO] <;>intros<;>omega))
     | false=>
      exact LeadsM.ends (aTi q_form q_n q_text q_parts   hb1 hb4 hb7 hb10 hb11) (hk _ (by clear hk;simp_all [bR,aA,aO] <;>intros<;>omega))
    | false=>
     cases hb13: (q_form== (4:Int))with
     | true=>
      cases hb14: (((List.length q_parts:Nat) :Int) == (0:Int))with
      | true=>
       cases hb15: (aQ (List.length q_text) (aB q_text) 0 0)with
       | true=>
        exact LeadsM.ends (aTj q_form q_n q_text q_parts  (aW q_n 0 1) hb1 hb4 hb7 hb10 hb13 hb14 hb15 (jL q_n 0 1)) (hk _ (by clear hk;simp_all [bR,aA,aO] <;>intros<;>omega))
       | false=>
        exact LeadsM.ends (aTk q_form q_n q_text q_parts   hb1 hb4 hb7 hb10 hb13 hb14 hb15) (hk _ (by clear hk;simp_all [bR,aA,aO] <;>intros<;>omega))
      | false=>
       exact LeadsM.ends (aTl q_form q_n q_text q_parts   hb1 hb4 hb7 hb10 hb13 hb14) (hk _ (by clear hk;simp_all [bR,aA,aO] <;>intros<;>omega))
     | false=>
      cases hb16: (q_form== (6:Int))with
      | true=>
       cases hb17: (decide (((List.length q_parts:Nat) :Int) ≤ (3:Int)))with
       | true=>
        cases hb18: (q_n== (0:Int))with
        | true=>
         exact LeadsM.ends (aTm q_form q_n q_text q_parts  (cH q_text) hb1 hb4 hb7 hb10 hb13 hb16 hb17 hb18 (qO q_text)) (hk _ (by clear hk;simp_all [bR,aA,aO] <;>intros<;>omega))
        | false=>
         exact LeadsM.ends (aTn q_form q_n q_text q_parts   hb1 hb4 hb7 hb10 hb13 hb16 hb17 hb18) (hk _ (by clear hk;simp_all [bR,aA,aO] <;>intros<;>omega))
       | false=>
        exact LeadsM.ends (aTo q_form q_n q_text q_parts   hb1 hb4 hb7 hb10 hb13 hb16 hb17) (hk _ (by clear hk;simp_all [bR,aA,aO] <;>intros<;>omega))
      | false=>
       exact LeadsM.ends (aTp q_form q_n q_text q_parts   hb1 hb4 hb7 hb10 hb13 hb16) (hk _ (by clear hk;simp_all [bR,aA,aO] <;>intros<;>omega))
theorem aKi (f n:Int)(s:aE)(ps:List Pat)(hl:ps.length<1000000)(ih:∀p∈ps,Pure PP 189 [Pat.av p] (.bool (aD5 p))) :
  ∀ (t:List Pat) (i:Nat) (b:Bool),ps.drop i=t→Ends PP 0 (eV f n s ps b (i:Int)).as (.ret (.bool (b&&yT t))) (aG [] 0)
 | [],i,b,h=>by
  have:=bD h;exact Ends.eqv (aYO f n s ps b i sd) (by simp [yT])
 | .mk f' n' s' ps'::t,i,b,h=>by
  obtain⟨g1,g2,g3⟩ :=bB h;cases b with
  |false=>exact Ends.eqv (aYN f n s ps false i sd rfl) (by simp)
  | true=>
   refine(aYM f n s ps true i f' n' s' ps' (aD5 (.mk f' n' s' ps')) sd rfl sd sd (ih _ (List.mem_of_getElem? g1)) sd).ends ?_;exact Ends.eqv (aKi f n s ps hl ih t (i+1) _ g2) (by simp [yT])
mutual
theorem aKj :∀ (p:Pat),aP p<1000000→Pure PP 189 [Pat.av p] (.bool (aD5 p))
 | .mk f n s ps,h=>by
  refine aM (by kernel_rfl) (by simp [AV.keylessL,fC]) rfl ?_;simp only [aP]at h;have:=cL ps;refine bHY f n s ps _ (fun i hi=>?_);rw [hi,aD5];exact aKi f n s ps (by omega) (aOj ps (by omega)) ps 0 _ rfl
theorem aOj :∀ (ps:List Pat),aK ps<1000000→∀p∈ps,Pure PP 189 [Pat.av p] (.bool (aD5 p))
 | [],_,p,hp=>by cases hp
 | q::ps,h,p,hp=>by
  simp only [aK]at h;rcases List.mem_cons.1 hp with e|hp
  ·rw [e];exact aKj q (by omega)
  ·exact aOj ps (by omega) p hp
end
def aD7 (p:Pat) :Bool:=decide (aP p≤12) &&aD5 p&&jW (jR p)
theorem aTN (p:Pat) :Pure PP 123 [Pat.av p] (.bool (aD7 p)) :=by
 obtain⟨f,n,s,ps⟩ :=p;refine aM (by kernel_rfl) (by simp [AV.keylessL,fC]) rfl ?_;have hw:=qP (.mk f n s ps) 12 (by omega) (by omega);have hi:=sD (.mk f n s ps) 12;unfold aD7;by_cases h12:aP (.mk f n s ps) ≤12
 · have hge:decide (lA (.mk f n s ps) 12≥ (0:Int)) =true:=by simp;exact hi.2 (by omega)
   have hp:=aKj (.mk f n s ps) (by omega);cases hf:aD5 (.mk f n s ps)with
   | true=>
    rw [hf]at hp;have hn:=zN (.mk f n s ps);exact Ends.eqv (aYP f n s ps _ true _ _ hw hge hp rfl (aD6 (.mk f n s ps) (by omega)) (aAU _ (by omega))) (by simp [h12])
   | false=>
    rw [hf]at hp;exact Ends.eqv (aYQ f n s ps _ false hw hge hp rfl) (by simp)
 ·exact Ends.eqv (aYR f n s ps _ hw (by simp;omega)) (by simp [h12])
end Go.Hb
namespace Go.Hb
open Go.Proofs
noncomputable section
open Go.Proofs Tryz
def aHJ(a b:Int)(c:aE)(d:List Term)(e:List Pat)(j f g i:Int):TS:=⟨(tf 57 37 [(1,(nI g)),(2,(nI f)),kp 3 0,(6,(nI 0)),(7,(nI i))] [kc f57 244,kl f57 244,.inBlock 0,kc f57 31]),[],[oC 0 [(nI a),(nI b),(aC c),(.ilst 5 (Terms.av d) false),(iP e)]],1⟩
def aHK(a b:Int)(c:aE)(d:List Term)(e:List Pat)(f:Int):TS:=⟨(tf 63 36 [kp 1 0,(2,(bV false)),(3,(nI f))] [kc f63 116,kl f63 116,.inBlock 0,kc f63 15]),[],[oC 0 [(nI a),(nI b),(aC c),(.ilst 5 (Terms.av d) false),(iP e)]],1⟩
def aHL(a b:Int)(c:aE)(d:List Term)(e:List Pat)(f:Int):TS:=⟨(tf 63 36 [kp 1 0,(2,(bV false)),(4,(nI f))] [kc f63 244,kl f63 244,.inBlock 2,kc f63 31]),[],[oC 0 [(nI a),(nI b),(aC c),(.ilst 5 (Terms.av d) false),(iP e)]],1⟩
def aTO(c d:Int)(e:aE)(f:List Term)(g:List Pat)(a b:Int):=tT 0 (start PP 57 [(.agg [(nI c),(nI d),(aC e),(.ilst 5 (Terms.av f) false),(iP g)]),(nI a),(nI b)])<|gd 11 10 (a<1) (gE 10 1 (nI (-1)))<|gd 4 13 (b<1) (gE 6 1 (nI (-1)))<|gw 6 15 (a-1)<|.W 9 1 [0] (aHJ c d e f g a b (a-1) 0)
def aZa:=fun a b c d e f g i=>aTO a b c d e f g|>.t i tv
def aZb:=fun a b c d e f g i j=>aTO a b c d e f g|>.f i|>.t j tv
def aZc:=fun a b c d e f g i j k=>aTO a b c d e f g|>.f i|>.f j k tv
def aTP(e f:Int)(g:aE)(a:List Term)(i:List Pat)(j d b c:Int):=tT 0 (aHJ e f g a i j d b c)<|gm 6 bS a<|gd 2 21 (c< (a.length:Int)) (gd 4 24 (b≥0) (aJh 8 a c<|fun k l m n o=>gw 4 34 (d-1)<|gpI 0 57 [(.agg [(nI k),(nI l),(aC m),(.ilst 5 (Terms.av n) false),(iP o)]),(nI b),(nI (d-1))]<|fun p=>gw 6 26 (c+1)<|.W 3 1 [0] (aHJ e f g a i j d p (c+1)))<|gE 8 1 (nI b))<|gE 12 1 (nI b)
def aZd:=fun a b c d e f g i j k l m n o p q r s t u v w=>aTP a b c d e f g i j|>.t q|>.t r k l m n o s t u p v w tv
def aZe:=fun a b c d e f g i j k l=>aTP a b c d e f g i j|>.t k|>.f l tv
def aZf:=fun a b c d e f g i j k=>aTP a b c d e f g i j|>.f k tv
def wJ(g e:Int)(b:aE)(i:List Term)(a:List Pat)(f d c:Bool):=tT 0 (start PP 188 [(.agg [(nI g),(nI e),(aC b),(.ilst 5 (Terms.av i) false),(iP a)]),(bV f),(bV d),(bV c)])<|.b 9 10 f (.b 7 17 d (.b 8 25 c (gE 9 1 (bV true))<|gm 2 aF a<|gE 6 1 (bV ((a.length:Int) ==0)))<|.b 6 23 (aQ b.length (aB b) 0 0) (.b 2 25 c (gE 9 1 (bV true))<|gm 2 aF a<|gE 6 1 (bV ((a.length:Int) ==0)))<|gE 11 1 (bV false))<|.b 5 15 (e==0) (.b 2 17 d (.b 8 25 c (gE 9 1 (bV true))<|gm 2 aF a<|gE 6 1 (bV ((a.length:Int) ==0)))<|.b 6 23 (aQ b.length (aB b) 0 0) (.b 2 25 c (gE 9 1 (bV true))<|gm 2 aF a<|gE 6 1 (bV ((a.length:Int) ==0)))<|gE 11 1 (bV false))<|gE 19 1 (bV false)
def aZg:=fun a b c d e f g i j k l=>wJ a b c d e f g i|>.t j|>.t k|>.t l tv
def aZh:=fun a b c d e f g i j k l=>wJ a b c d e f g i|>.t j|>.t k|>.f l tv
def aZi:=fun a b c d e f g i j k l m=>wJ a b c d e f g i|>.t j|>.f k|>.t l|>.t m tv
def aZj:=fun a b c d e f g i j k l m=>wJ a b c d e f g i|>.t j|>.f k|>.t l|>.f m tv
def aZk:=fun a b c d e f g i j k l=>wJ a b c d e f g i|>.t j|>.f k|>.f l tv
def aZl:=fun a b c d e f g i j k l m=>wJ a b c d e f g i|>.f j|>.t k|>.t l|>.t m tv
def aZm:=fun a b c d e f g i j k l m=>wJ a b c d e f g i|>.f j|>.t k|>.t l|>.f m tv
def aZn:=fun a b c d e f g i j k l m n=>wJ a b c d e f g i|>.f j|>.t k|>.f l|>.t m|>.t n tv
def aZo:=fun a b c d e f g i j k l m n=>wJ a b c d e f g i|>.f j|>.t k|>.f l|>.t m|>.f n tv
def aZp:=fun a b c d e f g i j k l m=>wJ a b c d e f g i|>.f j|>.t k|>.f l|>.f m tv
def aTQ:=fun a b c d e f g i j k=>wJ a b c d e f g i|>.f j|>.f k tv
def bO(b f:Int)(d:aE)(a:List Term)(e:List Pat):=tT 0 (start PP 122 [(.agg [(nI b),(nI f),(aC d),(.ilst 5 (Terms.av a) false),(iP e)])])<|gm 9 bS a<|.b 14 9 (b==1) (.b 6 13 ((a.length:Int) ==0) (cP 1 188 [(.agg [(nI b),(nI f),(aC d),(.ilst 5 (Terms.av a) false),(iP e)]),(bV true),(bV false),(bV false)]<|fun c=>.b 2 17 c (cP 2 60 [(nI f),(nI (-1000000000)),(nI 1000000000)]<|fun g=>gE 4 1 (bV g))<|gE 7 1 (bV false))<|gE 11 1 (bV false))<|.b 6 22 (b==2) (.b 6 26 ((a.length:Int) ==0) (cP 1 188 [(.agg [(nI b),(nI f),(aC d),(.ilst 5 (Terms.av a) false),(iP e)]),(bV true),(bV false),(bV false)]<|fun c=>.b 2 30 c (cP 2 60 [(nI f),(nI 0),(nI 1)]<|fun g=>gE 4 1 (bV g))<|gE 7 1 (bV false))<|gE 11 1 (bV false))<|.b 7 35 (b==3) (.b 8 42 ((a.length:Int) ==0) (cP 1 188 [(.agg [(nI b),(nI f),(aC d),(.ilst 5 (Terms.av a) false),(iP e)]),(bV false),(bV false),(bV false)]<|fun c=>gE 4 1 (bV c))<|gE 6 1 (bV false))<|.b 6 35 (b==21) (.b 8 42 ((a.length:Int) ==0) (cP 1 188 [(.agg [(nI b),(nI f),(aC d),(.ilst 5 (Terms.av a) false),(iP e)]),(bV false),(bV false),(bV false)]<|fun c=>gE 4 1 (bV c))<|gE 6 1 (bV false))<|.b 6 35 (b==25) (.b 8 42 ((a.length:Int) ==0) (cP 1 188 [(.agg [(nI b),(nI f),(aC d),(.ilst 5 (Terms.av a) false),(iP e)]),(bV false),(bV false),(bV false)]<|fun c=>gE 4 1 (bV c))<|gE 6 1 (bV false))<|.b 5 35 (b==28) (.b 6 42 ((a.length:Int) ==0) (cP 1 188 [(.agg [(nI b),(nI f),(aC d),(.ilst 5 (Terms.av a) false),(iP e)]),(bV false),(bV false),(bV false)]<|fun c=>gE 4 1 (bV c))<|gE 6 1 (bV false))<|.b 6 46 (b==4) (.b 6 50 ((a.length:Int) ==0) (cP 1 188 [(.agg [(nI b),(nI f),(aC d),(.ilst 5 (Terms.av a) false),(iP e)]),(bV false),(bV true),(bV false)]<|fun c=>.b 2 54 c (cP 2 59 [(aC d)]<|fun g=>gE 4 1 (bV g))<|gE 7 1 (bV false))<|gE 11 1 (bV false))<|.b 7 59 (b==5) (.b 8 64 ((a.length:Int) ==1) (cP 1 188 [(.agg [(nI b),(nI f),(aC d),(.ilst 5 (Terms.av a) false),(iP e)]),(bV false),(bV true),(bV false)]<|fun c=>.b 2 68 c (cP 2 59 [(aC d)]<|fun g=>gE 4 1 (bV g))<|gE 7 1 (bV false))<|gE 11 1 (bV false))<|.b 5 59 (b==27) (.b 6 64 ((a.length:Int) ==1) (cP 1 188 [(.agg [(nI b),(nI f),(aC d),(.ilst 5 (Terms.av a) false),(iP e)]),(bV false),(bV true),(bV false)]<|fun c=>.b 2 68 c (cP 2 59 [(aC d)]<|fun g=>gE 4 1 (bV g))<|gE 7 1 (bV false))<|gE 11 1 (bV false))<|.b 6 73 (b==7) (.b 6 77 ((a.length:Int) ==2) (cP 1 188 [(.agg [(nI b),(nI f),(aC d),(.ilst 5 (Terms.av a) false),(iP e)]),(bV false),(bV true),(bV false)]<|fun c=>.b 2 81 c (cP 2 59 [(aC d)]<|fun g=>gE 4 1 (bV g))<|gE 7 1 (bV false))<|gE 11 1 (bV false))<|.b 6 86 (b==8) (.b 6 90 ((a.length:Int) ==3) (cP 1 188 [(.agg [(nI b),(nI f),(aC d),(.ilst 5 (Terms.av a) false),(iP e)]),(bV false),(bV false),(bV false)]<|fun c=>gE 4 1 (bV c))<|gE 6 1 (bV false))<|.b 6 94 (b==14) (gd 6 98 ((a.length:Int) ≤3) (cP 1 188 [(.agg [(nI b),(nI f),(aC d),(.ilst 5 (Terms.av a) false),(iP e)]),(bV false),(bV true),(bV false)]<|fun c=>.b 2 102 c (cP 2 120 [(aC d)]<|fun g=>gE 4 1 (bV g))<|gE 7 1 (bV false))<|gE 11 1 (bV false))<|.b 6 107 (b==15) (gm 5 aF e<|cP 0 60 [(nI (e.length:Int)),(nI 1),(nI 5)]<|fun c=>.b 1 113 c (gm 3 aF e<|gw 1 118 (1+ (e.length:Int))<|.b 3 121 ((a.length:Int) == (1+ (e.length:Int))) (cP 1 188 [(.agg [(nI b),(nI f),(aC d),(.ilst 5 (Terms.av a) false),(iP e)]),(bV false),(bV false),(bV true)]<|fun g=>gE 4 1 (bV g))<|gE 6 1 (bV false))<|gE 14 1 (bV false))<|.b 7 125 (b==16) (.b 8 134 ((a.length:Int) ==1) (cP 1 188 [(.agg [(nI b),(nI f),(aC d),(.ilst 5 (Terms.av a) false),(iP e)]),(bV false),(bV false),(bV false)]<|fun c=>gE 4 1 (bV c))<|gE 6 1 (bV false))<|.b 6 125 (b==17) (.b 8 134 ((a.length:Int) ==1) (cP 1 188 [(.agg [(nI b),(nI f),(aC d),(.ilst 5 (Terms.av a) false),(iP e)]),(bV false),(bV false),(bV false)]<|fun c=>gE 4 1 (bV c))<|gE 6 1 (bV false))<|.b 6 125 (b==19) (.b 8 134 ((a.length:Int) ==1) (cP 1 188 [(.agg [(nI b),(nI f),(aC d),(.ilst 5 (Terms.av a) false),(iP e)]),(bV false),(bV false),(bV false)]<|fun c=>gE 4 1 (bV c))<|gE 6 1 (bV false))<|.b 6 125 (b==20) (.b 8 134 ((a.length:Int) ==1) (cP 1 188 [(.agg [(nI b),(nI f),(aC d),(.ilst 5 (Terms.av a) false),(iP e)]),(bV false),(bV false),(bV false)]<|fun c=>gE 4 1 (bV c))<|gE 6 1 (bV false))<|.b 6 125 (b==23) (.b 8 134 ((a.length:Int) ==1) (cP 1 188 [(.agg [(nI b),(nI f),(aC d),(.ilst 5 (Terms.av a) false),(iP e)]),(bV false),(bV false),(bV false)]<|fun c=>gE 4 1 (bV c))<|gE 6 1 (bV false))<|.b 5 125 (b==26) (.b 6 134 ((a.length:Int) ==1) (cP 1 188 [(.agg [(nI b),(nI f),(aC d),(.ilst 5 (Terms.av a) false),(iP e)]),(bV false),(bV false),(bV false)]<|fun c=>gE 4 1 (bV c))<|gE 6 1 (bV false))<|.b 6 138 (b==24) (.b 6 142 ((a.length:Int) ==1) (cP 1 188 [(.agg [(nI b),(nI f),(aC d),(.ilst 5 (Terms.av a) false),(iP e)]),(bV true),(bV false),(bV false)]<|fun c=>.b 2 146 c (cP 2 60 [(nI f),(nI 0),(nI 3)]<|fun g=>gE 4 1 (bV g))<|gE 7 1 (bV false))<|gE 11 1 (bV false))<|.b 7 151 (b==6) (.b 8 162 ((a.length:Int) ==2) (cP 1 188 [(.agg [(nI b),(nI f),(aC d),(.ilst 5 (Terms.av a) false),(iP e)]),(bV false),(bV false),(bV false)]<|fun c=>gE 4 1 (bV c))<|gE 6 1 (bV false))<|.b 6 151 (b==9) (.b 8 162 ((a.length:Int) ==2) (cP 1 188 [(.agg [(nI b),(nI f),(aC d),(.ilst 5 (Terms.av a) false),(iP e)]),(bV false),(bV false),(bV false)]<|fun c=>gE 4 1 (bV c))<|gE 6 1 (bV false))<|.b 6 151 (b==10) (.b 8 162 ((a.length:Int) ==2) (cP 1 188 [(.agg [(nI b),(nI f),(aC d),(.ilst 5 (Terms.av a) false),(iP e)]),(bV false),(bV false),(bV false)]<|fun c=>gE 4 1 (bV c))<|gE 6 1 (bV false))<|.b 6 151 (b==11) (.b 8 162 ((a.length:Int) ==2) (cP 1 188 [(.agg [(nI b),(nI f),(aC d),(.ilst 5 (Terms.av a) false),(iP e)]),(bV false),(bV false),(bV false)]<|fun c=>gE 4 1 (bV c))<|gE 6 1 (bV false))<|.b 6 151 (b==12) (.b 8 162 ((a.length:Int) ==2) (cP 1 188 [(.agg [(nI b),(nI f),(aC d),(.ilst 5 (Terms.av a) false),(iP e)]),(bV false),(bV false),(bV false)]<|fun c=>gE 4 1 (bV c))<|gE 6 1 (bV false))<|.b 6 151 (b==13) (.b 8 162 ((a.length:Int) ==2) (cP 1 188 [(.agg [(nI b),(nI f),(aC d),(.ilst 5 (Terms.av a) false),(iP e)]),(bV false),(bV false),(bV false)]<|fun c=>gE 4 1 (bV c))<|gE 6 1 (bV false))<|.b 6 151 (b==18) (.b 8 162 ((a.length:Int) ==2) (cP 1 188 [(.agg [(nI b),(nI f),(aC d),(.ilst 5 (Terms.av a) false),(iP e)]),(bV false),(bV false),(bV false)]<|fun c=>gE 4 1 (bV c))<|gE 6 1 (bV false))<|.b 5 151 (b==22) (.b 6 162 ((a.length:Int) ==2) (cP 1 188 [(.agg [(nI b),(nI f),(aC d),(.ilst 5 (Terms.av a) false),(iP e)]),(bV false),(bV false),(bV false)]<|fun c=>gE 4 1 (bV c))<|gE 6 1 (bV false))<|gE 8 1 (bV false)
def aZq:=fun a b c d e f g i j k l m=>bO a b c d e|>.t i|>.t j f k|>.t l g m tv
def aZr:=fun a b c d e f g i j k=>bO a b c d e|>.t g|>.t i f j|>.f k tv
def aZs:=fun a b c d e f g=>bO a b c d e|>.t f|>.f g tv
def aZt:=fun a b c d e f g i j k l m n=>bO a b c d e|>.f i|>.t j|>.t k f l|>.t m g n tv
def aZu:=fun a b c d e f g i j k l=>bO a b c d e|>.f g|>.t i|>.t j f k|>.f l tv
def aZv:=fun a b c d e f g i=>bO a b c d e|>.f f|>.t g|>.f i tv
def aZw:=fun a b c d e f g i j k l=>bO a b c d e|>.f g|>.f i|>.t j|>.t k f l tv
def aZx:=fun a b c d e f g i j=>bO a b c d e|>.f f|>.f g|>.t i|>.f j tv
def aZy:=fun a b c d e f g i j k l m=>bO a b c d e|>.f g|>.f i|>.f j|>.t k|>.t l f m tv
def aZz:=fun a b c d e f g i j k=>bO a b c d e|>.f f|>.f g|>.f i|>.t j|>.f k tv
def aTR:=fun a b c d e f g i j k l m n=>bO a b c d e|>.f g|>.f i|>.f j|>.f k|>.t l|>.t m f n tv
def aTS:=fun a b c d e f g i j k l=>bO a b c d e|>.f f|>.f g|>.f i|>.f j|>.t k|>.f l tv
def aTT:=fun a b c d e f g i j k l m n o=>bO a b c d e|>.f g|>.f i|>.f j|>.f k|>.f l|>.t m|>.t n f o tv
def aTU:=fun a b c d e f g i j k l m=>bO a b c d e|>.f f|>.f g|>.f i|>.f j|>.f k|>.t l|>.f m tv
def aTV:=fun a b c d e f g i j k l m n o p q r s=>bO a b c d e|>.f i|>.f j|>.f k|>.f l|>.f m|>.f n|>.t o|>.t p f q|>.t r g s tv
def aTW:=fun a b c d e f g i j k l m n o p q=>bO a b c d e|>.f g|>.f i|>.f j|>.f k|>.f l|>.f m|>.t n|>.t o f p|>.f q tv
def aTX:=fun a b c d e f g i j k l m n=>bO a b c d e|>.f f|>.f g|>.f i|>.f j|>.f k|>.f l|>.t m|>.f n tv
def aTY:=fun a b c d e f g i j k l m n o p q r s t=>bO a b c d e|>.f i|>.f j|>.f k|>.f l|>.f m|>.f n|>.f o|>.t p|>.t q f r|>.t s g t tv
def aTZ:=fun a b c d e f g i j k l m n o p q r=>bO a b c d e|>.f g|>.f i|>.f j|>.f k|>.f l|>.f m|>.f n|>.t o|>.t p f q|>.f r tv
def aT0:=fun a b c d e f g i j k l m n o=>bO a b c d e|>.f f|>.f g|>.f i|>.f j|>.f k|>.f l|>.f m|>.t n|>.f o tv
def aT1:=fun a b c d e f g i j k l m n o p q r s t u=>bO a b c d e|>.f i|>.f j|>.f k|>.f l|>.f m|>.f n|>.f o|>.f p|>.t q|>.t r f s|>.t t g u tv
def aT2:=fun a b c d e f g i j k l m n o p q r s=>bO a b c d e|>.f g|>.f i|>.f j|>.f k|>.f l|>.f m|>.f n|>.f o|>.t p|>.t q f r|>.f s tv
def aT3:=fun a b c d e f g i j k l m n o p=>bO a b c d e|>.f f|>.f g|>.f i|>.f j|>.f k|>.f l|>.f m|>.f n|>.t o|>.f p tv
def aT4:=fun a b c d e f g i j k l m n o p q r s t u v=>bO a b c d e|>.f i|>.f j|>.f k|>.f l|>.f m|>.f n|>.f o|>.f p|>.f q|>.t r|>.t s f t|>.t u g v tv
def aT5:=fun a b c d e f g i j k l m n o p q r s t=>bO a b c d e|>.f g|>.f i|>.f j|>.f k|>.f l|>.f m|>.f n|>.f o|>.f p|>.t q|>.t r f s|>.f t tv
def aT6:=fun a b c d e f g i j k l m n o p q=>bO a b c d e|>.f f|>.f g|>.f i|>.f j|>.f k|>.f l|>.f m|>.f n|>.f o|>.t p|>.f q tv
def aT7:=fun a b c d e f g i j k l m n o p q r s t=>bO a b c d e|>.f g|>.f i|>.f j|>.f k|>.f l|>.f m|>.f n|>.f o|>.f p|>.f q|>.t r|>.t s f t tv
def aT8:=fun a b c d e f g i j k l m n o p q r=>bO a b c d e|>.f f|>.f g|>.f i|>.f j|>.f k|>.f l|>.f m|>.f n|>.f o|>.f p|>.t q|>.f r tv
def aT9:=fun a b c d e f g i j k l m n o p q r s t u v w x=>bO a b c d e|>.f i|>.f j|>.f k|>.f l|>.f m|>.f n|>.f o|>.f p|>.f q|>.f r|>.f s|>.t t|>.t u f v|>.t w g x tv
def aUa:=fun a b c d e f g i j k l m n o p q r s t u v=>bO a b c d e|>.f g|>.f i|>.f j|>.f k|>.f l|>.f m|>.f n|>.f o|>.f p|>.f q|>.f r|>.t s|>.t t f u|>.f v tv
def aUb:=fun a b c d e f g i j k l m n o p q r s=>bO a b c d e|>.f f|>.f g|>.f i|>.f j|>.f k|>.f l|>.f m|>.f n|>.f o|>.f p|>.f q|>.t r|>.f s tv
def aUc:=fun a b c d e f g i j k l m n o p q r s t u v w x y z=>bO a b c d e|>.f i|>.f j|>.f k|>.f l|>.f m|>.f n|>.f o|>.f p|>.f q|>.f r|>.f s|>.f t|>.t u f v|>.t w x|>.t y g z tv
def aUd:=fun a b c d e f g i j k l m n o p q r s t u v w x=>bO a b c d e|>.f g|>.f i|>.f j|>.f k|>.f l|>.f m|>.f n|>.f o|>.f p|>.f q|>.f r|>.f s|>.t t f u|>.t v w|>.f x tv
def aUe:=fun a b c d e f g i j k l m n o p q r s t u v=>bO a b c d e|>.f g|>.f i|>.f j|>.f k|>.f l|>.f m|>.f n|>.f o|>.f p|>.f q|>.f r|>.f s|>.t t f u|>.f v tv
def aUf:=fun a b c d e f g i j k l m n o p q r s t u v w=>bO a b c d e|>.f g|>.f i|>.f j|>.f k|>.f l|>.f m|>.f n|>.f o|>.f p|>.f q|>.f r|>.f s|>.f t|>.t u|>.t v f w tv
def aUg:=fun a b c d e f g i j k l m n o p q r s t u=>bO a b c d e|>.f f|>.f g|>.f i|>.f j|>.f k|>.f l|>.f m|>.f n|>.f o|>.f p|>.f q|>.f r|>.f s|>.t t|>.f u tv
def aUh:=fun a b c d e f g i j k l m n o p q r s t u v w x=>bO a b c d e|>.f g|>.f i|>.f j|>.f k|>.f l|>.f m|>.f n|>.f o|>.f p|>.f q|>.f r|>.f s|>.f t|>.f u|>.t v|>.t w f x tv
def aUi:=fun a b c d e f g i j k l m n o p q r s t u v=>bO a b c d e|>.f f|>.f g|>.f i|>.f j|>.f k|>.f l|>.f m|>.f n|>.f o|>.f p|>.f q|>.f r|>.f s|>.f t|>.t u|>.f v tv
def aUj:=fun a b c d e f g i j k l m n o p q r s t u v w x y=>bO a b c d e|>.f g|>.f i|>.f j|>.f k|>.f l|>.f m|>.f n|>.f o|>.f p|>.f q|>.f r|>.f s|>.f t|>.f u|>.f v|>.t w|>.t x f y tv
def aUk:=fun a b c d e f g i j k l m n o p q r s t u v w=>bO a b c d e|>.f f|>.f g|>.f i|>.f j|>.f k|>.f l|>.f m|>.f n|>.f o|>.f p|>.f q|>.f r|>.f s|>.f t|>.f u|>.t v|>.f w tv
def aUl:=fun a b c d e f g i j k l m n o p q r s t u v w x y z=>bO a b c d e|>.f g|>.f i|>.f j|>.f k|>.f l|>.f m|>.f n|>.f o|>.f p|>.f q|>.f r|>.f s|>.f t|>.f u|>.f v|>.f w|>.t x|>.t y f z tv
def aUm:=fun a b c d e f g i j k l m n o p q r s t u v w x=>bO a b c d e|>.f f|>.f g|>.f i|>.f j|>.f k|>.f l|>.f m|>.f n|>.f o|>.f p|>.f q|>.f r|>.f s|>.f t|>.f u|>.f v|>.t w|>.f x tv
def aUn:=fun a b c d e f g i j k l m n o p q r s t u v w x y z A=>bO a b c d e|>.f g|>.f i|>.f j|>.f k|>.f l|>.f m|>.f n|>.f o|>.f p|>.f q|>.f r|>.f s|>.f t|>.f u|>.f v|>.f w|>.f x|>.t y|>.t z f A tv
def aUo:=fun a b c d e f g i j k l m n o p q r s t u v w x y=>bO a b c d e|>.f f|>.f g|>.f i|>.f j|>.f k|>.f l|>.f m|>.f n|>.f o|>.f p|>.f q|>.f r|>.f s|>.f t|>.f u|>.f v|>.f w|>.t x|>.f y tv
def aUp:=fun a b c d e f g i j k l m n o p q r s t u v w x y z A B=>bO a b c d e|>.f g|>.f i|>.f j|>.f k|>.f l|>.f m|>.f n|>.f o|>.f p|>.f q|>.f r|>.f s|>.f t|>.f u|>.f v|>.f w|>.f x|>.f y|>.t z|>.t A f B tv
def aUq:=fun a b c d e f g i j k l m n o p q r s t u v w x y z=>bO a b c d e|>.f f|>.f g|>.f i|>.f j|>.f k|>.f l|>.f m|>.f n|>.f o|>.f p|>.f q|>.f r|>.f s|>.f t|>.f u|>.f v|>.f w|>.f x|>.t y|>.f z tv
def aUr:=fun a b c d e f g i j k l m n o p q r s t u v w x y z A B C D F G=>bO a b c d e|>.f i|>.f j|>.f k|>.f l|>.f m|>.f n|>.f o|>.f p|>.f q|>.f r|>.f s|>.f t|>.f u|>.f v|>.f w|>.f x|>.f y|>.f z|>.f A|>.t B|>.t C f D|>.t F g G tv
def aUs:=fun a b c d e f g i j k l m n o p q r s t u v w x y z A B C D=>bO a b c d e|>.f g|>.f i|>.f j|>.f k|>.f l|>.f m|>.f n|>.f o|>.f p|>.f q|>.f r|>.f s|>.f t|>.f u|>.f v|>.f w|>.f x|>.f y|>.f z|>.t A|>.t B f C|>.f D tv
def aUt:=fun a b c d e f g i j k l m n o p q r s t u v w x y z A=>bO a b c d e|>.f f|>.f g|>.f i|>.f j|>.f k|>.f l|>.f m|>.f n|>.f o|>.f p|>.f q|>.f r|>.f s|>.f t|>.f u|>.f v|>.f w|>.f x|>.f y|>.t z|>.f A tv
def aUu:=fun a b c d e f g i j k l m n o p q r s t u v w x y z A B C D=>bO a b c d e|>.f g|>.f i|>.f j|>.f k|>.f l|>.f m|>.f n|>.f o|>.f p|>.f q|>.f r|>.f s|>.f t|>.f u|>.f v|>.f w|>.f x|>.f y|>.f z|>.f A|>.t B|>.t C f D tv
def aUv:=fun a b c d e f g i j k l m n o p q r s t u v w x y z A B=>bO a b c d e|>.f f|>.f g|>.f i|>.f j|>.f k|>.f l|>.f m|>.f n|>.f o|>.f p|>.f q|>.f r|>.f s|>.f t|>.f u|>.f v|>.f w|>.f x|>.f y|>.f z|>.t A|>.f B tv
def aUw:=fun a b c d e f g i j k l m n o p q r s t u v w x y z A B C D F=>bO a b c d e|>.f g|>.f i|>.f j|>.f k|>.f l|>.f m|>.f n|>.f o|>.f p|>.f q|>.f r|>.f s|>.f t|>.f u|>.f v|>.f w|>.f x|>.f y|>.f z|>.f A|>.f B|>.t C|>.t D f F tv
def aUx:=fun a b c d e f g i j k l m n o p q r s t u v w x y z A B C=>bO a b c d e|>.f f|>.f g|>.f i|>.f j|>.f k|>.f l|>.f m|>.f n|>.f o|>.f p|>.f q|>.f r|>.f s|>.f t|>.f u|>.f v|>.f w|>.f x|>.f y|>.f z|>.f A|>.t B|>.f C tv
def aUy:=fun a b c d e f g i j k l m n o p q r s t u v w x y z A B C D F G=>bO a b c d e|>.f g|>.f i|>.f j|>.f k|>.f l|>.f m|>.f n|>.f o|>.f p|>.f q|>.f r|>.f s|>.f t|>.f u|>.f v|>.f w|>.f x|>.f y|>.f z|>.f A|>.f B|>.f C|>.t D|>.t F f G tv
def aUz:=fun a b c d e f g i j k l m n o p q r s t u v w x y z A B C D=>bO a b c d e|>.f f|>.f g|>.f i|>.f j|>.f k|>.f l|>.f m|>.f n|>.f o|>.f p|>.f q|>.f r|>.f s|>.f t|>.f u|>.f v|>.f w|>.f x|>.f y|>.f z|>.f A|>.f B|>.t C|>.f D tv
def aUA:=fun a b c d e f g i j k l m n o p q r s t u v w x y z A B C D F G H=>bO a b c d e|>.f g|>.f i|>.f j|>.f k|>.f l|>.f m|>.f n|>.f o|>.f p|>.f q|>.f r|>.f s|>.f t|>.f u|>.f v|>.f w|>.f x|>.f y|>.f z|>.f A|>.f B|>.f C|>.f D|>.t F|>.t G f H tv
def aUB:=fun a b c d e f g i j k l m n o p q r s t u v w x y z A B C D F=>bO a b c d e|>.f f|>.f g|>.f i|>.f j|>.f k|>.f l|>.f m|>.f n|>.f o|>.f p|>.f q|>.f r|>.f s|>.f t|>.f u|>.f v|>.f w|>.f x|>.f y|>.f z|>.f A|>.f B|>.f C|>.t D|>.f F tv
def aUC:=fun a b c d e f g i j k l m n o p q r s t u v w x y z A B C D F G H I=>bO a b c d e|>.f g|>.f i|>.f j|>.f k|>.f l|>.f m|>.f n|>.f o|>.f p|>.f q|>.f r|>.f s|>.f t|>.f u|>.f v|>.f w|>.f x|>.f y|>.f z|>.f A|>.f B|>.f C|>.f D|>.f F|>.t G|>.t H f I tv
def aUD:=fun a b c d e f g i j k l m n o p q r s t u v w x y z A B C D F G=>bO a b c d e|>.f f|>.f g|>.f i|>.f j|>.f k|>.f l|>.f m|>.f n|>.f o|>.f p|>.f q|>.f r|>.f s|>.f t|>.f u|>.f v|>.f w|>.f x|>.f y|>.f z|>.f A|>.f B|>.f C|>.f D|>.t F|>.f G tv
def aUE:=fun a b c d e f g i j k l m n o p q r s t u v w x y z A B C D F G H I J=>bO a b c d e|>.f g|>.f i|>.f j|>.f k|>.f l|>.f m|>.f n|>.f o|>.f p|>.f q|>.f r|>.f s|>.f t|>.f u|>.f v|>.f w|>.f x|>.f y|>.f z|>.f A|>.f B|>.f C|>.f D|>.f F|>.f G|>.t H|>.t I f J tv
def aUF:=fun a b c d e f g i j k l m n o p q r s t u v w x y z A B C D F G H=>bO a b c d e|>.f f|>.f g|>.f i|>.f j|>.f k|>.f l|>.f m|>.f n|>.f o|>.f p|>.f q|>.f r|>.f s|>.f t|>.f u|>.f v|>.f w|>.f x|>.f y|>.f z|>.f A|>.f B|>.f C|>.f D|>.f F|>.t G|>.f H tv
def aUG:=fun a b c d e f g i j k l m n o p q r s t u v w x y z A B C D F G H I J K=>bO a b c d e|>.f g|>.f i|>.f j|>.f k|>.f l|>.f m|>.f n|>.f o|>.f p|>.f q|>.f r|>.f s|>.f t|>.f u|>.f v|>.f w|>.f x|>.f y|>.f z|>.f A|>.f B|>.f C|>.f D|>.f F|>.f G|>.f H|>.t I|>.t J f K tv
def aUH:=fun a b c d e f g i j k l m n o p q r s t u v w x y z A B C D F G H I=>bO a b c d e|>.f f|>.f g|>.f i|>.f j|>.f k|>.f l|>.f m|>.f n|>.f o|>.f p|>.f q|>.f r|>.f s|>.f t|>.f u|>.f v|>.f w|>.f x|>.f y|>.f z|>.f A|>.f B|>.f C|>.f D|>.f F|>.f G|>.t H|>.f I tv
def aUI:=fun a b c d e f g i j k l m n o p q r s t u v w x y z A B C D F G H I J K L=>bO a b c d e|>.f g|>.f i|>.f j|>.f k|>.f l|>.f m|>.f n|>.f o|>.f p|>.f q|>.f r|>.f s|>.f t|>.f u|>.f v|>.f w|>.f x|>.f y|>.f z|>.f A|>.f B|>.f C|>.f D|>.f F|>.f G|>.f H|>.f I|>.t J|>.t K f L tv
def aUJ:=fun a b c d e f g i j k l m n o p q r s t u v w x y z A B C D F G H I J=>bO a b c d e|>.f f|>.f g|>.f i|>.f j|>.f k|>.f l|>.f m|>.f n|>.f o|>.f p|>.f q|>.f r|>.f s|>.f t|>.f u|>.f v|>.f w|>.f x|>.f y|>.f z|>.f A|>.f B|>.f C|>.f D|>.f F|>.f G|>.f H|>.t I|>.f J tv
def aUK:=fun a b c d e f g i j k l m n o p q r s t u v w x y z A B C D F G H I=>bO a b c d e|>.f f|>.f g|>.f i|>.f j|>.f k|>.f l|>.f m|>.f n|>.f o|>.f p|>.f q|>.f r|>.f s|>.f t|>.f u|>.f v|>.f w|>.f x|>.f y|>.f z|>.f A|>.f B|>.f C|>.f D|>.f F|>.f G|>.f H|>.f I tv
def bET(a b:Int)(c:aE)(d:List Term)(e:List Pat):=tT 0 (start PP 63 [(.agg [(nI a),(nI b),(aC c),(.ilst 5 (Terms.av d) false),(iP e)])])<|cP 9 122 [(.agg [(nI a),(nI b),(aC c),(.ilst 5 (Terms.av d) false),(iP e)])]<|fun f=>.b 2 7 (!f) (gE 6 1 (bV false))<|.W 9 1 [0] (aHK a b c d e 0)
def aZA:=fun a b c d e f g i=>bET a b c d e f g|>.t i tv
def aZB:=fun a b c d e f g i=>bET a b c d e f g|>.f i tv
def aUL(c d:Int)(e:aE)(f:List Term)(a:List Pat)(b:Int):=tT 0 (aHK c d e f a b)<|gm 6 aF a<|gd 2 12 (b< (a.length:Int)) (mW 9 a b<|fun g i j k=>cP 1 123 [(.agg [(nI g),(nI i),(aC j),(iP k)])]<|fun l=>.b 2 21 (!l) (gE 6 1 (bV false))<|gw 6 14 (b+1)<|.W 3 1 [0] (aHK c d e f a (b+1)))<|.W 9 1 [0] (aHL c d e f a 0)
def aZC:=fun a b c d e f g i j k l m n o p q=>aUL a b c d e f|>.t m g i j k n o l p|>.t q tv
def aZD:=fun a b c d e f g i j k l m n o p q r=>aUL a b c d e f|>.t m g i j k n o l p|>.f q r tv
def aZE:=fun a b c d e f g=>aUL a b c d e f|>.f g tv
def aUM(c d:Int)(e:aE)(a:List Term)(f:List Pat)(b:Int):=tT 0 (aHL c d e a f b)<|gm 6 bS a<|gd 2 26 (b< (a.length:Int)) (aJh 9 a b<|fun g i j k l=>cP 1 63 [(.agg [(nI g),(nI i),(aC j),(.ilst 5 (Terms.av k) false),(iP l)])]<|fun m=>.b 2 35 (!m) (gE 6 1 (bV false))<|gw 6 28 (b+1)<|.W 3 1 [0] (aHL c d e a f (b+1)))<|gE 7 1 (bV true)
def aZF:=fun a b c d e f g i j k l m n o p q r=>aUM a b c d e f|>.t n g i j k l o p m q|>.t r tv
def aZG:=fun a b c d e f g i j k l m n o p q r s=>aUM a b c d e f|>.t n g i j k l o p m q|>.f r s tv
def aZH:=fun a b c d e f g=>aUM a b c d e f|>.f g tv
def bEU(a b:Int)(c:aE)(d:List Term)(e:List Pat):=tT 0 (start PP 15 [(.agg [(nI a),(nI b),(aC c),(.ilst 5 (Terms.av d) false),(iP e)])])<|gpI 8 57 [(.agg [(nI a),(nI b),(aC c),(.ilst 5 (Terms.av d) false),(iP e)]),(nI 60),(nI 14)]<|fun f=>gd 2 6 (f≥0) (cP 1 63 [(.agg [(nI a),(nI b),(aC c),(.ilst 5 (Terms.av d) false),(iP e)])]<|fun g=>gE 4 1 (bV g))<|gE 6 1 (bV false)
def aZI:=fun a b c d e f g i j k=>bEU a b c d e f i|>.t j g k tv
def aZJ:=fun a b c d e f g i=>bEU a b c d e f g|>.f i tv
end
end Go.Hb
