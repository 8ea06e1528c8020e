/- A machine on abstract values, its soundness, ways, plain laws. -/
import Derived.Test.YtlgoblkihmkmcaaGreatHF
import Derived.Test.YtlgoblkihmkmcaaGreatHG
set_option linter.defProp false
set_option linter.unusedVariables false
set_option linter.unusedSimpArgs false
set_option linter.unusedSectionVars false
set_option maxRecDepth 100000
set_option maxHeartbeats 8000000
namespace Go.Hb
open AV (keyless keylessL nils)
open List (length map mem_of_getElem? set)
open Go.Proofs Tryz
noncomputable section
def aTg (cons:List Int)(f n:Int) :Option Int:=if f=6 then(if 0≤n then cons[n.toNat]? else none)else some n
mutual
def aZJ (cons:List Int) :Pat→Option Pat
 | .mk f n t ps=>match aTg cons f n with
  | some n'=>match aEX cons ps with
   |some ps'=>some (.mk f n' t ps')
   |none=>none
  |none=>none
def aEX (cons:List Int) :List Pat→Option (List Pat)
 | [] =>some []
 | p::ps=>match aZJ cons p with
  | some p'=>match aEX cons ps with
   |some ps'=>some (p'::ps')
   |none=>none
  |none=>none
end
def mN (funs cons:List Int)(op n:Int) :Option Int:=
 if op=4∧n<0 then
  match funs[(-1-n).toNat]? with
  |some g=>if -1000000000≤n∧ -1000000000≤g∧g≤1000000000 then some (-1-g)else none
  |none=>none
 else if op=14 then(if 0≤n then cons[n.toNat]? else none)else some n
def aTh (f:Nat→Int→Option (List Node)) :Nat→List Int→Option (List Int×List Node)
 |_,[] =>some ([],[])
 | len,c::cs=>match f len c with
  | some ns=>match aTh f (len+ns.length) cs with
   |some (ks,r) =>some ((len:Int) ::ks,ns++r)
   |none=>none
  |none=>none
def aJ4 (p:Prog)(funs cons:List Int) :Nat→Nat→Int→Option (List Node)
 |0,_,_=>none
 | k+1, len,at0=>if 0≤at0∧len<1000000 then
   match p.nodes[at0.toNat]? with
   | some y=>if y.kids.length<1000000∧aQ y.pats<1000000 then
     match mN funs cons y.op y.n with
     | some n'=>match aEX cons y.pats with
      | some ps'=>match aTh (aJ4 p funs cons k) (len+1) y.kids with
       |some (ks,r) =>some (⟨y.op,n',ks,ps'⟩ ::r)
       |none=>none
      |none=>none
     |none=>none
    else none
   |none=>none
  else none
abbrev PA (p:Prog) :AV:=.agg [.ilst 4 (map Node.av p.nodes) false,.ilst 1 (map bM p.funs) false,.int .i64 p.main,.ilst 2 (map Con.av p.cons) false]
abbrev OL (L:List ONode) :AObj:=.lst 4 (map ONode.av L)
abbrev EndsL (s:TS)(L:List ONode) :Prop:=Ends PP 0 s.as (.ret (.gl 0 4 0 (length L) false)) (aG [(0,OL L,true)] 1)
def aWK (p:Prog)(funs cons:List Int)(c:Int)(L:List ONode)(ns:List Node) :Prop:=
 aPz PP (.enter 100 [.gl 0 4 0 (length L) false,PA p,.int .i64 c,.ilst 1 (map bM funs) false,.ilst 1 (map bM cons) false]) (aG [(0,OL L,true)] 1)
  (.ret (.gl 0 4 0 (length (L++map Node.o ns)) false)) (aG [(0,OL (L++map Node.o ns),true)] 1)
theorem aGA (L:List ONode) : (OL L).kl:=aI _ (fun _=>bE _) _
theorem uR (l:List ONode)(y:ONode)(r:List ONode) : (l++y::r)[length l]?=some y:=by simp
theorem uS (l:List ONode)(y z:ONode)(r:List ONode) :set (l++y::r) (length l) z=l++z::r:=by simp
theorem EndsL.of {s:TS}{L L':List ONode}(h:EndsL s L)(e:L=L') :EndsL s L':=e ▸ h
section
variable (p :Prog) (funs cons:List Int) (k:Nat) (ih:∀ (L:List ONode) (c:Int) (ns:List Node),aJ4 p funs cons k L.length c=some ns→aWK p funs cons c L ns)
 (l:List ONode) (at0 op n':Int) (ps':List Pat) (kids:List Int) (hkids:kids.length<1000000)
include ih hkids
end
def numsL (a:Int) :Nat→List Int
 |0=>[]
 |n+1=>numsL a n++ [a+ (n:Int)]
theorem aAW (a:Int) :∀n,(numsL a n).length=n
 |0=>rfl
 |n+1=>by simp [numsL,aAW a n]
theorem aIt (a:Int) :∀ {n i:Nat},i<n→ (numsL a n)[i]?=some (a+ (i:Int))
 | n+1,i,h=>by
  rw [numsL];by_cases hi:i<n
  ·rw [List.getElem?_append_left (by rw [aAW];exact hi),aIt a hi]
  · have:i=n:=by omega
    subst this;rw [List.getElem?_append_right (by rw [aAW];omega),aAW];simp
theorem bU {f:Nat}{args:List AV}{v:AV}{s:TS}(e: (start PP f args).as=s.as)(hb:oN PP f=true)(hk:keylessL args=true)(hv:keyless v=true)(he:Ends PP 0 s.as (.ret v) (aG [] 0)) :Pure PP f args v:=
 aP hb hk hv (by rw [e];exact he)
theorem aTi :Pure PP 166 [] (.ilst 1 (map aD kwL) false) :=
 bU (s:=aX1) (by kernel_rfl) (by kernel_rfl) rfl (by simp [keyless]) aWC
theorem aRz (s:aA) :Pure PP 115 [aD s] (.bool (cA kwL s)) :=
 aP (by kernel_rfl) rfl rfl (aS5 s kwL _ aTi (uN kwL s (by unfold kwL;simp)))
theorem aTj (s:aA)(l:List Nat){k n:Nat}(hk: (strOf l).length=k)(hn:aC (strOf l) =n) :bB (length s) (aC s) k n=decide (s=strOf l) :=by
 rw [←hk,←hn];exact fR s (strOf l)
theorem dD {s:aA}(l:List Nat){k n:Nat}(e:s=strOf l)(hk: (strOf l).length=k)(hn:aC (strOf l) =n) :bB (length s) (aC s) k n=true:=by rw [aTj s l hk hn];simp [e]
theorem eQ {s:aA}(l:List Nat){k n:Nat}(e:¬s=strOf l)(hk: (strOf l).length=k)(hn:aC (strOf l) =n) :bB (length s) (aC s) k n=false:=by rw [aTj s l hk hn];simp [e]
theorem eV {l:List aA}{s:aA}(i:Nat){w:aA}(hi:l[i]?=some w)(e:s=w) :cA l s=true:=by
 unfold cA;exact List.any_eq_true.2 ⟨w,mem_of_getElem? hi,by simp [e]⟩
theorem aTk (s:aA) :Pure PP 162 [aD s] (.bool (cA kwL s)) :=by
 refine aP (by kernel_rfl) rfl rfl ?_;by_cases e0:s=strOf [98,111,111,108]
 ·rw [eV 0 (by kernel_rfl) e0];exact iE s|>.t (dD _ e0 (by kernel_rfl) (by kernel_rfl)) tv
 have n0:=eQ (k:=4) (n:=1819242338) _ e0 (by kernel_rfl) (by kernel_rfl);by_cases e1:s=strOf [99,101,108,108]
 ·rw [eV 1 (by kernel_rfl) e1];exact iE s|>.f n0|>.t (dD _ e1 (by kernel_rfl) (by kernel_rfl)) tv
 have n1:=eQ (k:=4) (n:=1819043171) _ e1 (by kernel_rfl) (by kernel_rfl);by_cases e2:s=strOf [99,104,97,110]
 ·rw [eV 2 (by kernel_rfl) e2];exact iE s|>.f n0|>.f n1|>.t (dD _ e2 (by kernel_rfl) (by kernel_rfl)) tv
 have n2:=eQ (k:=4) (n:=1851877475) _ e2 (by kernel_rfl) (by kernel_rfl);by_cases e3:s=strOf [101,108,115,101]
 ·rw [eV 3 (by kernel_rfl) e3];exact iE s|>.f n0|>.f n1|>.f n2|>.t (dD _ e3 (by kernel_rfl) (by kernel_rfl)) tv
 have n3:=eQ (k:=4) (n:=1702063205) _ e3 (by kernel_rfl) (by kernel_rfl);by_cases e4:s=strOf [102,97,108,115,101]
 ·rw [eV 4 (by kernel_rfl) e4];exact iE s|>.f n0|>.f n1|>.f n2|>.f n3|>.t (dD _ e4 (by kernel_rfl) (by kernel_rfl)) tv
 have n4:=eQ (k:=5) (n:=435728179558) _ e4 (by kernel_rfl) (by kernel_rfl);by_cases e5:s=strOf [102,117,110]
 ·rw [eV 5 (by kernel_rfl) e5];exact iE s|>.f n0|>.f n1|>.f n2|>.f n3|>.f n4|>.t (dD _ e5 (by kernel_rfl) (by kernel_rfl)) tv
 have n5:=eQ (k:=3) (n:=7239014) _ e5 (by kernel_rfl) (by kernel_rfl);by_cases e6:s=strOf [103,101,116]
 ·rw [eV 6 (by kernel_rfl) e6];exact iE s|>.f n0|>.f n1|>.f n2|>.f n3|>.f n4|>.f n5|>.t (dD _ e6 (by kernel_rfl) (by kernel_rfl)) tv
 have n6:=eQ (k:=3) (n:=7628135) _ e6 (by kernel_rfl) (by kernel_rfl);by_cases e7:s=strOf [105,102]
 ·rw [eV 7 (by kernel_rfl) e7];exact iE s|>.f n0|>.f n1|>.f n2|>.f n3|>.f n4|>.f n5|>.f n6|>.t (dD _ e7 (by kernel_rfl) (by kernel_rfl)) tv
 have n7:=eQ (k:=2) (n:=26217) _ e7 (by kernel_rfl) (by kernel_rfl);by_cases e8:s=strOf [105,110]
 ·rw [eV 8 (by kernel_rfl) e8];exact iE s|>.f n0|>.f n1|>.f n2|>.f n3|>.f n4|>.f n5|>.f n6|>.f n7|>.t (dD _ e8 (by kernel_rfl) (by kernel_rfl)) tv
 have n8:=eQ (k:=2) (n:=28265) _ e8 (by kernel_rfl) (by kernel_rfl);by_cases e9:s=strOf [105,110,112,117,116]
 ·rw [eV 9 (by kernel_rfl) e9];exact iE s|>.f n0|>.f n1|>.f n2|>.f n3|>.f n4|>.f n5|>.f n6|>.f n7|>.f n8|>.t (dD _ e9 (by kernel_rfl) (by kernel_rfl)) tv
 have n9:=eQ (k:=5) (n:=500186508905) _ e9 (by kernel_rfl) (by kernel_rfl);by_cases e10:s=strOf [105,110,116]
 ·rw [eV 10 (by kernel_rfl) e10];exact iE s|>.f n0|>.f n1|>.f n2|>.f n3|>.f n4|>.f n5|>.f n6|>.f n7|>.f n8|>.f n9|>.t (dD _ e10 (by kernel_rfl) (by kernel_rfl)) tv
 have n10:=eQ (k:=3) (n:=7630441) _ e10 (by kernel_rfl) (by kernel_rfl);by_cases e11:s=strOf [106,111,105,110]
 ·rw [eV 11 (by kernel_rfl) e11];exact iE s|>.f n0|>.f n1|>.f n2|>.f n3|>.f n4|>.f n5|>.f n6|>.f n7|>.f n8|>.f n9|>.f n10|>.t (dD _ e11 (by kernel_rfl) (by kernel_rfl)) tv
 have n11:=eQ (k:=4) (n:=1852403562) _ e11 (by kernel_rfl) (by kernel_rfl);by_cases e12:s=strOf [108,101,116]
 ·rw [eV 12 (by kernel_rfl) e12];exact iE s|>.f n0|>.f n1|>.f n2|>.f n3|>.f n4|>.f n5|>.f n6|>.f n7|>.f n8|>.f n9|>.f n10|>.f n11|>.t (dD _ e12 (by kernel_rfl) (by kernel_rfl)) tv
 have n12:=eQ (k:=3) (n:=7628140) _ e12 (by kernel_rfl) (by kernel_rfl);by_cases e13:s=strOf [109,97,116,99,104]
 ·rw [eV 13 (by kernel_rfl) e13];exact iE s|>.f n0|>.f n1|>.f n2|>.f n3|>.f n4|>.f n5|>.f n6|>.f n7|>.f n8|>.f n9|>.f n10|>.f n11|>.f n12|>.t (dD _ e13 (by kernel_rfl) (by kernel_rfl)) tv
 have n13:=eQ (k:=5) (n:=448345170285) _ e13 (by kernel_rfl) (by kernel_rfl);by_cases e14:s=strOf [109,111,100,117,108,101]
 ·rw [eV 14 (by kernel_rfl) e14];exact iE s|>.f n0|>.f n1|>.f n2|>.f n3|>.f n4|>.f n5|>.f n6|>.f n7|>.f n8|>.f n9|>.f n10|>.f n11|>.f n12|>.f n13|>.t (dD _ e14 (by kernel_rfl) (by kernel_rfl)) tv
 have n14:=eQ (k:=6) (n:=111516500389741) _ e14 (by kernel_rfl) (by kernel_rfl);by_cases e15:s=strOf [111,117,116]
 ·rw [eV 15 (by kernel_rfl) e15];exact iE s|>.f n0|>.f n1|>.f n2|>.f n3|>.f n4|>.f n5|>.f n6|>.f n7|>.f n8|>.f n9|>.f n10|>.f n11|>.f n12|>.f n13|>.f n14|>.t (dD _ e15 (by kernel_rfl) (by kernel_rfl)) tv
 have n15:=eQ (k:=3) (n:=7632239) _ e15 (by kernel_rfl) (by kernel_rfl);by_cases e16:s=strOf [112,97,117,115,101]
 ·rw [eV 16 (by kernel_rfl) e16];exact iE s|>.f n0|>.f n1|>.f n2|>.f n3|>.f n4|>.f n5|>.f n6|>.f n7|>.f n8|>.f n9|>.f n10|>.f n11|>.f n12|>.f n13|>.f n14|>.f n15|>.t (dD _ e16 (by kernel_rfl) (by kernel_rfl)) tv
 have n16:=eQ (k:=5) (n:=435728769392) _ e16 (by kernel_rfl) (by kernel_rfl);by_cases e17:s=strOf [112,117,116]
 ·rw [eV 17 (by kernel_rfl) e17];exact iE s|>.f n0|>.f n1|>.f n2|>.f n3|>.f n4|>.f n5|>.f n6|>.f n7|>.f n8|>.f n9|>.f n10|>.f n11|>.f n12|>.f n13|>.f n14|>.f n15|>.f n16|>.t (dD _ e17 (by kernel_rfl) (by kernel_rfl)) tv
 have n17:=eQ (k:=3) (n:=7632240) _ e17 (by kernel_rfl) (by kernel_rfl);by_cases e18:s=strOf [114,101,115,101,116]
 ·rw [eV 18 (by kernel_rfl) e18];exact iE s|>.f n0|>.f n1|>.f n2|>.f n3|>.f n4|>.f n5|>.f n6|>.f n7|>.f n8|>.f n9|>.f n10|>.f n11|>.f n12|>.f n13|>.f n14|>.f n15|>.f n16|>.f n17|>.t (dD _ e18 (by kernel_rfl) (by kernel_rfl)) tv
 have n18:=eQ (k:=5) (n:=499918267762) _ e18 (by kernel_rfl) (by kernel_rfl);by_cases e19:s=strOf [115,101,110,100]
 ·rw [eV 19 (by kernel_rfl) e19];exact iE s|>.f n0|>.f n1|>.f n2|>.f n3|>.f n4|>.f n5|>.f n6|>.f n7|>.f n8|>.f n9|>.f n10|>.f n11|>.f n12|>.f n13|>.f n14|>.f n15|>.f n16|>.f n17|>.f n18|>.t (dD _ e19 (by kernel_rfl) (by kernel_rfl)) tv
 have n19:=eQ (k:=4) (n:=1684956531) _ e19 (by kernel_rfl) (by kernel_rfl);by_cases e20:s=strOf [115,104,105,102,116]
 ·rw [eV 20 (by kernel_rfl) e20];exact iE s|>.f n0|>.f n1|>.f n2|>.f n3|>.f n4|>.f n5|>.f n6|>.f n7|>.f n8|>.f n9|>.f n10|>.f n11|>.f n12|>.f n13|>.f n14|>.f n15|>.f n16|>.f n17|>.f n18|>.f n19|>.t (dD _ e20 (by kernel_rfl) (by kernel_rfl)) tv
 have n20:=eQ (k:=5) (n:=499934390387) _ e20 (by kernel_rfl) (by kernel_rfl);by_cases e21:s=strOf [115,112,97,119,110]
 ·rw [eV 21 (by kernel_rfl) e21];exact iE s|>.f n0|>.f n1|>.f n2|>.f n3|>.f n4|>.f n5|>.f n6|>.f n7|>.f n8|>.f n9|>.f n10|>.f n11|>.f n12|>.f n13|>.f n14|>.f n15|>.f n16|>.f n17|>.f n18|>.f n19|>.f n20|>.t (dD _ e21 (by kernel_rfl) (by kernel_rfl)) tv
 have n21:=eQ (k:=5) (n:=474449277043) _ e21 (by kernel_rfl) (by kernel_rfl);by_cases e22:s=strOf [116,97,107,101]
 ·rw [eV 22 (by kernel_rfl) e22];exact iE s|>.f n0|>.f n1|>.f n2|>.f n3|>.f n4|>.f n5|>.f n6|>.f n7|>.f n8|>.f n9|>.f n10|>.f n11|>.f n12|>.f n13|>.f n14|>.f n15|>.f n16|>.f n17|>.f n18|>.f n19|>.f n20|>.f n21|>.t (dD _ e22 (by kernel_rfl) (by kernel_rfl)) tv
 have n22:=eQ (k:=4) (n:=1701536116) _ e22 (by kernel_rfl) (by kernel_rfl);by_cases e23:s=strOf [116,97,115,107]
 ·rw [eV 23 (by kernel_rfl) e23];exact iE s|>.f n0|>.f n1|>.f n2|>.f n3|>.f n4|>.f n5|>.f n6|>.f n7|>.f n8|>.f n9|>.f n10|>.f n11|>.f n12|>.f n13|>.f n14|>.f n15|>.f n16|>.f n17|>.f n18|>.f n19|>.f n20|>.f n21|>.f n22|>.t (dD _ e23 (by kernel_rfl) (by kernel_rfl)) tv
 have n23:=eQ (k:=4) (n:=1802723700) _ e23 (by kernel_rfl) (by kernel_rfl);by_cases e24:s=strOf [116,104,101,110]
 ·rw [eV 24 (by kernel_rfl) e24];exact iE s|>.f n0|>.f n1|>.f n2|>.f n3|>.f n4|>.f n5|>.f n6|>.f n7|>.f n8|>.f n9|>.f n10|>.f n11|>.f n12|>.f n13|>.f n14|>.f n15|>.f n16|>.f n17|>.f n18|>.f n19|>.f n20|>.f n21|>.f n22|>.f n23|>.t (dD _ e24 (by kernel_rfl) (by kernel_rfl)) tv
 have n24:=eQ (k:=4) (n:=1852139636) _ e24 (by kernel_rfl) (by kernel_rfl);by_cases e25:s=strOf [116,114,117,101]
 ·rw [eV 25 (by kernel_rfl) e25];exact iE s|>.f n0|>.f n1|>.f n2|>.f n3|>.f n4|>.f n5|>.f n6|>.f n7|>.f n8|>.f n9|>.f n10|>.f n11|>.f n12|>.f n13|>.f n14|>.f n15|>.f n16|>.f n17|>.f n18|>.f n19|>.f n20|>.f n21|>.f n22|>.f n23|>.f n24|>.t (dD _ e25 (by kernel_rfl) (by kernel_rfl)) tv
 have n25:=eQ (k:=4) (n:=1702195828) _ e25 (by kernel_rfl) (by kernel_rfl);by_cases e26:s=strOf [116,121,112,101]
 ·rw [eV 26 (by kernel_rfl) e26];exact iE s|>.f n0|>.f n1|>.f n2|>.f n3|>.f n4|>.f n5|>.f n6|>.f n7|>.f n8|>.f n9|>.f n10|>.f n11|>.f n12|>.f n13|>.f n14|>.f n15|>.f n16|>.f n17|>.f n18|>.f n19|>.f n20|>.f n21|>.f n22|>.f n23|>.f n24|>.f n25|>.t (dD _ e26 (by kernel_rfl) (by kernel_rfl)) tv
 have n26:=eQ (k:=4) (n:=1701869940) _ e26 (by kernel_rfl) (by kernel_rfl);by_cases e27:s=strOf [117,110,105,116]
 ·rw [eV 27 (by kernel_rfl) e27];exact iE s|>.f n0|>.f n1|>.f n2|>.f n3|>.f n4|>.f n5|>.f n6|>.f n7|>.f n8|>.f n9|>.f n10|>.f n11|>.f n12|>.f n13|>.f n14|>.f n15|>.f n16|>.f n17|>.f n18|>.f n19|>.f n20|>.f n21|>.f n22|>.f n23|>.f n24|>.f n25|>.f n26|>.t (dD _ e27 (by kernel_rfl) (by kernel_rfl)) tv
 have n27:=eQ (k:=4) (n:=1953066613) _ e27 (by kernel_rfl) (by kernel_rfl);have hno:cA kwL s=false:=by
  unfold cA kwL;simp only [List.any_cons,List.any_nil,Bool.or_false,Bool.or_eq_false_iff,decide_eq_false_iff_not];exact⟨fun h=>e0 h.symm,fun h=>e1 h.symm,fun h=>e2 h.symm,fun h=>e3 h.symm,fun h=>e4 h.symm,fun h=>e5 h.symm,fun h=>e6 h.symm,fun h=>e7 h.symm,fun h=>e8 h.symm,fun h=>e9 h.symm,fun h=>e10 h.symm,fun h=>e11 h.symm,fun h=>e12 h.symm,fun h=>e13 h.symm,fun h=>e14 h.symm,fun h=>e15 h.symm,fun h=>e16 h.symm,fun h=>e17 h.symm,fun h=>e18 h.symm,fun h=>e19 h.symm,fun h=>e20 h.symm,fun h=>e21 h.symm,fun h=>e22 h.symm,fun h=>e23 h.symm,fun h=>e24 h.symm,fun h=>e25 h.symm,fun h=>e26 h.symm,fun h=>e27 h.symm⟩
 rw [hno];exact iE s|>.f n0|>.f n1|>.f n2|>.f n3|>.f n4|>.f n5|>.f n6|>.f n7|>.f n8|>.f n9|>.f n10|>.f n11|>.f n12|>.f n13|>.f n14|>.f n15|>.f n16|>.f n17|>.f n18|>.f n19|>.f n20|>.f n21|>.f n22|>.f n23|>.f n24|>.f n25|>.f n26|>.f n27 tv
def eH (s:aA) :Bool:=decide (1≤s.length) &&decide (s.length≤8) &&jJ s&& !cA kwL s
theorem kY (s:aA) :Pure PP 39 [aD s] (.bool (eH s)) :=by
 refine aP (by kernel_rfl) rfl rfl ?_;unfold eH;by_cases h1:1≤s.length
 · by_cases h2:s.length≤8
   · have hS:=aEQ s (by omega);cases h3:jJ s
     case true=>
      rw [h3]at hS;have:=aPG s|>.t sd|>.t sd true hS|>.t rfl _ (aRz s) tv;simpa [h1,h2]using this
     rw [h3]at hS;have:=aPG s|>.t sd|>.t sd false hS|>.f rfl tv;simpa [h1,h2]using this
   · have:=aPG s|>.t sd|>.f sd tv;simpa [h1,h2]using this
 · have:=aPG s|>.f sd tv;simpa [h1]using this
theorem kC (s:aA) :Pure PP 107 [aD s] (.bool (eH s)) :=by
 refine aP (by kernel_rfl) rfl rfl ?_;unfold eH;by_cases h1:s= []
 · subst h1;have:=aPH []|>.f (by rfl) tv;simpa using this
 · have hpos:1≤s.length:=by cases s with
    |nil=>exact absurd rfl h1
    |cons _ _=>simp
   have h0: (!(bB (length s) (aC s) 0 0)) =true:=by
    have:=eQ (k:=0) (n:=0) (s:=s) [] h1 rfl rfl;rw [this];rfl
   by_cases h2:s.length≤8
   · have hS:=aEW s;cases h3:jJ s
     case true=>
      rw [h3]at hS;have:=aPH s|>.t h0|>.t sd true hS|>.t rfl _ (aTk s) tv;simpa [hpos,h2]using this
     rw [h3]at hS;have:=aPH s|>.t h0|>.t sd false hS|>.f rfl tv;simpa [hpos,h2]using this
   · have:=aPH s|>.t h0|>.f sd tv;simpa [hpos,h2]using this
theorem iW (n lo hi:Int) :Pure PP 40 [.int .i64 n,.int .i64 lo,.int .i64 hi] (.bool (bG n lo hi)) :=by
 refine aP (by kernel_rfl) rfl rfl ?_;by_cases h:n≥lo
 · have e:bG n lo hi=decide (n≤hi) :=by unfold bG;rw [decide_eq_true (show lo≤n from h),Bool.true_and]
   rw [e];exact aX2 n lo hi|>.t (by simpa using h) tv
 · have e:bG n lo hi=false:=by unfold bG;rw [decide_eq_false (show ¬lo≤n from h),Bool.false_and]
   rw [e];exact aX2 n lo hi|>.f (by simpa using h) tv
abbrev aEY (a b:Int)(c:aA)(d:List Pat):AV:=.agg [nI a,nI b,aD c,iP d]
def aX3(a b:Int)(c:aA)(d:List Pat):TS:=bH PP 179 [aEY a b c d] [] 0
def aJ5(b c:Int)(d:aA)(e:List Pat)(f:Int)(a:List aA):TS:=⟨tf 179 27 [kp 1 0,(2,.nils),(3,.gl 1 1 0 a.length false),(4,nI f)] [kc f179 244,kl f179 244,.inBlock 0,kc f179 31],[],[oC 0 [nI b,nI c,aD d,iP e],oL 1 1 (map aD a)],2⟩
def gJ(b c:Int)(d:aA)(a:List Pat)(e:Bool)(f:Int):TS:=⟨tf 210 97 [kp 1 0,(2,bV false),(3,nI (a.length:Int)),(4,bV e),(5,nI f)] [kc f210 500,kl f210 500,.inBlock 1,kc f210 63],[],[oC 0 [nI b,nI c,aD d,iP a]],1⟩
def aX4(b c:Int)(a:aA)(d:List Pat):=tT 0 (aX3 b c a d)<|.b 12 7 (b==2) (.i [rn 9,.toL 2 false [aD a]] [hr (some [aD a]),hr true]<|gu 0 1 (map aD [a])<|gs 0 2 (.gl 1 1 0 [a].length true)<|.i [.weak 2] []<|gz 0 2 1 1 aD [a] false<|gE 0 2 (iS [a]))<|.i [rn 13,.nilL 3 1] []<|gu 0 1 (map aD ([] :List aA))<|gs 0 3 (.gl 1 1 0 ([] :List aA).length false)<|.W 0 2 [0,1] (aJ5 b c a d 0 ([] :List aA))
def aX5(e f:Int)(g:aA)(a:List Pat)(b:Int)(c:List aA):=tT 0 (aJ5 e f g a b c)<|gm 6 aF a<|gd 2 15 (b< (a.length:Int)) (wY 9 a b<|fun i j k l=>.y fun d:List aA=>gp 1 179 [aEY i j k l] (iS d)<|ga 0 aD c d<|gw 6 17 (b+1)<|.W 3 3 [0,2] (aJ5 e f g a (b+1) (c++d)))<|gz 8 2 1 1 aD c false<|gE 0 2 (iS c)
def bAB(c d:Int)(a:aA)(b:List Pat):=tT 0 (start PP 210 [aEY c d a b])<|gm 9 aF b<|.b 19 11 (c==1) (.b 7 16 ((b.length:Int) ==0) (.b 5 21 (d==0) (.W 14 1 [0] (gJ c d a b (bB a.length (aC a) 0 0) 0))<|.W 14 1 [0] (gJ c d a b false 0))<|.W 19 1 [0] (gJ c d a b false 0))<|.b 5 11 (c==5) (.b 5 16 ((b.length:Int) ==0) (.b 5 21 (d==0) (.W 14 1 [0] (gJ c d a b (bB a.length (aC a) 0 0) 0))<|.W 14 1 [0] (gJ c d a b false 0))<|.W 19 1 [0] (gJ c d a b false 0))<|.b 6 26 (c==2) (.b 5 30 ((b.length:Int) ==0) (.b 5 35 (d==0) (cD 2 39 [aD a]<|fun e=>.W 11 1 [0] (gJ c d a b e 0))<|.W 14 1 [0] (gJ c d a b false 0))<|.W 19 1 [0] (gJ c d a b false 0))<|.b 6 40 (c==3) (.b 5 44 ((b.length:Int) ==0) (.b 5 49 (bB a.length (aC a) 0 0) (cD 2 40 [nI d,nI (-1000000000),nI 1000000000]<|fun e=>.W 11 1 [0] (gJ c d a b e 0))<|.W 14 1 [0] (gJ c d a b false 0))<|.W 19 1 [0] (gJ c d a b false 0))<|.b 6 54 (c==4) (.b 5 58 ((b.length:Int) ==0) (.b 5 63 (bB a.length (aC a) 0 0) (cD 2 40 [nI d,nI 0,nI 1]<|fun e=>.W 11 1 [0] (gJ c d a b e 0))<|.W 14 1 [0] (gJ c d a b false 0))<|.W 19 1 [0] (gJ c d a b false 0))<|.b 6 68 (c==6) (gd 5 72 ((b.length:Int) ≤3) (.b 5 77 (d==0) (cD 2 116 [aD a]<|fun e=>.W 11 1 [0] (gJ c d a b e 0))<|.W 14 1 [0] (gJ c d a b false 0))<|.W 19 1 [0] (gJ c d a b false 0))<|.W 10 1 [0] (gJ c d a b false 0)
def aTl(d e:Int)(f:aA)(b:List Pat)(c:Bool)(a:Int):=tT 0 (gJ d e f b c a)<|gd 7 85 (a< (b.length:Int)) (.b 3 87 c (wY 8 b a<|fun g i j k=>cD 1 210 [aEY g i j k]<|fun l=>gw 6 89 (a+1)<|.W 3 1 [0] (gJ d e f b l (a+1)))<|gE 8 1 (bV c))<|gE 11 1 (bV c)
def aTm(a b:Int)(c:aA)(d:List Pat):=tT 0 (start PP 168 [aEY a b c d])<|gpI 8 155 [aEY a b c d,nI 12]<|fun f=>gd 2 6 (f≥0) (cD 1 210 [aEY a b c d]<|fun g=>.b 2 10 g (.y fun e:List aA=>gp 1 179 [aEY a b c d] (iS e)<|cD 0 62 [iS e]<|fun i=>gE 4 1 (bV i))<|gE 7 1 (bV false))<|gE 11 1 (bV false)
theorem uU {α β:Type}[DecidableEq α]{f:α→AV}{g:β→AV}(hf:aJV f){k:α}{l:List (α×β)}(h:cI k l=none)(v:AV) :iU (aK f g 0 l) (length l) (f k) v=some (aK f g 0 l++ [(f k,v,length l)],Nat.succ (length l)) :=by
 unfold iU;rw [wT hf k l 0 0 h]
theorem aPI {α β:Type}{f:α→AV}{g:β→AV}(hf:∀a,keyless (f a) =true)(hg:∀a,keyless (g a) =true)(l:List (α×β)) :KL (aK f g 0 l) :=wW hf hg l 0
theorem aAX {α β:Type}[DecidableEq α]{f:α→AV}{g:β→AV}{k:α}{l:List (α×β)}(h:cI k l=none)(v:β) :aK f g 0 l++ [(f k,g v,length l)] =aK f g 0 (bS k v l) :=by
 have:= (aC9 f g k v l 0 h).1;rwa [Nat.zero_add]at this
theorem rI {α β:Type}[DecidableEq α]{k:α}{l:List (α×β)}(h:cI k l=none)(v:β) :Nat.succ (length l) =length (bS k v l) := (aC9 (fun _=>nils) (fun _=>nils) k v l 0 h).2.symm
theorem sZ (k:Int) :keyless (bM k) =true:=rfl
abbrev aX6 (a:Nat):Nat×AObj×Bool:=(a,.map (aK aD kP 0 ([] :List (aA×Bool))) ([] :List (aA×Bool)).length,true)
abbrev gW (a:Nat)(b:List (aA×Bool)):Nat×AObj×Bool:=(a,.map (aK aD kP 0 b) b.length,true)
abbrev aAl (a b:Int)(c:aA)(d:List Pat):AV:=.agg [nI a,nI b,aD c,iP d]
abbrev pV (a:Nat)(b c:Int)(d:aA)(e:List Pat):=oC a [nI b,nI c,aD d,iP e]
abbrev iK:AV:=.iface 315 (.agg [])
def aZK(a b c d:Int)(e:aA)(f:List Pat):TS:=bH PP 289 [.ptr 0 0,aAl c d e f] [oC 0 [nI a,nI b]] 1
def aPJ(e b f g:Int)(i:aA)(a:List Pat)(c d:Int):TS:=⟨tf 289 19 [kp 0 0,(9,iP a),(10,nI (a.length:Int)),(11,nI c)] [kc f289 60,kl f289 60,.inBlock 0],[],[oC 0 [nI d,nI b]],1⟩
def aPK(a:List (aA×Bool))(b c:Int)(d:aA)(e:List Pat):TS:=bH PP 290 [aAl b c d e,.map 0] [gW 0 a] 1
def pK(d:List (aA×Bool))(e f:Int)(g:aA)(a:List Pat)(b:List (aA×Bool))(c:Int):TS:=⟨tf 290 121 [(1,.map 0),(111,iP a),(112,nI (a.length:Int)),(113,nI c)] [kc f290 60,kl f290 60,.inBlock 1],[],[gW 0 b],1⟩
def aX7(a b:Int)(c:aA)(d:List Pat):TS:=bH PP 274 [aAl a b c d] [] 0
def aX8(a b d e:Int)(f:aA)(c:List Pat):=tT 1 (aZK a b d e f c)<|gw 15 8 (a-1)<|gd 11 16 ((a-1) ≥0) (.b 13 3 (!(decide (0≤b))) (.P 7 2 [] [(iK,false)] [oC 0 [nI (a-1),nI b]] 1)<|gm 12 aF c<|.W 4 2 [] (aPJ a b d e f c 0 (a-1)))<|.P 20 2 [] [(iK,false)] [oC 0 [nI (a-1),nI b]] 1
def aTn(k a l m:Int)(n:aA)(i:List Pat)(f j:Int):=tT 1 (aPJ k a l m n i f j)<|gd 5 12 (f< (i.length:Int)) (wY 6 i f<|fun b c d e=>.o (.y fun g:Int=>gK 7 (.enter 289 [.ptr 0 0,aAl b c d e]) [oC 0 [nI j,nI a],pV 1 b c d e] 2 [(iK,false)] [oC 0 [nI g,nI a],pV 1 b c d e] 2<|.P 0 2 [] [(iK,false)] [oC 0 [nI g,nI a]] 1)<|.y fun g:Int=>gk 7 (.enter 289 [.ptr 0 0,aAl b c d e]) [oC 0 [nI j,nI a],pV 1 b c d e] 2 (.tup []) [oC 0 [nI g,nI a],pV 1 b c d e] 2<|gw 4 18 (f+1)<|.W 3 2 [] (aPJ k a l m n i (f+1) g))<|.E 3 1 [] (.tup []) [oC 0 [nI j,nI a]] 1
def iL(a:List (aA×Bool))(e d:Int)(b:aA)(c:List Pat):=tT 1 (aPK a e d b c)<|.b 17 9 (e==1) (gm 6 aF c<|.b 2 16 ((c.length:Int) ==0) (.b 5 21 (d==0) (.b 10 3 (!(bB b.length (aC b) 0 0)) (.P 6 2 [] [(iK,false)] [gW 0 a] 1)<|gm 10 aF c<|.W 4 2 [] (pK a e d b c a 0))<|.P 16 2 [] [(iK,false)] [gW 0 a] 1)<|.P 21 2 [] [(iK,false)] [gW 0 a] 1)<|.b 5 9 (e==5) (gm 4 aF c<|.b 2 16 ((c.length:Int) ==0) (.b 5 21 (d==0) (.b 10 3 (!(bB b.length (aC b) 0 0)) (.P 6 2 [] [(iK,false)] [gW 0 a] 1)<|gm 10 aF c<|.W 4 2 [] (pK a e d b c a 0))<|.P 16 2 [] [(iK,false)] [gW 0 a] 1)<|.P 21 2 [] [(iK,false)] [gW 0 a] 1)<|.b 6 27 (e==2) (gm 5 aF c<|.b 2 33 ((c.length:Int) ==0) (.b 5 38 (d==0) (cD 2 107 [aD b]<|fun f=>.b 2 43 f (.o (.y fun g:Bool=>.i [rn 3,.ans (.look (some (wV b a,kP g)))] [.a (cI b a=some g) (p':=fP (aD b) (aK aD kP 0 a) 0=some (some (wV b a,kP g))) (qQ iO)]<|.b 8 3 (!(!g)) (.P 6 2 [] [(iK,false)] [gW 0 a] 1)<|.i [rn 9,.mput (aK aD kP 0 (bS b true a)) (bS b true a).length] [.q (p:=iU (aK aD kP 0 a) a.length (aD b) (kP true) =some (aK aD kP 0 (bS b true a),length (bS b true a))) (wU iO _ _ _)]<|gm 6 aF c<|.W 4 2 [] (pK a e d b c (bS b true a) 0))<|.i [rn 3,.ans (.look none)] [.a (cI b a=none) (p':=fP (aD b) (aK aD kP 0 a) 0=some none) (nR iO)]<|.i [rn 17,.mput (aK aD kP 0 (bS b true a)) (bS b true a).length] [.q (p:=iU (aK aD kP 0 a) a.length (aD b) (kP true) =some (aK aD kP 0 (bS b true a),length (bS b true a))) (wU iO _ _ _)]<|gm 6 aF c<|.W 4 2 [] (pK a e d b c (bS b true a) 0))<|.P 18 2 [] [(iK,false)] [gW 0 a] 1)<|.P 23 2 [] [(iK,false)] [gW 0 a] 1)<|.P 28 2 [] [(iK,false)] [gW 0 a] 1)<|.b 6 54 (e==3) (gm 4 aF c<|.b 2 60 ((c.length:Int) ==0) (.b 5 65 (bB b.length (aC b) 0 0) (cD 2 273 [nI d]<|fun f=>.b 7 3 (!f) (.P 6 2 [] [(iK,false)] [gW 0 a] 1)<|gm 10 aF c<|.W 4 2 [] (pK a e d b c a 0))<|.P 16 2 [] [(iK,false)] [gW 0 a] 1)<|.P 21 2 [] [(iK,false)] [gW 0 a] 1)<|.b 6 71 (e==4) (gm 4 aF c<|.b 2 77 ((c.length:Int) ==0) (.b 5 82 (bB b.length (aC b) 0 0) (.b 4 86 (d==0) (gm 21 aF c<|.W 4 2 [] (pK a e d b c a 0))<|.b 11 3 (!(d==1)) (.P 6 2 [] [(iK,false)] [gW 0 a] 1)<|gm 10 aF c<|.W 4 2 [] (pK a e d b c a 0))<|.P 21 2 [] [(iK,false)] [gW 0 a] 1)<|.P 26 2 [] [(iK,false)] [gW 0 a] 1)<|.b 6 93 (e==6) (gm 4 aF c<|gd 2 99 ((c.length:Int) ≤3) (.b 5 104 (d==0) (cD 2 171 [aD b]<|fun f=>.b 7 3 (!f) (.P 6 2 [] [(iK,false)] [gW 0 a] 1)<|gm 10 aF c<|.W 4 2 [] (pK a e d b c a 0))<|.P 16 2 [] [(iK,false)] [gW 0 a] 1)<|.P 21 2 [] [(iK,false)] [gW 0 a] 1)<|.P 14 2 [] [(iK,false)] [gW 0 a] 1
def aTo(j:List (aA×Bool))(k l:Int)(m:aA)(i:List Pat)(b:List (aA×Bool))(g:Int):=tT 1 (pK j k l m i b g)<|gd 5 114 (g< (i.length:Int)) (wY 6 i g<|fun c d e f=>.o (.y fun a:List (aA×Bool)=>gK 7 (.enter 290 [aAl c d e f,.map 0]) [gW 0 b,pV 1 c d e f] 2 [(iK,false)] [gW 0 a,pV 1 c d e f] 2<|.P 0 2 [] [(iK,false)] [gW 0 a] 1)<|.y fun a:List (aA×Bool)=>gk 7 (.enter 290 [aAl c d e f,.map 0]) [gW 0 b,pV 1 c d e f] 2 (.tup []) [gW 0 a,pV 1 c d e f] 2<|gw 4 120 (g+1)<|.W 3 2 [] (pK j k l m i a (g+1)))<|.E 3 1 [] (.tup []) [gW 0 b] 1
def aTp(a b:Int)(c:aA)(d:List Pat):=tT 0 (aX7 a b c d)<|.o (.y fun e:Int=>gK 36 (.enter 289 [.ptr 2 0,aAl a b c d]) [pV 0 a b c d,oC 1 [bV false],oC 2 [nI 12,nI 0]] 3 [(iK,false)] [pV 0 a b c d,oC 1 [bV false],oC 2 [nI e,nI 0]] 3<|gE 50 4 (nI 2))<|.y fun e:Int=>gk 36 (.enter 289 [.ptr 2 0,aAl a b c d]) [pV 0 a b c d,oC 1 [bV false],oC 2 [nI 12,nI 0]] 3 (.tup []) [pV 0 a b c d,oC 1 [bV false],oC 2 [nI e,nI 0]] 3<|.i [rn 4,.mset 3 (aK aD kP 0 ([] :List (aA×Bool))) ([] :List (aA×Bool)).length] [hr (aK aD kP 0 ([] :List (aA×Bool))),hr (length ([] :List (aA×Bool)))]<|.o (.y fun f:List (aA×Bool)=>gK 0 (.enter 290 [aAl a b c d,.map 3]) [pV 0 a b c d,oC 1 [bV false],oC 2 [nI e,nI 0],aX6 3] 4 [(iK,false)] [pV 0 a b c d,oC 1 [bV false],oC 2 [nI e,nI 0],gW 3 f] 4<|gE 50 5 (nI 2))<|.y fun f:List (aA×Bool)=>gk 0 (.enter 290 [aAl a b c d,.map 3]) [pV 0 a b c d,oC 1 [bV false],oC 2 [nI e,nI 0],aX6 3] 4 (.tup []) [pV 0 a b c d,oC 1 [bV false],oC 2 [nI e,nI 0],gW 3 f] 4<|gE 38 4 (nI 0)
def aX9(a:Int):=tT 0 (start PP 273 [nI a])<|gd 9 5 (a≥ (-1000000000:Int)) (gE 6 0 (bV (decide (a≤1000000000))))<|gE 6 0 (bV false)
theorem sdW {p:Prop}(h:p:=by simp_all only [inB_iff,inB_not,beq_iff_eq,decide_eq_true_eq,decide_eq_false_iff_not] <;>omega) :p:=h
theorem idW {p:Prop}(h:p:=by exact⟨_,List.getElem?_eq_getElem (by simp_all only [inB_iff,inB_not,beq_iff_eq,decide_eq_true_eq,decide_eq_false_iff_not] <;>omega)⟩) :p:=h
theorem aIu (l:List Pat)(p:Prog)(hl:l.length<1000000)(ih:∀q∈l,Pure PP 258 [Prog.av p,Pat.av q] (.bool (fC p.cons q))) :
  ∀ (t:List Pat) (i:Nat),l.drop i=t→Ends PP 0 (aFv l p (i:Int)).as (.ret (.bool (dO p.cons t))) (aG [] 0)
 | [],i,h=>by
  have:=aZ h;exact Ends.eqv (aZD l p i|>.f sd tv) (by simp [dO])
 | .mk f n s ps::t,i,h=>by
  obtain⟨g1,g2,g3⟩ :=aY h;have hq:=ih (.mk f n s ps) (mem_of_getElem? g1);cases k:fC p.cons (.mk f n s ps)
  case false=>
   rw [k]at hq;exact Ends.eqv (aZD l p i|>.t sd f n s ps sd sd false hq|>.t rfl tv) (by simp [dO,k])
  rw [k]at hq;refine(aZD l p i|>.t sd f n s ps sd sd true hq|>.f rfl sd tv).ends ?_;exact Ends.eqv (aIu l p hl ih t (i+1) g2) (by simp [dO,k])
theorem aRA (l:List Pat)(p:Prog)(hl:l.length<1000000)(ih:∀q∈l,Pure PP 258 [Prog.av p,Pat.av q] (.bool (fC p.cons q))) :
  Pure PP 260 [.ilst 4 (Pats.av l) false,.func 258 [Prog.av p] []] (.bool (dO p.cons l)) :=
 aP (by kernel_rfl) (by simp [keylessL,keyless,Prog.av]) rfl ((aTb l p).ends (aIu l p hl ih l 0 rfl))
theorem aZL (p:Prog)(t8 w8:Int)(t7:aA)(t5:List Pat)(hc:p.cons.length≤1000)(hev:Pure PP 260 [.ilst 4 (Pats.av t5) false,.func 258 [Prog.av p] []] (.bool (dO p.cons t5))) :
  Ends PP 0 (start PP 258 [Prog.av p,Pat.av (.mk t8 w8 t7 t5)]).as (.ret (.bool (fC p.cons (.mk t8 w8 t7 t5)))) (aG [] 0) :=by
 have hw:IntKind.i64.wrap ((p.cons.length:Int) -1) = (p.cons.length:Int) -1:=by apply wrap64<;>omega
 have T0:=bCI p t8 w8 t7 t5;cases hb1: (!(bB (length t7) (aC t7) 0 0))
 case true=>exact Ends.eqv (T0|>.t hb1 tv) (by clear hev;simp_all [fC,fG,gI,aB,iQ] <;>rfl)
 cases hb2: (!(dO p.cons t5))
 case true=>exact Ends.eqv (T0|>.f hb1 (dO p.cons t5) hev|>.t hb2 tv) (by clear hev;simp_all [fC,fG,gI,aB,iQ] <;>rfl)
 cases hb3: (t8== (1:Int))
 case true=>
  cases hb4: (w8== (0:Int))
  case true=>exact Ends.eqv (T0|>.f hb1 (dO p.cons t5) hev|>.f hb2|>.t hb3|>.t hb4 tv) (by clear hev;simp_all [fC,fG,gI,aB,iQ] <;>rfl)
  exact Ends.eqv (T0|>.f hb1 (dO p.cons t5) hev|>.f hb2|>.t hb3|>.f hb4 tv) (by clear hev;simp_all [fC,fG,gI,aB,iQ] <;>rfl)
 cases hb5: (t8== (2:Int))
 case true=>
  cases hb6: (w8== (0:Int))
  case true=>exact Ends.eqv (T0|>.f hb1 (dO p.cons t5) hev|>.f hb2|>.f hb3|>.t hb5|>.t hb6 tv) (by clear hev;simp_all [fC,fG,gI,aB,iQ] <;>rfl)
  exact Ends.eqv (T0|>.f hb1 (dO p.cons t5) hev|>.f hb2|>.f hb3|>.t hb5|>.f hb6 tv) (by clear hev;simp_all [fC,fG,gI,aB,iQ] <;>rfl)
 cases hb7: (t8== (5:Int))
 case true=>
  cases hb8: (w8== (0:Int))
  case true=>exact Ends.eqv (T0|>.f hb1 (dO p.cons t5) hev|>.f hb2|>.f hb3|>.f hb5|>.t hb7|>.t hb8 tv) (by clear hev;simp_all [fC,fG,gI,aB,iQ] <;>rfl)
  exact Ends.eqv (T0|>.f hb1 (dO p.cons t5) hev|>.f hb2|>.f hb3|>.f hb5|>.t hb7|>.f hb8 tv) (by clear hev;simp_all [fC,fG,gI,aB,iQ] <;>rfl)
 cases hb9: (t8== (3:Int))
 case true=>
  cases hb10: (bG w8 (-1000000000) 1000000000)
  case true=>exact Ends.eqv (T0|>.f hb1 (dO p.cons t5) hev|>.f hb2|>.f hb3|>.f hb5|>.f hb7|>.t hb9 (bG w8 (-1000000000) 1000000000) (aEg w8)|>.t hb10 tv) (by clear hev;simp_all [fC,fG,gI,aB,iQ] <;>rfl)
  exact Ends.eqv (T0|>.f hb1 (dO p.cons t5) hev|>.f hb2|>.f hb3|>.f hb5|>.f hb7|>.t hb9 (bG w8 (-1000000000) 1000000000) (aEg w8)|>.f hb10 tv) (by clear hev;simp_all [fC,fG,gI,aB,iQ] <;>rfl)
 cases hb11: (t8== (4:Int))
 case true=>
  cases hb12: (bG w8 0 1)
  case true=>exact Ends.eqv (T0|>.f hb1 (dO p.cons t5) hev|>.f hb2|>.f hb3|>.f hb5|>.f hb7|>.f hb9|>.t hb11 (bG w8 0 1) (iF w8 0 1)|>.t hb12 tv) (by clear hev;simp_all [fC,fG,gI,aB,iQ] <;>rfl)
  exact Ends.eqv (T0|>.f hb1 (dO p.cons t5) hev|>.f hb2|>.f hb3|>.f hb5|>.f hb7|>.f hb9|>.t hb11 (bG w8 0 1) (iF w8 0 1)|>.f hb12 tv) (by clear hev;simp_all [fC,fG,gI,aB,iQ] <;>rfl)
 cases hb13: (t8== (6:Int))
 case true=>
  cases hb14: (bG w8 0 (IntKind.i64.wrap (((length p.cons:Nat) :Int) - (1:Int))))
  case true=>
   obtain⟨y2,hx15⟩ :∃y,((p.cons)[w8.toNat]?) =some y:=idW;exact Ends.eqv (T0|>.f hb1 (dO p.cons t5) hev|>.f hb2|>.f hb3|>.f hb5|>.f hb7|>.f hb9|>.f hb11|>.t hb13|>.1 (bG w8 0 (IntKind.i64.wrap (((length p.cons:Nat) :Int) - (1:Int)))) y2 (iF w8 0 (IntKind.i64.wrap (((length p.cons:Nat) :Int) - (1:Int)))) hb14 sdW hx15 tv) (by clear hev;simp_all [fC,fG,gI,aB,iQ] <;>rfl)
  exact Ends.eqv (T0|>.f hb1 (dO p.cons t5) hev|>.f hb2|>.f hb3|>.f hb5|>.f hb7|>.f hb9|>.f hb11|>.t hb13|>.2 (bG w8 0 (IntKind.i64.wrap (((length p.cons:Nat) :Int) - (1:Int)))) (iF w8 0 (IntKind.i64.wrap (((length p.cons:Nat) :Int) - (1:Int)))) hb14 tv) (by clear hev;simp_all [fC,fG,gI,aB,iQ] <;>rfl)
 exact Ends.eqv (T0|>.f hb1 (dO p.cons t5) hev|>.f hb2|>.f hb3|>.f hb5|>.f hb7|>.f hb9|>.f hb11|>.f hb13 tv) (by clear hev;simp_all [fC,fG,gI,aB,iQ] <;>rfl)
mutual
theorem aIv (p:Prog)(hc:p.cons.length≤1000) :∀ (q:Pat),bA q<1000000→Pure PP 258 [Prog.av p,Pat.av q] (.bool (fC p.cons q))
 | .mk f n s ps,h=>by
  refine aP (by kernel_rfl) (by simp [keylessL,lO,keyless,Prog.av]) rfl ?_;simp only [bA]at h;have:=dN ps;exact aZL p f n s ps hc (aRA ps p (by omega) (aMo p hc ps (by omega)))
theorem aMo (p:Prog)(hc:p.cons.length≤1000) :∀ (ps:List Pat),aQ ps<1000000→∀q∈ps,Pure PP 258 [Prog.av p,Pat.av q] (.bool (fC p.cons q))
 | [],_,q,hq=>by cases hq
 | r::ps,h,q,hq=>by
  simp only [aQ]at h;rcases List.mem_cons.1 hq with e|hq
  ·rw [e];exact aIv p hc r (by omega)
  ·exact aMo p hc ps (by omega) q hq
end
def dI (op:Int) :Option Int:=
 if op=1∨op=2∨op=3∨op=4∨op=21∨op=25∨op=28 then some 0
 else if op=5∨op=27∨op=16∨op=17∨op=19∨op=20∨op=23∨op=26∨op=24 then some 1
 else if op=6∨op=7∨op=9∨op=10∨op=11∨op=12∨op=13∨op=18∨op=22 then some 2
 else if op=8 then some 3 else none
def bQ (op:Int) :AV:=
 match dI op with
 |some k=>.iface 322 (.int .i64 k)
 |none=>if op=15 then .iface 305 (.agg [])else if op=14 then .iface 323 (.agg [])else .nili
theorem aMp {op k:Int}(h:dI op=some k)(pats args:Int) :eG op pats args=k∧op≠15∧op≠14:=by
 unfold dI at h;unfold eG;split at h
 ·rename_i g;rw [if_pos g];simp only [Option.some.injEq]at h;refine⟨h,?_,?_⟩ <;>omega
 · rename_i g0;rw [if_neg g0];split at h
   ·rename_i g;rw [if_pos g];simp only [Option.some.injEq]at h;refine⟨h,?_,?_⟩ <;>omega
   · rename_i g1;rw [if_neg g1];split at h
     ·rename_i g;rw [if_pos g];simp only [Option.some.injEq]at h;refine⟨h,?_,?_⟩ <;>omega
     · rename_i g2;rw [if_neg g2];split at h
       ·rename_i g;rw [if_pos g];simp only [Option.some.injEq]at h;refine⟨h,?_,?_⟩ <;>omega
       ·cases h
theorem aOs {op:Int}(h:dI op=none)(pats args:Int) :eG op pats args=if op=15 then 1+pats else if op=14 then args else -1:=by
 unfold dI at h;unfold eG;split at h
 ·cases h
 · rename_i g0;rw [if_neg g0];split at h
   ·cases h
   · rename_i g1;rw [if_neg g1];split at h
     ·cases h
     · rename_i g2;rw [if_neg g2];split at h
       ·cases h
       ·rename_i g;rw [if_neg g]
theorem aRB (op:Int) :Ends PP 0 (start PP 255 [.int .i64 op]).as (.ret (bQ op)) (aG [] 0) :=by
 have T0:=bCJ op;cases hb1: (op== (1:Int))
 case true=>exact Ends.eqv (T0|>.t hb1 tv) (by clear T0;simp_all [bQ,dI])
 replace T0:=T0.f hb1;cases hb2: (op== (2:Int))
 case true=>exact Ends.eqv (T0|>.t hb2 tv) (by clear T0;simp_all [bQ,dI])
 replace T0:=T0.f hb2;cases hb3: (op== (3:Int))
 case true=>exact Ends.eqv (T0|>.t hb3 tv) (by clear T0;simp_all [bQ,dI])
 replace T0:=T0.f hb3;cases hb4: (op== (4:Int))
 case true=>exact Ends.eqv (T0|>.t hb4 tv) (by clear T0;simp_all [bQ,dI])
 replace T0:=T0.f hb4;cases hb5: (op== (21:Int))
 case true=>exact Ends.eqv (T0|>.t hb5 tv) (by clear T0;simp_all [bQ,dI])
 replace T0:=T0.f hb5;cases hb6: (op== (25:Int))
 case true=>exact Ends.eqv (T0|>.t hb6 tv) (by clear T0;simp_all [bQ,dI])
 replace T0:=T0.f hb6;cases hb7: (op== (28:Int))
 case true=>exact Ends.eqv (T0|>.t hb7 tv) (by clear T0;simp_all [bQ,dI])
 replace T0:=T0.f hb7;cases hb8: (op== (5:Int))
 case true=>exact Ends.eqv (T0|>.t hb8 tv) (by clear T0;simp_all [bQ,dI])
 replace T0:=T0.f hb8;cases hb9: (op== (27:Int))
 case true=>exact Ends.eqv (T0|>.t hb9 tv) (by clear T0;simp_all [bQ,dI])
 replace T0:=T0.f hb9;cases hb10: (op== (16:Int))
 case true=>exact Ends.eqv (T0|>.t hb10 tv) (by clear T0;simp_all [bQ,dI])
 replace T0:=T0.f hb10;cases hb11: (op== (17:Int))
 case true=>exact Ends.eqv (T0|>.t hb11 tv) (by clear T0;simp_all [bQ,dI])
 replace T0:=T0.f hb11;cases hb12: (op== (19:Int))
 case true=>exact Ends.eqv (T0|>.t hb12 tv) (by clear T0;simp_all [bQ,dI])
 replace T0:=T0.f hb12;cases hb13: (op== (20:Int))
 case true=>exact Ends.eqv (T0|>.t hb13 tv) (by clear T0;simp_all [bQ,dI])
 replace T0:=T0.f hb13;cases hb14: (op== (23:Int))
 case true=>exact Ends.eqv (T0|>.t hb14 tv) (by clear T0;simp_all [bQ,dI])
 replace T0:=T0.f hb14;cases hb15: (op== (24:Int))
 case true=>exact Ends.eqv (T0|>.t hb15 tv) (by clear T0;simp_all [bQ,dI])
 replace T0:=T0.f hb15;cases hb16: (op== (26:Int))
 case true=>exact Ends.eqv (T0|>.t hb16 tv) (by clear T0;simp_all [bQ,dI])
 replace T0:=T0.f hb16;cases hb17: (op== (6:Int))
 case true=>exact Ends.eqv (T0|>.t hb17 tv) (by clear T0;simp_all [bQ,dI])
 replace T0:=T0.f hb17;cases hb18: (op== (7:Int))
 case true=>exact Ends.eqv (T0|>.t hb18 tv) (by clear T0;simp_all [bQ,dI])
 replace T0:=T0.f hb18;cases hb19: (op== (9:Int))
 case true=>exact Ends.eqv (T0|>.t hb19 tv) (by clear T0;simp_all [bQ,dI])
 replace T0:=T0.f hb19;cases hb20: (op== (10:Int))
 case true=>exact Ends.eqv (T0|>.t hb20 tv) (by clear T0;simp_all [bQ,dI])
 replace T0:=T0.f hb20;cases hb21: (op== (11:Int))
 case true=>exact Ends.eqv (T0|>.t hb21 tv) (by clear T0;simp_all [bQ,dI])
 replace T0:=T0.f hb21;cases hb22: (op== (12:Int))
 case true=>exact Ends.eqv (T0|>.t hb22 tv) (by clear T0;simp_all [bQ,dI])
 replace T0:=T0.f hb22;cases hb23: (op== (13:Int))
 case true=>exact Ends.eqv (T0|>.t hb23 tv) (by clear T0;simp_all [bQ,dI])
 replace T0:=T0.f hb23;cases hb24: (op== (18:Int))
 case true=>exact Ends.eqv (T0|>.t hb24 tv) (by clear T0;simp_all [bQ,dI])
 replace T0:=T0.f hb24;cases hb25: (op== (22:Int))
 case true=>exact Ends.eqv (T0|>.t hb25 tv) (by clear T0;simp_all [bQ,dI])
 replace T0:=T0.f hb25;cases hb26: (op== (8:Int))
 case true=>exact Ends.eqv (T0|>.t hb26 tv) (by clear T0;simp_all [bQ,dI])
 replace T0:=T0.f hb26;cases hb27: (op== (14:Int))
 case true=>exact Ends.eqv (T0|>.t hb27 tv) (by clear T0;simp_all [bQ,dI])
 cases hb28: (op== (15:Int))
 case true=>exact Ends.eqv (T0|>.f hb27|>.t hb28 tv) (by clear T0;simp_all [bQ,dI])
 exact Ends.eqv (T0|>.f hb27|>.f hb28 tv) (by clear T0;simp_all [bQ,dI])
theorem aOt (op:Int) :keyless (bQ op) =true:=by
 unfold bQ;split
 ·rfl
 · split
   ·rfl
   ·split<;>rfl
theorem aJ6 (op:Int) :Pure PP 255 [.int .i64 op] (bQ op) :=
 aP (by kernel_rfl) rfl (aOt op) (aRB op)
theorem aGB (p:Prog)(x:Node)(hc:p.cons.length≤1000)(hx:x.pats.length≤10) :
  ∀ (t:List Pat) (i:Nat),x.pats.drop i=t→Ends PP 0 (uQ p x (i:Int)).as (.ret (.bool (t.all (jY p.cons)))) (aG [] 0)
 | [],i,h=>by
  have:=aZ h;exact Ends.eqv (aWI p x i|>.f sd tv) (by simp)
 | .mk f n s ps::t,i,h=>by
  obtain⟨g1,g2,g3⟩ :=aY h;have hs:=aGz (.mk f n s ps) 12 (by omega) (by omega);by_cases k:bA (.mk f n s ps) ≤12
  · have hg:rH (.mk f n s ps) 12≤12:= (aIr (.mk f n s ps) 12 (by omega)).2 (by omega);have hq:=aIv p hc (.mk f n s ps) (by omega);cases kq:fC p.cons (.mk f n s ps)
    case false=>
     rw [kq]at hq;exact Ends.eqv (aWI p x i|>.t sd f n s ps sd sd _ hs|>.t (decide_eq_true hg) false hq|>.t rfl tv) (by simp [jY,kq])
    rw [kq]at hq;refine(aWI p x i|>.t sd f n s ps sd sd _ hs|>.t (decide_eq_true hg) true hq|>.f rfl sd tv).ends ?_;exact Ends.eqv (aGB p x hc hx t (i+1) g2) (by simp [jY,k,kq])
  · have hg:¬rH (.mk f n s ps) 12≤12:=fun g=>k (by have:= (aIr (.mk f n s ps) 12 (by omega)).1 g;omega);exact Ends.eqv (aWI p x i|>.t sd f n s ps sd sd _ hs|>.f (decide_eq_false hg) tv) (by simp [jY,k])
theorem aOu (p:Prog)(x:Node)(hc:p.cons.length≤1000)(hf:p.funs.length≤1000)(hx:x.pats.length≤10)(hk:x.kids.length≤10) :Pure PP 229 [Prog.av p,Node.av x] (.bool (cY p x)) :=by
 refine aP (by kernel_rfl) rfl rfl ?_;have hw:IntKind.i64.wrap ((p.cons.length:Int) -1) = (p.cons.length:Int) -1:=by apply wrap64<;>omega
 have hko:=aJ6 x.op;have hn:=aJ3 p x hf;have hl:=aGB p x hc hx x.pats 0 rfl;cases kf:dI x.op
 case some k=>
  obtain⟨e1,e2,e3⟩ :=aMp kf (x.pats.length:Int) (mT p x);have ev:bQ x.op= .iface 322 (.int .i64 k) :=by unfold bQ;rw [kf]
  rw [ev]at hko;have en:cY p x= (pU p x&&decide (x.pats.length=0) &&x.pats.all (jY p.cons) &&decide ((x.kids.length:Int) =k)) :=by
   simp only [cY,pC,pU,e1,if_neg e2,if_neg e3]
  rw [en];by_cases g0:x.pats.length=0
  · by_cases g1: (x.kids.length:Int) =k
    · have b1: (((length x.kids:Nat) :Int) ==k) =true:=by simp [g1]
      cases g2:pU p x
      case false=>
       rw [g2]at hn;exact Ends.eqv (aEf p x|>.2|>.2|>.1 k hko|>.f sd|>.t b1 false hn|>.f rfl tv) (by simp)
      rw [g2]at hn;refine(aEf p x|>.2|>.2|>.1 k hko|>.f sd|>.t b1 true hn|>.t rfl tv).ends ?_;exact Ends.eqv hl (by simp [g0,g1])
    · have b1: (((length x.kids:Nat) :Int) ==k) =false:=by simp [g1]
      exact Ends.eqv (aEf p x|>.2|>.2|>.1 k hko|>.f sd|>.f b1 tv) (by simp [g1])
  ·exact Ends.eqv (aEf p x|>.2|>.2|>.1 k hko|>.t sd tv) (by simp [g0])
 have e1:=aOs kf (x.pats.length:Int) (mT p x);by_cases h15:x.op=15
 · have ev:bQ x.op= .iface 305 (.agg []) :=by unfold bQ;rw [kf];simp only [h15,if_true]
   rw [ev]at hko;have en:cY p x= (pU p x&&bG (x.pats.length:Int) 1 5&&x.pats.all (jY p.cons) &&decide ((x.kids.length:Int) =1+ (x.pats.length:Int))) :=by
    simp only [cY,pC,pU,e1,if_pos h15,if_neg (show ¬x.op=14 by omega)]
   rw [en];have hi:=iF (x.pats.length:Int) 1 5;cases g0:bG (x.pats.length:Int) 1 5
   case false=>
    rw [g0]at hi;exact Ends.eqv (aEf p x|>.1 hko false hi|>.f rfl tv) (by simp)
   rw [g0]at hi;by_cases g1: (x.kids.length:Int) =1+ (x.pats.length:Int)
   · have b1: (((length x.kids:Nat) :Int) == ((1:Int) + ((length x.pats:Nat) :Int))) =true:=by simp [g1]
     cases g2:pU p x
     case false=>
      rw [g2]at hn;exact Ends.eqv (aEf p x|>.1 hko true hi|>.t rfl sd|>.t b1 false hn|>.f rfl tv) (by simp)
     rw [g2]at hn;refine(aEf p x|>.1 hko true hi|>.t rfl sd|>.t b1 true hn|>.t rfl tv).ends ?_;exact Ends.eqv hl (by simp [g1])
   · have b1: (((length x.kids:Nat) :Int) == ((1:Int) + ((length x.pats:Nat) :Int))) =false:=by simp [g1]
     exact Ends.eqv (aEf p x|>.1 hko true hi|>.t rfl sd|>.f b1 tv) (by simp [g1])
 · by_cases h14:x.op=14
   · have ev:bQ x.op= .iface 323 (.agg []) :=by unfold bQ;rw [kf];simp [h14]
     rw [ev]at hko;have en:cY p x= (bG x.n 0 ((p.cons.length:Int) -1) &&decide (x.pats.length=0) &&x.pats.all (jY p.cons) &&decide ((x.kids.length:Int) =mT p x)) :=by
      simp only [cY,pC,fH,e1,if_neg h15,if_pos h14,if_neg (show ¬x.op=1 by omega),if_neg (show ¬x.op=2 by omega),if_neg (show ¬x.op=4 by omega),if_neg (show ¬x.op=24 by omega)]
     rw [en];by_cases g0:x.pats.length=0
     · have hi:=iF x.n 0 ((p.cons.length:Int) -1);rw [←hw]at hi;cases g1:bG x.n 0 ((p.cons.length:Int) -1)
       case false=>
        rw [hw,g1,←hw]at hi;exact Ends.eqv (aEf p x|>.2|>.1 hko|>.f sd|>.2 false hi rfl tv) (by simp)
       rw [hw,g1,←hw]at hi;have hb:=inB_iff.1 g1;obtain⟨c,hcx⟩ :∃c,p.cons[x.n.toNat]?=some c:= ⟨_,List.getElem?_eq_getElem (by omega)⟩;have ea:mT p x=c.args:=by simp [mT,h14,g1,gI,hcx]
       rw [ea];by_cases g2: (x.kids.length:Int) =c.args
       · have b1: (((length x.kids:Nat) :Int) ==c.args) =true:=by simp [g2]
         have hnn:pU p x=true:=by simp [pU,h14]
         rw [hnn]at hn;refine(aEf p x|>.2|>.1 hko|>.f sd|>.1 true c hi rfl (by omega) hcx|>.t b1 true hn|>.t rfl tv).ends ?_;exact Ends.eqv hl (by simp [g0,g2])
       · have b1: (((length x.kids:Nat) :Int) ==c.args) =false:=by simp [g2]
         exact Ends.eqv (aEf p x|>.2|>.1 hko|>.f sd|>.1 true c hi rfl (by omega) hcx|>.f b1 tv) (by simp [g2])
     ·exact Ends.eqv (aEf p x|>.2|>.1 hko|>.t sd tv) (by simp [g0])
   · have ev:bQ x.op= .nili:=by unfold bQ;rw [kf];simp [h15,h14]
     rw [ev]at hko;have en:cY p x=false:=by
      have:eG x.op x.pats.length (mT p x) = -1:=by rw [e1,if_neg h15,if_neg h14]
      have h2:¬ (x.kids.length:Int) = -1:=by omega
      simp [cY,this,h2]
     rw [en];exact aEf p x|>.2|>.2|>.2 hko tv
theorem aV {α:Type}(l:List α) : (((length l:Nat) :Int) == (0:Int)) =decide (l.length=0) :=by cases l<;>simp;omega
def bW (f n:Int)(t:aA)(ps:List Pat) :Bool:=
 if f=1∨f=5 then decide (ps.length=0) &&decide (n=0) &&decide (t= [])
 else if f=2 then decide (ps.length=0) &&decide (n=0) &&eH t
 else if f=3 then decide (ps.length=0) &&decide (t= []) &&bG n (-1000000000) 1000000000
 else if f=4 then decide (ps.length=0) &&decide (t= []) &&bG n 0 1
 else if f=6 then decide ((ps.length:Int) ≤3) &&decide (n=0) &&cP t
 else false
mutual
def xI :Pat→Bool
 | .mk f n t ps=>bW f n t ps&&mU ps
def mU :List Pat→Bool
 | [] =>true
 |p::ps=>xI p&&mU ps
end
mutual
def jL :Pat→List aA
 | .mk f _ t ps=>if f=2 then [t]else iR ps
def iR :List Pat→List aA
 | [] =>[]
 |p::ps=>jL p++iR ps
end
mutual
theorem aCg :∀p,(jL p).length≤bA p
 | .mk f _ t ps=>by
  have:=aAm ps;rw [jL,bA];split
  ·simp
  ·omega
theorem aAm :∀ps,(iR ps).length≤aQ ps
 | [] =>by simp [iR]
 | p::ps=>by
  have:=aCg p;have:=aAm ps;simp only [iR,aQ,List.length_append];omega
end
theorem aMq (f n:Int)(s:aA)(ps:List Pat)(hl:ps.length<1000000)(ih:∀p∈ps,Pure PP 179 [Pat.av p] (.ilst 1 (map aD (jL p)) false)) :
  ∀ (t:List Pat) (i:Nat) (acc:List aA),ps.drop i=t→ (acc++iR t).length≤1000000→Ends PP 0 (aJ5 f n s ps (i:Int) acc).as (.ret (.ilst 1 (map aD (acc++iR t)) false)) (aG [] 0)
 | [],i,acc,h,hb=>by
  have:=aZ h;rw [iR,List.append_nil];exact aX5 f n s ps i acc|>.f sd tv
 | .mk f' n' s' ps'::t,i,acc,h,hb=>by
  obtain⟨g1,g2,g3⟩ :=aY h;rw [iR,←List.append_assoc]at hb ⊢;refine(aX5 f n s ps i acc|>.t sd f' n' s' ps' sd sd (jL (.mk f' n' s' ps')) (ih _ (mem_of_getElem? g1)) (by simp at hb ⊢;omega) sd ⟨kk,trivial⟩).ends ?_;exact aMq f n s ps hl ih t (i+1) _ g2 hb
mutual
theorem aGC :∀ (p:Pat),bA p≤1000→Pure PP 179 [Pat.av p] (.ilst 1 (map aD (jL p)) false)
 | .mk f n s ps,h=>by
  refine bU (s:=aX3 f n s ps) (by kernel_rfl) (by kernel_rfl) (by simp [keylessL,lO]) (by simp [keyless]) ?_;simp only [bA]at h;have:=dN ps;have:=aAm ps;rw [jL];by_cases hf:f=2
  · rw [if_pos hf];exact aX4 f n s ps|>.t (by simp [hf]) tv
  · rw [if_neg hf];exact(aX4 f n s ps|>.f (by simp [hf]) ⟨kk,trivial⟩).ends (aMq f n s ps (by omega) (aPL ps (by omega)) ps 0 [] rfl (by simp;omega))
theorem aPL :∀ (ps:List Pat),aQ ps≤1000→∀p∈ps,Pure PP 179 [Pat.av p] (.ilst 1 (map aD (jL p)) false)
 | [],_,p,hp=>by cases hp
 | q::ps,h,p,hp=>by
  simp only [aQ]at h;rcases List.mem_cons.1 hp with e|hp
  ·rw [e];exact aGC q (by omega)
  ·exact aPL ps (by omega) p hp
end
theorem bAC (t8 w8:Int)(t7:aA)(t5:List Pat)(b:Bool)(hk:∀i:Bool,i=bW t8 w8 t7 t5→Ends PP 0 (gJ t8 w8 t7 t5 i 0).as (.ret (.bool b)) (aG [] 0)) :
  Ends PP 0 (start PP 210 [Pat.av (.mk t8 w8 t7 t5)]).as (.ret (.bool b)) (aG [] 0) :=by
 have T0:=bAB t8 w8 t7 t5;cases hb1: (t8== (1:Int))
 case true=>
  replace T0:=T0.t hb1;cases hb2: (((length t5:Nat) :Int) == (0:Int))
  case true=>
   cases hb3: (w8== (0:Int))
   case true=>exact LeadsM.ends (T0|>.t hb2|>.t hb3 tv) (hk _ (by clear hk;simp_all [bW,aB,aV] <;>intros<;>omega))
   exact LeadsM.ends (T0|>.t hb2|>.f hb3 tv) (hk _ (by clear hk;simp_all [bW,aB,aV] <;>intros<;>omega))
  exact LeadsM.ends (T0|>.f hb2 tv) (hk _ (by clear hk;simp_all [bW,aB,aV] <;>intros<;>omega))
 replace T0:=T0.f hb1;cases hb4: (t8== (5:Int))
 case true=>
  replace T0:=T0.t hb4;cases hb5: (((length t5:Nat) :Int) == (0:Int))
  case true=>
   cases hb6: (w8== (0:Int))
   case true=>exact LeadsM.ends (T0|>.t hb5|>.t hb6 tv) (hk _ (by clear hk;simp_all [bW,aB,aV] <;>intros<;>omega))
   exact LeadsM.ends (T0|>.t hb5|>.f hb6 tv) (hk _ (by clear hk;simp_all [bW,aB,aV] <;>intros<;>omega))
  exact LeadsM.ends (T0|>.f hb5 tv) (hk _ (by clear hk;simp_all [bW,aB,aV] <;>intros<;>omega))
 replace T0:=T0.f hb4;cases hb7: (t8== (2:Int))
 case true=>
  replace T0:=T0.t hb7;cases hb8: (((length t5:Nat) :Int) == (0:Int))
  case true=>
   cases hb9: (w8== (0:Int))
   case true=>exact LeadsM.ends (T0|>.t hb8|>.t hb9 (eH t7) (kY t7) tv) (hk _ (by clear hk;simp_all [bW,aB,aV] <;>intros<;>omega))
   exact LeadsM.ends (T0|>.t hb8|>.f hb9 tv) (hk _ (by clear hk;simp_all [bW,aB,aV] <;>intros<;>omega))
  exact LeadsM.ends (T0|>.f hb8 tv) (hk _ (by clear hk;simp_all [bW,aB,aV] <;>intros<;>omega))
 replace T0:=T0.f hb7;cases hb10: (t8== (3:Int))
 case true=>
  replace T0:=T0.t hb10;cases hb11: (((length t5:Nat) :Int) == (0:Int))
  case true=>
   cases hb12: (bB (length t7) (aC t7) 0 0)
   case true=>exact LeadsM.ends (T0|>.t hb11|>.t hb12 (bG w8 (-1000000000) 1000000000) (iW w8 (-1000000000) 1000000000) tv) (hk _ (by clear hk;simp_all [bW,aB,aV] <;>intros<;>omega))
   exact LeadsM.ends (T0|>.t hb11|>.f hb12 tv) (hk _ (by clear hk;simp_all [bW,aB,aV] <;>intros<;>omega))
  exact LeadsM.ends (T0|>.f hb11 tv) (hk _ (by clear hk;simp_all [bW,aB,aV] <;>intros<;>omega))
 replace T0:=T0.f hb10;cases hb13: (t8== (4:Int))
 case true=>
  replace T0:=T0.t hb13;cases hb14: (((length t5:Nat) :Int) == (0:Int))
  case true=>
   cases hb15: (bB (length t7) (aC t7) 0 0)
   case true=>exact LeadsM.ends (T0|>.t hb14|>.t hb15 (bG w8 0 1) (iW w8 0 1) tv) (hk _ (by clear hk;simp_all [bW,aB,aV] <;>intros<;>omega))
   exact LeadsM.ends (T0|>.t hb14|>.f hb15 tv) (hk _ (by clear hk;simp_all [bW,aB,aV] <;>intros<;>omega))
  exact LeadsM.ends (T0|>.f hb14 tv) (hk _ (by clear hk;simp_all [bW,aB,aV] <;>intros<;>omega))
 replace T0:=T0.f hb13;cases hb16: (t8== (6:Int))
 case true=>
  replace T0:=T0.t hb16;cases hb17: (decide (((length t5:Nat) :Int) ≤ (3:Int)))
  case true=>
   cases hb18: (w8== (0:Int))
   case true=>exact LeadsM.ends (T0|>.t hb17|>.t hb18 (cP t7) (mB t7) tv) (hk _ (by clear hk;simp_all [bW,aB,aV] <;>intros<;>omega))
   exact LeadsM.ends (T0|>.t hb17|>.f hb18 tv) (hk _ (by clear hk;simp_all [bW,aB,aV] <;>intros<;>omega))
  exact LeadsM.ends (T0|>.f hb17 tv) (hk _ (by clear hk;simp_all [bW,aB,aV] <;>intros<;>omega))
 exact LeadsM.ends (T0|>.f hb16 tv) (hk _ (by clear hk;simp_all [bW,aB,aV] <;>intros<;>omega))
theorem aMr (f n:Int)(s:aA)(ps:List Pat)(hl:ps.length<1000000)(ih:∀p∈ps,Pure PP 210 [Pat.av p] (.bool (xI p))) :
  ∀ (t:List Pat) (i:Nat) (b:Bool),ps.drop i=t→Ends PP 0 (gJ f n s ps b (i:Int)).as (.ret (.bool (b&&mU t))) (aG [] 0)
 | [],i,b,h=>by
  have:=aZ h;exact Ends.eqv (aTl f n s ps b i|>.f sd tv) (by simp [mU])
 | .mk f' n' s' ps'::t,i,b,h=>by
  obtain⟨g1,g2,g3⟩ :=aY h;cases b
  case false=>exact Ends.eqv (aTl f n s ps false i|>.t sd|>.f rfl tv) (by simp)
  refine(aTl f n s ps true i|>.t sd|>.t rfl f' n' s' ps' sd sd (xI (.mk f' n' s' ps')) (ih _ (mem_of_getElem? g1)) sd tv).ends ?_;exact Ends.eqv (aMr f n s ps hl ih t (i+1) _ g2) (by simp [mU])
mutual
theorem aMs :∀ (p:Pat),bA p<1000000→Pure PP 210 [Pat.av p] (.bool (xI p))
 | .mk f n s ps,h=>by
  refine aP (by kernel_rfl) (by simp [keylessL,lO]) rfl ?_;simp only [bA]at h;have:=dN ps;refine bAC f n s ps _ (fun i hi=>?_);rw [hi,xI];exact aMr f n s ps (by omega) (aPM ps (by omega)) ps 0 _ rfl
theorem aPM :∀ (ps:List Pat),aQ ps<1000000→∀p∈ps,Pure PP 210 [Pat.av p] (.bool (xI p))
 | [],_,p,hp=>by cases hp
 | q::ps,h,p,hp=>by
  simp only [aQ]at h;rcases List.mem_cons.1 hp with e|hp
  ·rw [e];exact aMs q (by omega)
  ·exact aPM ps (by omega) p hp
end
def aFi (p:Pat) :Bool:=decide (bA p≤12) &&xI p&&cU (jL p)
theorem aTq (p:Pat) :Pure PP 168 [Pat.av p] (.bool (aFi p)) :=by
 obtain⟨f,n,s,ps⟩ :=p;refine aP (by kernel_rfl) (by simp [keylessL,lO]) rfl ?_;have hw:=sY (.mk f n s ps) 12 (by omega) (by omega);have hi:=uO (.mk f n s ps) 12;unfold aFi;by_cases h12:bA (.mk f n s ps) ≤12
 · have hge:decide (mR (.mk f n s ps) 12≥ (0:Int)) =true:=by simp;exact hi.2 (by omega)
   have hp:=aMs (.mk f n s ps) (by omega);cases hf:xI (.mk f n s ps)
   case true=>
    rw [hf]at hp;have hn:=aCg (.mk f n s ps);exact Ends.eqv (aTm f n s ps _ hw|>.t hge true hp|>.t rfl _ (aGC (.mk f n s ps) (by omega)) _ (mQ _ (by omega)) tv) (by simp [h12])
   rw [hf]at hp;exact Ends.eqv (aTm f n s ps _ hw|>.t hge false hp|>.f rfl tv) (by simp)
 ·exact Ends.eqv (aTm f n s ps _ hw|>.f (by simp;omega) tv) (by simp [h12])
abbrev aPN (a:List Term):AV:=.ilst 5 (Terms.av a) false
abbrev eU (a b:Int)(c:aA)(d:List Term)(e:List Pat):AV:=.agg [nI a,nI b,aD c,aPN d,iP e]
def aJ7(a b:Int)(c:aA)(d:List Term)(e:List Pat)(j f g i:Int):TS:=⟨tf 112 37 [(1,nI g),(2,nI f),kp 3 0,(6,nI 0),(7,nI i)] [kc f112 244,kl f112 244,.inBlock 0,kc f112 31],[],[oC 0 [nI a,nI b,aD c,aPN d,iP e]],1⟩
def aJ8(a b:Int)(c:aA)(d:List Term)(e:List Pat)(f:Int):TS:=⟨tf 118 36 [kp 1 0,(2,bV false),(3,nI f)] [kc f118 116,kl f118 116,.inBlock 0,kc f118 15],[],[oC 0 [nI a,nI b,aD c,aPN d,iP e]],1⟩
def aJ9(a b:Int)(c:aA)(d:List Term)(e:List Pat)(f:Int):TS:=⟨tf 118 36 [kp 1 0,(2,bV false),(4,nI f)] [kc f118 244,kl f118 244,.inBlock 2,kc f118 31],[],[oC 0 [nI a,nI b,aD c,aPN d,iP e]],1⟩
def aTr(c d:Int)(e:aA)(f:List Term)(g:List Pat)(a b:Int):=tT 0 (start PP 112 [eU c d e f g,nI a,nI b])<|gd 11 10 (a<1) (gE 10 1 (nI (-1)))<|gd 4 13 (b<1) (gE 6 1 (nI (-1)))<|gw 6 15 (a-1)<|.W 9 1 [0] (aJ7 c d e f g a b (a-1) 0)
def aTs(e f:Int)(g:aA)(a:List Term)(i:List Pat)(j d b c:Int):=tT 0 (aJ7 e f g a i j d b c)<|gm 6 dA a<|gd 2 21 (c< (a.length:Int)) (gd 4 24 (b≥0) (aER 8 a c<|fun k l m n o=>gw 4 34 (d-1)<|gpI 0 112 [eU k l m n o,nI b,nI (d-1)]<|fun p=>gw 6 26 (c+1)<|.W 3 1 [0] (aJ7 e f g a i j d p (c+1)))<|gE 8 1 (nI b))<|gE 12 1 (nI b)
def aAn(g e:Int)(b:aA)(i:List Term)(a:List Pat)(f d c:Bool):=tT 0 (start PP 209 [eU g e b i a,bV f,bV d,bV c])<|.b 9 10 f (.b 7 17 d (.b 8 25 c (gE 9 1 (bV true))<|gm 2 aF a<|gE 6 1 (bV ((a.length:Int) ==0)))<|.b 6 23 (bB b.length (aC b) 0 0) (.b 2 25 c (gE 9 1 (bV true))<|gm 2 aF a<|gE 6 1 (bV ((a.length:Int) ==0)))<|gE 11 1 (bV false))<|.b 5 15 (e==0) (.b 2 17 d (.b 8 25 c (gE 9 1 (bV true))<|gm 2 aF a<|gE 6 1 (bV ((a.length:Int) ==0)))<|.b 6 23 (bB b.length (aC b) 0 0) (.b 2 25 c (gE 9 1 (bV true))<|gm 2 aF a<|gE 6 1 (bV ((a.length:Int) ==0)))<|gE 11 1 (bV false))<|gE 19 1 (bV false)
def bAD(b f:Int)(d:aA)(a:List Term)(e:List Pat):=tT 0 (start PP 167 [eU b f d a e])<|gm 9 dA a<|.b 14 9 (b==1) (.b 6 13 ((a.length:Int) ==0) (cD 1 209 [eU b f d a e,bV true,bV false,bV false]<|fun c=>.b 2 17 c (cD 2 40 [nI f,nI (-1000000000),nI 1000000000]<|fun g=>gE 4 1 (bV g))<|gE 7 1 (bV false))<|gE 11 1 (bV false))<|.b 6 22 (b==2) (.b 6 26 ((a.length:Int) ==0) (cD 1 209 [eU b f d a e,bV true,bV false,bV false]<|fun c=>.b 2 30 c (cD 2 40 [nI f,nI 0,nI 1]<|fun g=>gE 4 1 (bV g))<|gE 7 1 (bV false))<|gE 11 1 (bV false))<|.b 7 35 (b==3) (.b 8 42 ((a.length:Int) ==0) (cD 1 209 [eU b f d a e,bV false,bV false,bV false]<|fun c=>gE 4 1 (bV c))<|gE 6 1 (bV false))<|.b 6 35 (b==21) (.b 8 42 ((a.length:Int) ==0) (cD 1 209 [eU b f d a e,bV false,bV false,bV false]<|fun c=>gE 4 1 (bV c))<|gE 6 1 (bV false))<|.b 6 35 (b==25) (.b 8 42 ((a.length:Int) ==0) (cD 1 209 [eU b f d a e,bV false,bV false,bV false]<|fun c=>gE 4 1 (bV c))<|gE 6 1 (bV false))<|.b 5 35 (b==28) (.b 6 42 ((a.length:Int) ==0) (cD 1 209 [eU b f d a e,bV false,bV false,bV false]<|fun c=>gE 4 1 (bV c))<|gE 6 1 (bV false))<|.b 6 46 (b==4) (.b 6 50 ((a.length:Int) ==0) (cD 1 209 [eU b f d a e,bV false,bV true,bV false]<|fun c=>.b 2 54 c (cD 2 39 [aD d]<|fun g=>gE 4 1 (bV g))<|gE 7 1 (bV false))<|gE 11 1 (bV false))<|.b 7 59 (b==5) (.b 8 64 ((a.length:Int) ==1) (cD 1 209 [eU b f d a e,bV false,bV true,bV false]<|fun c=>.b 2 68 c (cD 2 39 [aD d]<|fun g=>gE 4 1 (bV g))<|gE 7 1 (bV false))<|gE 11 1 (bV false))<|.b 5 59 (b==27) (.b 6 64 ((a.length:Int) ==1) (cD 1 209 [eU b f d a e,bV false,bV true,bV false]<|fun c=>.b 2 68 c (cD 2 39 [aD d]<|fun g=>gE 4 1 (bV g))<|gE 7 1 (bV false))<|gE 11 1 (bV false))<|.b 6 73 (b==7) (.b 6 77 ((a.length:Int) ==2) (cD 1 209 [eU b f d a e,bV false,bV true,bV false]<|fun c=>.b 2 81 c (cD 2 39 [aD d]<|fun g=>gE 4 1 (bV g))<|gE 7 1 (bV false))<|gE 11 1 (bV false))<|.b 6 86 (b==8) (.b 6 90 ((a.length:Int) ==3) (cD 1 209 [eU b f d a e,bV false,bV false,bV false]<|fun c=>gE 4 1 (bV c))<|gE 6 1 (bV false))<|.b 6 94 (b==14) (gd 6 98 ((a.length:Int) ≤3) (cD 1 209 [eU b f d a e,bV false,bV true,bV false]<|fun c=>.b 2 102 c (cD 2 116 [aD d]<|fun g=>gE 4 1 (bV g))<|gE 7 1 (bV false))<|gE 11 1 (bV false))<|.b 6 107 (b==15) (gm 5 aF e<|cD 0 40 [nI (e.length:Int),nI 1,nI 5]<|fun c=>.b 1 113 c (gm 3 aF e<|gw 1 118 (1+ (e.length:Int))<|.b 3 121 ((a.length:Int) == (1+ (e.length:Int))) (cD 1 209 [eU b f d a e,bV false,bV false,bV true]<|fun g=>gE 4 1 (bV g))<|gE 6 1 (bV false))<|gE 14 1 (bV false))<|.b 7 125 (b==16) (.b 8 134 ((a.length:Int) ==1) (cD 1 209 [eU b f d a e,bV false,bV false,bV false]<|fun c=>gE 4 1 (bV c))<|gE 6 1 (bV false))<|.b 6 125 (b==17) (.b 8 134 ((a.length:Int) ==1) (cD 1 209 [eU b f d a e,bV false,bV false,bV false]<|fun c=>gE 4 1 (bV c))<|gE 6 1 (bV false))<|.b 6 125 (b==19) (.b 8 134 ((a.length:Int) ==1) (cD 1 209 [eU b f d a e,bV false,bV false,bV false]<|fun c=>gE 4 1 (bV c))<|gE 6 1 (bV false))<|.b 6 125 (b==20) (.b 8 134 ((a.length:Int) ==1) (cD 1 209 [eU b f d a e,bV false,bV false,bV false]<|fun c=>gE 4 1 (bV c))<|gE 6 1 (bV false))<|.b 6 125 (b==23) (.b 8 134 ((a.length:Int) ==1) (cD 1 209 [eU b f d a e,bV false,bV false,bV false]<|fun c=>gE 4 1 (bV c))<|gE 6 1 (bV false))<|.b 5 125 (b==26) (.b 6 134 ((a.length:Int) ==1) (cD 1 209 [eU b f d a e,bV false,bV false,bV false]<|fun c=>gE 4 1 (bV c))<|gE 6 1 (bV false))<|.b 6 138 (b==24) (.b 6 142 ((a.length:Int) ==1) (cD 1 209 [eU b f d a e,bV true,bV false,bV false]<|fun c=>.b 2 146 c (cD 2 40 [nI f,nI 0,nI 3]<|fun g=>gE 4 1 (bV g))<|gE 7 1 (bV false))<|gE 11 1 (bV false))<|.b 7 151 (b==6) (.b 8 162 ((a.length:Int) ==2) (cD 1 209 [eU b f d a e,bV false,bV false,bV false]<|fun c=>gE 4 1 (bV c))<|gE 6 1 (bV false))<|.b 6 151 (b==9) (.b 8 162 ((a.length:Int) ==2) (cD 1 209 [eU b f d a e,bV false,bV false,bV false]<|fun c=>gE 4 1 (bV c))<|gE 6 1 (bV false))<|.b 6 151 (b==10) (.b 8 162 ((a.length:Int) ==2) (cD 1 209 [eU b f d a e,bV false,bV false,bV false]<|fun c=>gE 4 1 (bV c))<|gE 6 1 (bV false))<|.b 6 151 (b==11) (.b 8 162 ((a.length:Int) ==2) (cD 1 209 [eU b f d a e,bV false,bV false,bV false]<|fun c=>gE 4 1 (bV c))<|gE 6 1 (bV false))<|.b 6 151 (b==12) (.b 8 162 ((a.length:Int) ==2) (cD 1 209 [eU b f d a e,bV false,bV false,bV false]<|fun c=>gE 4 1 (bV c))<|gE 6 1 (bV false))<|.b 6 151 (b==13) (.b 8 162 ((a.length:Int) ==2) (cD 1 209 [eU b f d a e,bV false,bV false,bV false]<|fun c=>gE 4 1 (bV c))<|gE 6 1 (bV false))<|.b 6 151 (b==18) (.b 8 162 ((a.length:Int) ==2) (cD 1 209 [eU b f d a e,bV false,bV false,bV false]<|fun c=>gE 4 1 (bV c))<|gE 6 1 (bV false))<|.b 5 151 (b==22) (.b 6 162 ((a.length:Int) ==2) (cD 1 209 [eU b f d a e,bV false,bV false,bV false]<|fun c=>gE 4 1 (bV c))<|gE 6 1 (bV false))<|gE 8 1 (bV false)
def aYa(a b:Int)(c:aA)(d:List Term)(e:List Pat):=tT 0 (start PP 118 [eU a b c d e])<|cD 9 167 [eU a b c d e]<|fun f=>.b 2 7 (!f) (gE 6 1 (bV false))<|.W 9 1 [0] (aJ8 a b c d e 0)
def aTt(c d:Int)(e:aA)(f:List Term)(a:List Pat)(b:Int):=tT 0 (aJ8 c d e f a b)<|gm 6 aF a<|gd 2 12 (b< (a.length:Int)) (wY 9 a b<|fun g i j k=>cD 1 168 [.agg [nI g,nI i,aD j,iP k]]<|fun l=>.b 2 21 (!l) (gE 6 1 (bV false))<|gw 6 14 (b+1)<|.W 3 1 [0] (aJ8 c d e f a (b+1)))<|.W 9 1 [0] (aJ9 c d e f a 0)
def aTu(c d:Int)(e:aA)(a:List Term)(f:List Pat)(b:Int):=tT 0 (aJ9 c d e a f b)<|gm 6 dA a<|gd 2 26 (b< (a.length:Int)) (aER 9 a b<|fun g i j k l=>cD 1 118 [eU g i j k l]<|fun m=>.b 2 35 (!m) (gE 6 1 (bV false))<|gw 6 28 (b+1)<|.W 3 1 [0] (aJ9 c d e a f (b+1)))<|gE 7 1 (bV true)
def aYb(a b:Int)(c:aA)(d:List Term)(e:List Pat):=tT 0 (start PP 43 [eU a b c d e])<|gpI 8 112 [eU a b c d e,nI 60,nI 14]<|fun f=>gd 2 6 (f≥0) (cD 1 118 [eU a b c d e]<|fun g=>gE 4 1 (bV g))<|gE 6 1 (bV false)
def aM (n:Int)(s:aA)(m:Int)(a b c:Bool) :Bool:= (a||decide (n=0)) && (b||decide (s= [])) && (c||decide (m=0))
def aL (op n:Int)(s:aA)(k m:Int) :Bool:=
 if op=1 then decide (k=0) &&aM n s m true false false&&bG n (-1000000000) 1000000000
 else if op=2 then decide (k=0) &&aM n s m true false false&&bG n 0 1
 else if op=3∨op=21∨op=25∨op=28 then decide (k=0) &&aM n s m false false false
 else if op=4 then decide (k=0) &&aM n s m false true false&&eH s
 else if op=5∨op=27 then decide (k=1) &&aM n s m false true false&&eH s
 else if op=7 then decide (k=2) &&aM n s m false true false&&eH s
 else if op=8 then decide (k=3) &&aM n s m false false false
 else if op=14 then decide (k≤3) &&aM n s m false true false&&cP s
 else if op=15 then bG m 1 5&&decide (k=1+m) &&aM n s m false false true
 else if op=16∨op=17∨op=19∨op=20∨op=23∨op=26 then decide (k=1) &&aM n s m false false false
 else if op=24 then decide (k=1) &&aM n s m true false false&&bG n 0 3
 else if op=6∨op=9∨op=10∨op=11∨op=12∨op=13∨op=18∨op=22 then decide (k=2) &&aM n s m false false false
 else false
theorem aE {α:Type}(l:List α)(c:Int) : (((length l:Nat) :Int) ==c) =decide (((length l:Nat) :Int) =c) :=by
 by_cases h: ((length l:Nat) :Int) =c<;>simp [h]
theorem bAE (t6 q9:Int)(t0:aA)(t4:List Term)(t3:List Pat)(n x y:Bool) :
  Ends PP 0 (start PP 209 [Term.av (.mk t6 q9 t0 t4 t3),.bool n,.bool x,.bool y]).as (.ret (.bool (aM q9 t0 (length t3) n x y))) (aG [] 0) :=by
 cases n
 case true=>
  cases x
  case true=>
   cases y
   case true=>exact Ends.eqv (aAn t6 q9 t0 t4 t3 true true true|>.t rfl|>.t rfl|>.t rfl tv) (by simp_all [aM,aB,aE])
   exact Ends.eqv (aAn t6 q9 t0 t4 t3 true true false|>.t rfl|>.t rfl|>.f rfl tv) (by simp_all [aM,aB,aE])
  cases hb1: (bB (length t0) (aC t0) 0 0)
  case true=>
   cases y
   case true=>exact Ends.eqv (aAn t6 q9 t0 t4 t3 true false true|>.t rfl|>.f rfl|>.t hb1|>.t rfl tv) (by simp_all [aM,aB,aE])
   exact Ends.eqv (aAn t6 q9 t0 t4 t3 true false false|>.t rfl|>.f rfl|>.t hb1|>.f rfl tv) (by simp_all [aM,aB,aE])
  exact Ends.eqv (aAn t6 q9 t0 t4 t3 true false y|>.t rfl|>.f rfl|>.f hb1 tv) (by simp_all [aM,aB,aE])
 cases hb2: (q9== (0:Int))
 case true=>
  cases x
  case true=>
   cases y
   case true=>exact Ends.eqv (aAn t6 q9 t0 t4 t3 false true true|>.f rfl|>.t hb2|>.t rfl|>.t rfl tv) (by simp_all [aM,aB,aE])
   exact Ends.eqv (aAn t6 q9 t0 t4 t3 false true false|>.f rfl|>.t hb2|>.t rfl|>.f rfl tv) (by simp_all [aM,aB,aE])
  cases hb3: (bB (length t0) (aC t0) 0 0)
  case true=>
   cases y
   case true=>exact Ends.eqv (aAn t6 q9 t0 t4 t3 false false true|>.f rfl|>.t hb2|>.f rfl|>.t hb3|>.t rfl tv) (by simp_all [aM,aB,aE])
   exact Ends.eqv (aAn t6 q9 t0 t4 t3 false false false|>.f rfl|>.t hb2|>.f rfl|>.t hb3|>.f rfl tv) (by simp_all [aM,aB,aE])
  exact Ends.eqv (aAn t6 q9 t0 t4 t3 false false y|>.f rfl|>.t hb2|>.f rfl|>.f hb3 tv) (by simp_all [aM,aB,aE])
 exact Ends.eqv (aAn t6 q9 t0 t4 t3 false x y|>.f rfl|>.f hb2 tv) (by simp_all [aM,aB,aE])
theorem bL (o n:Int)(s:aA)(ks:List Term)(ps:List Pat)(a b c:Bool) :Pure PP 209 [Term.av (.mk o n s ks ps),.bool a,.bool b,.bool c] (.bool (aM n s (length ps) a b c)) :=
 aP (by kernel_rfl) (by simp [keylessL,jX,keyless]) rfl (bAE o n s ks ps a b c)
theorem bAF (t6 q9:Int)(t0:aA)(t4:List Term)(t3:List Pat)(hks:t4.length<1000000)(hps:t3.length<1000000) :
  Ends PP 0 (start PP 167 [Term.av (.mk t6 q9 t0 t4 t3)]).as (.ret (.bool (aL t6 q9 t0 (length t4) (length t3)))) (aG [] 0) :=by
 have T0:=bAD t6 q9 t0 t4 t3;cases hb1: (t6== (1:Int))
 case true=>
  replace T0:=T0.t hb1;cases hb2: (((length t4:Nat) :Int) == (0:Int))
  case true=>
   cases hb3: (aM q9 t0 (length t3) true false false)
   case true=>exact Ends.eqv (T0|>.t hb2 (aM q9 t0 (length t3) true false false) (bL t6 q9 t0 t4 t3 true false false)|>.t hb3 (bG q9 (-1000000000) 1000000000) (iW q9 (-1000000000) 1000000000) tv) (by clear T0;simp_all [aL,aE] <;>intros<;>omega)
   exact Ends.eqv (T0|>.t hb2 (aM q9 t0 (length t3) true false false) (bL t6 q9 t0 t4 t3 true false false)|>.f hb3 tv) (by clear T0;simp_all [aL,aE] <;>intros<;>omega)
  exact Ends.eqv (T0|>.f hb2 tv) (by clear T0;simp_all [aL,aE] <;>intros<;>omega)
 replace T0:=T0.f hb1;cases hb4: (t6== (2:Int))
 case true=>
  replace T0:=T0.t hb4;cases hb5: (((length t4:Nat) :Int) == (0:Int))
  case true=>
   cases hb6: (aM q9 t0 (length t3) true false false)
   case true=>exact Ends.eqv (T0|>.t hb5 (aM q9 t0 (length t3) true false false) (bL t6 q9 t0 t4 t3 true false false)|>.t hb6 (bG q9 0 1) (iW q9 0 1) tv) (by clear T0;simp_all [aL,aE] <;>intros<;>omega)
   exact Ends.eqv (T0|>.t hb5 (aM q9 t0 (length t3) true false false) (bL t6 q9 t0 t4 t3 true false false)|>.f hb6 tv) (by clear T0;simp_all [aL,aE] <;>intros<;>omega)
  exact Ends.eqv (T0|>.f hb5 tv) (by clear T0;simp_all [aL,aE] <;>intros<;>omega)
 replace T0:=T0.f hb4;cases hb7: (t6== (3:Int))
 case true=>
  cases hb8: (((length t4:Nat) :Int) == (0:Int))
  case true=>exact Ends.eqv (T0|>.t hb7|>.t hb8 (aM q9 t0 (length t3) false false false) (bL t6 q9 t0 t4 t3 false false false) tv) (by clear T0;simp_all [aL,aE] <;>intros<;>omega)
  exact Ends.eqv (T0|>.t hb7|>.f hb8 tv) (by clear T0;simp_all [aL,aE] <;>intros<;>omega)
 replace T0:=T0.f hb7;cases hb9: (t6== (21:Int))
 case true=>
  cases hb10: (((length t4:Nat) :Int) == (0:Int))
  case true=>exact Ends.eqv (T0|>.t hb9|>.t hb10 (aM q9 t0 (length t3) false false false) (bL t6 q9 t0 t4 t3 false false false) tv) (by clear T0;simp_all [aL,aE] <;>intros<;>omega)
  exact Ends.eqv (T0|>.t hb9|>.f hb10 tv) (by clear T0;simp_all [aL,aE] <;>intros<;>omega)
 replace T0:=T0.f hb9;cases hb11: (t6== (25:Int))
 case true=>
  cases hb12: (((length t4:Nat) :Int) == (0:Int))
  case true=>exact Ends.eqv (T0|>.t hb11|>.t hb12 (aM q9 t0 (length t3) false false false) (bL t6 q9 t0 t4 t3 false false false) tv) (by clear T0;simp_all [aL,aE] <;>intros<;>omega)
  exact Ends.eqv (T0|>.t hb11|>.f hb12 tv) (by clear T0;simp_all [aL,aE] <;>intros<;>omega)
 replace T0:=T0.f hb11;cases hb13: (t6== (28:Int))
 case true=>
  cases hb14: (((length t4:Nat) :Int) == (0:Int))
  case true=>exact Ends.eqv (T0|>.t hb13|>.t hb14 (aM q9 t0 (length t3) false false false) (bL t6 q9 t0 t4 t3 false false false) tv) (by clear T0;simp_all [aL,aE] <;>intros<;>omega)
  exact Ends.eqv (T0|>.t hb13|>.f hb14 tv) (by clear T0;simp_all [aL,aE] <;>intros<;>omega)
 replace T0:=T0.f hb13;cases hb15: (t6== (4:Int))
 case true=>
  replace T0:=T0.t hb15;cases hb16: (((length t4:Nat) :Int) == (0:Int))
  case true=>
   cases hb17: (aM q9 t0 (length t3) false true false)
   case true=>exact Ends.eqv (T0|>.t hb16 (aM q9 t0 (length t3) false true false) (bL t6 q9 t0 t4 t3 false true false)|>.t hb17 (eH t0) (kY t0) tv) (by clear T0;simp_all [aL,aE] <;>intros<;>omega)
   exact Ends.eqv (T0|>.t hb16 (aM q9 t0 (length t3) false true false) (bL t6 q9 t0 t4 t3 false true false)|>.f hb17 tv) (by clear T0;simp_all [aL,aE] <;>intros<;>omega)
  exact Ends.eqv (T0|>.f hb16 tv) (by clear T0;simp_all [aL,aE] <;>intros<;>omega)
 replace T0:=T0.f hb15;cases hb18: (t6== (5:Int))
 case true=>
  replace T0:=T0.t hb18;cases hb19: (((length t4:Nat) :Int) == (1:Int))
  case true=>
   cases hb20: (aM q9 t0 (length t3) false true false)
   case true=>exact Ends.eqv (T0|>.t hb19 (aM q9 t0 (length t3) false true false) (bL t6 q9 t0 t4 t3 false true false)|>.t hb20 (eH t0) (kY t0) tv) (by clear T0;simp_all [aL,aE] <;>intros<;>omega)
   exact Ends.eqv (T0|>.t hb19 (aM q9 t0 (length t3) false true false) (bL t6 q9 t0 t4 t3 false true false)|>.f hb20 tv) (by clear T0;simp_all [aL,aE] <;>intros<;>omega)
  exact Ends.eqv (T0|>.f hb19 tv) (by clear T0;simp_all [aL,aE] <;>intros<;>omega)
 replace T0:=T0.f hb18;cases hb21: (t6== (27:Int))
 case true=>
  replace T0:=T0.t hb21;cases hb22: (((length t4:Nat) :Int) == (1:Int))
  case true=>
   cases hb23: (aM q9 t0 (length t3) false true false)
   case true=>exact Ends.eqv (T0|>.t hb22 (aM q9 t0 (length t3) false true false) (bL t6 q9 t0 t4 t3 false true false)|>.t hb23 (eH t0) (kY t0) tv) (by clear T0;simp_all [aL,aE] <;>intros<;>omega)
   exact Ends.eqv (T0|>.t hb22 (aM q9 t0 (length t3) false true false) (bL t6 q9 t0 t4 t3 false true false)|>.f hb23 tv) (by clear T0;simp_all [aL,aE] <;>intros<;>omega)
  exact Ends.eqv (T0|>.f hb22 tv) (by clear T0;simp_all [aL,aE] <;>intros<;>omega)
 replace T0:=T0.f hb21;cases hb24: (t6== (7:Int))
 case true=>
  replace T0:=T0.t hb24;cases hb25: (((length t4:Nat) :Int) == (2:Int))
  case true=>
   cases hb26: (aM q9 t0 (length t3) false true false)
   case true=>exact Ends.eqv (T0|>.t hb25 (aM q9 t0 (length t3) false true false) (bL t6 q9 t0 t4 t3 false true false)|>.t hb26 (eH t0) (kY t0) tv) (by clear T0;simp_all [aL,aE] <;>intros<;>omega)
   exact Ends.eqv (T0|>.t hb25 (aM q9 t0 (length t3) false true false) (bL t6 q9 t0 t4 t3 false true false)|>.f hb26 tv) (by clear T0;simp_all [aL,aE] <;>intros<;>omega)
  exact Ends.eqv (T0|>.f hb25 tv) (by clear T0;simp_all [aL,aE] <;>intros<;>omega)
 replace T0:=T0.f hb24;cases hb27: (t6== (8:Int))
 case true=>
  cases hb28: (((length t4:Nat) :Int) == (3:Int))
  case true=>exact Ends.eqv (T0|>.t hb27|>.t hb28 (aM q9 t0 (length t3) false false false) (bL t6 q9 t0 t4 t3 false false false) tv) (by clear T0;simp_all [aL,aE] <;>intros<;>omega)
  exact Ends.eqv (T0|>.t hb27|>.f hb28 tv) (by clear T0;simp_all [aL,aE] <;>intros<;>omega)
 replace T0:=T0.f hb27;cases hb29: (t6== (14:Int))
 case true=>
  replace T0:=T0.t hb29;cases hb30: (decide (((length t4:Nat) :Int) ≤ (3:Int)))
  case true=>
   cases hb31: (aM q9 t0 (length t3) false true false)
   case true=>exact Ends.eqv (T0|>.t hb30 (aM q9 t0 (length t3) false true false) (bL t6 q9 t0 t4 t3 false true false)|>.t hb31 (cP t0) (mB t0) tv) (by clear T0;simp_all [aL,aE] <;>intros<;>omega)
   exact Ends.eqv (T0|>.t hb30 (aM q9 t0 (length t3) false true false) (bL t6 q9 t0 t4 t3 false true false)|>.f hb31 tv) (by clear T0;simp_all [aL,aE] <;>intros<;>omega)
  exact Ends.eqv (T0|>.f hb30 tv) (by clear T0;simp_all [aL,aE] <;>intros<;>omega)
 replace T0:=T0.f hb29;cases hb32: (t6== (15:Int))
 case true=>
  cases hb33: (bG ((length t3:Nat) :Int) 1 5)
  case true=>
   cases hb34: (((length t4:Nat) :Int) == ((1:Int) + ((length t3:Nat) :Int)))
   case true=>exact Ends.eqv (T0|>.t hb32 (bG ((length t3:Nat) :Int) 1 5) (iW ((length t3:Nat) :Int) 1 5)|>.t hb33 sdI|>.t hb34 (aM q9 t0 (length t3) false false true) (bL t6 q9 t0 t4 t3 false false true) tv) (by clear T0;simp_all [aL,aE] <;>intros<;>omega)
   exact Ends.eqv (T0|>.t hb32 (bG ((length t3:Nat) :Int) 1 5) (iW ((length t3:Nat) :Int) 1 5)|>.t hb33 sdI|>.f hb34 tv) (by clear T0;simp_all [aL,aE] <;>intros<;>omega)
  exact Ends.eqv (T0|>.t hb32 (bG ((length t3:Nat) :Int) 1 5) (iW ((length t3:Nat) :Int) 1 5)|>.f hb33 tv) (by clear T0;simp_all [aL,aE] <;>intros<;>omega)
 replace T0:=T0.f hb32;cases hb35: (t6== (16:Int))
 case true=>
  cases hb36: (((length t4:Nat) :Int) == (1:Int))
  case true=>exact Ends.eqv (T0|>.t hb35|>.t hb36 (aM q9 t0 (length t3) false false false) (bL t6 q9 t0 t4 t3 false false false) tv) (by clear T0;simp_all [aL,aE] <;>intros<;>omega)
  exact Ends.eqv (T0|>.t hb35|>.f hb36 tv) (by clear T0;simp_all [aL,aE] <;>intros<;>omega)
 replace T0:=T0.f hb35;cases hb37: (t6== (17:Int))
 case true=>
  cases hb38: (((length t4:Nat) :Int) == (1:Int))
  case true=>exact Ends.eqv (T0|>.t hb37|>.t hb38 (aM q9 t0 (length t3) false false false) (bL t6 q9 t0 t4 t3 false false false) tv) (by clear T0;simp_all [aL,aE] <;>intros<;>omega)
  exact Ends.eqv (T0|>.t hb37|>.f hb38 tv) (by clear T0;simp_all [aL,aE] <;>intros<;>omega)
 replace T0:=T0.f hb37;cases hb39: (t6== (19:Int))
 case true=>
  cases hb40: (((length t4:Nat) :Int) == (1:Int))
  case true=>exact Ends.eqv (T0|>.t hb39|>.t hb40 (aM q9 t0 (length t3) false false false) (bL t6 q9 t0 t4 t3 false false false) tv) (by clear T0;simp_all [aL,aE] <;>intros<;>omega)
  exact Ends.eqv (T0|>.t hb39|>.f hb40 tv) (by clear T0;simp_all [aL,aE] <;>intros<;>omega)
 replace T0:=T0.f hb39;cases hb41: (t6== (20:Int))
 case true=>
  cases hb42: (((length t4:Nat) :Int) == (1:Int))
  case true=>exact Ends.eqv (T0|>.t hb41|>.t hb42 (aM q9 t0 (length t3) false false false) (bL t6 q9 t0 t4 t3 false false false) tv) (by clear T0;simp_all [aL,aE] <;>intros<;>omega)
  exact Ends.eqv (T0|>.t hb41|>.f hb42 tv) (by clear T0;simp_all [aL,aE] <;>intros<;>omega)
 replace T0:=T0.f hb41;cases hb43: (t6== (23:Int))
 case true=>
  cases hb44: (((length t4:Nat) :Int) == (1:Int))
  case true=>exact Ends.eqv (T0|>.t hb43|>.t hb44 (aM q9 t0 (length t3) false false false) (bL t6 q9 t0 t4 t3 false false false) tv) (by clear T0;simp_all [aL,aE] <;>intros<;>omega)
  exact Ends.eqv (T0|>.t hb43|>.f hb44 tv) (by clear T0;simp_all [aL,aE] <;>intros<;>omega)
 replace T0:=T0.f hb43;cases hb45: (t6== (26:Int))
 case true=>
  cases hb46: (((length t4:Nat) :Int) == (1:Int))
  case true=>exact Ends.eqv (T0|>.t hb45|>.t hb46 (aM q9 t0 (length t3) false false false) (bL t6 q9 t0 t4 t3 false false false) tv) (by clear T0;simp_all [aL,aE] <;>intros<;>omega)
  exact Ends.eqv (T0|>.t hb45|>.f hb46 tv) (by clear T0;simp_all [aL,aE] <;>intros<;>omega)
 replace T0:=T0.f hb45;cases hb47: (t6== (24:Int))
 case true=>
  replace T0:=T0.t hb47;cases hb48: (((length t4:Nat) :Int) == (1:Int))
  case true=>
   cases hb49: (aM q9 t0 (length t3) true false false)
   case true=>exact Ends.eqv (T0|>.t hb48 (aM q9 t0 (length t3) true false false) (bL t6 q9 t0 t4 t3 true false false)|>.t hb49 (bG q9 0 3) (iW q9 0 3) tv) (by clear T0;simp_all [aL,aE] <;>intros<;>omega)
   exact Ends.eqv (T0|>.t hb48 (aM q9 t0 (length t3) true false false) (bL t6 q9 t0 t4 t3 true false false)|>.f hb49 tv) (by clear T0;simp_all [aL,aE] <;>intros<;>omega)
  exact Ends.eqv (T0|>.f hb48 tv) (by clear T0;simp_all [aL,aE] <;>intros<;>omega)
 replace T0:=T0.f hb47;cases hb50: (t6== (6:Int))
 case true=>
  cases hb51: (((length t4:Nat) :Int) == (2:Int))
  case true=>exact Ends.eqv (T0|>.t hb50|>.t hb51 (aM q9 t0 (length t3) false false false) (bL t6 q9 t0 t4 t3 false false false) tv) (by clear T0;simp_all [aL,aE] <;>intros<;>omega)
  exact Ends.eqv (T0|>.t hb50|>.f hb51 tv) (by clear T0;simp_all [aL,aE] <;>intros<;>omega)
 replace T0:=T0.f hb50;cases hb52: (t6== (9:Int))
 case true=>
  cases hb53: (((length t4:Nat) :Int) == (2:Int))
  case true=>exact Ends.eqv (T0|>.t hb52|>.t hb53 (aM q9 t0 (length t3) false false false) (bL t6 q9 t0 t4 t3 false false false) tv) (by clear T0;simp_all [aL,aE] <;>intros<;>omega)
  exact Ends.eqv (T0|>.t hb52|>.f hb53 tv) (by clear T0;simp_all [aL,aE] <;>intros<;>omega)
 replace T0:=T0.f hb52;cases hb54: (t6== (10:Int))
 case true=>
  cases hb55: (((length t4:Nat) :Int) == (2:Int))
  case true=>exact Ends.eqv (T0|>.t hb54|>.t hb55 (aM q9 t0 (length t3) false false false) (bL t6 q9 t0 t4 t3 false false false) tv) (by clear T0;simp_all [aL,aE] <;>intros<;>omega)
  exact Ends.eqv (T0|>.t hb54|>.f hb55 tv) (by clear T0;simp_all [aL,aE] <;>intros<;>omega)
 replace T0:=T0.f hb54;cases hb56: (t6== (11:Int))
 case true=>
  cases hb57: (((length t4:Nat) :Int) == (2:Int))
  case true=>exact Ends.eqv (T0|>.t hb56|>.t hb57 (aM q9 t0 (length t3) false false false) (bL t6 q9 t0 t4 t3 false false false) tv) (by clear T0;simp_all [aL,aE] <;>intros<;>omega)
  exact Ends.eqv (T0|>.t hb56|>.f hb57 tv) (by clear T0;simp_all [aL,aE] <;>intros<;>omega)
 replace T0:=T0.f hb56;cases hb58: (t6== (12:Int))
 case true=>
  cases hb59: (((length t4:Nat) :Int) == (2:Int))
  case true=>exact Ends.eqv (T0|>.t hb58|>.t hb59 (aM q9 t0 (length t3) false false false) (bL t6 q9 t0 t4 t3 false false false) tv) (by clear T0;simp_all [aL,aE] <;>intros<;>omega)
  exact Ends.eqv (T0|>.t hb58|>.f hb59 tv) (by clear T0;simp_all [aL,aE] <;>intros<;>omega)
 replace T0:=T0.f hb58;cases hb60: (t6== (13:Int))
 case true=>
  cases hb61: (((length t4:Nat) :Int) == (2:Int))
  case true=>exact Ends.eqv (T0|>.t hb60|>.t hb61 (aM q9 t0 (length t3) false false false) (bL t6 q9 t0 t4 t3 false false false) tv) (by clear T0;simp_all [aL,aE] <;>intros<;>omega)
  exact Ends.eqv (T0|>.t hb60|>.f hb61 tv) (by clear T0;simp_all [aL,aE] <;>intros<;>omega)
 replace T0:=T0.f hb60;cases hb62: (t6== (18:Int))
 case true=>
  cases hb63: (((length t4:Nat) :Int) == (2:Int))
  case true=>exact Ends.eqv (T0|>.t hb62|>.t hb63 (aM q9 t0 (length t3) false false false) (bL t6 q9 t0 t4 t3 false false false) tv) (by clear T0;simp_all [aL,aE] <;>intros<;>omega)
  exact Ends.eqv (T0|>.t hb62|>.f hb63 tv) (by clear T0;simp_all [aL,aE] <;>intros<;>omega)
 replace T0:=T0.f hb62;cases hb64: (t6== (22:Int))
 case true=>
  cases hb65: (((length t4:Nat) :Int) == (2:Int))
  case true=>exact Ends.eqv (T0|>.t hb64|>.t hb65 (aM q9 t0 (length t3) false false false) (bL t6 q9 t0 t4 t3 false false false) tv) (by clear T0;simp_all [aL,aE] <;>intros<;>omega)
  exact Ends.eqv (T0|>.t hb64|>.f hb65 tv) (by clear T0;simp_all [aL,aE] <;>intros<;>omega)
 exact Ends.eqv (T0|>.f hb64 tv) (by clear T0;simp_all [aL,aE] <;>intros<;>omega)
theorem aTv (o n:Int)(s:aA)(ks:List Term)(ps:List Pat)(hks:ks.length<1000000)(hps:ps.length<1000000) :Pure PP 167 [Term.av (.mk o n s ks ps)] (.bool (aL o n s (length ks) (length ps))) :=
 aP (by kernel_rfl) (by simp [keylessL,jX]) rfl (bAF o n s ks ps hks hps)
mutual
def cJ :Term→Nat
 | .mk _ _ _ ks _=>cC ks+1
def cC :List Term→Nat
 | [] =>0
 |t::ts=>cJ t+cC ts
end
mutual
def fD :Term→Nat
 | .mk _ _ _ ks _=>fJ ks+1
def fJ :List Term→Nat
 | [] =>0
 |t::ts=>max (fD t) (fJ ts)
end
mutual
def aCh :Term→Nat
 | .mk _ _ _ ks ps=>pW ks+aQ ps+1
def pW :List Term→Nat
 | [] =>0
 |t::ts=>aCh t+pW ts
end
mutual
def kQ :Term→Bool
 | .mk o n s ks ps=>aL o n s (length ks) (length ps) &&ps.all aFi&&rJ ks
def rJ :List Term→Bool
 | [] =>true
 |t::ts=>kQ t&&rJ ts
end
theorem uV :∀ts:List Term,ts.length≤pW ts
 | [] =>by simp
 | .mk o n s ks ps::ts=>by have:=uV ts;simp only [pW,aCh,List.length_cons];omega
def kT (t:Term)(left dep:Int) :Int:=if(cJ t:Int) ≤left∧ (fD t:Int) ≤dep then left-cJ t else -1
def oP (ts:List Term)(left dep:Int) :Int:=if left<0 then left else if(cC ts:Int) ≤left∧ (fJ ts:Int) ≤dep then left-cC ts else -1
theorem uW :∀t:Term,1≤cJ t∧1≤fD t
 | .mk _ _ _ ks _=>by simp only [cJ,fD];omega
theorem aKa (t:Term)(ts:List Term){left dep:Int}(h0:0≤left)(hd:0≤dep) :oP (t::ts) left dep=oP ts (kT t left dep) dep:=by
 have hp:=uW t;have hm: ((max (fD t) (fJ ts) :Nat) :Int) ≤dep↔ (fD t:Int) ≤dep∧ (fJ ts:Int) ≤dep:=by omega
 unfold oP kT;rw [cC,fJ];by_cases h1: (cJ t:Int) ≤left∧ (fD t:Int) ≤dep
 · rw [if_pos h1,if_neg (show ¬left<0 by omega),if_neg (show ¬left- (cJ t:Int) <0 by omega)];by_cases h2: (cC ts:Int) ≤left-cJ t∧ (fJ ts:Int) ≤dep
   · rw [if_pos h2,if_pos ⟨by omega,by omega⟩];omega
   ·rw [if_neg h2,if_neg (by rintro⟨a,b⟩;exact h2 ⟨by omega,by omega⟩)]
 ·rw [if_neg h1,if_pos (show(-1:Int) <0 by omega),if_neg (show ¬left<0 by omega),if_neg (by rintro⟨a,b⟩;exact h1 ⟨by omega,by omega⟩)]
theorem aMt (ts:List Term){left dep:Int}(h:left<0) :oP ts left dep=left:=by unfold oP;rw [if_pos h]
theorem aMu (o n:Int)(s:aA)(ks:List Term)(ps:List Pat)(l0 dep:Int)(hd:1≤dep)(hd2:dep≤1000)(ih:∀t∈ks,∀left:Int,0≤left→left≤1000→Pure PP 112 [Term.av t,.int .i64 left,.int .i64 (dep-1)] (.int .i64 (kT t left (dep-1)))) :
  ∀ (ts:List Term) (i:Nat) (left:Int),ks.drop i=ts→ -1≤left→ (i:Int) +left≤1000→Ends PP 0 (aJ7 o n s ks ps l0 dep left (i:Int)).as (.ret (.int .i64 (oP ts left (dep-1)))) (aG [] 0)
 | [],i,left,h,h1,h2=>by
  have:=aZ h;have e:oP [] left (dep-1) =left:=by
   unfold oP;by_cases hn:left<0
   ·rw [if_pos hn]
   · rw [if_neg hn,if_pos (by simp only [cC,fJ];omega)];simp only [cC];omega
  rw [e];exact aTs o n s ks ps l0 dep left i|>.f sd tv
 | .mk o' n' s' ks' ps'::ts,i,left,h,h1,h2=>by
  obtain⟨g1,g2,g3⟩ :=aY h;by_cases h0:0≤left
  · have hp:=uW (.mk o' n' s' ks' ps');rw [aKa _ _ h0 (by omega)];refine(aTs o n s ks ps l0 dep left i|>.t sd|>.t (by simp;omega) o' n' s' ks' ps' sd sd sd (kT (.mk o' n' s' ks' ps') left (dep-1)) (ih _ (mem_of_getElem? g1) left h0 (by omega)) sd tv).ends ?_;exact aMu o n s ks ps l0 dep hd hd2 ih ts (i+1) _ g2 (by unfold kT;split<;>omega) (by unfold kT;split<;>omega)
  · rw [aMt _ (by omega)];exact aTs o n s ks ps l0 dep left i|>.t sd|>.f (by simp;omega) tv
mutual
theorem aGD :∀ (t:Term) (left dep:Int),-1≤left→left≤1000→0≤dep→dep≤1000→Pure PP 112 [Term.av t,.int .i64 left,.int .i64 dep] (.int .i64 (kT t left dep))
 | .mk o n s ks ps,left,dep,h1,h2,h3,h4=>by
  refine aP (by kernel_rfl) (by simp [keylessL,jX,keyless]) rfl ?_;by_cases ha:left<1
  · have e:kT (.mk o n s ks ps) left dep= -1:=by unfold kT;rw [if_neg (by simp only [cJ];omega)]
    rw [e];exact aTr o n s ks ps left dep|>.t (by simp [ha]) tv
  · by_cases hb:dep<1
    · have e:kT (.mk o n s ks ps) left dep= -1:=by unfold kT;rw [if_neg (by simp only [fD];omega)]
      rw [e];exact aTr o n s ks ps left dep|>.f (by simp;omega)|>.t (by simp [hb]) tv
    · have e:kT (.mk o n s ks ps) left dep=oP ks (left-1) (dep-1) :=by
       have e1:cJ (.mk o n s ks ps) =cC ks+1:=by rw [cJ]
       have e2:fD (.mk o n s ks ps) =fJ ks+1:=by rw [fD]
       unfold kT oP;rw [if_neg (show ¬left-1<0 by omega)];by_cases hc: (cC ks:Int) ≤left-1∧ (fJ ks:Int) ≤dep-1
       ·rw [if_pos hc,if_pos (by omega)];omega
       ·rw [if_neg hc,if_neg (by omega)]
      rw [e];refine(aTr o n s ks ps left dep|>.f (by simp;omega)|>.f (by simp;omega) sd tv).ends ?_;exact aMu o n s ks ps left dep (by omega) h4 (fun t ht l a b=>aPO ks (dep-1) (by omega) (by omega) t ht l (by omega) b) ks 0 (left-1) rfl (by omega) (by omega)
theorem aPO :∀ (ts:List Term) (dep:Int),0≤dep→dep≤1000→∀t∈ts,∀left:Int,-1≤left→left≤1000→Pure PP 112 [Term.av t,.int .i64 left,.int .i64 dep] (.int .i64 (kT t left dep))
 | [],_,_,_,t,ht=>by cases ht
 | u::ts,dep,h3,h4,t,ht=>by
  rcases List.mem_cons.1 ht with e|ht
  ·rw [e];exact fun left a b=>aGD u left dep a b h3 h4
  ·exact aPO ts dep h3 h4 t ht
end
theorem bAG (o n:Int)(s:aA)(ks:List Term)(ps:List Pat)(hl:ks.length<1000000)(ih:∀t∈ks,Pure PP 118 [Term.av t] (.bool (kQ t))) :
  ∀ (ts:List Term) (i:Nat),ks.drop i=ts→Ends PP 0 (aJ9 o n s ks ps (i:Int)).as (.ret (.bool (rJ ts))) (aG [] 0)
 | [],i,h=>by
  have:=aZ h;exact aTu o n s ks ps i|>.f sd tv
 | .mk o' n' s' ks' ps'::ts,i,h=>by
  obtain⟨g1,g2,g3⟩ :=aY h;have hp:=ih _ (mem_of_getElem? g1);rw [rJ];cases hb:kQ (.mk o' n' s' ks' ps')
  case true=>
   rw [hb]at hp;exact(aTu o n s ks ps i|>.t sd o' n' s' ks' ps' sd sd true hp|>.f rfl sd tv).ends (Ends.eqv (bAG o n s ks ps hl ih ts (i+1) g2) (by simp))
  rw [hb]at hp;exact Ends.eqv (aTu o n s ks ps i|>.t sd o' n' s' ks' ps' sd sd false hp|>.t rfl tv) (by simp)
theorem bAH (o n:Int)(s:aA)(ks:List Term)(ps:List Pat)(hl:ks.length<1000000)(hl2:ps.length<1000000)(ih:∀t∈ks,Pure PP 118 [Term.av t] (.bool (kQ t))) :
  ∀ (qs:List Pat) (i:Nat),ps.drop i=qs→Ends PP 0 (aJ8 o n s ks ps (i:Int)).as (.ret (.bool (qs.all aFi&&rJ ks))) (aG [] 0)
 | [],i,h=>by
  have:=aZ h;exact(aTt o n s ks ps i|>.f sd tv).ends (Ends.eqv (bAG o n s ks ps hl ih ks 0 rfl) (by simp))
 | .mk f' n' s' ps'::qs,i,h=>by
  obtain⟨g1,g2,g3⟩ :=aY h;have hp:=aTq (.mk f' n' s' ps');cases hb:aFi (.mk f' n' s' ps')
  case true=>
   rw [hb]at hp;exact(aTt o n s ks ps i|>.t sd f' n' s' ps' sd sd true hp|>.f rfl sd tv).ends (Ends.eqv (bAH o n s ks ps hl hl2 ih qs (i+1) g2) (by simp [hb]))
  rw [hb]at hp;exact Ends.eqv (aTt o n s ks ps i|>.t sd f' n' s' ps' sd sd false hp|>.t rfl tv) (by simp [hb])
mutual
theorem aMv :∀ (t:Term),aCh t<1000000→Pure PP 118 [Term.av t] (.bool (kQ t))
 | .mk o n s ks ps,hf=>by
  simp only [aCh]at hf;have:=uV ks;have:=dN ps;refine aP (by kernel_rfl) (by simp [keylessL,jX]) rfl ?_;have hn:=aTv o n s ks ps (by omega) (by omega);rw [kQ];cases hb:aL o n s (length ks) (length ps)
  case true=>
   rw [hb]at hn;exact(aYa o n s ks ps true hn|>.f rfl tv).ends (Ends.eqv (bAH o n s ks ps (by omega) (by omega) (aPP ks (by omega)) ps 0 rfl) (by simp))
  rw [hb]at hn;exact Ends.eqv (aYa o n s ks ps false hn|>.t rfl tv) (by simp)
theorem aPP :∀ (ts:List Term),pW ts<1000000→∀t∈ts,Pure PP 118 [Term.av t] (.bool (kQ t))
 | [],_,t,ht=>by cases ht
 | u::ts,hf,t,ht=>by
  simp only [pW]at hf;rcases List.mem_cons.1 ht with e|ht
  ·rw [e];exact aMv u (by omega)
  ·exact aPP ts (by omega) t ht
end
def aDi (t:Term) :Bool:=decide (cJ t≤60) &&decide (fD t≤14) &&kQ t
theorem aTw (t:Term)(hf:aCh t<1000000) :Pure PP 43 [Term.av t] (.bool (aDi t)) :=by
 have hw:=aGD t 60 14 (by omega) (by omega) (by omega) (by omega);have hn:=aMv t hf;have hs:=uW t;unfold aDi;unfold kT at hw;obtain⟨o,n,s,ks,ps⟩ :=t;refine aP (by kernel_rfl) (by simp [keylessL,jX]) rfl ?_;by_cases h:cJ (.mk o n s ks ps) ≤60∧fD (.mk o n s ks ps) ≤14
 · rw [if_pos (by omega)]at hw;exact Ends.eqv (aYb o n s ks ps _ hw|>.t (by simp;omega) _ hn tv) (by simp [h.1,h.2])
 · rw [if_neg (by omega)]at hw
   exact Ends.eqv (aYb o n s ks ps _ hw|>.f (by simp) tv) (by
    by_cases h1:cJ (.mk o n s ks ps) ≤60
    · have:¬fD (.mk o n s ks ps) ≤14:=fun h2=>h ⟨h1,h2⟩;simp [this]
    ·simp [h1])
def mAt (m:List (Int×Int))(n:Int) :Int:= (cI n m).getD 0
mutual
def aKb (mc:List (Int×Int)) :Pat→Pat
 | .mk f n t ps=>.mk f (if f=6 then mAt mc n else n) t (uX mc ps)
def uX (mc:List (Int×Int)) :List Pat→List Pat
 | [] =>[]
 |p::ps=>aKb mc p::uX mc ps
end
section
variable (mf mc:List (Int×Int))
end
def aKc (to:List Int)(k:Int) :Int:=to.getD k.toNat 0
end
end Go.Hb
