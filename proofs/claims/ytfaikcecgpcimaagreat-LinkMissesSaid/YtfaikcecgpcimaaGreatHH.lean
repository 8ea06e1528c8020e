/- A machine on abstract values, its soundness, ways, plain laws. -/
import Derived.Test.YtfaikcecgpcimaaGreatHF
import Derived.Test.YtfaikcecgpcimaaGreatHG
set_option linter.defProp false
set_option linter.unusedVariables false
set_option linter.unusedSimpArgs false
set_option linter.unusedSectionVars false
set_option maxRecDepth 100000
set_option maxHeartbeats 4000000
namespace Go.Hb
open List (length map)
open Go.Proofs Tryz
noncomputable section
def aQx (cons:List Int)(f n:Int) :Option Int:=if f=6 then(if 0≤n then cons[n.toNat]? else none)else some n
mutual
def aWE (cons:List Int) :Pat→Option Pat
 | .mk f n t ps=>match aQx cons f n with
  | some n'=>match aBB cons ps with
   |some ps'=>some (.mk f n' t ps')
   |none=>none
  |none=>none
def aBB (cons:List Int) :List Pat→Option (List Pat)
 | [] =>some []
 | p::ps=>match aWE cons p with
  | some p'=>match aBB cons ps with
   |some ps'=>some (p'::ps')
   |none=>none
  |none=>none
end
def mN (funs cons:List Int)(op n:Int) :Option Int:=
 if op=4∧n<0 then
  match funs[(-1-n).toNat]? with
  |some g=>if -1000000000≤n∧ -1000000000≤g∧g≤1000000000 then some (-1-g)else none
  |none=>none
 else if op=14 then(if 0≤n then cons[n.toNat]? else none)else some n
def aQy (f:Nat→Int→Option (List Node)) :Nat→List Int→Option (List Int×List Node)
 |_,[] =>some ([],[])
 | len,c::cs=>match f len c with
  | some ns=>match aQy f (len+ns.length) cs with
   |some (ks,r) =>some ((len:Int) ::ks,ns++r)
   |none=>none
  |none=>none
def aDg (p:Prog)(funs cons:List Int) :Nat→Nat→Int→Option (List Node)
 |0,_,_=>none
 | k+1, len,at0=>if 0≤at0∧len<1000000 then
   match p.nodes[at0.toNat]? with
   | some y=>if y.kids.length<1000000∧bQ y.pats<1000000 then
     match mN funs cons y.op y.n with
     | some n'=>match aBB cons y.pats with
      | some ps'=>match aQy (aDg p funs cons k) (len+1) y.kids with
       |some (ks,r) =>some (⟨y.op,n',ks,ps'⟩ ::r)
       |none=>none
      |none=>none
     |none=>none
    else none
   |none=>none
  else none
abbrev PA (p:Prog) :AV:=.agg [(.ilst 4 (map Node.av p.nodes) false),(.ilst 1 (map bL p.funs) false),(.int .i64 p.main),(.ilst 2 (map Con.av p.cons) false)]
abbrev OL (L:List ONode) :AObj:=.lst 4 (map ONode.av L)
abbrev EndsL (s:TS)(L:List ONode) :Prop:=Ends PP 0 s.as (.ret (.gl 0 4 0 (length L) false)) (aF [(0,OL L,true)] 1)
def aSE (p:Prog)(funs cons:List Int)(c:Int)(L:List ONode)(ns:List Node) :Prop:=
 aBq PP (.enter 133 [.gl 0 4 0 (length L) false,PA p,.int .i64 c,.ilst 1 (map bL funs) false,.ilst 1 (map bL cons) false]) (aF [(0,OL L,true)] 1)
  (.ret (.gl 0 4 0 (length (L++map Node.o ns)) false)) (aF [(0,OL (L++map Node.o ns),true)] 1)
theorem EndsL.of {s:TS}{L L':List ONode}(h:EndsL s L)(e:L=L') :EndsL s L':=e ▸ h
section
variable (p :Prog) (funs cons:List Int) (k:Nat) (ih:∀ (L:List ONode) (c:Int) (ns:List Node),aDg p funs cons k L.length c=some ns→aSE p funs cons c L ns)
 (l:List ONode) (at0 op n':Int) (ps':List Pat) (kids:List Int) (hkids:kids.length<1000000)
include ih hkids
end
def numsL (a:Int) :Nat→List Int
 |0=>[]
 |n+1=>numsL a n++ [a+ (n:Int)]
theorem vL (a:Int) :∀n,(numsL a n).length=n
 |0=>rfl
 |n+1=>by simp [numsL,vL a n]
theorem aEO (a:Int) :∀ {n i:Nat},i<n→ (numsL a n)[i]?=some (a+ (i:Int))
 | n+1,i,h=>by
  rw [numsL];by_cases hi:i<n
  ·rw [List.getElem?_append_left (by rw [vL];exact hi),aEO a hi]
  · have:i=n:=by omega
    subst this;rw [List.getElem?_append_right (by rw [vL];omega),vL];simp
theorem cJ {f:Nat}{args:List AV}{v:AV}{s:TS}(e: (start PP f args).as=s.as)(hb:iE PP f=true)(hk:AV.keylessL args=true)(hv:AV.keyless v=true)(he:Ends PP 0 s.as (.ret v) (aF [] 0)) :Pure PP f args v:=
 aV hb hk hv (by rw [e];exact he)
theorem aQz :Pure PP 226 [] (.ilst 1 (map aD kwL) false) :=
 cJ (s:=aVk) (by kernel_rfl) (by kernel_rfl) rfl (by simp [AV.keyless]) aSd
theorem aNV (s:aB) :Pure PP 167 [aD s] (.bool (aQ kwL s)) :=
 aV (by kernel_rfl) rfl rfl (aPq s kwL _ aQz (oW kwL s (by unfold kwL;simp)))
theorem aQA (s:aB)(l:List Nat){k n:Nat}(hk: (strOf l).length=k)(hn:aA (strOf l) =n) :bM (length s) (aA s) k n=decide (s=strOf l) :=by
 rw [←hk,←hn];exact hU s (strOf l)
theorem cB {s:aB}(l:List Nat){k n:Nat}(e:s=strOf l)(hk: (strOf l).length=k)(hn:aA (strOf l) =n) :bM (length s) (aA s) k n=true:=by rw [aQA s l hk hn];simp [e]
theorem cZ {s:aB}(l:List Nat){k n:Nat}(e:¬s=strOf l)(hk: (strOf l).length=k)(hn:aA (strOf l) =n) :bM (length s) (aA s) k n=false:=by rw [aQA s l hk hn];simp [e]
theorem dC {l:List aB}{s:aB}(i:Nat){w:aB}(hi:l[i]?=some w)(e:s=w) :aQ l s=true:=by
 unfold aQ;exact List.any_eq_true.2 ⟨w,List.mem_of_getElem? hi,by simp [e]⟩
theorem aQB (s:aB) :Pure PP 165 [aD s] (.bool (aQ kwL s)) :=by
 refine aV (by kernel_rfl) rfl rfl ?_;by_cases e0:s=strOf [98,111,111,108]
 ·rw [dC 0 (by kernel_rfl) e0];exact aSi s (cB _ e0 (by kernel_rfl) (by kernel_rfl))
 have n0:=cZ (k:=4) (n:=1819242338) _ e0 (by kernel_rfl) (by kernel_rfl);by_cases e1:s=strOf [99,101,108,108]
 ·rw [dC 1 (by kernel_rfl) e1];exact aSj s n0 (cB _ e1 (by kernel_rfl) (by kernel_rfl))
 have n1:=cZ (k:=4) (n:=1819043171) _ e1 (by kernel_rfl) (by kernel_rfl);by_cases e2:s=strOf [99,104,97,110]
 ·rw [dC 2 (by kernel_rfl) e2];exact aSk s n0 n1 (cB _ e2 (by kernel_rfl) (by kernel_rfl))
 have n2:=cZ (k:=4) (n:=1851877475) _ e2 (by kernel_rfl) (by kernel_rfl);by_cases e3:s=strOf [101,108,115,101]
 ·rw [dC 3 (by kernel_rfl) e3];exact aSl s n0 n1 n2 (cB _ e3 (by kernel_rfl) (by kernel_rfl))
 have n3:=cZ (k:=4) (n:=1702063205) _ e3 (by kernel_rfl) (by kernel_rfl);by_cases e4:s=strOf [102,97,108,115,101]
 ·rw [dC 4 (by kernel_rfl) e4];exact aSm s n0 n1 n2 n3 (cB _ e4 (by kernel_rfl) (by kernel_rfl))
 have n4:=cZ (k:=5) (n:=435728179558) _ e4 (by kernel_rfl) (by kernel_rfl);by_cases e5:s=strOf [102,117,110]
 ·rw [dC 5 (by kernel_rfl) e5];exact aSn s n0 n1 n2 n3 n4 (cB _ e5 (by kernel_rfl) (by kernel_rfl))
 have n5:=cZ (k:=3) (n:=7239014) _ e5 (by kernel_rfl) (by kernel_rfl);by_cases e6:s=strOf [103,101,116]
 ·rw [dC 6 (by kernel_rfl) e6];exact aSo s n0 n1 n2 n3 n4 n5 (cB _ e6 (by kernel_rfl) (by kernel_rfl))
 have n6:=cZ (k:=3) (n:=7628135) _ e6 (by kernel_rfl) (by kernel_rfl);by_cases e7:s=strOf [105,102]
 ·rw [dC 7 (by kernel_rfl) e7];exact aSp s n0 n1 n2 n3 n4 n5 n6 (cB _ e7 (by kernel_rfl) (by kernel_rfl))
 have n7:=cZ (k:=2) (n:=26217) _ e7 (by kernel_rfl) (by kernel_rfl);by_cases e8:s=strOf [105,110]
 ·rw [dC 8 (by kernel_rfl) e8];exact aSq s n0 n1 n2 n3 n4 n5 n6 n7 (cB _ e8 (by kernel_rfl) (by kernel_rfl))
 have n8:=cZ (k:=2) (n:=28265) _ e8 (by kernel_rfl) (by kernel_rfl);by_cases e9:s=strOf [105,110,112,117,116]
 ·rw [dC 9 (by kernel_rfl) e9];exact aSr s n0 n1 n2 n3 n4 n5 n6 n7 n8 (cB _ e9 (by kernel_rfl) (by kernel_rfl))
 have n9:=cZ (k:=5) (n:=500186508905) _ e9 (by kernel_rfl) (by kernel_rfl);by_cases e10:s=strOf [105,110,116]
 ·rw [dC 10 (by kernel_rfl) e10];exact aPr s n0 n1 n2 n3 n4 n5 n6 n7 n8 n9 (cB _ e10 (by kernel_rfl) (by kernel_rfl))
 have n10:=cZ (k:=3) (n:=7630441) _ e10 (by kernel_rfl) (by kernel_rfl);by_cases e11:s=strOf [106,111,105,110]
 ·rw [dC 11 (by kernel_rfl) e11];exact aPs s n0 n1 n2 n3 n4 n5 n6 n7 n8 n9 n10 (cB _ e11 (by kernel_rfl) (by kernel_rfl))
 have n11:=cZ (k:=4) (n:=1852403562) _ e11 (by kernel_rfl) (by kernel_rfl);by_cases e12:s=strOf [108,101,116]
 ·rw [dC 12 (by kernel_rfl) e12];exact aPt s n0 n1 n2 n3 n4 n5 n6 n7 n8 n9 n10 n11 (cB _ e12 (by kernel_rfl) (by kernel_rfl))
 have n12:=cZ (k:=3) (n:=7628140) _ e12 (by kernel_rfl) (by kernel_rfl);by_cases e13:s=strOf [109,97,116,99,104]
 ·rw [dC 13 (by kernel_rfl) e13];exact aPu s n0 n1 n2 n3 n4 n5 n6 n7 n8 n9 n10 n11 n12 (cB _ e13 (by kernel_rfl) (by kernel_rfl))
 have n13:=cZ (k:=5) (n:=448345170285) _ e13 (by kernel_rfl) (by kernel_rfl);by_cases e14:s=strOf [109,111,100,117,108,101]
 ·rw [dC 14 (by kernel_rfl) e14];exact aPv s n0 n1 n2 n3 n4 n5 n6 n7 n8 n9 n10 n11 n12 n13 (cB _ e14 (by kernel_rfl) (by kernel_rfl))
 have n14:=cZ (k:=6) (n:=111516500389741) _ e14 (by kernel_rfl) (by kernel_rfl);by_cases e15:s=strOf [111,117,116]
 ·rw [dC 15 (by kernel_rfl) e15];exact aPw s n0 n1 n2 n3 n4 n5 n6 n7 n8 n9 n10 n11 n12 n13 n14 (cB _ e15 (by kernel_rfl) (by kernel_rfl))
 have n15:=cZ (k:=3) (n:=7632239) _ e15 (by kernel_rfl) (by kernel_rfl);by_cases e16:s=strOf [112,97,117,115,101]
 ·rw [dC 16 (by kernel_rfl) e16];exact aPx s n0 n1 n2 n3 n4 n5 n6 n7 n8 n9 n10 n11 n12 n13 n14 n15 (cB _ e16 (by kernel_rfl) (by kernel_rfl))
 have n16:=cZ (k:=5) (n:=435728769392) _ e16 (by kernel_rfl) (by kernel_rfl);by_cases e17:s=strOf [112,117,116]
 ·rw [dC 17 (by kernel_rfl) e17];exact aPy s n0 n1 n2 n3 n4 n5 n6 n7 n8 n9 n10 n11 n12 n13 n14 n15 n16 (cB _ e17 (by kernel_rfl) (by kernel_rfl))
 have n17:=cZ (k:=3) (n:=7632240) _ e17 (by kernel_rfl) (by kernel_rfl);by_cases e18:s=strOf [114,101,115,101,116]
 ·rw [dC 18 (by kernel_rfl) e18];exact aPz s n0 n1 n2 n3 n4 n5 n6 n7 n8 n9 n10 n11 n12 n13 n14 n15 n16 n17 (cB _ e18 (by kernel_rfl) (by kernel_rfl))
 have n18:=cZ (k:=5) (n:=499918267762) _ e18 (by kernel_rfl) (by kernel_rfl);by_cases e19:s=strOf [115,101,110,100]
 ·rw [dC 19 (by kernel_rfl) e19];exact aPA s n0 n1 n2 n3 n4 n5 n6 n7 n8 n9 n10 n11 n12 n13 n14 n15 n16 n17 n18 (cB _ e19 (by kernel_rfl) (by kernel_rfl))
 have n19:=cZ (k:=4) (n:=1684956531) _ e19 (by kernel_rfl) (by kernel_rfl);by_cases e20:s=strOf [115,104,105,102,116]
 ·rw [dC 20 (by kernel_rfl) e20];exact aPB s n0 n1 n2 n3 n4 n5 n6 n7 n8 n9 n10 n11 n12 n13 n14 n15 n16 n17 n18 n19 (cB _ e20 (by kernel_rfl) (by kernel_rfl))
 have n20:=cZ (k:=5) (n:=499934390387) _ e20 (by kernel_rfl) (by kernel_rfl);by_cases e21:s=strOf [115,112,97,119,110]
 ·rw [dC 21 (by kernel_rfl) e21];exact aPC s n0 n1 n2 n3 n4 n5 n6 n7 n8 n9 n10 n11 n12 n13 n14 n15 n16 n17 n18 n19 n20 (cB _ e21 (by kernel_rfl) (by kernel_rfl))
 have n21:=cZ (k:=5) (n:=474449277043) _ e21 (by kernel_rfl) (by kernel_rfl);by_cases e22:s=strOf [116,97,107,101]
 ·rw [dC 22 (by kernel_rfl) e22];exact aPD s n0 n1 n2 n3 n4 n5 n6 n7 n8 n9 n10 n11 n12 n13 n14 n15 n16 n17 n18 n19 n20 n21 (cB _ e22 (by kernel_rfl) (by kernel_rfl))
 have n22:=cZ (k:=4) (n:=1701536116) _ e22 (by kernel_rfl) (by kernel_rfl);by_cases e23:s=strOf [116,97,115,107]
 ·rw [dC 23 (by kernel_rfl) e23];exact aPE s n0 n1 n2 n3 n4 n5 n6 n7 n8 n9 n10 n11 n12 n13 n14 n15 n16 n17 n18 n19 n20 n21 n22 (cB _ e23 (by kernel_rfl) (by kernel_rfl))
 have n23:=cZ (k:=4) (n:=1802723700) _ e23 (by kernel_rfl) (by kernel_rfl);by_cases e24:s=strOf [116,104,101,110]
 ·rw [dC 24 (by kernel_rfl) e24];exact aPF s n0 n1 n2 n3 n4 n5 n6 n7 n8 n9 n10 n11 n12 n13 n14 n15 n16 n17 n18 n19 n20 n21 n22 n23 (cB _ e24 (by kernel_rfl) (by kernel_rfl))
 have n24:=cZ (k:=4) (n:=1852139636) _ e24 (by kernel_rfl) (by kernel_rfl);by_cases e25:s=strOf [116,114,117,101]
 ·rw [dC 25 (by kernel_rfl) e25];exact aPG s n0 n1 n2 n3 n4 n5 n6 n7 n8 n9 n10 n11 n12 n13 n14 n15 n16 n17 n18 n19 n20 n21 n22 n23 n24 (cB _ e25 (by kernel_rfl) (by kernel_rfl))
 have n25:=cZ (k:=4) (n:=1702195828) _ e25 (by kernel_rfl) (by kernel_rfl);by_cases e26:s=strOf [116,121,112,101]
 ·rw [dC 26 (by kernel_rfl) e26];exact aPH s n0 n1 n2 n3 n4 n5 n6 n7 n8 n9 n10 n11 n12 n13 n14 n15 n16 n17 n18 n19 n20 n21 n22 n23 n24 n25 (cB _ e26 (by kernel_rfl) (by kernel_rfl))
 have n26:=cZ (k:=4) (n:=1701869940) _ e26 (by kernel_rfl) (by kernel_rfl);by_cases e27:s=strOf [117,110,105,116]
 ·rw [dC 27 (by kernel_rfl) e27];exact aPI s n0 n1 n2 n3 n4 n5 n6 n7 n8 n9 n10 n11 n12 n13 n14 n15 n16 n17 n18 n19 n20 n21 n22 n23 n24 n25 n26 (cB _ e27 (by kernel_rfl) (by kernel_rfl))
 have n27:=cZ (k:=4) (n:=1953066613) _ e27 (by kernel_rfl) (by kernel_rfl);have hno:aQ kwL s=false:=by
  unfold aQ kwL;simp only [List.any_cons,List.any_nil,Bool.or_false,Bool.or_eq_false_iff,decide_eq_false_iff_not];exact⟨fun h=>e0 h.symm,fun h=>e1 h.symm,fun h=>e2 h.symm,fun h=>e3 h.symm,fun h=>e4 h.symm,fun h=>e5 h.symm,fun h=>e6 h.symm,fun h=>e7 h.symm,fun h=>e8 h.symm,fun h=>e9 h.symm,fun h=>e10 h.symm,fun h=>e11 h.symm,fun h=>e12 h.symm,fun h=>e13 h.symm,fun h=>e14 h.symm,fun h=>e15 h.symm,fun h=>e16 h.symm,fun h=>e17 h.symm,fun h=>e18 h.symm,fun h=>e19 h.symm,fun h=>e20 h.symm,fun h=>e21 h.symm,fun h=>e22 h.symm,fun h=>e23 h.symm,fun h=>e24 h.symm,fun h=>e25 h.symm,fun h=>e26 h.symm,fun h=>e27 h.symm⟩
 rw [hno];exact aPJ s n0 n1 n2 n3 n4 n5 n6 n7 n8 n9 n10 n11 n12 n13 n14 n15 n16 n17 n18 n19 n20 n21 n22 n23 n24 n25 n26 n27
def nH (s:aB) :Bool:=decide (1≤s.length) &&decide (s.length≤8) &&fH s&& !aQ kwL s
theorem aIK (s:aB) :Pure PP 86 [aD s] (.bool (nH s)) :=by
 refine aV (by kernel_rfl) rfl rfl ?_;unfold nH;by_cases h1:1≤s.length
 · by_cases h2:s.length≤8
   · have hS:=aBv s (by omega);cases h3:fH s with
     | true=>
      rw [h3]at hS;have:=aSe s true _ sd sd hS rfl (aNV s);simpa [h1,h2]using this
     | false=>
      rw [h3]at hS;have:=aSf s false sd sd hS rfl;simpa [h1,h2]using this
   · have:=aSg s sd sd;simpa [h1,h2]using this
 · have:=aSh s sd;simpa [h1]using this
theorem aIL (s:aB) :Pure PP 85 [aD s] (.bool (nH s)) :=by
 refine aV (by kernel_rfl) rfl rfl ?_;unfold nH;by_cases h1:s= []
 · subst h1;have:=aSv [] (by rfl);simpa using this
 · have hpos:1≤s.length:=by cases s with
    |nil=>exact absurd rfl h1
    |cons _ _=>simp
   have h0: (!(bM (length s) (aA s) 0 0)) =true:=by
    have:=cZ (k:=0) (n:=0) (s:=s) [] h1 rfl rfl;rw [this];rfl
   by_cases h2:s.length≤8
   · have hS:=aBA s;cases h3:fH s with
     | true=>
      rw [h3]at hS;have:=aSs s true _ h0 sd hS rfl (aQB s);simpa [hpos,h2]using this
     | false=>
      rw [h3]at hS;have:=aSt s false h0 sd hS rfl;simpa [hpos,h2]using this
   · have:=aSu s h0 sd;simpa [hpos,h2]using this
theorem sdW {p:Prop}(h:p:=by simp_all only [inB_iff,inB_not,beq_iff_eq,decide_eq_true_eq,decide_eq_false_iff_not] <;>omega) :p:=h
theorem idW {p:Prop}(h:p:=by exact⟨_,List.getElem?_eq_getElem (by simp_all only [inB_iff,inB_not,beq_iff_eq,decide_eq_true_eq,decide_eq_false_iff_not] <;>omega)⟩) :p:=h
theorem aEP (l:List Pat)(p:Prog)(hl:l.length<1000000)(ih:∀q∈l,Pure PP 282 [Prog.av p,Pat.av q] (.bool (cY p.cons q))) :
  ∀ (t:List Pat) (i:Nat),l.drop i=t→Ends PP 0 (aB1 l p (i:Int)).as (.ret (.bool (bY p.cons t))) (aF [] 0)
 | [],i,h=>by
  have:=bE h;exact Ends.eqv (aQh l p i sd) (by simp [bY])
 | .mk f n s ps::t,i,h=>by
  obtain⟨g1,g2,g3⟩ :=bB h;have hq:=ih (.mk f n s ps) (List.mem_of_getElem? g1);cases k:cY p.cons (.mk f n s ps)with
  | false=>
   rw [k]at hq;exact Ends.eqv (aQf l p i f n s ps false sd sd sd hq rfl) (by simp [bY,k])
  | true=>
   rw [k]at hq;refine(aQg l p i f n s ps true sd sd sd hq rfl sd).ends ?_;exact Ends.eqv (aEP l p hl ih t (i+1) g2) (by simp [bY,k])
theorem aNW (l:List Pat)(p:Prog)(hl:l.length<1000000)(ih:∀q∈l,Pure PP 282 [Prog.av p,Pat.av q] (.bool (cY p.cons q))) :
  Pure PP 284 [.ilst 4 (Pats.av l) false,.func 282 [Prog.av p] []] (.bool (bY p.cons l)) :=
 aV (by kernel_rfl) (by simp [AV.keylessL,AV.keyless,Prog.av]) rfl ((aQe l p).ends (aEP l p hl ih l 0 rfl))
theorem aWF (p:Prog)(q_form q_n:Int)(q_text:aB)(q_parts:List Pat)(hc:p.cons.length≤1000)(hev:Pure PP 284 [.ilst 4 (Pats.av q_parts) false,.func 282 [Prog.av p] []] (.bool (bY p.cons q_parts))) :
  Ends PP 0 (start PP 282 [Prog.av p,Pat.av (.mk q_form q_n q_text q_parts)]).as (.ret (.bool (cY p.cons (.mk q_form q_n q_text q_parts)))) (aF [] 0) :=by
 have hw:IntKind.i64.wrap ((p.cons.length:Int) -1) = (p.cons.length:Int) -1:=by apply wrap64<;>omega
 cases hb1: (!(bM (length q_text) (aA q_text) 0 0))with
 | true=>
  exact Ends.eqv (aP4 p q_form q_n q_text q_parts   hb1) (by clear hev;simp_all [cY,dF,dW,cR,eU] <;>rfl)
 | false =>
  cases hb2: (!(bY p.cons q_parts))with
  | true=>
   exact Ends.eqv (aP5 p q_form q_n q_text q_parts  (bY p.cons q_parts) hb1 hev hb2) (by clear hev;simp_all [cY,dF,dW,cR,eU] <;>rfl)
  | false =>
   cases hb3: (q_form== (1:Int))with
   | true=>
    cases hb4: (q_n== (0:Int))with
    | true=>
     exact Ends.eqv (aP6 p q_form q_n q_text q_parts  (bY p.cons q_parts) hb1 hev hb2 hb3 hb4) (by clear hev;simp_all [cY,dF,dW,cR,eU] <;>rfl)
    | false=>
     exact Ends.eqv (aP7 p q_form q_n q_text q_parts  (bY p.cons q_parts) hb1 hev hb2 hb3 hb4) (by clear hev;simp_all [cY,dF,dW,cR,eU] <;>rfl)
   | false =>
    cases hb5: (q_form== (2:Int))with
    | true=>
     cases hb6: (q_n== (0:Int))with
     | true=>
      exact Ends.eqv (aP8 p q_form q_n q_text q_parts  (bY p.cons q_parts) hb1 hev hb2 hb3 hb5 hb6) (by clear hev;simp_all [cY,dF,dW,cR,eU] <;>rfl)
     | false=>
      exact Ends.eqv (aP9 p q_form q_n q_text q_parts  (bY p.cons q_parts) hb1 hev hb2 hb3 hb5 hb6) (by clear hev;simp_all [cY,dF,dW,cR,eU] <;>rfl)
    | false=>
     cases hb7: (q_form== (5:Int))with
     | true=>
      cases hb8: (q_n== (0:Int))with
      | true=>
       exact Ends.eqv (aQa p q_form q_n q_text q_parts  (bY p.cons q_parts) hb1 hev hb2 hb3 hb5 hb7 hb8) (by clear hev;simp_all [cY,dF,dW,cR,eU] <;>rfl)
      | false=>
       exact Ends.eqv (aQb p q_form q_n q_text q_parts  (bY p.cons q_parts) hb1 hev hb2 hb3 hb5 hb7 hb8) (by clear hev;simp_all [cY,dF,dW,cR,eU] <;>rfl)
     | false=>
      cases hb9: (q_form== (3:Int))with
      | true=>
       cases hb10: (cS q_n (-1000000000) 1000000000)with
       | true=>
        exact Ends.eqv (aQc p q_form q_n q_text q_parts  (bY p.cons q_parts) (cS q_n (-1000000000) 1000000000) hb1 hev hb2 hb3 hb5 hb7 hb9 (aAS q_n) hb10) (by clear hev;simp_all [cY,dF,dW,cR,eU] <;>rfl)
       | false=>
        exact Ends.eqv (aQd p q_form q_n q_text q_parts  (bY p.cons q_parts) (cS q_n (-1000000000) 1000000000) hb1 hev hb2 hb3 hb5 hb7 hb9 (aAS q_n) hb10) (by clear hev;simp_all [cY,dF,dW,cR,eU] <;>rfl)
      | false=>
       cases hb11: (q_form== (4:Int))with
       | true=>
        cases hb12: (cS q_n 0 1)with
        | true=>
         exact Ends.eqv (aNA p q_form q_n q_text q_parts  (bY p.cons q_parts) (cS q_n 0 1) hb1 hev hb2 hb3 hb5 hb7 hb9 hb11 (eJ q_n 0 1) hb12) (by clear hev;simp_all [cY,dF,dW,cR,eU] <;>rfl)
        | false=>
         exact Ends.eqv (aNB p q_form q_n q_text q_parts  (bY p.cons q_parts) (cS q_n 0 1) hb1 hev hb2 hb3 hb5 hb7 hb9 hb11 (eJ q_n 0 1) hb12) (by clear hev;simp_all [cY,dF,dW,cR,eU] <;>rfl)
       | false=>
        cases hb13: (q_form== (6:Int))with
        | true=>
         cases hb14: (cS q_n 0 (IntKind.i64.wrap (((length p.cons:Nat) :Int) - (1:Int))))with
         | true=>
          obtain⟨y2,hx15⟩ :∃y,((p.cons)[q_n.toNat]?) =some y:=idW;exact Ends.eqv (aNC p q_form q_n q_text q_parts  (bY p.cons q_parts) (cS q_n 0 (IntKind.i64.wrap (((length p.cons:Nat) :Int) - (1:Int)))) y2 hb1 hev hb2 hb3 hb5 hb7 hb9 hb11 hb13 (eJ q_n 0 (IntKind.i64.wrap (((length p.cons:Nat) :Int) - (1:Int)))) hb14 sdW hx15) (by clear hev;simp_all [cY,dF,dW,cR,eU] <;>rfl)
         | false=>
          exact Ends.eqv (aND p q_form q_n q_text q_parts  (bY p.cons q_parts) (cS q_n 0 (IntKind.i64.wrap (((length p.cons:Nat) :Int) - (1:Int)))) hb1 hev hb2 hb3 hb5 hb7 hb9 hb11 hb13 (eJ q_n 0 (IntKind.i64.wrap (((length p.cons:Nat) :Int) - (1:Int)))) hb14) (by clear hev;simp_all [cY,dF,dW,cR,eU] <;>rfl)
        | false=>
         exact Ends.eqv (aNE p q_form q_n q_text q_parts  (bY p.cons q_parts) hb1 hev hb2 hb3 hb5 hb7 hb9 hb11 hb13) (by clear hev;simp_all [cY,dF,dW,cR,eU] <;>rfl)
mutual
theorem aEQ (p:Prog)(hc:p.cons.length≤1000) :∀ (q:Pat),dM q<1000000→Pure PP 282 [Prog.av p,Pat.av q] (.bool (cY p.cons q))
 | .mk f n s ps,h=>by
  refine aV (by kernel_rfl) (by simp [AV.keylessL,yB,AV.keyless,Prog.av]) rfl ?_;simp only [dM]at h;have:=rD ps;exact aWF p f n s ps hc (aNW ps p (by omega) (aIM p hc ps (by omega)))
theorem aIM (p:Prog)(hc:p.cons.length≤1000) :∀ (ps:List Pat),bQ ps<1000000→∀q∈ps,Pure PP 282 [Prog.av p,Pat.av q] (.bool (cY p.cons q))
 | [],_,q,hq=>by cases hq
 | r::ps,h,q,hq=>by
  simp only [bQ]at h;rcases List.mem_cons.1 hq with e|hq
  ·rw [e];exact aEQ p hc r (by omega)
  ·exact aIM p hc ps (by omega) q hq
end
def cE (op:Int) :Option Int:=
 if op=1∨op=2∨op=3∨op=4∨op=21∨op=25∨op=28 then some 0
 else if op=5∨op=27∨op=16∨op=17∨op=19∨op=20∨op=23∨op=26∨op=24 then some 1
 else if op=6∨op=7∨op=9∨op=10∨op=11∨op=12∨op=13∨op=18∨op=22 then some 2
 else if op=8 then some 3 else none
def aZ (op:Int) :AV:=
 match cE op with
 |some k=>.iface 334 (.int .i64 k)
 |none=>if op=15 then .iface 317 (.agg [])else if op=14 then .iface 335 (.agg [])else .nili
theorem aIN {op k:Int}(h:cE op=some k)(pats args:Int) :cT op pats args=k∧op≠15∧op≠14:=by
 unfold cE at h;unfold cT;split at h
 ·rename_i g;rw [if_pos g];simp only [Option.some.injEq]at h;refine⟨h,?_,?_⟩ <;>omega
 · rename_i g0;rw [if_neg g0];split at h
   ·rename_i g;rw [if_pos g];simp only [Option.some.injEq]at h;refine⟨h,?_,?_⟩ <;>omega
   · rename_i g1;rw [if_neg g1];split at h
     ·rename_i g;rw [if_pos g];simp only [Option.some.injEq]at h;refine⟨h,?_,?_⟩ <;>omega
     · rename_i g2;rw [if_neg g2];split at h
       ·rename_i g;rw [if_pos g];simp only [Option.some.injEq]at h;refine⟨h,?_,?_⟩ <;>omega
       ·cases h
theorem aK3 {op:Int}(h:cE op=none)(pats args:Int) :cT op pats args=if op=15 then 1+pats else if op=14 then args else -1:=by
 unfold cE at h;unfold cT;split at h
 ·cases h
 · rename_i g0;rw [if_neg g0];split at h
   ·cases h
   · rename_i g1;rw [if_neg g1];split at h
     ·cases h
     · rename_i g2;rw [if_neg g2];split at h
       ·cases h
       ·rename_i g;rw [if_neg g]
theorem bKidsOf_E (op : Int) :Ends PP 0 (start PP 279 [.int .i64 op]).as (.ret (aZ op)) (aF [] 0) :=by
 cases hb1: (op== (1:Int))with
 | true=>
  exact Ends.eqv (aIe op   hb1) (by simp_all [aZ,cE])
 | false =>
  cases hb2: (op== (2:Int))with
  | true=>
   exact Ends.eqv (aIf op   hb1 hb2) (by simp_all [aZ,cE])
  | false =>
   cases hb3: (op== (3:Int))with
   | true=>
    exact Ends.eqv (aIg op   hb1 hb2 hb3) (by simp_all [aZ,cE])
   | false =>
    cases hb4: (op== (4:Int))with
    | true=>
     exact Ends.eqv (aIh op   hb1 hb2 hb3 hb4) (by simp_all [aZ,cE])
    | false =>
     cases hb5: (op== (21:Int))with
     | true=>
      exact Ends.eqv (aIi op   hb1 hb2 hb3 hb4 hb5) (by simp_all [aZ,cE])
     | false =>
      cases hb6: (op== (25:Int))with
      | true=>
       exact Ends.eqv (aIj op   hb1 hb2 hb3 hb4 hb5 hb6) (by simp_all [aZ,cE])
      | false =>
       cases hb7: (op== (28:Int))with
       | true=>
        exact Ends.eqv (aIk op   hb1 hb2 hb3 hb4 hb5 hb6 hb7) (by simp_all [aZ,cE])
       | false =>
        cases hb8: (op== (5:Int))with
        | true=>
         exact Ends.eqv (aIl op   hb1 hb2 hb3 hb4 hb5 hb6 hb7 hb8) (by simp_all [aZ,cE])
        | false =>
         cases hb9: (op== (27:Int))with
         | true=>
          exact Ends.eqv (aIm op   hb1 hb2 hb3 hb4 hb5 hb6 hb7 hb8 hb9) (by simp_all [aZ,cE])
         | false =>
          cases hb10: (op== (16:Int))with
          | true=>
           exact Ends.eqv (aIn op   hb1 hb2 hb3 hb4 hb5 hb6 hb7 hb8 hb9 hb10) (by simp_all [aZ,cE])
          | false =>
           cases hb11: (op== (17:Int))with
           | true=>
            exact Ends.eqv (aF6 op   hb1 hb2 hb3 hb4 hb5 hb6 hb7 hb8 hb9 hb10 hb11) (by simp_all [aZ,cE])
           | false =>
            cases hb12: (op== (19:Int))with
            | true=>
             exact Ends.eqv (aF7 op   hb1 hb2 hb3 hb4 hb5 hb6 hb7 hb8 hb9 hb10 hb11 hb12) (by simp_all [aZ,cE])
            | false =>
             cases hb13: (op== (20:Int))with
             | true=>
              exact Ends.eqv (aF8 op   hb1 hb2 hb3 hb4 hb5 hb6 hb7 hb8 hb9 hb10 hb11 hb12 hb13) (by simp_all [aZ,cE])
             | false =>
              cases hb14: (op== (23:Int))with
              | true=>
               exact Ends.eqv (aF9 op   hb1 hb2 hb3 hb4 hb5 hb6 hb7 hb8 hb9 hb10 hb11 hb12 hb13 hb14) (by simp_all [aZ,cE])
              | false =>
               cases hb15: (op== (24:Int))with
               | true=>
                exact Ends.eqv (aGa op   hb1 hb2 hb3 hb4 hb5 hb6 hb7 hb8 hb9 hb10 hb11 hb12 hb13 hb14 hb15) (by simp_all [aZ,cE])
               | false =>
                cases hb16: (op== (26:Int))with
                | true=>
                 exact Ends.eqv (aGb op   hb1 hb2 hb3 hb4 hb5 hb6 hb7 hb8 hb9 hb10 hb11 hb12 hb13 hb14 hb15 hb16) (by simp_all [aZ,cE])
                | false =>
                 cases hb17: (op== (6:Int))with
                 | true=>
                  exact Ends.eqv (aGc op   hb1 hb2 hb3 hb4 hb5 hb6 hb7 hb8 hb9 hb10 hb11 hb12 hb13 hb14 hb15 hb16 hb17) (by simp_all [aZ,cE])
                 | false =>
                  cases hb18: (op== (7:Int))with
                  | true=>
                   exact Ends.eqv (aGd op   hb1 hb2 hb3 hb4 hb5 hb6 hb7 hb8 hb9 hb10 hb11 hb12 hb13 hb14 hb15 hb16 hb17 hb18) (by simp_all [aZ,cE])
                  | false =>
                   cases hb19: (op== (9:Int))with
                   | true=>
                    exact Ends.eqv (aGe op   hb1 hb2 hb3 hb4 hb5 hb6 hb7 hb8 hb9 hb10 hb11 hb12 hb13 hb14 hb15 hb16 hb17 hb18 hb19) (by simp_all [aZ,cE])
                   | false =>
                    cases hb20: (op== (10:Int))with
                    | true=>
                     exact Ends.eqv (aGf op   hb1 hb2 hb3 hb4 hb5 hb6 hb7 hb8 hb9 hb10 hb11 hb12 hb13 hb14 hb15 hb16 hb17 hb18 hb19 hb20) (by simp_all [aZ,cE])
                    | false =>
                     cases hb21: (op== (11:Int))with
                     | true=>
                      exact Ends.eqv (aGg op   hb1 hb2 hb3 hb4 hb5 hb6 hb7 hb8 hb9 hb10 hb11 hb12 hb13 hb14 hb15 hb16 hb17 hb18 hb19 hb20 hb21) (by simp_all [aZ,cE])
                     | false =>
                      cases hb22: (op== (12:Int))with
                      | true=>
                       exact Ends.eqv (aGh op   hb1 hb2 hb3 hb4 hb5 hb6 hb7 hb8 hb9 hb10 hb11 hb12 hb13 hb14 hb15 hb16 hb17 hb18 hb19 hb20 hb21 hb22) (by simp_all [aZ,cE])
                      | false =>
                       cases hb23: (op== (13:Int))with
                       | true=>
                        exact Ends.eqv (aGi op   hb1 hb2 hb3 hb4 hb5 hb6 hb7 hb8 hb9 hb10 hb11 hb12 hb13 hb14 hb15 hb16 hb17 hb18 hb19 hb20 hb21 hb22 hb23) (by simp_all [aZ,cE])
                       | false=>
                        cases hb24: (op== (18:Int))with
                        | true=>
                         exact Ends.eqv (aGj op   hb1 hb2 hb3 hb4 hb5 hb6 hb7 hb8 hb9 hb10 hb11 hb12 hb13 hb14 hb15 hb16 hb17 hb18 hb19 hb20 hb21 hb22 hb23 hb24) (by simp_all [aZ,cE])
                        | false=>
                         cases hb25: (op== (22:Int))with
                         | true=>
                          exact Ends.eqv (aGk op   hb1 hb2 hb3 hb4 hb5 hb6 hb7 hb8 hb9 hb10 hb11 hb12 hb13 hb14 hb15 hb16 hb17 hb18 hb19 hb20 hb21 hb22 hb23 hb24 hb25) (by simp_all [aZ,cE])
                         | false=>
                          cases hb26: (op== (8:Int))with
                          | true=>
                           exact Ends.eqv (aGl op   hb1 hb2 hb3 hb4 hb5 hb6 hb7 hb8 hb9 hb10 hb11 hb12 hb13 hb14 hb15 hb16 hb17 hb18 hb19 hb20 hb21 hb22 hb23 hb24 hb25 hb26) (by simp_all [aZ,cE])
                          | false=>
                           cases hb27: (op== (14:Int))with
                           | true=>
                            exact Ends.eqv (aGm op   hb1 hb2 hb3 hb4 hb5 hb6 hb7 hb8 hb9 hb10 hb11 hb12 hb13 hb14 hb15 hb16 hb17 hb18 hb19 hb20 hb21 hb22 hb23 hb24 hb25 hb26 hb27) (by simp_all [aZ,cE])
                           | false=>
                            cases hb28: (op== (15:Int))with
                            | true=>
                             exact Ends.eqv (aGn op   hb1 hb2 hb3 hb4 hb5 hb6 hb7 hb8 hb9 hb10 hb11 hb12 hb13 hb14 hb15 hb16 hb17 hb18 hb19 hb20 hb21 hb22 hb23 hb24 hb25 hb26 hb27 hb28) (by simp_all [aZ,cE])
                            | false=>
                             exact Ends.eqv (aGo op   hb1 hb2 hb3 hb4 hb5 hb6 hb7 hb8 hb9 hb10 hb11 hb12 hb13 hb14 hb15 hb16 hb17 hb18 hb19 hb20 hb21 hb22 hb23 hb24 hb25 hb26 hb27 hb28) (by simp_all [aZ,cE])
theorem aK4 (op:Int) :AV.keyless (aZ op) =true:=by
 unfold aZ;split
 ·rfl
 · split
   ·rfl
   ·split<;>rfl
theorem aGr (op:Int) :Pure PP 279 [.int .i64 op] (aZ op) :=
 aV (by kernel_rfl) rfl (aK4 op) (bKidsOf_E op)
theorem aDh (p:Prog)(x:Node)(hc:p.cons.length≤1000)(hx:x.pats.length≤10) :
  ∀ (t:List Pat) (i:Nat),x.pats.drop i=t→Ends PP 0 (oZ p x (i:Int)).as (.ret (.bool (t.all (fJ p.cons)))) (aF [] 0)
 | [],i,h=>by
  have:=bE h;exact Ends.eqv (aNR p x i sd) (by simp)
 | .mk f n s ps::t,i,h=>by
  obtain⟨g1,g2,g3⟩ :=bB h;have hs:=aDf (.mk f n s ps) 12 (by omega) (by omega);by_cases k:dM (.mk f n s ps) ≤12
  · have hg:mM (.mk f n s ps) 12≤12:= (aEM (.mk f n s ps) 12 (by omega)).2 (by omega);have hq:=aEQ p hc (.mk f n s ps) (by omega);cases kq:cY p.cons (.mk f n s ps)with
    | false=>
     rw [kq]at hq;exact Ends.eqv (aNO p x i f n s ps _ false sd sd sd hs (decide_eq_true hg) hq rfl) (by simp [fJ,kq])
    | true=>
     rw [kq]at hq;refine(aNP p x i f n s ps _ true sd sd sd hs (decide_eq_true hg) hq rfl sd).ends ?_;exact Ends.eqv (aDh p x hc hx t (i+1) g2) (by simp [fJ,k,kq])
  · have hg:¬mM (.mk f n s ps) 12≤12:=fun g=>k (by have:= (aEM (.mk f n s ps) 12 (by omega)).1 g;omega);exact Ends.eqv (aNQ p x i f n s ps _ sd sd sd hs (decide_eq_false hg)) (by simp [fJ,k])
theorem aK5 (p:Prog)(x:Node)(hc:p.cons.length≤1000)(hf:p.funs.length≤1000)(hx:x.pats.length≤10)(hk:x.kids.length≤10) :Pure PP 248 [Prog.av p,Node.av x] (.bool (bD p x)) :=by
 refine aV (by kernel_rfl) rfl rfl ?_;have hw:IntKind.i64.wrap ((p.cons.length:Int) -1) = (p.cons.length:Int) -1:=by apply wrap64<;>omega
 have hko:=aGr x.op;have hn:=aGq p x hf;have hl:=aDh p x hc hx x.pats 0 rfl;cases kf:cE x.op with
 | some k=>
  obtain⟨e1,e2,e3⟩ :=aIN kf (x.pats.length:Int) (eI p x);have ev:aZ x.op= .iface 334 (.int .i64 k) :=by unfold aZ;rw [kf]
  rw [ev]at hko;have en:bD p x= (lH p x&&decide (x.pats.length=0) &&x.pats.all (fJ p.cons) &&decide ((x.kids.length:Int) =k)) :=by
   simp only [bD,hX,lH,e1,if_neg e2,if_neg e3]
  rw [en];by_cases g0:x.pats.length=0
  · by_cases g1: (x.kids.length:Int) =k
    · have b1: (((length x.kids:Nat) :Int) ==k) =true:=by simp [g1]
      cases g2:lH p x with
      | false=>
       rw [g2]at hn;exact Ends.eqv (aKY p x k false hko sd b1 hn rfl) (by simp)
      | true=>
       rw [g2]at hn;refine(aKX p x k true hko sd b1 hn rfl).ends ?_;exact Ends.eqv hl (by simp [g0,g1])
    · have b1: (((length x.kids:Nat) :Int) ==k) =false:=by simp [g1]
      exact Ends.eqv (aKZ p x k hko sd b1) (by simp [g1])
  ·exact Ends.eqv (aNN p x k hko sd) (by simp [g0])
 | none =>
  have e1:=aK3 kf (x.pats.length:Int) (eI p x);by_cases h15:x.op=15
  · have ev:aZ x.op= .iface 317 (.agg []) :=by unfold aZ;rw [kf];simp only [h15,if_true]
    rw [ev]at hko;have en:bD p x= (lH p x&&cS (x.pats.length:Int) 1 5&&x.pats.all (fJ p.cons) &&decide ((x.kids.length:Int) =1+ (x.pats.length:Int))) :=by
     simp only [bD,hX,lH,e1,if_pos h15,if_neg (show ¬x.op=14 by omega)]
    rw [en];have hi:=eJ (x.pats.length:Int) 1 5;cases g0:cS (x.pats.length:Int) 1 5 with
    | false=>
     rw [g0]at hi;exact Ends.eqv (aNI p x false hko hi rfl) (by simp)
    | true=>
     rw [g0]at hi;by_cases g1: (x.kids.length:Int) =1+ (x.pats.length:Int)
     · have b1: (((length x.kids:Nat) :Int) == ((1:Int) + ((length x.pats:Nat) :Int))) =true:=by simp [g1]
       cases g2:lH p x with
       | false=>
        rw [g2]at hn;exact Ends.eqv (aNG p x true false hko hi rfl sd b1 hn rfl) (by simp)
       | true=>
        rw [g2]at hn;refine(aNF p x true true hko hi rfl sd b1 hn rfl).ends ?_;exact Ends.eqv hl (by simp [g1])
     · have b1: (((length x.kids:Nat) :Int) == ((1:Int) + ((length x.pats:Nat) :Int))) =false:=by simp [g1]
       exact Ends.eqv (aNH p x true hko hi rfl sd b1) (by simp [g1])
  · by_cases h14:x.op=14
    · have ev:aZ x.op= .iface 335 (.agg []) :=by unfold aZ;rw [kf];simp [h14]
      rw [ev]at hko;have en:bD p x= (cS x.n 0 ((p.cons.length:Int) -1) &&decide (x.pats.length=0) &&x.pats.all (fJ p.cons) &&decide ((x.kids.length:Int) =eI p x)) :=by
       simp only [bD,hX,bW,e1,if_neg h15,if_pos h14,if_neg (show ¬x.op=1 by omega),if_neg (show ¬x.op=2 by omega),if_neg (show ¬x.op=4 by omega),if_neg (show ¬x.op=24 by omega)]
      rw [en];by_cases g0:x.pats.length=0
      · have hi:=eJ x.n 0 ((p.cons.length:Int) -1);rw [←hw]at hi;cases g1:cS x.n 0 ((p.cons.length:Int) -1)with
        | false=>
         rw [hw,g1,←hw]at hi;exact Ends.eqv (aNM p x false hko sd hi rfl) (by simp)
        | true=>
         rw [hw,g1,←hw]at hi;have hb:=inB_iff.1 g1;obtain⟨c,hcx⟩ :∃c,p.cons[x.n.toNat]?=some c:= ⟨_,List.getElem?_eq_getElem (by omega)⟩;have ea:eI p x=c.args:=by simp [eI,h14,g1,dW,hcx]
         rw [ea];by_cases g2: (x.kids.length:Int) =c.args
         · have b1: (((length x.kids:Nat) :Int) ==c.args) =true:=by simp [g2]
           have hnn:lH p x=true:=by simp [lH,h14]
           rw [hnn]at hn;refine(aNK p x true c true hko sd hi rfl (by omega) hcx b1 hn rfl).ends ?_;exact Ends.eqv hl (by simp [g0,g2])
         · have b1: (((length x.kids:Nat) :Int) ==c.args) =false:=by simp [g2]
           exact Ends.eqv (aNL p x true c hko sd hi rfl (by omega) hcx b1) (by simp [g2])
      ·exact Ends.eqv (aNJ p x hko sd) (by simp [g0])
    · have ev:aZ x.op= .nili:=by unfold aZ;rw [kf];simp [h15,h14]
      rw [ev]at hko;have en:bD p x=false:=by
       have:cT x.op x.pats.length (eI p x) = -1:=by rw [e1,if_neg h15,if_neg h14]
       have h2:¬ (x.kids.length:Int) = -1:=by omega
       simp [bD,this,h2]
      rw [en];exact aK0 p x hko
mutual
def aQC :Pat→List aB
 | .mk f _ t ps=>if f=2 then [t]else aL0 ps
def aL0 :List Pat→List aB
 | [] =>[]
 |p::ps=>aQC p++aL0 ps
end
end
end Go.Hb
