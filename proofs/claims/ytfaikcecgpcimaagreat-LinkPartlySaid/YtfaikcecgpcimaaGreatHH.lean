/- A machine on abstract values, its soundness, ways, plain laws. -/
import Derived.Test.YtfaikcecgpcimaaGreatHF
import Derived.Test.YtfaikcecgpcimaaGreatHG
set_option linter.defProp false
set_option linter.unusedVariables false
set_option linter.unusedSimpArgs false
set_option linter.unusedSectionVars false
set_option maxRecDepth 100000
set_option maxHeartbeats 4000000
namespace Go.Hb
open List (length map set)
open Go.Proofs Tryz
noncomputable section
def aDk (cons:List Int)(f n:Int) :Option Int:=if f=6 then(if 0≤n then cons[n.toNat]? else none)else some n
mutual
def aGG (cons:List Int) :Pat→Option Pat
 | .mk f n t ps=>match aDk cons f n with
  | some n'=>match jS cons ps with
   |some ps'=>some (.mk f n' t ps')
   |none=>none
  |none=>none
def jS (cons:List Int) :List Pat→Option (List Pat)
 | [] =>some []
 | p::ps=>match aGG cons p with
  | some p'=>match jS cons ps with
   |some ps'=>some (p'::ps')
   |none=>none
  |none=>none
end
def mN (funs cons:List Int)(op n:Int) :Option Int:=
 if op=4∧n<0 then
  match funs[(-1-n).toNat]? with
  |some g=>if -1000000000≤n∧ -1000000000≤g∧g≤1000000000 then some (-1-g)else none
  |none=>none
 else if op=14 then(if 0≤n then cons[n.toNat]? else none)else some n
def iR (f:Nat→Int→Option (List Node)) :Nat→List Int→Option (List Int×List Node)
 |_,[] =>some ([],[])
 | len,c::cs=>match f len c with
  | some ns=>match iR f (len+ns.length) cs with
   |some (ks,r) =>some ((len:Int) ::ks,ns++r)
   |none=>none
  |none=>none
def eQ (p:Prog)(funs cons:List Int) :Nat→Nat→Int→Option (List Node)
 |0,_,_=>none
 | k+1, len,at0=>if 0≤at0∧len<1000000 then
   match p.nodes[at0.toNat]? with
   | some y=>if y.kids.length<1000000∧bC y.pats<1000000 then
     match mN funs cons y.op y.n with
     | some n'=>match jS cons y.pats with
      | some ps'=>match iR (eQ p funs cons k) (len+1) y.kids with
       |some (ks,r) =>some (⟨y.op,n',ks,ps'⟩ ::r)
       |none=>none
      |none=>none
     |none=>none
    else none
   |none=>none
  else none
abbrev PA (p:Prog) :AV:=.agg [(.ilst 4 (map Node.av p.nodes) false),(.ilst 1 (map aQ p.funs) false),(.int .i64 p.main),(.ilst 2 (map Con.av p.cons) false)]
abbrev OL (L:List ONode) :AObj:=.lst 4 (map ONode.av L)
abbrev EndsL (s:TS)(L:List ONode) :Prop:=Ends PP 0 s.as (.ret (.gl 0 4 0 (length L) false)) (aE [(0,OL L,true)] 1)
def aUh (p:Prog)(funs cons:List Int)(c:Int)(L:List ONode)(ns:List Node) :Prop:=
 aCR PP (.enter 133 [.gl 0 4 0 (length L) false,PA p,.int .i64 c,.ilst 1 (map aQ funs) false,.ilst 1 (map aQ cons) false]) (aE [(0,OL L,true)] 1)
  (.ret (.gl 0 4 0 (length (L++map Node.o ns)) false)) (aE [(0,OL (L++map Node.o ns),true)] 1)
theorem nK (L:List ONode) : (OL L).kl:=aD _ (fun _=>aN _) _
theorem aGH (l:List ONode)(y:ONode)(r:List ONode) : (l++y::r)[((length l:Nat) :Int).toNat]?=some y:=by simp
theorem oW (l:List ONode)(y:ONode)(r:List ONode) : (l++y::r)[length l]?=some y:=by simp
theorem aMF (l:List ONode)(y z:ONode)(r:List ONode) :set (l++y::r) (((length l:Nat) :Int).toNat) z=l++z::r:=by simp
theorem oY (l:List ONode)(y z:ONode)(r:List ONode) :set (l++y::r) (length l) z=l++z::r:=by simp
theorem EndsL.of {s:TS}{L L':List ONode}(h:EndsL s L)(e:L=L') :EndsL s L':=e ▸ h
section
variable (p :Prog) (funs cons:List Int) (k:Nat) (ih:∀ (L:List ONode) (c:Int) (ns:List Node),eQ p funs cons k L.length c=some ns→aUh p funs cons c L ns)
 (l:List ONode) (at0 op n':Int) (ps':List Pat) (kids:List Int) (hkids:kids.length<1000000)
include ih hkids
end
theorem aGI {n:Int}(h0: -1000000000≤n)(h1:n≤1000000000) :IntKind.i64.wrap (-1-n) = -1-n:=sd
def numsL (a:Int) :Nat→List Int
 |0=>[]
 |n+1=>numsL a n++ [a+ (n:Int)]
theorem vE (a:Int) :∀n,(numsL a n).length=n
 |0=>rfl
 |n+1=>by simp [numsL,vE a n]
theorem aEV (a:Int) :∀ {n i:Nat},i<n→ (numsL a n)[i]?=some (a+ (i:Int))
 | n+1,i,h=>by
  rw [numsL];by_cases hi:i<n
  ·rw [List.getElem?_append_left (by rw [vE];exact hi),aEV a hi]
  · have:i=n:=by omega
    subst this;rw [List.getElem?_append_right (by rw [vE];omega),vE];simp
theorem dF {f:Nat}{args:List AV}{v:AV}{s:TS}(e: (start PP f args).as=s.as)(hb:lM PP f=true)(hk:AV.keylessL args=true)(hv:AV.keyless v=true)(he:Ends PP 0 s.as (.ret v) (aE [] 0)) :Pure PP f args v:=
 aP hb hk hv (by rw [e];exact he)
theorem aQ9 :Pure PP 226 [] (.ilst 1 (map aB kwL) false) :=
 dF (s:=aX0) (by kernel_rfl) (by kernel_rfl) rfl (by simp [AV.keyless]) aTQ
theorem aOt (s:aC) :Pure PP 167 [aB s] (.bool (bW kwL s)) :=
 aP (by kernel_rfl) rfl rfl (aP2 s kwL _ aQ9 (vB kwL s (by unfold kwL;simp)))
theorem aRa (s:aC)(l:List Nat){k n:Nat}(hk: (strOf l).length=k)(hn:aA (strOf l) =n) :bB (length s) (aA s) k n=decide (s=strOf l) :=by
 rw [←hk,←hn];exact bT s (strOf l)
theorem bX {s:aC}(l:List Nat){k n:Nat}(e:s=strOf l)(hk: (strOf l).length=k)(hn:aA (strOf l) =n) :bB (length s) (aA s) k n=true:=by rw [aRa s l hk hn];simp [e]
theorem dA {s:aC}(l:List Nat){k n:Nat}(e:¬s=strOf l)(hk: (strOf l).length=k)(hn:aA (strOf l) =n) :bB (length s) (aA s) k n=false:=by rw [aRa s l hk hn];simp [e]
theorem dD {l:List aC}{s:aC}(i:Nat){w:aC}(hi:l[i]?=some w)(e:s=w) :bW l s=true:=by
 unfold bW;exact List.any_eq_true.2 ⟨w,List.mem_of_getElem? hi,by simp [e]⟩
theorem aRb (s:aC) :Pure PP 165 [aB s] (.bool (bW kwL s)) :=by
 refine aP (by kernel_rfl) rfl rfl ?_;by_cases e0:s=strOf [98,111,111,108]
 ·rw [dD 0 (by kernel_rfl) e0];exact aTV s (bX _ e0 (by kernel_rfl) (by kernel_rfl))
 have n0:=dA (k:=4) (n:=1819242338) _ e0 (by kernel_rfl) (by kernel_rfl);by_cases e1:s=strOf [99,101,108,108]
 ·rw [dD 1 (by kernel_rfl) e1];exact aTW s n0 (bX _ e1 (by kernel_rfl) (by kernel_rfl))
 have n1:=dA (k:=4) (n:=1819043171) _ e1 (by kernel_rfl) (by kernel_rfl);by_cases e2:s=strOf [99,104,97,110]
 ·rw [dD 2 (by kernel_rfl) e2];exact aTX s n0 n1 (bX _ e2 (by kernel_rfl) (by kernel_rfl))
 have n2:=dA (k:=4) (n:=1851877475) _ e2 (by kernel_rfl) (by kernel_rfl);by_cases e3:s=strOf [101,108,115,101]
 ·rw [dD 3 (by kernel_rfl) e3];exact aTY s n0 n1 n2 (bX _ e3 (by kernel_rfl) (by kernel_rfl))
 have n3:=dA (k:=4) (n:=1702063205) _ e3 (by kernel_rfl) (by kernel_rfl);by_cases e4:s=strOf [102,97,108,115,101]
 ·rw [dD 4 (by kernel_rfl) e4];exact aTZ s n0 n1 n2 n3 (bX _ e4 (by kernel_rfl) (by kernel_rfl))
 have n4:=dA (k:=5) (n:=435728179558) _ e4 (by kernel_rfl) (by kernel_rfl);by_cases e5:s=strOf [102,117,110]
 ·rw [dD 5 (by kernel_rfl) e5];exact aT0 s n0 n1 n2 n3 n4 (bX _ e5 (by kernel_rfl) (by kernel_rfl))
 have n5:=dA (k:=3) (n:=7239014) _ e5 (by kernel_rfl) (by kernel_rfl);by_cases e6:s=strOf [103,101,116]
 ·rw [dD 6 (by kernel_rfl) e6];exact aT1 s n0 n1 n2 n3 n4 n5 (bX _ e6 (by kernel_rfl) (by kernel_rfl))
 have n6:=dA (k:=3) (n:=7628135) _ e6 (by kernel_rfl) (by kernel_rfl);by_cases e7:s=strOf [105,102]
 ·rw [dD 7 (by kernel_rfl) e7];exact aT2 s n0 n1 n2 n3 n4 n5 n6 (bX _ e7 (by kernel_rfl) (by kernel_rfl))
 have n7:=dA (k:=2) (n:=26217) _ e7 (by kernel_rfl) (by kernel_rfl);by_cases e8:s=strOf [105,110]
 ·rw [dD 8 (by kernel_rfl) e8];exact aT3 s n0 n1 n2 n3 n4 n5 n6 n7 (bX _ e8 (by kernel_rfl) (by kernel_rfl))
 have n8:=dA (k:=2) (n:=28265) _ e8 (by kernel_rfl) (by kernel_rfl);by_cases e9:s=strOf [105,110,112,117,116]
 ·rw [dD 9 (by kernel_rfl) e9];exact aT4 s n0 n1 n2 n3 n4 n5 n6 n7 n8 (bX _ e9 (by kernel_rfl) (by kernel_rfl))
 have n9:=dA (k:=5) (n:=500186508905) _ e9 (by kernel_rfl) (by kernel_rfl);by_cases e10:s=strOf [105,110,116]
 ·rw [dD 10 (by kernel_rfl) e10];exact aP3 s n0 n1 n2 n3 n4 n5 n6 n7 n8 n9 (bX _ e10 (by kernel_rfl) (by kernel_rfl))
 have n10:=dA (k:=3) (n:=7630441) _ e10 (by kernel_rfl) (by kernel_rfl);by_cases e11:s=strOf [106,111,105,110]
 ·rw [dD 11 (by kernel_rfl) e11];exact aP4 s n0 n1 n2 n3 n4 n5 n6 n7 n8 n9 n10 (bX _ e11 (by kernel_rfl) (by kernel_rfl))
 have n11:=dA (k:=4) (n:=1852403562) _ e11 (by kernel_rfl) (by kernel_rfl);by_cases e12:s=strOf [108,101,116]
 ·rw [dD 12 (by kernel_rfl) e12];exact aP5 s n0 n1 n2 n3 n4 n5 n6 n7 n8 n9 n10 n11 (bX _ e12 (by kernel_rfl) (by kernel_rfl))
 have n12:=dA (k:=3) (n:=7628140) _ e12 (by kernel_rfl) (by kernel_rfl);by_cases e13:s=strOf [109,97,116,99,104]
 ·rw [dD 13 (by kernel_rfl) e13];exact aP6 s n0 n1 n2 n3 n4 n5 n6 n7 n8 n9 n10 n11 n12 (bX _ e13 (by kernel_rfl) (by kernel_rfl))
 have n13:=dA (k:=5) (n:=448345170285) _ e13 (by kernel_rfl) (by kernel_rfl);by_cases e14:s=strOf [109,111,100,117,108,101]
 ·rw [dD 14 (by kernel_rfl) e14];exact aP7 s n0 n1 n2 n3 n4 n5 n6 n7 n8 n9 n10 n11 n12 n13 (bX _ e14 (by kernel_rfl) (by kernel_rfl))
 have n14:=dA (k:=6) (n:=111516500389741) _ e14 (by kernel_rfl) (by kernel_rfl);by_cases e15:s=strOf [111,117,116]
 ·rw [dD 15 (by kernel_rfl) e15];exact aP8 s n0 n1 n2 n3 n4 n5 n6 n7 n8 n9 n10 n11 n12 n13 n14 (bX _ e15 (by kernel_rfl) (by kernel_rfl))
 have n15:=dA (k:=3) (n:=7632239) _ e15 (by kernel_rfl) (by kernel_rfl);by_cases e16:s=strOf [112,97,117,115,101]
 ·rw [dD 16 (by kernel_rfl) e16];exact aP9 s n0 n1 n2 n3 n4 n5 n6 n7 n8 n9 n10 n11 n12 n13 n14 n15 (bX _ e16 (by kernel_rfl) (by kernel_rfl))
 have n16:=dA (k:=5) (n:=435728769392) _ e16 (by kernel_rfl) (by kernel_rfl);by_cases e17:s=strOf [112,117,116]
 ·rw [dD 17 (by kernel_rfl) e17];exact aQa s n0 n1 n2 n3 n4 n5 n6 n7 n8 n9 n10 n11 n12 n13 n14 n15 n16 (bX _ e17 (by kernel_rfl) (by kernel_rfl))
 have n17:=dA (k:=3) (n:=7632240) _ e17 (by kernel_rfl) (by kernel_rfl);by_cases e18:s=strOf [114,101,115,101,116]
 ·rw [dD 18 (by kernel_rfl) e18];exact aQb s n0 n1 n2 n3 n4 n5 n6 n7 n8 n9 n10 n11 n12 n13 n14 n15 n16 n17 (bX _ e18 (by kernel_rfl) (by kernel_rfl))
 have n18:=dA (k:=5) (n:=499918267762) _ e18 (by kernel_rfl) (by kernel_rfl);by_cases e19:s=strOf [115,101,110,100]
 ·rw [dD 19 (by kernel_rfl) e19];exact aQc s n0 n1 n2 n3 n4 n5 n6 n7 n8 n9 n10 n11 n12 n13 n14 n15 n16 n17 n18 (bX _ e19 (by kernel_rfl) (by kernel_rfl))
 have n19:=dA (k:=4) (n:=1684956531) _ e19 (by kernel_rfl) (by kernel_rfl);by_cases e20:s=strOf [115,104,105,102,116]
 ·rw [dD 20 (by kernel_rfl) e20];exact aQd s n0 n1 n2 n3 n4 n5 n6 n7 n8 n9 n10 n11 n12 n13 n14 n15 n16 n17 n18 n19 (bX _ e20 (by kernel_rfl) (by kernel_rfl))
 have n20:=dA (k:=5) (n:=499934390387) _ e20 (by kernel_rfl) (by kernel_rfl);by_cases e21:s=strOf [115,112,97,119,110]
 ·rw [dD 21 (by kernel_rfl) e21];exact aQe s n0 n1 n2 n3 n4 n5 n6 n7 n8 n9 n10 n11 n12 n13 n14 n15 n16 n17 n18 n19 n20 (bX _ e21 (by kernel_rfl) (by kernel_rfl))
 have n21:=dA (k:=5) (n:=474449277043) _ e21 (by kernel_rfl) (by kernel_rfl);by_cases e22:s=strOf [116,97,107,101]
 ·rw [dD 22 (by kernel_rfl) e22];exact aQf s n0 n1 n2 n3 n4 n5 n6 n7 n8 n9 n10 n11 n12 n13 n14 n15 n16 n17 n18 n19 n20 n21 (bX _ e22 (by kernel_rfl) (by kernel_rfl))
 have n22:=dA (k:=4) (n:=1701536116) _ e22 (by kernel_rfl) (by kernel_rfl);by_cases e23:s=strOf [116,97,115,107]
 ·rw [dD 23 (by kernel_rfl) e23];exact aQg s n0 n1 n2 n3 n4 n5 n6 n7 n8 n9 n10 n11 n12 n13 n14 n15 n16 n17 n18 n19 n20 n21 n22 (bX _ e23 (by kernel_rfl) (by kernel_rfl))
 have n23:=dA (k:=4) (n:=1802723700) _ e23 (by kernel_rfl) (by kernel_rfl);by_cases e24:s=strOf [116,104,101,110]
 ·rw [dD 24 (by kernel_rfl) e24];exact aQh s n0 n1 n2 n3 n4 n5 n6 n7 n8 n9 n10 n11 n12 n13 n14 n15 n16 n17 n18 n19 n20 n21 n22 n23 (bX _ e24 (by kernel_rfl) (by kernel_rfl))
 have n24:=dA (k:=4) (n:=1852139636) _ e24 (by kernel_rfl) (by kernel_rfl);by_cases e25:s=strOf [116,114,117,101]
 ·rw [dD 25 (by kernel_rfl) e25];exact aQi s n0 n1 n2 n3 n4 n5 n6 n7 n8 n9 n10 n11 n12 n13 n14 n15 n16 n17 n18 n19 n20 n21 n22 n23 n24 (bX _ e25 (by kernel_rfl) (by kernel_rfl))
 have n25:=dA (k:=4) (n:=1702195828) _ e25 (by kernel_rfl) (by kernel_rfl);by_cases e26:s=strOf [116,121,112,101]
 ·rw [dD 26 (by kernel_rfl) e26];exact aQj s n0 n1 n2 n3 n4 n5 n6 n7 n8 n9 n10 n11 n12 n13 n14 n15 n16 n17 n18 n19 n20 n21 n22 n23 n24 n25 (bX _ e26 (by kernel_rfl) (by kernel_rfl))
 have n26:=dA (k:=4) (n:=1701869940) _ e26 (by kernel_rfl) (by kernel_rfl);by_cases e27:s=strOf [117,110,105,116]
 ·rw [dD 27 (by kernel_rfl) e27];exact aQk s n0 n1 n2 n3 n4 n5 n6 n7 n8 n9 n10 n11 n12 n13 n14 n15 n16 n17 n18 n19 n20 n21 n22 n23 n24 n25 n26 (bX _ e27 (by kernel_rfl) (by kernel_rfl))
 have n27:=dA (k:=4) (n:=1953066613) _ e27 (by kernel_rfl) (by kernel_rfl);have hno:bW kwL s=false:=by
  unfold bW kwL;simp only [List.any_cons,List.any_nil,Bool.or_false,Bool.or_eq_false_iff,decide_eq_false_iff_not];exact⟨fun h=>e0 h.symm,fun h=>e1 h.symm,fun h=>e2 h.symm,fun h=>e3 h.symm,fun h=>e4 h.symm,fun h=>e5 h.symm,fun h=>e6 h.symm,fun h=>e7 h.symm,fun h=>e8 h.symm,fun h=>e9 h.symm,fun h=>e10 h.symm,fun h=>e11 h.symm,fun h=>e12 h.symm,fun h=>e13 h.symm,fun h=>e14 h.symm,fun h=>e15 h.symm,fun h=>e16 h.symm,fun h=>e17 h.symm,fun h=>e18 h.symm,fun h=>e19 h.symm,fun h=>e20 h.symm,fun h=>e21 h.symm,fun h=>e22 h.symm,fun h=>e23 h.symm,fun h=>e24 h.symm,fun h=>e25 h.symm,fun h=>e26 h.symm,fun h=>e27 h.symm⟩
 rw [hno];exact aQl s n0 n1 n2 n3 n4 n5 n6 n7 n8 n9 n10 n11 n12 n13 n14 n15 n16 n17 n18 n19 n20 n21 n22 n23 n24 n25 n26 n27
def lG (s:aC) :Bool:=decide (1≤s.length) &&decide (s.length≤8) &&fH s&& !bW kwL s
theorem aDl (s:aC) :Pure PP 86 [aB s] (.bool (lG s)) :=by
 refine aP (by kernel_rfl) rfl rfl ?_;unfold lG;by_cases h1:1≤s.length
 · by_cases h2:s.length≤8
   · have hS:=aBD s (by omega);cases h3:fH s with
     | true=>
      rw [h3]at hS;have:=aTR s true _ sd sd hS rfl (aOt s);simpa [h1,h2]using this
     | false=>
      rw [h3]at hS;have:=aTS s false sd sd hS rfl;simpa [h1,h2]using this
   · have:=aTT s sd sd;simpa [h1,h2]using this
 · have:=aTU s sd;simpa [h1]using this
theorem aDm (s:aC) :Pure PP 85 [aB s] (.bool (lG s)) :=by
 refine aP (by kernel_rfl) rfl rfl ?_;unfold lG;by_cases h1:s= []
 · subst h1;have:=aT8 [] (by rfl);simpa using this
 · have hpos:1≤s.length:=by cases s with
    |nil=>exact absurd rfl h1
    |cons _ _=>simp
   have h0: (!(bB (length s) (aA s) 0 0)) =true:=by
    have:=dA (k:=0) (n:=0) (s:=s) [] h1 rfl rfl;rw [this];rfl
   by_cases h2:s.length≤8
   · have hS:=aBI s;cases h3:fH s with
     | true=>
      rw [h3]at hS;have:=aT5 s true _ h0 sd hS rfl (aRb s);simpa [hpos,h2]using this
     | false=>
      rw [h3]at hS;have:=aT6 s false h0 sd hS rfl;simpa [hpos,h2]using this
   · have:=aT7 s h0 sd;simpa [hpos,h2]using this
theorem sdW {p:Prop}(h:p:=by simp_all only [inB_iff,inB_not,beq_iff_eq,decide_eq_true_eq,decide_eq_false_iff_not] <;>omega) :p:=h
theorem idW {p:Prop}(h:p:=by exact⟨_,List.getElem?_eq_getElem (by simp_all only [inB_iff,inB_not,beq_iff_eq,decide_eq_true_eq,decide_eq_false_iff_not] <;>omega)⟩) :p:=h
theorem aEW (l:List Pat)(p:Prog)(hl:l.length<1000000)(ih:∀q∈l,Pure PP 282 [Prog.av p,Pat.av q] (.bool (cT p.cons q))) :
  ∀ (t:List Pat) (i:Nat),l.drop i=t→Ends PP 0 (aB4 l p (i:Int)).as (.ret (.bool (bS p.cons t))) (aE [] 0)
 | [],i,h=>by
  have:=aT h;exact Ends.eqv (aQT l p i sd) (by simp [bS])
 | .mk f n s ps::t,i,h=>by
  obtain⟨g1,g2,g3⟩ :=aR h;have hq:=ih (.mk f n s ps) (List.mem_of_getElem? g1);cases k:cT p.cons (.mk f n s ps)with
  | false=>
   rw [k]at hq;exact Ends.eqv (aQR l p i f n s ps false sd sd sd hq rfl) (by simp [bS,k])
  | true=>
   rw [k]at hq;refine(aQS l p i f n s ps true sd sd sd hq rfl sd).ends ?_;exact Ends.eqv (aEW l p hl ih t (i+1) g2) (by simp [bS,k])
theorem aOu (l:List Pat)(p:Prog)(hl:l.length<1000000)(ih:∀q∈l,Pure PP 282 [Prog.av p,Pat.av q] (.bool (cT p.cons q))) :
  Pure PP 284 [.ilst 4 (Pats.av l) false,.func 282 [Prog.av p] []] (.bool (bS p.cons l)) :=
 aP (by kernel_rfl) (by simp [AV.keylessL,AV.keyless,Prog.av]) rfl ((aQQ l p).ends (aEW l p hl ih l 0 rfl))
theorem aZg (p:Prog)(q_form q_n:Int)(q_text:aC)(q_parts:List Pat)(hc:p.cons.length≤1000)(hev:Pure PP 284 [.ilst 4 (Pats.av q_parts) false,.func 282 [Prog.av p] []] (.bool (bS p.cons q_parts))) :
  Ends PP 0 (start PP 282 [Prog.av p,Pat.av (.mk q_form q_n q_text q_parts)]).as (.ret (.bool (cT p.cons (.mk q_form q_n q_text q_parts)))) (aE [] 0) :=by
 have hw:IntKind.i64.wrap ((p.cons.length:Int) -1) = (p.cons.length:Int) -1:=by apply wrap64<;>omega
 cases hb1: (!(bB (length q_text) (aA q_text) 0 0))with
 | true=>
  exact Ends.eqv (aQG p q_form q_n q_text q_parts   hb1) (by clear hev;simp_all [cT,cZ,eA,cQ,eX] <;>rfl)
 | false =>
  cases hb2: (!(bS p.cons q_parts))with
  | true=>
   exact Ends.eqv (aQH p q_form q_n q_text q_parts  (bS p.cons q_parts) hb1 hev hb2) (by clear hev;simp_all [cT,cZ,eA,cQ,eX] <;>rfl)
  | false =>
   cases hb3: (q_form== (1:Int))with
   | true=>
    cases hb4: (q_n== (0:Int))with
    | true=>
     exact Ends.eqv (aQI p q_form q_n q_text q_parts  (bS p.cons q_parts) hb1 hev hb2 hb3 hb4) (by clear hev;simp_all [cT,cZ,eA,cQ,eX] <;>rfl)
    | false=>
     exact Ends.eqv (aQJ p q_form q_n q_text q_parts  (bS p.cons q_parts) hb1 hev hb2 hb3 hb4) (by clear hev;simp_all [cT,cZ,eA,cQ,eX] <;>rfl)
   | false =>
    cases hb5: (q_form== (2:Int))with
    | true=>
     cases hb6: (q_n== (0:Int))with
     | true=>
      exact Ends.eqv (aQK p q_form q_n q_text q_parts  (bS p.cons q_parts) hb1 hev hb2 hb3 hb5 hb6) (by clear hev;simp_all [cT,cZ,eA,cQ,eX] <;>rfl)
     | false=>
      exact Ends.eqv (aQL p q_form q_n q_text q_parts  (bS p.cons q_parts) hb1 hev hb2 hb3 hb5 hb6) (by clear hev;simp_all [cT,cZ,eA,cQ,eX] <;>rfl)
    | false=>
     cases hb7: (q_form== (5:Int))with
     | true=>
      cases hb8: (q_n== (0:Int))with
      | true=>
       exact Ends.eqv (aQM p q_form q_n q_text q_parts  (bS p.cons q_parts) hb1 hev hb2 hb3 hb5 hb7 hb8) (by clear hev;simp_all [cT,cZ,eA,cQ,eX] <;>rfl)
      | false=>
       exact Ends.eqv (aQN p q_form q_n q_text q_parts  (bS p.cons q_parts) hb1 hev hb2 hb3 hb5 hb7 hb8) (by clear hev;simp_all [cT,cZ,eA,cQ,eX] <;>rfl)
     | false=>
      cases hb9: (q_form== (3:Int))with
      | true=>
       cases hb10: (dB q_n (-1000000000) 1000000000)with
       | true=>
        exact Ends.eqv (aQO p q_form q_n q_text q_parts  (bS p.cons q_parts) (dB q_n (-1000000000) 1000000000) hb1 hev hb2 hb3 hb5 hb7 hb9 (aA3 q_n) hb10) (by clear hev;simp_all [cT,cZ,eA,cQ,eX] <;>rfl)
       | false=>
        exact Ends.eqv (aQP p q_form q_n q_text q_parts  (bS p.cons q_parts) (dB q_n (-1000000000) 1000000000) hb1 hev hb2 hb3 hb5 hb7 hb9 (aA3 q_n) hb10) (by clear hev;simp_all [cT,cZ,eA,cQ,eX] <;>rfl)
      | false=>
       cases hb11: (q_form== (4:Int))with
       | true=>
        cases hb12: (dB q_n 0 1)with
        | true=>
         exact Ends.eqv (aN8 p q_form q_n q_text q_parts  (bS p.cons q_parts) (dB q_n 0 1) hb1 hev hb2 hb3 hb5 hb7 hb9 hb11 (eO q_n 0 1) hb12) (by clear hev;simp_all [cT,cZ,eA,cQ,eX] <;>rfl)
        | false=>
         exact Ends.eqv (aN9 p q_form q_n q_text q_parts  (bS p.cons q_parts) (dB q_n 0 1) hb1 hev hb2 hb3 hb5 hb7 hb9 hb11 (eO q_n 0 1) hb12) (by clear hev;simp_all [cT,cZ,eA,cQ,eX] <;>rfl)
       | false=>
        cases hb13: (q_form== (6:Int))with
        | true=>
         cases hb14: (dB q_n 0 (IntKind.i64.wrap (((length p.cons:Nat) :Int) - (1:Int))))with
         | true=>
          obtain⟨y2,hx15⟩ :∃y,((p.cons)[q_n.toNat]?) =some y:=idW;exact Ends.eqv (aOa p q_form q_n q_text q_parts  (bS p.cons q_parts) (dB q_n 0 (IntKind.i64.wrap (((length p.cons:Nat) :Int) - (1:Int)))) y2 hb1 hev hb2 hb3 hb5 hb7 hb9 hb11 hb13 (eO q_n 0 (IntKind.i64.wrap (((length p.cons:Nat) :Int) - (1:Int)))) hb14 sdW hx15) (by clear hev;simp_all [cT,cZ,eA,cQ,eX] <;>rfl)
         | false=>
          exact Ends.eqv (aOb p q_form q_n q_text q_parts  (bS p.cons q_parts) (dB q_n 0 (IntKind.i64.wrap (((length p.cons:Nat) :Int) - (1:Int)))) hb1 hev hb2 hb3 hb5 hb7 hb9 hb11 hb13 (eO q_n 0 (IntKind.i64.wrap (((length p.cons:Nat) :Int) - (1:Int)))) hb14) (by clear hev;simp_all [cT,cZ,eA,cQ,eX] <;>rfl)
        | false=>
         exact Ends.eqv (aOc p q_form q_n q_text q_parts  (bS p.cons q_parts) hb1 hev hb2 hb3 hb5 hb7 hb9 hb11 hb13) (by clear hev;simp_all [cT,cZ,eA,cQ,eX] <;>rfl)
mutual
theorem aEX (p:Prog)(hc:p.cons.length≤1000) :∀ (q:Pat),cL q<1000000→Pure PP 282 [Prog.av p,Pat.av q] (.bool (cT p.cons q))
 | .mk f n s ps,h=>by
  refine aP (by kernel_rfl) (by simp [AV.keylessL,mJ,AV.keyless,Prog.av]) rfl ?_;simp only [cL]at h;have:=eP ps;exact aZg p f n s ps hc (aOu ps p (by omega) (aJe p hc ps (by omega)))
theorem aJe (p:Prog)(hc:p.cons.length≤1000) :∀ (ps:List Pat),bC ps<1000000→∀q∈ps,Pure PP 282 [Prog.av p,Pat.av q] (.bool (cT p.cons q))
 | [],_,q,hq=>by cases hq
 | r::ps,h,q,hq=>by
  simp only [bC]at h;rcases List.mem_cons.1 hq with e|hq
  ·rw [e];exact aEX p hc r (by omega)
  ·exact aJe p hc ps (by omega) q hq
end
def cC (op:Int) :Option Int:=
 if op=1∨op=2∨op=3∨op=4∨op=21∨op=25∨op=28 then some 0
 else if op=5∨op=27∨op=16∨op=17∨op=19∨op=20∨op=23∨op=26∨op=24 then some 1
 else if op=6∨op=7∨op=9∨op=10∨op=11∨op=12∨op=13∨op=18∨op=22 then some 2
 else if op=8 then some 3 else none
def bA (op:Int) :AV:=
 match cC op with
 |some k=>.iface 334 (.int .i64 k)
 |none=>if op=15 then .iface 317 (.agg [])else if op=14 then .iface 335 (.agg [])else .nili
theorem aJf {op k:Int}(h:cC op=some k)(pats args:Int) :cS op pats args=k∧op≠15∧op≠14:=by
 unfold cC at h;unfold cS;split at h
 ·rename_i g;rw [if_pos g];simp only [Option.some.injEq]at h;refine⟨h,?_,?_⟩ <;>omega
 · rename_i g0;rw [if_neg g0];split at h
   ·rename_i g;rw [if_pos g];simp only [Option.some.injEq]at h;refine⟨h,?_,?_⟩ <;>omega
   · rename_i g1;rw [if_neg g1];split at h
     ·rename_i g;rw [if_pos g];simp only [Option.some.injEq]at h;refine⟨h,?_,?_⟩ <;>omega
     · rename_i g2;rw [if_neg g2];split at h
       ·rename_i g;rw [if_pos g];simp only [Option.some.injEq]at h;refine⟨h,?_,?_⟩ <;>omega
       ·cases h
theorem aLC {op:Int}(h:cC op=none)(pats args:Int) :cS op pats args=if op=15 then 1+pats else if op=14 then args else -1:=by
 unfold cC at h;unfold cS;split at h
 ·cases h
 · rename_i g0;rw [if_neg g0];split at h
   ·cases h
   · rename_i g1;rw [if_neg g1];split at h
     ·cases h
     · rename_i g2;rw [if_neg g2];split at h
       ·cases h
       ·rename_i g;rw [if_neg g]
theorem bKidsOf_E (op : Int) :Ends PP 0 (start PP 279 [.int .i64 op]).as (.ret (bA op)) (aE [] 0) :=by
 cases hb1: (op== (1:Int))with
 | true=>
  exact Ends.eqv (aII op   hb1) (by simp_all [bA,cC])
 | false =>
  cases hb2: (op== (2:Int))with
  | true=>
   exact Ends.eqv (aIJ op   hb1 hb2) (by simp_all [bA,cC])
  | false =>
   cases hb3: (op== (3:Int))with
   | true=>
    exact Ends.eqv (aIK op   hb1 hb2 hb3) (by simp_all [bA,cC])
   | false =>
    cases hb4: (op== (4:Int))with
    | true=>
     exact Ends.eqv (aIL op   hb1 hb2 hb3 hb4) (by simp_all [bA,cC])
    | false =>
     cases hb5: (op== (21:Int))with
     | true=>
      exact Ends.eqv (aIM op   hb1 hb2 hb3 hb4 hb5) (by simp_all [bA,cC])
     | false =>
      cases hb6: (op== (25:Int))with
      | true=>
       exact Ends.eqv (aIN op   hb1 hb2 hb3 hb4 hb5 hb6) (by simp_all [bA,cC])
      | false =>
       cases hb7: (op== (28:Int))with
       | true=>
        exact Ends.eqv (aIO op   hb1 hb2 hb3 hb4 hb5 hb6 hb7) (by simp_all [bA,cC])
       | false =>
        cases hb8: (op== (5:Int))with
        | true=>
         exact Ends.eqv (aIP op   hb1 hb2 hb3 hb4 hb5 hb6 hb7 hb8) (by simp_all [bA,cC])
        | false =>
         cases hb9: (op== (27:Int))with
         | true=>
          exact Ends.eqv (aIQ op   hb1 hb2 hb3 hb4 hb5 hb6 hb7 hb8 hb9) (by simp_all [bA,cC])
         | false =>
          cases hb10: (op== (16:Int))with
          | true=>
           exact Ends.eqv (aIR op   hb1 hb2 hb3 hb4 hb5 hb6 hb7 hb8 hb9 hb10) (by simp_all [bA,cC])
          | false =>
           cases hb11: (op== (17:Int))with
           | true=>
            exact Ends.eqv (aGl op   hb1 hb2 hb3 hb4 hb5 hb6 hb7 hb8 hb9 hb10 hb11) (by simp_all [bA,cC])
           | false =>
            cases hb12: (op== (19:Int))with
            | true=>
             exact Ends.eqv (aGm op   hb1 hb2 hb3 hb4 hb5 hb6 hb7 hb8 hb9 hb10 hb11 hb12) (by simp_all [bA,cC])
            | false =>
             cases hb13: (op== (20:Int))with
             | true=>
              exact Ends.eqv (aGn op   hb1 hb2 hb3 hb4 hb5 hb6 hb7 hb8 hb9 hb10 hb11 hb12 hb13) (by simp_all [bA,cC])
             | false =>
              cases hb14: (op== (23:Int))with
              | true=>
               exact Ends.eqv (aGo op   hb1 hb2 hb3 hb4 hb5 hb6 hb7 hb8 hb9 hb10 hb11 hb12 hb13 hb14) (by simp_all [bA,cC])
              | false =>
               cases hb15: (op== (24:Int))with
               | true=>
                exact Ends.eqv (aGp op   hb1 hb2 hb3 hb4 hb5 hb6 hb7 hb8 hb9 hb10 hb11 hb12 hb13 hb14 hb15) (by simp_all [bA,cC])
               | false =>
                cases hb16: (op== (26:Int))with
                | true=>
                 exact Ends.eqv (aGq op   hb1 hb2 hb3 hb4 hb5 hb6 hb7 hb8 hb9 hb10 hb11 hb12 hb13 hb14 hb15 hb16) (by simp_all [bA,cC])
                | false =>
                 cases hb17: (op== (6:Int))with
                 | true=>
                  exact Ends.eqv (aGr op   hb1 hb2 hb3 hb4 hb5 hb6 hb7 hb8 hb9 hb10 hb11 hb12 hb13 hb14 hb15 hb16 hb17) (by simp_all [bA,cC])
                 | false =>
                  cases hb18: (op== (7:Int))with
                  | true=>
                   exact Ends.eqv (aGs op   hb1 hb2 hb3 hb4 hb5 hb6 hb7 hb8 hb9 hb10 hb11 hb12 hb13 hb14 hb15 hb16 hb17 hb18) (by simp_all [bA,cC])
                  | false =>
                   cases hb19: (op== (9:Int))with
                   | true=>
                    exact Ends.eqv (aGt op   hb1 hb2 hb3 hb4 hb5 hb6 hb7 hb8 hb9 hb10 hb11 hb12 hb13 hb14 hb15 hb16 hb17 hb18 hb19) (by simp_all [bA,cC])
                   | false =>
                    cases hb20: (op== (10:Int))with
                    | true=>
                     exact Ends.eqv (aGu op   hb1 hb2 hb3 hb4 hb5 hb6 hb7 hb8 hb9 hb10 hb11 hb12 hb13 hb14 hb15 hb16 hb17 hb18 hb19 hb20) (by simp_all [bA,cC])
                    | false =>
                     cases hb21: (op== (11:Int))with
                     | true=>
                      exact Ends.eqv (aGv op   hb1 hb2 hb3 hb4 hb5 hb6 hb7 hb8 hb9 hb10 hb11 hb12 hb13 hb14 hb15 hb16 hb17 hb18 hb19 hb20 hb21) (by simp_all [bA,cC])
                     | false =>
                      cases hb22: (op== (12:Int))with
                      | true=>
                       exact Ends.eqv (aGw op   hb1 hb2 hb3 hb4 hb5 hb6 hb7 hb8 hb9 hb10 hb11 hb12 hb13 hb14 hb15 hb16 hb17 hb18 hb19 hb20 hb21 hb22) (by simp_all [bA,cC])
                      | false =>
                       cases hb23: (op== (13:Int))with
                       | true=>
                        exact Ends.eqv (aGx op   hb1 hb2 hb3 hb4 hb5 hb6 hb7 hb8 hb9 hb10 hb11 hb12 hb13 hb14 hb15 hb16 hb17 hb18 hb19 hb20 hb21 hb22 hb23) (by simp_all [bA,cC])
                       | false=>
                        cases hb24: (op== (18:Int))with
                        | true=>
                         exact Ends.eqv (aGy op   hb1 hb2 hb3 hb4 hb5 hb6 hb7 hb8 hb9 hb10 hb11 hb12 hb13 hb14 hb15 hb16 hb17 hb18 hb19 hb20 hb21 hb22 hb23 hb24) (by simp_all [bA,cC])
                        | false=>
                         cases hb25: (op== (22:Int))with
                         | true=>
                          exact Ends.eqv (aGz op   hb1 hb2 hb3 hb4 hb5 hb6 hb7 hb8 hb9 hb10 hb11 hb12 hb13 hb14 hb15 hb16 hb17 hb18 hb19 hb20 hb21 hb22 hb23 hb24 hb25) (by simp_all [bA,cC])
                         | false=>
                          cases hb26: (op== (8:Int))with
                          | true=>
                           exact Ends.eqv (aGA op   hb1 hb2 hb3 hb4 hb5 hb6 hb7 hb8 hb9 hb10 hb11 hb12 hb13 hb14 hb15 hb16 hb17 hb18 hb19 hb20 hb21 hb22 hb23 hb24 hb25 hb26) (by simp_all [bA,cC])
                          | false=>
                           cases hb27: (op== (14:Int))with
                           | true=>
                            exact Ends.eqv (aGB op   hb1 hb2 hb3 hb4 hb5 hb6 hb7 hb8 hb9 hb10 hb11 hb12 hb13 hb14 hb15 hb16 hb17 hb18 hb19 hb20 hb21 hb22 hb23 hb24 hb25 hb26 hb27) (by simp_all [bA,cC])
                           | false=>
                            cases hb28: (op== (15:Int))with
                            | true=>
                             exact Ends.eqv (aGC op   hb1 hb2 hb3 hb4 hb5 hb6 hb7 hb8 hb9 hb10 hb11 hb12 hb13 hb14 hb15 hb16 hb17 hb18 hb19 hb20 hb21 hb22 hb23 hb24 hb25 hb26 hb27 hb28) (by simp_all [bA,cC])
                            | false=>
                             exact Ends.eqv (aGD op   hb1 hb2 hb3 hb4 hb5 hb6 hb7 hb8 hb9 hb10 hb11 hb12 hb13 hb14 hb15 hb16 hb17 hb18 hb19 hb20 hb21 hb22 hb23 hb24 hb25 hb26 hb27 hb28) (by simp_all [bA,cC])
theorem aLD (op:Int) :AV.keyless (bA op) =true:=by
 unfold bA;split
 ·rfl
 · split
   ·rfl
   ·split<;>rfl
theorem aGJ (op:Int) :Pure PP 279 [.int .i64 op] (bA op) :=
 aP (by kernel_rfl) rfl (aLD op) (bKidsOf_E op)
theorem aDn (p:Prog)(x:Node)(hc:p.cons.length≤1000)(hx:x.pats.length≤10) :
  ∀ (t:List Pat) (i:Nat),x.pats.drop i=t→Ends PP 0 (oV p x (i:Int)).as (.ret (.bool (t.all (fP p.cons)))) (aE [] 0)
 | [],i,h=>by
  have:=aT h;exact Ends.eqv (aOp p x i sd) (by simp)
 | .mk f n s ps::t,i,h=>by
  obtain⟨g1,g2,g3⟩ :=aR h;have hs:=aDj (.mk f n s ps) 12 (by omega) (by omega);by_cases k:cL (.mk f n s ps) ≤12
  · have hg:mM (.mk f n s ps) 12≤12:= (aET (.mk f n s ps) 12 (by omega)).2 (by omega);have hq:=aEX p hc (.mk f n s ps) (by omega);cases kq:cT p.cons (.mk f n s ps)with
    | false=>
     rw [kq]at hq;exact Ends.eqv (aOm p x i f n s ps _ false sd sd sd hs (decide_eq_true hg) hq rfl) (by simp [fP,kq])
    | true=>
     rw [kq]at hq;refine(aOn p x i f n s ps _ true sd sd sd hs (decide_eq_true hg) hq rfl sd).ends ?_;exact Ends.eqv (aDn p x hc hx t (i+1) g2) (by simp [fP,k,kq])
  · have hg:¬mM (.mk f n s ps) 12≤12:=fun g=>k (by have:= (aET (.mk f n s ps) 12 (by omega)).1 g;omega);exact Ends.eqv (aOo p x i f n s ps _ sd sd sd hs (decide_eq_false hg)) (by simp [fP,k])
theorem aLE (p:Prog)(x:Node)(hc:p.cons.length≤1000)(hf:p.funs.length≤1000)(hx:x.pats.length≤10)(hk:x.kids.length≤10) :Pure PP 248 [Prog.av p,Node.av x] (.bool (bR p x)) :=by
 refine aP (by kernel_rfl) rfl rfl ?_;have hw:IntKind.i64.wrap ((p.cons.length:Int) -1) = (p.cons.length:Int) -1:=by apply wrap64<;>omega
 have hko:=aGJ x.op;have hn:=aGF p x hf;have hl:=aDn p x hc hx x.pats 0 rfl;cases kf:cC x.op with
 | some k=>
  obtain⟨e1,e2,e3⟩ :=aJf kf (x.pats.length:Int) (jH p x);have ev:bA x.op= .iface 334 (.int .i64 k) :=by unfold bA;rw [kf]
  rw [ev]at hko;have en:bR p x= (lF p x&&decide (x.pats.length=0) &&x.pats.all (fP p.cons) &&decide ((x.kids.length:Int) =k)) :=by
   simp only [bR,jG,lF,e1,if_neg e2,if_neg e3]
  rw [en];by_cases g0:x.pats.length=0
  · by_cases g1: (x.kids.length:Int) =k
    · have b1: (((length x.kids:Nat) :Int) ==k) =true:=by simp [g1]
      cases g2:lF p x with
      | false=>
       rw [g2]at hn;exact Ends.eqv (aLx p x k false hko sd b1 hn rfl) (by simp)
      | true=>
       rw [g2]at hn;refine(aLw p x k true hko sd b1 hn rfl).ends ?_;exact Ends.eqv hl (by simp [g0,g1])
    · have b1: (((length x.kids:Nat) :Int) ==k) =false:=by simp [g1]
      exact Ends.eqv (aLy p x k hko sd b1) (by simp [g1])
  ·exact Ends.eqv (aOl p x k hko sd) (by simp [g0])
 | none =>
  have e1:=aLC kf (x.pats.length:Int) (jH p x);by_cases h15:x.op=15
  · have ev:bA x.op= .iface 317 (.agg []) :=by unfold bA;rw [kf];simp only [h15,if_true]
    rw [ev]at hko;have en:bR p x= (lF p x&&dB (x.pats.length:Int) 1 5&&x.pats.all (fP p.cons) &&decide ((x.kids.length:Int) =1+ (x.pats.length:Int))) :=by
     simp only [bR,jG,lF,e1,if_pos h15,if_neg (show ¬x.op=14 by omega)]
    rw [en];have hi:=eO (x.pats.length:Int) 1 5;cases g0:dB (x.pats.length:Int) 1 5 with
    | false=>
     rw [g0]at hi;exact Ends.eqv (aOg p x false hko hi rfl) (by simp)
    | true=>
     rw [g0]at hi;by_cases g1: (x.kids.length:Int) =1+ (x.pats.length:Int)
     · have b1: (((length x.kids:Nat) :Int) == ((1:Int) + ((length x.pats:Nat) :Int))) =true:=by simp [g1]
       cases g2:lF p x with
       | false=>
        rw [g2]at hn;exact Ends.eqv (aOe p x true false hko hi rfl sd b1 hn rfl) (by simp)
       | true=>
        rw [g2]at hn;refine(aOd p x true true hko hi rfl sd b1 hn rfl).ends ?_;exact Ends.eqv hl (by simp [g1])
     · have b1: (((length x.kids:Nat) :Int) == ((1:Int) + ((length x.pats:Nat) :Int))) =false:=by simp [g1]
       exact Ends.eqv (aOf p x true hko hi rfl sd b1) (by simp [g1])
  · by_cases h14:x.op=14
    · have ev:bA x.op= .iface 335 (.agg []) :=by unfold bA;rw [kf];simp [h14]
      rw [ev]at hko;have en:bR p x= (dB x.n 0 ((p.cons.length:Int) -1) &&decide (x.pats.length=0) &&x.pats.all (fP p.cons) &&decide ((x.kids.length:Int) =jH p x)) :=by
       simp only [bR,jG,dC,e1,if_neg h15,if_pos h14,if_neg (show ¬x.op=1 by omega),if_neg (show ¬x.op=2 by omega),if_neg (show ¬x.op=4 by omega),if_neg (show ¬x.op=24 by omega)]
      rw [en];by_cases g0:x.pats.length=0
      · have hi:=eO x.n 0 ((p.cons.length:Int) -1);rw [←hw]at hi;cases g1:dB x.n 0 ((p.cons.length:Int) -1)with
        | false=>
         rw [hw,g1,←hw]at hi;exact Ends.eqv (aOk p x false hko sd hi rfl) (by simp)
        | true=>
         rw [hw,g1,←hw]at hi;have hb:=inB_iff.1 g1;obtain⟨c,hcx⟩ :∃c,p.cons[x.n.toNat]?=some c:= ⟨_,List.getElem?_eq_getElem (by omega)⟩;have ea:jH p x=c.args:=by simp [jH,h14,g1,eA,hcx]
         rw [ea];by_cases g2: (x.kids.length:Int) =c.args
         · have b1: (((length x.kids:Nat) :Int) ==c.args) =true:=by simp [g2]
           have hnn:lF p x=true:=by simp [lF,h14]
           rw [hnn]at hn;refine(aOi p x true c true hko sd hi rfl (by omega) hcx b1 hn rfl).ends ?_;exact Ends.eqv hl (by simp [g0,g2])
         · have b1: (((length x.kids:Nat) :Int) ==c.args) =false:=by simp [g2]
           exact Ends.eqv (aOj p x true c hko sd hi rfl (by omega) hcx b1) (by simp [g2])
      ·exact Ends.eqv (aOh p x hko sd) (by simp [g0])
    · have ev:bA x.op= .nili:=by unfold bA;rw [kf];simp [h15,h14]
      rw [ev]at hko;have en:bR p x=false:=by
       have:cS x.op x.pats.length (jH p x) = -1:=by rw [e1,if_neg h15,if_neg h14]
       have h2:¬ (x.kids.length:Int) = -1:=by omega
       simp [bR,this,h2]
      rw [en];exact aLz p x hko
mutual
def aRc :Pat→List aC
 | .mk f _ t ps=>if f=2 then [t]else aMG ps
def aMG :List Pat→List aC
 | [] =>[]
 |p::ps=>aRc p++aMG ps
end
end
end Go.Hb
