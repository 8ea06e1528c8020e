/- A machine on abstract values, its soundness, ways, plain laws. -/
import Derived.Test.YtfaikcecgpcimaaGreatHF
import Derived.Test.YtfaikcecgpcimaaGreatHG
set_option linter.defProp false
set_option linter.unusedVariables false
set_option linter.unusedSimpArgs false
set_option linter.unusedSectionVars false
set_option maxRecDepth 100000
set_option maxHeartbeats 4000000
namespace Go.Hb
open List (length map set)
open Go.Proofs Tryz
noncomputable section
def aDp (cons:List Int)(f n:Int) :Option Int:=if f=6 then(if 0≤n then cons[n.toNat]? else none)else some n
mutual
def aGG (cons:List Int) :Pat→Option Pat
 | .mk f n t ps=>match aDp cons f n with
  | some n'=>match jU cons ps with
   |some ps'=>some (.mk f n' t ps')
   |none=>none
  |none=>none
def jU (cons:List Int) :List Pat→Option (List Pat)
 | [] =>some []
 | p::ps=>match aGG cons p with
  | some p'=>match jU cons ps with
   |some ps'=>some (p'::ps')
   |none=>none
  |none=>none
end
def mN (funs cons:List Int)(op n:Int) :Option Int:=
 if op=4∧n<0 then
  match funs[(-1-n).toNat]? with
  |some g=>if -1000000000≤n∧ -1000000000≤g∧g≤1000000000 then some (-1-g)else none
  |none=>none
 else if op=14 then(if 0≤n then cons[n.toNat]? else none)else some n
def nA (f:Nat→Int→Option (List Node)) :Nat→List Int→Option (List Int×List Node)
 |_,[] =>some ([],[])
 | len,c::cs=>match f len c with
  | some ns=>match nA f (len+ns.length) cs with
   |some (ks,r) =>some ((len:Int) ::ks,ns++r)
   |none=>none
  |none=>none
def dR (p:Prog)(funs cons:List Int) :Nat→Nat→Int→Option (List Node)
 |0,_,_=>none
 | k+1, len,at0=>if 0≤at0∧len<1000000 then
   match p.nodes[at0.toNat]? with
   | some y=>if y.kids.length<1000000∧aV y.pats<1000000 then
     match mN funs cons y.op y.n with
     | some n'=>match jU cons y.pats with
      | some ps'=>match nA (dR p funs cons k) (len+1) y.kids with
       |some (ks,r) =>some (⟨y.op,n',ks,ps'⟩ ::r)
       |none=>none
      |none=>none
     |none=>none
    else none
   |none=>none
  else none
abbrev PA (p:Prog) :AV:=.agg [(.ilst 4 (map Node.av p.nodes) false),(.ilst 1 (map bC p.funs) false),(.int .i64 p.main),(.ilst 2 (map Con.av p.cons) false)]
abbrev OL (L:List ONode) :AObj:=.lst 4 (map ONode.av L)
abbrev EndsL (s:TS)(L:List ONode) :Prop:=Ends PP 0 s.as (.ret (.gl 0 4 0 (length L) false)) (aE [(0,OL L,true)] 1)
def aTC (p:Prog)(funs cons:List Int)(c:Int)(L:List ONode)(ns:List Node) :Prop:=
 aCW PP (.enter 133 [.gl 0 4 0 (length L) false,PA p,.int .i64 c,.ilst 1 (map bC funs) false,.ilst 1 (map bC cons) false]) (aE [(0,OL L,true)] 1)
  (.ret (.gl 0 4 0 (length (L++map Node.o ns)) false)) (aE [(0,OL (L++map Node.o ns),true)] 1)
theorem oI (L:List ONode) : (OL L).kl:=aC _ (fun _=>aM _) _
theorem aGH (l:List ONode)(y:ONode)(r:List ONode) : (l++y::r)[((length l:Nat) :Int).toNat]?=some y:=by simp
theorem pN (l:List ONode)(y:ONode)(r:List ONode) : (l++y::r)[length l]?=some y:=by simp
theorem aMq (l:List ONode)(y z:ONode)(r:List ONode) :set (l++y::r) (((length l:Nat) :Int).toNat) z=l++z::r:=by simp
theorem pO (l:List ONode)(y z:ONode)(r:List ONode) :set (l++y::r) (length l) z=l++z::r:=by simp
theorem EndsL.of {s:TS}{L L':List ONode}(h:EndsL s L)(e:L=L') :EndsL s L':=e ▸ h
section
variable (p :Prog) (funs cons:List Int) (k:Nat) (ih:∀ (L:List ONode) (c:Int) (ns:List Node),dR p funs cons k L.length c=some ns→aTC p funs cons c L ns)
 (l:List ONode) (at0 op n':Int) (ps':List Pat) (kids:List Int) (hkids:kids.length<1000000)
include ih hkids
end
theorem aGI {n:Int}(h0: -1000000000≤n)(h1:n≤1000000000) :IntKind.i64.wrap (-1-n) = -1-n:=sd
def numsL (a:Int) :Nat→List Int
 |0=>[]
 |n+1=>numsL a n++ [a+ (n:Int)]
theorem bU (a:Int) :∀n,(numsL a n).length=n
 |0=>rfl
 |n+1=>by simp [numsL,bU a n]
theorem iT (a:Int) :∀ {n i:Nat},i<n→ (numsL a n)[i]?=some (a+ (i:Int))
 | n+1,i,h=>by
  rw [numsL];by_cases hi:i<n
  ·rw [List.getElem?_append_left (by rw [bU];exact hi),iT a hi]
  · have:i=n:=by omega
    subst this;rw [List.getElem?_append_right (by rw [bU];omega),bU];simp
theorem fW {f:Nat}{args:List AV}{v:AV}{s:TS}(e: (start PP f args).as=s.as)(hb:hQ PP f=true)(hk:AV.keylessL args=true)(hv:AV.keyless v=true)(he:Ends PP 0 s.as (.ret v) (aE [] 0)) :Pure PP f args v:=
 aN hb hk hv (by rw [e];exact he)
theorem aQV :Pure PP 226 [] (.ilst 1 (map avS kwL) false) :=
 fW (s:=aVS) (by kernel_rfl) (by kernel_rfl) rfl (by simp [AV.keyless]) aTb
theorem aOf (s:Str) :Pure PP 167 [avS s] (.bool (bO kwL s)) :=
 aN (by kernel_rfl) rfl rfl (aPO s kwL _ aQV (aEI kwL s (by unfold kwL;simp)))
theorem aQW (s:Str)(l:List Nat){k n:Nat}(hk: (strOf l).length=k)(hn:aA (strOf l) =n) :bE (length s) (aA s) k n=decide (s=strOf l) :=by
 rw [←hk,←hn];exact hI s (strOf l)
theorem bX {s:Str}(l:List Nat){k n:Nat}(e:s=strOf l)(hk: (strOf l).length=k)(hn:aA (strOf l) =n) :bE (length s) (aA s) k n=true:=by rw [aQW s l hk hn];simp [e]
theorem dC {s:Str}(l:List Nat){k n:Nat}(e:¬s=strOf l)(hk: (strOf l).length=k)(hn:aA (strOf l) =n) :bE (length s) (aA s) k n=false:=by rw [aQW s l hk hn];simp [e]
theorem dF {l:List Str}{s:Str}(i:Nat){w:Str}(hi:l[i]?=some w)(e:s=w) :bO l s=true:=by
 unfold bO;exact List.any_eq_true.2 ⟨w,List.mem_of_getElem? hi,by simp [e]⟩
theorem aQX (s:Str) :Pure PP 165 [avS s] (.bool (bO kwL s)) :=by
 refine aN (by kernel_rfl) rfl rfl ?_;by_cases e0:s=strOf [98,111,111,108]
 ·rw [dF 0 (by kernel_rfl) e0];exact aTg s (bX _ e0 (by kernel_rfl) (by kernel_rfl))
 have n0:=dC (k:=4) (n:=1819242338) _ e0 (by kernel_rfl) (by kernel_rfl);by_cases e1:s=strOf [99,101,108,108]
 ·rw [dF 1 (by kernel_rfl) e1];exact aTh s n0 (bX _ e1 (by kernel_rfl) (by kernel_rfl))
 have n1:=dC (k:=4) (n:=1819043171) _ e1 (by kernel_rfl) (by kernel_rfl);by_cases e2:s=strOf [99,104,97,110]
 ·rw [dF 2 (by kernel_rfl) e2];exact aTi s n0 n1 (bX _ e2 (by kernel_rfl) (by kernel_rfl))
 have n2:=dC (k:=4) (n:=1851877475) _ e2 (by kernel_rfl) (by kernel_rfl);by_cases e3:s=strOf [101,108,115,101]
 ·rw [dF 3 (by kernel_rfl) e3];exact aTj s n0 n1 n2 (bX _ e3 (by kernel_rfl) (by kernel_rfl))
 have n3:=dC (k:=4) (n:=1702063205) _ e3 (by kernel_rfl) (by kernel_rfl);by_cases e4:s=strOf [102,97,108,115,101]
 ·rw [dF 4 (by kernel_rfl) e4];exact aTk s n0 n1 n2 n3 (bX _ e4 (by kernel_rfl) (by kernel_rfl))
 have n4:=dC (k:=5) (n:=435728179558) _ e4 (by kernel_rfl) (by kernel_rfl);by_cases e5:s=strOf [102,117,110]
 ·rw [dF 5 (by kernel_rfl) e5];exact aTl s n0 n1 n2 n3 n4 (bX _ e5 (by kernel_rfl) (by kernel_rfl))
 have n5:=dC (k:=3) (n:=7239014) _ e5 (by kernel_rfl) (by kernel_rfl);by_cases e6:s=strOf [103,101,116]
 ·rw [dF 6 (by kernel_rfl) e6];exact aTm s n0 n1 n2 n3 n4 n5 (bX _ e6 (by kernel_rfl) (by kernel_rfl))
 have n6:=dC (k:=3) (n:=7628135) _ e6 (by kernel_rfl) (by kernel_rfl);by_cases e7:s=strOf [105,102]
 ·rw [dF 7 (by kernel_rfl) e7];exact aTn s n0 n1 n2 n3 n4 n5 n6 (bX _ e7 (by kernel_rfl) (by kernel_rfl))
 have n7:=dC (k:=2) (n:=26217) _ e7 (by kernel_rfl) (by kernel_rfl);by_cases e8:s=strOf [105,110]
 ·rw [dF 8 (by kernel_rfl) e8];exact aTo s n0 n1 n2 n3 n4 n5 n6 n7 (bX _ e8 (by kernel_rfl) (by kernel_rfl))
 have n8:=dC (k:=2) (n:=28265) _ e8 (by kernel_rfl) (by kernel_rfl);by_cases e9:s=strOf [105,110,112,117,116]
 ·rw [dF 9 (by kernel_rfl) e9];exact aTp s n0 n1 n2 n3 n4 n5 n6 n7 n8 (bX _ e9 (by kernel_rfl) (by kernel_rfl))
 have n9:=dC (k:=5) (n:=500186508905) _ e9 (by kernel_rfl) (by kernel_rfl);by_cases e10:s=strOf [105,110,116]
 ·rw [dF 10 (by kernel_rfl) e10];exact aPP s n0 n1 n2 n3 n4 n5 n6 n7 n8 n9 (bX _ e10 (by kernel_rfl) (by kernel_rfl))
 have n10:=dC (k:=3) (n:=7630441) _ e10 (by kernel_rfl) (by kernel_rfl);by_cases e11:s=strOf [106,111,105,110]
 ·rw [dF 11 (by kernel_rfl) e11];exact aPQ s n0 n1 n2 n3 n4 n5 n6 n7 n8 n9 n10 (bX _ e11 (by kernel_rfl) (by kernel_rfl))
 have n11:=dC (k:=4) (n:=1852403562) _ e11 (by kernel_rfl) (by kernel_rfl);by_cases e12:s=strOf [108,101,116]
 ·rw [dF 12 (by kernel_rfl) e12];exact aPR s n0 n1 n2 n3 n4 n5 n6 n7 n8 n9 n10 n11 (bX _ e12 (by kernel_rfl) (by kernel_rfl))
 have n12:=dC (k:=3) (n:=7628140) _ e12 (by kernel_rfl) (by kernel_rfl);by_cases e13:s=strOf [109,97,116,99,104]
 ·rw [dF 13 (by kernel_rfl) e13];exact aPS s n0 n1 n2 n3 n4 n5 n6 n7 n8 n9 n10 n11 n12 (bX _ e13 (by kernel_rfl) (by kernel_rfl))
 have n13:=dC (k:=5) (n:=448345170285) _ e13 (by kernel_rfl) (by kernel_rfl);by_cases e14:s=strOf [109,111,100,117,108,101]
 ·rw [dF 14 (by kernel_rfl) e14];exact aPT s n0 n1 n2 n3 n4 n5 n6 n7 n8 n9 n10 n11 n12 n13 (bX _ e14 (by kernel_rfl) (by kernel_rfl))
 have n14:=dC (k:=6) (n:=111516500389741) _ e14 (by kernel_rfl) (by kernel_rfl);by_cases e15:s=strOf [111,117,116]
 ·rw [dF 15 (by kernel_rfl) e15];exact aPU s n0 n1 n2 n3 n4 n5 n6 n7 n8 n9 n10 n11 n12 n13 n14 (bX _ e15 (by kernel_rfl) (by kernel_rfl))
 have n15:=dC (k:=3) (n:=7632239) _ e15 (by kernel_rfl) (by kernel_rfl);by_cases e16:s=strOf [112,97,117,115,101]
 ·rw [dF 16 (by kernel_rfl) e16];exact aPV s n0 n1 n2 n3 n4 n5 n6 n7 n8 n9 n10 n11 n12 n13 n14 n15 (bX _ e16 (by kernel_rfl) (by kernel_rfl))
 have n16:=dC (k:=5) (n:=435728769392) _ e16 (by kernel_rfl) (by kernel_rfl);by_cases e17:s=strOf [112,117,116]
 ·rw [dF 17 (by kernel_rfl) e17];exact aPW s n0 n1 n2 n3 n4 n5 n6 n7 n8 n9 n10 n11 n12 n13 n14 n15 n16 (bX _ e17 (by kernel_rfl) (by kernel_rfl))
 have n17:=dC (k:=3) (n:=7632240) _ e17 (by kernel_rfl) (by kernel_rfl);by_cases e18:s=strOf [114,101,115,101,116]
 ·rw [dF 18 (by kernel_rfl) e18];exact aPX s n0 n1 n2 n3 n4 n5 n6 n7 n8 n9 n10 n11 n12 n13 n14 n15 n16 n17 (bX _ e18 (by kernel_rfl) (by kernel_rfl))
 have n18:=dC (k:=5) (n:=499918267762) _ e18 (by kernel_rfl) (by kernel_rfl);by_cases e19:s=strOf [115,101,110,100]
 ·rw [dF 19 (by kernel_rfl) e19];exact aPY s n0 n1 n2 n3 n4 n5 n6 n7 n8 n9 n10 n11 n12 n13 n14 n15 n16 n17 n18 (bX _ e19 (by kernel_rfl) (by kernel_rfl))
 have n19:=dC (k:=4) (n:=1684956531) _ e19 (by kernel_rfl) (by kernel_rfl);by_cases e20:s=strOf [115,104,105,102,116]
 ·rw [dF 20 (by kernel_rfl) e20];exact aPZ s n0 n1 n2 n3 n4 n5 n6 n7 n8 n9 n10 n11 n12 n13 n14 n15 n16 n17 n18 n19 (bX _ e20 (by kernel_rfl) (by kernel_rfl))
 have n20:=dC (k:=5) (n:=499934390387) _ e20 (by kernel_rfl) (by kernel_rfl);by_cases e21:s=strOf [115,112,97,119,110]
 ·rw [dF 21 (by kernel_rfl) e21];exact aP0 s n0 n1 n2 n3 n4 n5 n6 n7 n8 n9 n10 n11 n12 n13 n14 n15 n16 n17 n18 n19 n20 (bX _ e21 (by kernel_rfl) (by kernel_rfl))
 have n21:=dC (k:=5) (n:=474449277043) _ e21 (by kernel_rfl) (by kernel_rfl);by_cases e22:s=strOf [116,97,107,101]
 ·rw [dF 22 (by kernel_rfl) e22];exact aP1 s n0 n1 n2 n3 n4 n5 n6 n7 n8 n9 n10 n11 n12 n13 n14 n15 n16 n17 n18 n19 n20 n21 (bX _ e22 (by kernel_rfl) (by kernel_rfl))
 have n22:=dC (k:=4) (n:=1701536116) _ e22 (by kernel_rfl) (by kernel_rfl);by_cases e23:s=strOf [116,97,115,107]
 ·rw [dF 23 (by kernel_rfl) e23];exact aP2 s n0 n1 n2 n3 n4 n5 n6 n7 n8 n9 n10 n11 n12 n13 n14 n15 n16 n17 n18 n19 n20 n21 n22 (bX _ e23 (by kernel_rfl) (by kernel_rfl))
 have n23:=dC (k:=4) (n:=1802723700) _ e23 (by kernel_rfl) (by kernel_rfl);by_cases e24:s=strOf [116,104,101,110]
 ·rw [dF 24 (by kernel_rfl) e24];exact aP3 s n0 n1 n2 n3 n4 n5 n6 n7 n8 n9 n10 n11 n12 n13 n14 n15 n16 n17 n18 n19 n20 n21 n22 n23 (bX _ e24 (by kernel_rfl) (by kernel_rfl))
 have n24:=dC (k:=4) (n:=1852139636) _ e24 (by kernel_rfl) (by kernel_rfl);by_cases e25:s=strOf [116,114,117,101]
 ·rw [dF 25 (by kernel_rfl) e25];exact aP4 s n0 n1 n2 n3 n4 n5 n6 n7 n8 n9 n10 n11 n12 n13 n14 n15 n16 n17 n18 n19 n20 n21 n22 n23 n24 (bX _ e25 (by kernel_rfl) (by kernel_rfl))
 have n25:=dC (k:=4) (n:=1702195828) _ e25 (by kernel_rfl) (by kernel_rfl);by_cases e26:s=strOf [116,121,112,101]
 ·rw [dF 26 (by kernel_rfl) e26];exact aP5 s n0 n1 n2 n3 n4 n5 n6 n7 n8 n9 n10 n11 n12 n13 n14 n15 n16 n17 n18 n19 n20 n21 n22 n23 n24 n25 (bX _ e26 (by kernel_rfl) (by kernel_rfl))
 have n26:=dC (k:=4) (n:=1701869940) _ e26 (by kernel_rfl) (by kernel_rfl);by_cases e27:s=strOf [117,110,105,116]
 ·rw [dF 27 (by kernel_rfl) e27];exact aP6 s n0 n1 n2 n3 n4 n5 n6 n7 n8 n9 n10 n11 n12 n13 n14 n15 n16 n17 n18 n19 n20 n21 n22 n23 n24 n25 n26 (bX _ e27 (by kernel_rfl) (by kernel_rfl))
 have n27:=dC (k:=4) (n:=1953066613) _ e27 (by kernel_rfl) (by kernel_rfl);have hno:bO kwL s=false:=by
  unfold bO kwL;simp only [List.any_cons,List.any_nil,Bool.or_false,Bool.or_eq_false_iff,decide_eq_false_iff_not];exact⟨fun h=>e0 h.symm,fun h=>e1 h.symm,fun h=>e2 h.symm,fun h=>e3 h.symm,fun h=>e4 h.symm,fun h=>e5 h.symm,fun h=>e6 h.symm,fun h=>e7 h.symm,fun h=>e8 h.symm,fun h=>e9 h.symm,fun h=>e10 h.symm,fun h=>e11 h.symm,fun h=>e12 h.symm,fun h=>e13 h.symm,fun h=>e14 h.symm,fun h=>e15 h.symm,fun h=>e16 h.symm,fun h=>e17 h.symm,fun h=>e18 h.symm,fun h=>e19 h.symm,fun h=>e20 h.symm,fun h=>e21 h.symm,fun h=>e22 h.symm,fun h=>e23 h.symm,fun h=>e24 h.symm,fun h=>e25 h.symm,fun h=>e26 h.symm,fun h=>e27 h.symm⟩
 rw [hno];exact aP7 s n0 n1 n2 n3 n4 n5 n6 n7 n8 n9 n10 n11 n12 n13 n14 n15 n16 n17 n18 n19 n20 n21 n22 n23 n24 n25 n26 n27
def xC (s:Str) :Bool:=decide (1≤s.length) &&decide (s.length≤8) &&fE s&& !bO kwL s
theorem aQY (s:Str) :Pure PP 86 [avS s] (.bool (xC s)) :=by
 refine aN (by kernel_rfl) rfl rfl ?_;unfold xC;by_cases h1:1≤s.length
 · by_cases h2:s.length≤8
   · have hS:=aBH s (by omega);cases h3:fE s with
     | true=>
      rw [h3]at hS;have:=aTc s true _ sd sd hS rfl (aOf s);simpa [h1,h2]using this
     | false=>
      rw [h3]at hS;have:=aTd s false sd sd hS rfl;simpa [h1,h2]using this
   · have:=aTe s sd sd;simpa [h1,h2]using this
 · have:=aTf s sd;simpa [h1]using this
theorem aQZ (s:Str) :Pure PP 85 [avS s] (.bool (xC s)) :=by
 refine aN (by kernel_rfl) rfl rfl ?_;unfold xC;by_cases h1:s= []
 · subst h1;have:=aTt [] (by rfl);simpa using this
 · have hpos:1≤s.length:=by cases s with
    |nil=>exact absurd rfl h1
    |cons _ _=>simp
   have h0: (!(bE (length s) (aA s) 0 0)) =true:=by
    have:=dC (k:=0) (n:=0) (s:=s) [] h1 rfl rfl;rw [this];rfl
   by_cases h2:s.length≤8
   · have hS:=aBM s;cases h3:fE s with
     | true=>
      rw [h3]at hS;have:=aTq s true _ h0 sd hS rfl (aQX s);simpa [hpos,h2]using this
     | false=>
      rw [h3]at hS;have:=aTr s false h0 sd hS rfl;simpa [hpos,h2]using this
   · have:=aTs s h0 sd;simpa [hpos,h2]using this
theorem sdW {p:Prop}(h:p:=by simp_all only [inB_iff,inB_not,beq_iff_eq,decide_eq_true_eq,decide_eq_false_iff_not] <;>omega) :p:=h
theorem idW {p:Prop}(h:p:=by exact⟨_,List.getElem?_eq_getElem (by simp_all only [inB_iff,inB_not,beq_iff_eq,decide_eq_true_eq,decide_eq_false_iff_not] <;>omega)⟩) :p:=h
theorem aES (l:List Pat)(p:Prog)(hl:l.length<1000000)(ih:∀q∈l,Pure PP 282 [Prog.av p,Pat.av q] (.bool (cN p.cons q))) :
  ∀ (t:List Pat) (i:Nat),l.drop i=t→Ends PP 0 (aCf l p (i:Int)).as (.ret (.bool (bH p.cons t))) (aE [] 0)
 | [],i,h=>by
  have:=bK h;exact Ends.eqv (aQF l p i sd) (by simp [bH])
 | .mk f n s ps::t,i,h=>by
  obtain⟨g1,g2,g3⟩ :=bJ h;have hq:=ih (.mk f n s ps) (List.mem_of_getElem? g1);cases k:cN p.cons (.mk f n s ps)with
  | false=>
   rw [k]at hq;exact Ends.eqv (aQD l p i f n s ps false sd sd sd hq rfl) (by simp [bH,k])
  | true=>
   rw [k]at hq;refine(aQE l p i f n s ps true sd sd sd hq rfl sd).ends ?_;exact Ends.eqv (aES l p hl ih t (i+1) g2) (by simp [bH,k])
theorem aOg (l:List Pat)(p:Prog)(hl:l.length<1000000)(ih:∀q∈l,Pure PP 282 [Prog.av p,Pat.av q] (.bool (cN p.cons q))) :
  Pure PP 284 [.ilst 4 (Pats.av l) false,.func 282 [Prog.av p] []] (.bool (bH p.cons l)) :=
 aN (by kernel_rfl) (by simp [AV.keylessL,AV.keyless,Prog.av]) rfl ((aQC l p).ends (aES l p hl ih l 0 rfl))
theorem aWN (p:Prog)(q_form q_n:Int)(q_text:Str)(q_parts:List Pat)(hc:p.cons.length≤1000)(hev:Pure PP 284 [.ilst 4 (Pats.av q_parts) false,.func 282 [Prog.av p] []] (.bool (bH p.cons q_parts))) :
  Ends PP 0 (start PP 282 [Prog.av p,Pat.av (.mk q_form q_n q_text q_parts)]).as (.ret (.bool (cN p.cons (.mk q_form q_n q_text q_parts)))) (aE [] 0) :=by
 have hw:IntKind.i64.wrap ((p.cons.length:Int) -1) = (p.cons.length:Int) -1:=by apply wrap64<;>omega
 cases hb1: (!(bE (length q_text) (aA q_text) 0 0))with
 | true=>
  exact Ends.eqv (aQs p q_form q_n q_text q_parts   hb1) (by clear hev;simp_all [cN,cQ,dY,cX,eT] <;>rfl)
 | false =>
  cases hb2: (!(bH p.cons q_parts))with
  | true=>
   exact Ends.eqv (aQt p q_form q_n q_text q_parts  (bH p.cons q_parts) hb1 hev hb2) (by clear hev;simp_all [cN,cQ,dY,cX,eT] <;>rfl)
  | false =>
   cases hb3: (q_form== (1:Int))with
   | true=>
    cases hb4: (q_n== (0:Int))with
    | true=>
     exact Ends.eqv (aQu p q_form q_n q_text q_parts  (bH p.cons q_parts) hb1 hev hb2 hb3 hb4) (by clear hev;simp_all [cN,cQ,dY,cX,eT] <;>rfl)
    | false=>
     exact Ends.eqv (aQv p q_form q_n q_text q_parts  (bH p.cons q_parts) hb1 hev hb2 hb3 hb4) (by clear hev;simp_all [cN,cQ,dY,cX,eT] <;>rfl)
   | false =>
    cases hb5: (q_form== (2:Int))with
    | true=>
     cases hb6: (q_n== (0:Int))with
     | true=>
      exact Ends.eqv (aQw p q_form q_n q_text q_parts  (bH p.cons q_parts) hb1 hev hb2 hb3 hb5 hb6) (by clear hev;simp_all [cN,cQ,dY,cX,eT] <;>rfl)
     | false=>
      exact Ends.eqv (aQx p q_form q_n q_text q_parts  (bH p.cons q_parts) hb1 hev hb2 hb3 hb5 hb6) (by clear hev;simp_all [cN,cQ,dY,cX,eT] <;>rfl)
    | false=>
     cases hb7: (q_form== (5:Int))with
     | true=>
      cases hb8: (q_n== (0:Int))with
      | true=>
       exact Ends.eqv (aQy p q_form q_n q_text q_parts  (bH p.cons q_parts) hb1 hev hb2 hb3 hb5 hb7 hb8) (by clear hev;simp_all [cN,cQ,dY,cX,eT] <;>rfl)
      | false=>
       exact Ends.eqv (aQz p q_form q_n q_text q_parts  (bH p.cons q_parts) hb1 hev hb2 hb3 hb5 hb7 hb8) (by clear hev;simp_all [cN,cQ,dY,cX,eT] <;>rfl)
     | false=>
      cases hb9: (q_form== (3:Int))with
      | true=>
       cases hb10: (cR q_n (-1000000000) 1000000000)with
       | true=>
        exact Ends.eqv (aQA p q_form q_n q_text q_parts  (bH p.cons q_parts) (cR q_n (-1000000000) 1000000000) hb1 hev hb2 hb3 hb5 hb7 hb9 (aA3 q_n) hb10) (by clear hev;simp_all [cN,cQ,dY,cX,eT] <;>rfl)
       | false=>
        exact Ends.eqv (aQB p q_form q_n q_text q_parts  (bH p.cons q_parts) (cR q_n (-1000000000) 1000000000) hb1 hev hb2 hb3 hb5 hb7 hb9 (aA3 q_n) hb10) (by clear hev;simp_all [cN,cQ,dY,cX,eT] <;>rfl)
      | false=>
       cases hb11: (q_form== (4:Int))with
       | true=>
        cases hb12: (cR q_n 0 1)with
        | true=>
         exact Ends.eqv (aNU p q_form q_n q_text q_parts  (bH p.cons q_parts) (cR q_n 0 1) hb1 hev hb2 hb3 hb5 hb7 hb9 hb11 (eO q_n 0 1) hb12) (by clear hev;simp_all [cN,cQ,dY,cX,eT] <;>rfl)
        | false=>
         exact Ends.eqv (aNV p q_form q_n q_text q_parts  (bH p.cons q_parts) (cR q_n 0 1) hb1 hev hb2 hb3 hb5 hb7 hb9 hb11 (eO q_n 0 1) hb12) (by clear hev;simp_all [cN,cQ,dY,cX,eT] <;>rfl)
       | false=>
        cases hb13: (q_form== (6:Int))with
        | true=>
         cases hb14: (cR q_n 0 (IntKind.i64.wrap (((length p.cons:Nat) :Int) - (1:Int))))with
         | true=>
          obtain⟨y2,hx15⟩ :∃y,((p.cons)[q_n.toNat]?) =some y:=idW;exact Ends.eqv (aNW p q_form q_n q_text q_parts  (bH p.cons q_parts) (cR q_n 0 (IntKind.i64.wrap (((length p.cons:Nat) :Int) - (1:Int)))) y2 hb1 hev hb2 hb3 hb5 hb7 hb9 hb11 hb13 (eO q_n 0 (IntKind.i64.wrap (((length p.cons:Nat) :Int) - (1:Int)))) hb14 sdW hx15) (by clear hev;simp_all [cN,cQ,dY,cX,eT] <;>rfl)
         | false=>
          exact Ends.eqv (aNX p q_form q_n q_text q_parts  (bH p.cons q_parts) (cR q_n 0 (IntKind.i64.wrap (((length p.cons:Nat) :Int) - (1:Int)))) hb1 hev hb2 hb3 hb5 hb7 hb9 hb11 hb13 (eO q_n 0 (IntKind.i64.wrap (((length p.cons:Nat) :Int) - (1:Int)))) hb14) (by clear hev;simp_all [cN,cQ,dY,cX,eT] <;>rfl)
        | false=>
         exact Ends.eqv (aNY p q_form q_n q_text q_parts  (bH p.cons q_parts) hb1 hev hb2 hb3 hb5 hb7 hb9 hb11 hb13) (by clear hev;simp_all [cN,cQ,dY,cX,eT] <;>rfl)
mutual
theorem aET (p:Prog)(hc:p.cons.length≤1000) :∀ (q:Pat),cF q<1000000→Pure PP 282 [Prog.av p,Pat.av q] (.bool (cN p.cons q))
 | .mk f n s ps,h=>by
  refine aN (by kernel_rfl) (by simp [AV.keylessL,mV,AV.keyless,Prog.av]) rfl ?_;simp only [cF]at h;have:=eP ps;exact aWN p f n s ps hc (aOg ps p (by omega) (aI5 p hc ps (by omega)))
theorem aI5 (p:Prog)(hc:p.cons.length≤1000) :∀ (ps:List Pat),aV ps<1000000→∀q∈ps,Pure PP 282 [Prog.av p,Pat.av q] (.bool (cN p.cons q))
 | [],_,q,hq=>by cases hq
 | r::ps,h,q,hq=>by
  simp only [aV]at h;rcases List.mem_cons.1 hq with e|hq
  ·rw [e];exact aET p hc r (by omega)
  ·exact aI5 p hc ps (by omega) q hq
end
def cC (op:Int) :Option Int:=
 if op=1∨op=2∨op=3∨op=4∨op=21∨op=25∨op=28 then some 0
 else if op=5∨op=27∨op=16∨op=17∨op=19∨op=20∨op=23∨op=26∨op=24 then some 1
 else if op=6∨op=7∨op=9∨op=10∨op=11∨op=12∨op=13∨op=18∨op=22 then some 2
 else if op=8 then some 3 else none
def aX (op:Int) :AV:=
 match cC op with
 |some k=>.iface 334 (.int .i64 k)
 |none=>if op=15 then .iface 317 (.agg [])else if op=14 then .iface 335 (.agg [])else .nili
theorem aI6 {op k:Int}(h:cC op=some k)(pats args:Int) :cY op pats args=k∧op≠15∧op≠14:=by
 unfold cC at h;unfold cY;split at h
 ·rename_i g;rw [if_pos g];simp only [Option.some.injEq]at h;refine⟨h,?_,?_⟩ <;>omega
 · rename_i g0;rw [if_neg g0];split at h
   ·rename_i g;rw [if_pos g];simp only [Option.some.injEq]at h;refine⟨h,?_,?_⟩ <;>omega
   · rename_i g1;rw [if_neg g1];split at h
     ·rename_i g;rw [if_pos g];simp only [Option.some.injEq]at h;refine⟨h,?_,?_⟩ <;>omega
     · rename_i g2;rw [if_neg g2];split at h
       ·rename_i g;rw [if_pos g];simp only [Option.some.injEq]at h;refine⟨h,?_,?_⟩ <;>omega
       ·cases h
theorem aLx {op:Int}(h:cC op=none)(pats args:Int) :cY op pats args=if op=15 then 1+pats else if op=14 then args else -1:=by
 unfold cC at h;unfold cY;split at h
 ·cases h
 · rename_i g0;rw [if_neg g0];split at h
   ·cases h
   · rename_i g1;rw [if_neg g1];split at h
     ·cases h
     · rename_i g2;rw [if_neg g2];split at h
       ·cases h
       ·rename_i g;rw [if_neg g]
theorem bKidsOf_E (op : Int) :Ends PP 0 (start PP 279 [.int .i64 op]).as (.ret (aX op)) (aE [] 0) :=by
 cases hb1: (op== (1:Int))with
 | true=>
  exact Ends.eqv (aIz op   hb1) (by simp_all [aX,cC])
 | false =>
  cases hb2: (op== (2:Int))with
  | true=>
   exact Ends.eqv (aIA op   hb1 hb2) (by simp_all [aX,cC])
  | false =>
   cases hb3: (op== (3:Int))with
   | true=>
    exact Ends.eqv (aIB op   hb1 hb2 hb3) (by simp_all [aX,cC])
   | false =>
    cases hb4: (op== (4:Int))with
    | true=>
     exact Ends.eqv (aIC op   hb1 hb2 hb3 hb4) (by simp_all [aX,cC])
    | false =>
     cases hb5: (op== (21:Int))with
     | true=>
      exact Ends.eqv (aID op   hb1 hb2 hb3 hb4 hb5) (by simp_all [aX,cC])
     | false =>
      cases hb6: (op== (25:Int))with
      | true=>
       exact Ends.eqv (aIE op   hb1 hb2 hb3 hb4 hb5 hb6) (by simp_all [aX,cC])
      | false =>
       cases hb7: (op== (28:Int))with
       | true=>
        exact Ends.eqv (aIF op   hb1 hb2 hb3 hb4 hb5 hb6 hb7) (by simp_all [aX,cC])
       | false =>
        cases hb8: (op== (5:Int))with
        | true=>
         exact Ends.eqv (aIG op   hb1 hb2 hb3 hb4 hb5 hb6 hb7 hb8) (by simp_all [aX,cC])
        | false =>
         cases hb9: (op== (27:Int))with
         | true=>
          exact Ends.eqv (aIH op   hb1 hb2 hb3 hb4 hb5 hb6 hb7 hb8 hb9) (by simp_all [aX,cC])
         | false =>
          cases hb10: (op== (16:Int))with
          | true=>
           exact Ends.eqv (aII op   hb1 hb2 hb3 hb4 hb5 hb6 hb7 hb8 hb9 hb10) (by simp_all [aX,cC])
          | false =>
           cases hb11: (op== (17:Int))with
           | true=>
            exact Ends.eqv (aGl op   hb1 hb2 hb3 hb4 hb5 hb6 hb7 hb8 hb9 hb10 hb11) (by simp_all [aX,cC])
           | false =>
            cases hb12: (op== (19:Int))with
            | true=>
             exact Ends.eqv (aGm op   hb1 hb2 hb3 hb4 hb5 hb6 hb7 hb8 hb9 hb10 hb11 hb12) (by simp_all [aX,cC])
            | false =>
             cases hb13: (op== (20:Int))with
             | true=>
              exact Ends.eqv (aGn op   hb1 hb2 hb3 hb4 hb5 hb6 hb7 hb8 hb9 hb10 hb11 hb12 hb13) (by simp_all [aX,cC])
             | false =>
              cases hb14: (op== (23:Int))with
              | true=>
               exact Ends.eqv (aGo op   hb1 hb2 hb3 hb4 hb5 hb6 hb7 hb8 hb9 hb10 hb11 hb12 hb13 hb14) (by simp_all [aX,cC])
              | false =>
               cases hb15: (op== (24:Int))with
               | true=>
                exact Ends.eqv (aGp op   hb1 hb2 hb3 hb4 hb5 hb6 hb7 hb8 hb9 hb10 hb11 hb12 hb13 hb14 hb15) (by simp_all [aX,cC])
               | false =>
                cases hb16: (op== (26:Int))with
                | true=>
                 exact Ends.eqv (aGq op   hb1 hb2 hb3 hb4 hb5 hb6 hb7 hb8 hb9 hb10 hb11 hb12 hb13 hb14 hb15 hb16) (by simp_all [aX,cC])
                | false =>
                 cases hb17: (op== (6:Int))with
                 | true=>
                  exact Ends.eqv (aGr op   hb1 hb2 hb3 hb4 hb5 hb6 hb7 hb8 hb9 hb10 hb11 hb12 hb13 hb14 hb15 hb16 hb17) (by simp_all [aX,cC])
                 | false =>
                  cases hb18: (op== (7:Int))with
                  | true=>
                   exact Ends.eqv (aGs op   hb1 hb2 hb3 hb4 hb5 hb6 hb7 hb8 hb9 hb10 hb11 hb12 hb13 hb14 hb15 hb16 hb17 hb18) (by simp_all [aX,cC])
                  | false =>
                   cases hb19: (op== (9:Int))with
                   | true=>
                    exact Ends.eqv (aGt op   hb1 hb2 hb3 hb4 hb5 hb6 hb7 hb8 hb9 hb10 hb11 hb12 hb13 hb14 hb15 hb16 hb17 hb18 hb19) (by simp_all [aX,cC])
                   | false =>
                    cases hb20: (op== (10:Int))with
                    | true=>
                     exact Ends.eqv (aGu op   hb1 hb2 hb3 hb4 hb5 hb6 hb7 hb8 hb9 hb10 hb11 hb12 hb13 hb14 hb15 hb16 hb17 hb18 hb19 hb20) (by simp_all [aX,cC])
                    | false =>
                     cases hb21: (op== (11:Int))with
                     | true=>
                      exact Ends.eqv (aGv op   hb1 hb2 hb3 hb4 hb5 hb6 hb7 hb8 hb9 hb10 hb11 hb12 hb13 hb14 hb15 hb16 hb17 hb18 hb19 hb20 hb21) (by simp_all [aX,cC])
                     | false =>
                      cases hb22: (op== (12:Int))with
                      | true=>
                       exact Ends.eqv (aGw op   hb1 hb2 hb3 hb4 hb5 hb6 hb7 hb8 hb9 hb10 hb11 hb12 hb13 hb14 hb15 hb16 hb17 hb18 hb19 hb20 hb21 hb22) (by simp_all [aX,cC])
                      | false =>
                       cases hb23: (op== (13:Int))with
                       | true=>
                        exact Ends.eqv (aGx op   hb1 hb2 hb3 hb4 hb5 hb6 hb7 hb8 hb9 hb10 hb11 hb12 hb13 hb14 hb15 hb16 hb17 hb18 hb19 hb20 hb21 hb22 hb23) (by simp_all [aX,cC])
                       | false=>
                        cases hb24: (op== (18:Int))with
                        | true=>
                         exact Ends.eqv (aGy op   hb1 hb2 hb3 hb4 hb5 hb6 hb7 hb8 hb9 hb10 hb11 hb12 hb13 hb14 hb15 hb16 hb17 hb18 hb19 hb20 hb21 hb22 hb23 hb24) (by simp_all [aX,cC])
                        | false=>
                         cases hb25: (op== (22:Int))with
                         | true=>
                          exact Ends.eqv (aGz op   hb1 hb2 hb3 hb4 hb5 hb6 hb7 hb8 hb9 hb10 hb11 hb12 hb13 hb14 hb15 hb16 hb17 hb18 hb19 hb20 hb21 hb22 hb23 hb24 hb25) (by simp_all [aX,cC])
                         | false=>
                          cases hb26: (op== (8:Int))with
                          | true=>
                           exact Ends.eqv (aGA op   hb1 hb2 hb3 hb4 hb5 hb6 hb7 hb8 hb9 hb10 hb11 hb12 hb13 hb14 hb15 hb16 hb17 hb18 hb19 hb20 hb21 hb22 hb23 hb24 hb25 hb26) (by simp_all [aX,cC])
                          | false=>
                           cases hb27: (op== (14:Int))with
                           | true=>
                            exact Ends.eqv (aGB op   hb1 hb2 hb3 hb4 hb5 hb6 hb7 hb8 hb9 hb10 hb11 hb12 hb13 hb14 hb15 hb16 hb17 hb18 hb19 hb20 hb21 hb22 hb23 hb24 hb25 hb26 hb27) (by simp_all [aX,cC])
                           | false=>
                            cases hb28: (op== (15:Int))with
                            | true=>
                             exact Ends.eqv (aGC op   hb1 hb2 hb3 hb4 hb5 hb6 hb7 hb8 hb9 hb10 hb11 hb12 hb13 hb14 hb15 hb16 hb17 hb18 hb19 hb20 hb21 hb22 hb23 hb24 hb25 hb26 hb27 hb28) (by simp_all [aX,cC])
                            | false=>
                             exact Ends.eqv (aGD op   hb1 hb2 hb3 hb4 hb5 hb6 hb7 hb8 hb9 hb10 hb11 hb12 hb13 hb14 hb15 hb16 hb17 hb18 hb19 hb20 hb21 hb22 hb23 hb24 hb25 hb26 hb27 hb28) (by simp_all [aX,cC])
theorem aLy (op:Int) :AV.keyless (aX op) =true:=by
 unfold aX;split
 ·rfl
 · split
   ·rfl
   ·split<;>rfl
theorem aGJ (op:Int) :Pure PP 279 [.int .i64 op] (aX op) :=
 aN (by kernel_rfl) rfl (aLy op) (bKidsOf_E op)
theorem aDq (p:Prog)(x:Node)(hc:p.cons.length≤1000)(hx:x.pats.length≤10) :
  ∀ (t:List Pat) (i:Nat),x.pats.drop i=t→Ends PP 0 (pM p x (i:Int)).as (.ret (.bool (t.all (fF p.cons)))) (aE [] 0)
 | [],i,h=>by
  have:=bK h;exact Ends.eqv (aOb p x i sd) (by simp)
 | .mk f n s ps::t,i,h=>by
  obtain⟨g1,g2,g3⟩ :=bJ h;have hs:=aDo (.mk f n s ps) 12 (by omega) (by omega);by_cases k:cF (.mk f n s ps) ≤12
  · have hg:mZ (.mk f n s ps) 12≤12:= (aEQ (.mk f n s ps) 12 (by omega)).2 (by omega);have hq:=aET p hc (.mk f n s ps) (by omega);cases kq:cN p.cons (.mk f n s ps)with
    | false=>
     rw [kq]at hq;exact Ends.eqv (aN8 p x i f n s ps _ false sd sd sd hs (decide_eq_true hg) hq rfl) (by simp [fF,kq])
    | true=>
     rw [kq]at hq;refine(aN9 p x i f n s ps _ true sd sd sd hs (decide_eq_true hg) hq rfl sd).ends ?_;exact Ends.eqv (aDq p x hc hx t (i+1) g2) (by simp [fF,k,kq])
  · have hg:¬mZ (.mk f n s ps) 12≤12:=fun g=>k (by have:= (aEQ (.mk f n s ps) 12 (by omega)).1 g;omega);exact Ends.eqv (aOa p x i f n s ps _ sd sd sd hs (decide_eq_false hg)) (by simp [fF,k])
theorem aLz (p:Prog)(x:Node)(hc:p.cons.length≤1000)(hf:p.funs.length≤1000)(hx:x.pats.length≤10)(hk:x.kids.length≤10) :Pure PP 248 [Prog.av p,Node.av x] (.bool (aZ p x)) :=by
 refine aN (by kernel_rfl) rfl rfl ?_;have hw:IntKind.i64.wrap ((p.cons.length:Int) -1) = (p.cons.length:Int) -1:=by apply wrap64<;>omega
 have hko:=aGJ x.op;have hn:=aGF p x hf;have hl:=aDq p x hc hx x.pats 0 rfl;cases kf:cC x.op with
 | some k=>
  obtain⟨e1,e2,e3⟩ :=aI6 kf (x.pats.length:Int) (eM p x);have ev:aX x.op= .iface 334 (.int .i64 k) :=by unfold aX;rw [kf]
  rw [ev]at hko;have en:aZ p x= (lN p x&&decide (x.pats.length=0) &&x.pats.all (fF p.cons) &&decide ((x.kids.length:Int) =k)) :=by
   simp only [aZ,fJ,lN,e1,if_neg e2,if_neg e3]
  rw [en];by_cases g0:x.pats.length=0
  · by_cases g1: (x.kids.length:Int) =k
    · have b1: (((length x.kids:Nat) :Int) ==k) =true:=by simp [g1]
      cases g2:lN p x with
      | false=>
       rw [g2]at hn;exact Ends.eqv (aLs p x k false hko sd b1 hn rfl) (by simp)
      | true=>
       rw [g2]at hn;refine(aLr p x k true hko sd b1 hn rfl).ends ?_;exact Ends.eqv hl (by simp [g0,g1])
    · have b1: (((length x.kids:Nat) :Int) ==k) =false:=by simp [g1]
      exact Ends.eqv (aLt p x k hko sd b1) (by simp [g1])
  ·exact Ends.eqv (aN7 p x k hko sd) (by simp [g0])
 | none =>
  have e1:=aLx kf (x.pats.length:Int) (eM p x);by_cases h15:x.op=15
  · have ev:aX x.op= .iface 317 (.agg []) :=by unfold aX;rw [kf];simp only [h15,if_true]
    rw [ev]at hko;have en:aZ p x= (lN p x&&cR (x.pats.length:Int) 1 5&&x.pats.all (fF p.cons) &&decide ((x.kids.length:Int) =1+ (x.pats.length:Int))) :=by
     simp only [aZ,fJ,lN,e1,if_pos h15,if_neg (show ¬x.op=14 by omega)]
    rw [en];have hi:=eO (x.pats.length:Int) 1 5;cases g0:cR (x.pats.length:Int) 1 5 with
    | false=>
     rw [g0]at hi;exact Ends.eqv (aN2 p x false hko hi rfl) (by simp)
    | true=>
     rw [g0]at hi;by_cases g1: (x.kids.length:Int) =1+ (x.pats.length:Int)
     · have b1: (((length x.kids:Nat) :Int) == ((1:Int) + ((length x.pats:Nat) :Int))) =true:=by simp [g1]
       cases g2:lN p x with
       | false=>
        rw [g2]at hn;exact Ends.eqv (aN0 p x true false hko hi rfl sd b1 hn rfl) (by simp)
       | true=>
        rw [g2]at hn;refine(aNZ p x true true hko hi rfl sd b1 hn rfl).ends ?_;exact Ends.eqv hl (by simp [g1])
     · have b1: (((length x.kids:Nat) :Int) == ((1:Int) + ((length x.pats:Nat) :Int))) =false:=by simp [g1]
       exact Ends.eqv (aN1 p x true hko hi rfl sd b1) (by simp [g1])
  · by_cases h14:x.op=14
    · have ev:aX x.op= .iface 335 (.agg []) :=by unfold aX;rw [kf];simp [h14]
      rw [ev]at hko;have en:aZ p x= (cR x.n 0 ((p.cons.length:Int) -1) &&decide (x.pats.length=0) &&x.pats.all (fF p.cons) &&decide ((x.kids.length:Int) =eM p x)) :=by
       simp only [aZ,fJ,bL,e1,if_neg h15,if_pos h14,if_neg (show ¬x.op=1 by omega),if_neg (show ¬x.op=2 by omega),if_neg (show ¬x.op=4 by omega),if_neg (show ¬x.op=24 by omega)]
      rw [en];by_cases g0:x.pats.length=0
      · have hi:=eO x.n 0 ((p.cons.length:Int) -1);rw [←hw]at hi;cases g1:cR x.n 0 ((p.cons.length:Int) -1)with
        | false=>
         rw [hw,g1,←hw]at hi;exact Ends.eqv (aN6 p x false hko sd hi rfl) (by simp)
        | true=>
         rw [hw,g1,←hw]at hi;have hb:=inB_iff.1 g1;obtain⟨c,hcx⟩ :∃c,p.cons[x.n.toNat]?=some c:= ⟨_,List.getElem?_eq_getElem (by omega)⟩;have ea:eM p x=c.args:=by simp [eM,h14,g1,dY,hcx]
         rw [ea];by_cases g2: (x.kids.length:Int) =c.args
         · have b1: (((length x.kids:Nat) :Int) ==c.args) =true:=by simp [g2]
           have hnn:lN p x=true:=by simp [lN,h14]
           rw [hnn]at hn;refine(aN4 p x true c true hko sd hi rfl (by omega) hcx b1 hn rfl).ends ?_;exact Ends.eqv hl (by simp [g0,g2])
         · have b1: (((length x.kids:Nat) :Int) ==c.args) =false:=by simp [g2]
           exact Ends.eqv (aN5 p x true c hko sd hi rfl (by omega) hcx b1) (by simp [g2])
      ·exact Ends.eqv (aN3 p x hko sd) (by simp [g0])
    · have ev:aX x.op= .nili:=by unfold aX;rw [kf];simp [h15,h14]
      rw [ev]at hko;have en:aZ p x=false:=by
       have:cY x.op x.pats.length (eM p x) = -1:=by rw [e1,if_neg h15,if_neg h14]
       have h2:¬ (x.kids.length:Int) = -1:=by omega
       simp [aZ,this,h2]
      rw [en];exact aLu p x hko
mutual
def aQ0 :Pat→List Str
 | .mk f _ t ps=>if f=2 then [t]else aMr ps
def aMr :List Pat→List Str
 | [] =>[]
 |p::ps=>aQ0 p++aMr ps
end
end
end Go.Hb
