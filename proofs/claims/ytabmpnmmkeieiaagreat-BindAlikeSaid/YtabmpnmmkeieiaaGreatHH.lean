/- A machine on abstract values, its soundness, ways, plain laws. -/
import Derived.Test.YtabmpnmmkeieiaaGreatHF
import Derived.Test.YtabmpnmmkeieiaaGreatHG
set_option linter.defProp false
set_option linter.unusedVariables false
set_option linter.unusedSimpArgs false
set_option linter.unusedSectionVars false
set_option maxRecDepth 100000
set_option maxHeartbeats 4000000
namespace Go.Hb
open List (length map set)
open Terms (av)
open Go.Proofs Tryz
noncomputable section
def bGK (cons:List Int)(f n:Int) :Option Int:=if f=6 then(if 0≤n then cons[n.toNat]? else none)else some n
mutual
def bHV (cons:List Int) :Pat→Option Pat
 | .mk f n t ps=>match bGK cons f n with
  | some n'=>match aPI cons ps with
   |some ps'=>some (.mk f n' t ps')
   |none=>none
  |none=>none
def aPI (cons:List Int) :List Pat→Option (List Pat)
 | [] =>some []
 | p::ps=>match bHV cons p with
  | some p'=>match aPI cons ps with
   |some ps'=>some (p'::ps')
   |none=>none
  |none=>none
end
def mN (funs cons:List Int)(op n:Int) :Option Int:=
 if op=4∧n<0 then
  match funs[(-1-n).toNat]? with
  |some g=>if -1000000000≤n∧ -1000000000≤g∧g≤1000000000 then some (-1-g)else none
  |none=>none
 else if op=14 then(if 0≤n then cons[n.toNat]? else none)else some n
def bDD (f:Nat→Int→Option (List Node)) :Nat→List Int→Option (List Int×List Node)
 |_,[] =>some ([],[])
 | len,c::cs=>match f len c with
  | some ns=>match bDD f (len+ns.length) cs with
   |some (ks,r) =>some ((len:Int) ::ks,ns++r)
   |none=>none
  |none=>none
def aPJ (p:Prog)(funs cons:List Int) :Nat→Nat→Int→Option (List Node)
 |0,_,_=>none
 | k+1, len,at0=>if 0≤at0∧len<1000000 then
   match p.nodes[at0.toNat]? with
   | some y=>if y.kids.length<1000000∧aM y.pats<1000000 then
     match mN funs cons y.op y.n with
     | some n'=>match aPI cons y.pats with
      | some ps'=>match bDD (aPJ p funs cons k) (len+1) y.kids with
       |some (ks,r) =>some (⟨y.op,n',ks,ps'⟩ ::r)
       |none=>none
      |none=>none
     |none=>none
    else none
   |none=>none
  else none
abbrev PA (p:Prog) :AV:=.agg [(.ilst 4 (map Node.av p.nodes) false),(.ilst 1 (map aP p.funs) false),(.int .i64 p.main),(.ilst 2 (map Con.av p.cons) false)]
abbrev OL (L:List ONode) :AObj:=.lst 4 (map ONode.av L)
abbrev EndsL (s:TS)(L:List ONode) :Prop:=Ends PP 0 s.as (.ret (.gl 0 4 0 (length L) false)) (aG [(0,OL L,true)] 1)
def aVH (p:Prog)(funs cons:List Int)(c:Int)(L:List ONode)(ns:List Node) :Prop:=
 aO5 PP (.enter 139 [.gl 0 4 0 (length L) false,PA p,.int .i64 c,.ilst 1 (map aP funs) false,.ilst 1 (map aP cons) false]) (aG [(0,OL L,true)] 1)
  (.ret (.gl 0 4 0 (length (L++map Node.o ns)) false)) (aG [(0,OL (L++map Node.o ns),true)] 1)
theorem aMl (L:List ONode) : (OL L).kl:=bE _ (fun _=>gW _) _
theorem aAR (l:List ONode)(y:ONode)(r:List ONode) : (l++y::r)[length l]?=some y:=by simp
theorem aAS (l:List ONode)(y z:ONode)(r:List ONode) :set (l++y::r) (length l) z=l++z::r:=by simp
theorem EndsL.of {s:TS}{L L':List ONode}(h:EndsL s L)(e:L=L') :EndsL s L':=e ▸ h
section
variable (p :Prog) (funs cons:List Int) (k:Nat) (ih:∀ (L:List ONode) (c:Int) (ns:List Node),aPJ p funs cons k L.length c=some ns→aVH p funs cons c L ns)
 (l:List ONode) (at0 op n':Int) (ps':List Pat) (kids:List Int) (hkids:kids.length<1000000)
include ih hkids
end
theorem cB {f:Nat}{args:List AV}{v:AV}{s:TS}(e: (start PP f args).as=s.as)(hb:nA PP f=true)(hk:AV.keylessL args=true)(hv:AV.keyless v=true)(he:Ends PP 0 s.as (.ret v) (aG [] 0)) :Pure PP f args v:=
 bC hb hk hv (by rw [e];exact he)
theorem aPK :Pure PP 187 [] (.ilst 1 (map aA kwL) false) :=
 cB (s:=bDB) (by kernel_rfl) (by kernel_rfl) rfl (by simp [AV.keyless]) aVl
theorem aN7 (s:aB) :Pure PP 119 [aA s] (.bool (dA kwL s)) :=
 bC (by kernel_rfl) rfl rfl (aPj s kwL _ aPK (rZ kwL s (by unfold kwL;simp)))
theorem aPL (s:aB)(l:List Nat){k n:Nat}(hk: (strOf l).length=k)(hn:aD (strOf l) =n) :bA (length s) (aD s) k n=decide (s=strOf l) :=by
 rw [←hk,←hn];exact cA s (strOf l)
theorem cM {s:aB}(l:List Nat){k n:Nat}(e:s=strOf l)(hk: (strOf l).length=k)(hn:aD (strOf l) =n) :bA (length s) (aD s) k n=true:=by rw [aPL s l hk hn];simp [e]
theorem dQ {s:aB}(l:List Nat){k n:Nat}(e:¬s=strOf l)(hk: (strOf l).length=k)(hn:aD (strOf l) =n) :bA (length s) (aD s) k n=false:=by rw [aPL s l hk hn];simp [e]
theorem dU {l:List aB}{s:aB}(i:Nat){w:aB}(hi:l[i]?=some w)(e:s=w) :dA l s=true:=by
 unfold dA;exact List.any_eq_true.2 ⟨w,List.mem_of_getElem? hi,by simp [e]⟩
theorem aPM (s:aB) :Pure PP 176 [aA s] (.bool (dA kwL s)) :=by
 refine bC (by kernel_rfl) rfl rfl ?_;by_cases e0:s=strOf [98,111,111,108]
 ·rw [dU 0 (by kernel_rfl) e0];exact aVq s (cM _ e0 (by kernel_rfl) (by kernel_rfl))
 have n0:=dQ (k:=4) (n:=1819242338) _ e0 (by kernel_rfl) (by kernel_rfl);by_cases e1:s=strOf [99,101,108,108]
 ·rw [dU 1 (by kernel_rfl) e1];exact aVr s n0 (cM _ e1 (by kernel_rfl) (by kernel_rfl))
 have n1:=dQ (k:=4) (n:=1819043171) _ e1 (by kernel_rfl) (by kernel_rfl);by_cases e2:s=strOf [99,104,97,110]
 ·rw [dU 2 (by kernel_rfl) e2];exact aVs s n0 n1 (cM _ e2 (by kernel_rfl) (by kernel_rfl))
 have n2:=dQ (k:=4) (n:=1851877475) _ e2 (by kernel_rfl) (by kernel_rfl);by_cases e3:s=strOf [101,108,115,101]
 ·rw [dU 3 (by kernel_rfl) e3];exact aVt s n0 n1 n2 (cM _ e3 (by kernel_rfl) (by kernel_rfl))
 have n3:=dQ (k:=4) (n:=1702063205) _ e3 (by kernel_rfl) (by kernel_rfl);by_cases e4:s=strOf [102,97,108,115,101]
 ·rw [dU 4 (by kernel_rfl) e4];exact aVu s n0 n1 n2 n3 (cM _ e4 (by kernel_rfl) (by kernel_rfl))
 have n4:=dQ (k:=5) (n:=435728179558) _ e4 (by kernel_rfl) (by kernel_rfl);by_cases e5:s=strOf [102,117,110]
 ·rw [dU 5 (by kernel_rfl) e5];exact aVv s n0 n1 n2 n3 n4 (cM _ e5 (by kernel_rfl) (by kernel_rfl))
 have n5:=dQ (k:=3) (n:=7239014) _ e5 (by kernel_rfl) (by kernel_rfl);by_cases e6:s=strOf [103,101,116]
 ·rw [dU 6 (by kernel_rfl) e6];exact aVw s n0 n1 n2 n3 n4 n5 (cM _ e6 (by kernel_rfl) (by kernel_rfl))
 have n6:=dQ (k:=3) (n:=7628135) _ e6 (by kernel_rfl) (by kernel_rfl);by_cases e7:s=strOf [105,102]
 ·rw [dU 7 (by kernel_rfl) e7];exact aVx s n0 n1 n2 n3 n4 n5 n6 (cM _ e7 (by kernel_rfl) (by kernel_rfl))
 have n7:=dQ (k:=2) (n:=26217) _ e7 (by kernel_rfl) (by kernel_rfl);by_cases e8:s=strOf [105,110]
 ·rw [dU 8 (by kernel_rfl) e8];exact aVy s n0 n1 n2 n3 n4 n5 n6 n7 (cM _ e8 (by kernel_rfl) (by kernel_rfl))
 have n8:=dQ (k:=2) (n:=28265) _ e8 (by kernel_rfl) (by kernel_rfl);by_cases e9:s=strOf [105,110,112,117,116]
 ·rw [dU 9 (by kernel_rfl) e9];exact aVz s n0 n1 n2 n3 n4 n5 n6 n7 n8 (cM _ e9 (by kernel_rfl) (by kernel_rfl))
 have n9:=dQ (k:=5) (n:=500186508905) _ e9 (by kernel_rfl) (by kernel_rfl);by_cases e10:s=strOf [105,110,116]
 ·rw [dU 10 (by kernel_rfl) e10];exact aPm s n0 n1 n2 n3 n4 n5 n6 n7 n8 n9 (cM _ e10 (by kernel_rfl) (by kernel_rfl))
 have n10:=dQ (k:=3) (n:=7630441) _ e10 (by kernel_rfl) (by kernel_rfl);by_cases e11:s=strOf [106,111,105,110]
 ·rw [dU 11 (by kernel_rfl) e11];exact aPn s n0 n1 n2 n3 n4 n5 n6 n7 n8 n9 n10 (cM _ e11 (by kernel_rfl) (by kernel_rfl))
 have n11:=dQ (k:=4) (n:=1852403562) _ e11 (by kernel_rfl) (by kernel_rfl);by_cases e12:s=strOf [108,101,116]
 ·rw [dU 12 (by kernel_rfl) e12];exact aPo s n0 n1 n2 n3 n4 n5 n6 n7 n8 n9 n10 n11 (cM _ e12 (by kernel_rfl) (by kernel_rfl))
 have n12:=dQ (k:=3) (n:=7628140) _ e12 (by kernel_rfl) (by kernel_rfl);by_cases e13:s=strOf [109,97,116,99,104]
 ·rw [dU 13 (by kernel_rfl) e13];exact aPp s n0 n1 n2 n3 n4 n5 n6 n7 n8 n9 n10 n11 n12 (cM _ e13 (by kernel_rfl) (by kernel_rfl))
 have n13:=dQ (k:=5) (n:=448345170285) _ e13 (by kernel_rfl) (by kernel_rfl);by_cases e14:s=strOf [109,111,100,117,108,101]
 ·rw [dU 14 (by kernel_rfl) e14];exact aPq s n0 n1 n2 n3 n4 n5 n6 n7 n8 n9 n10 n11 n12 n13 (cM _ e14 (by kernel_rfl) (by kernel_rfl))
 have n14:=dQ (k:=6) (n:=111516500389741) _ e14 (by kernel_rfl) (by kernel_rfl);by_cases e15:s=strOf [111,117,116]
 ·rw [dU 15 (by kernel_rfl) e15];exact aPr s n0 n1 n2 n3 n4 n5 n6 n7 n8 n9 n10 n11 n12 n13 n14 (cM _ e15 (by kernel_rfl) (by kernel_rfl))
 have n15:=dQ (k:=3) (n:=7632239) _ e15 (by kernel_rfl) (by kernel_rfl);by_cases e16:s=strOf [112,97,117,115,101]
 ·rw [dU 16 (by kernel_rfl) e16];exact aPs s n0 n1 n2 n3 n4 n5 n6 n7 n8 n9 n10 n11 n12 n13 n14 n15 (cM _ e16 (by kernel_rfl) (by kernel_rfl))
 have n16:=dQ (k:=5) (n:=435728769392) _ e16 (by kernel_rfl) (by kernel_rfl);by_cases e17:s=strOf [112,117,116]
 ·rw [dU 17 (by kernel_rfl) e17];exact aPt s n0 n1 n2 n3 n4 n5 n6 n7 n8 n9 n10 n11 n12 n13 n14 n15 n16 (cM _ e17 (by kernel_rfl) (by kernel_rfl))
 have n17:=dQ (k:=3) (n:=7632240) _ e17 (by kernel_rfl) (by kernel_rfl);by_cases e18:s=strOf [114,101,115,101,116]
 ·rw [dU 18 (by kernel_rfl) e18];exact aPu s n0 n1 n2 n3 n4 n5 n6 n7 n8 n9 n10 n11 n12 n13 n14 n15 n16 n17 (cM _ e18 (by kernel_rfl) (by kernel_rfl))
 have n18:=dQ (k:=5) (n:=499918267762) _ e18 (by kernel_rfl) (by kernel_rfl);by_cases e19:s=strOf [115,101,110,100]
 ·rw [dU 19 (by kernel_rfl) e19];exact aPv s n0 n1 n2 n3 n4 n5 n6 n7 n8 n9 n10 n11 n12 n13 n14 n15 n16 n17 n18 (cM _ e19 (by kernel_rfl) (by kernel_rfl))
 have n19:=dQ (k:=4) (n:=1684956531) _ e19 (by kernel_rfl) (by kernel_rfl);by_cases e20:s=strOf [115,104,105,102,116]
 ·rw [dU 20 (by kernel_rfl) e20];exact aPw s n0 n1 n2 n3 n4 n5 n6 n7 n8 n9 n10 n11 n12 n13 n14 n15 n16 n17 n18 n19 (cM _ e20 (by kernel_rfl) (by kernel_rfl))
 have n20:=dQ (k:=5) (n:=499934390387) _ e20 (by kernel_rfl) (by kernel_rfl);by_cases e21:s=strOf [115,112,97,119,110]
 ·rw [dU 21 (by kernel_rfl) e21];exact aPx s n0 n1 n2 n3 n4 n5 n6 n7 n8 n9 n10 n11 n12 n13 n14 n15 n16 n17 n18 n19 n20 (cM _ e21 (by kernel_rfl) (by kernel_rfl))
 have n21:=dQ (k:=5) (n:=474449277043) _ e21 (by kernel_rfl) (by kernel_rfl);by_cases e22:s=strOf [116,97,107,101]
 ·rw [dU 22 (by kernel_rfl) e22];exact aPy s n0 n1 n2 n3 n4 n5 n6 n7 n8 n9 n10 n11 n12 n13 n14 n15 n16 n17 n18 n19 n20 n21 (cM _ e22 (by kernel_rfl) (by kernel_rfl))
 have n22:=dQ (k:=4) (n:=1701536116) _ e22 (by kernel_rfl) (by kernel_rfl);by_cases e23:s=strOf [116,97,115,107]
 ·rw [dU 23 (by kernel_rfl) e23];exact aPz s n0 n1 n2 n3 n4 n5 n6 n7 n8 n9 n10 n11 n12 n13 n14 n15 n16 n17 n18 n19 n20 n21 n22 (cM _ e23 (by kernel_rfl) (by kernel_rfl))
 have n23:=dQ (k:=4) (n:=1802723700) _ e23 (by kernel_rfl) (by kernel_rfl);by_cases e24:s=strOf [116,104,101,110]
 ·rw [dU 24 (by kernel_rfl) e24];exact aPA s n0 n1 n2 n3 n4 n5 n6 n7 n8 n9 n10 n11 n12 n13 n14 n15 n16 n17 n18 n19 n20 n21 n22 n23 (cM _ e24 (by kernel_rfl) (by kernel_rfl))
 have n24:=dQ (k:=4) (n:=1852139636) _ e24 (by kernel_rfl) (by kernel_rfl);by_cases e25:s=strOf [116,114,117,101]
 ·rw [dU 25 (by kernel_rfl) e25];exact aPB s n0 n1 n2 n3 n4 n5 n6 n7 n8 n9 n10 n11 n12 n13 n14 n15 n16 n17 n18 n19 n20 n21 n22 n23 n24 (cM _ e25 (by kernel_rfl) (by kernel_rfl))
 have n25:=dQ (k:=4) (n:=1702195828) _ e25 (by kernel_rfl) (by kernel_rfl);by_cases e26:s=strOf [116,121,112,101]
 ·rw [dU 26 (by kernel_rfl) e26];exact aPC s n0 n1 n2 n3 n4 n5 n6 n7 n8 n9 n10 n11 n12 n13 n14 n15 n16 n17 n18 n19 n20 n21 n22 n23 n24 n25 (cM _ e26 (by kernel_rfl) (by kernel_rfl))
 have n26:=dQ (k:=4) (n:=1701869940) _ e26 (by kernel_rfl) (by kernel_rfl);by_cases e27:s=strOf [117,110,105,116]
 ·rw [dU 27 (by kernel_rfl) e27];exact aPD s n0 n1 n2 n3 n4 n5 n6 n7 n8 n9 n10 n11 n12 n13 n14 n15 n16 n17 n18 n19 n20 n21 n22 n23 n24 n25 n26 (cM _ e27 (by kernel_rfl) (by kernel_rfl))
 have n27:=dQ (k:=4) (n:=1953066613) _ e27 (by kernel_rfl) (by kernel_rfl);have hno:dA kwL s=false:=by
  unfold dA kwL;simp only [List.any_cons,List.any_nil,Bool.or_false,Bool.or_eq_false_iff,decide_eq_false_iff_not];exact⟨fun h=>e0 h.symm,fun h=>e1 h.symm,fun h=>e2 h.symm,fun h=>e3 h.symm,fun h=>e4 h.symm,fun h=>e5 h.symm,fun h=>e6 h.symm,fun h=>e7 h.symm,fun h=>e8 h.symm,fun h=>e9 h.symm,fun h=>e10 h.symm,fun h=>e11 h.symm,fun h=>e12 h.symm,fun h=>e13 h.symm,fun h=>e14 h.symm,fun h=>e15 h.symm,fun h=>e16 h.symm,fun h=>e17 h.symm,fun h=>e18 h.symm,fun h=>e19 h.symm,fun h=>e20 h.symm,fun h=>e21 h.symm,fun h=>e22 h.symm,fun h=>e23 h.symm,fun h=>e24 h.symm,fun h=>e25 h.symm,fun h=>e26 h.symm,fun h=>e27 h.symm⟩
 rw [hno];exact aPE s n0 n1 n2 n3 n4 n5 n6 n7 n8 n9 n10 n11 n12 n13 n14 n15 n16 n17 n18 n19 n20 n21 n22 n23 n24 n25 n26 n27
def dK (s:aB) :Bool:=decide (1≤s.length) &&decide (s.length≤8) &&eO s&& !dA kwL s
theorem lI (s:aB) :Pure PP 59 [aA s] (.bool (dK s)) :=by
 refine bC (by kernel_rfl) rfl rfl ?_;unfold dK;by_cases h1:1≤s.length
 · by_cases h2:s.length≤8
   · have hS:=aCj s (by omega);cases h3:eO s with
     | true=>
      rw [h3]at hS;have:=aVm s true _ sd sd hS rfl (aN7 s);simpa [h1,h2]using this
     | false=>
      rw [h3]at hS;have:=aVn s false sd sd hS rfl;simpa [h1,h2]using this
   · have:=aVo s sd sd;simpa [h1,h2]using this
 · have:=aVp s sd;simpa [h1]using this
theorem lJ (s:aB) :Pure PP 103 [aA s] (.bool (dK s)) :=by
 refine bC (by kernel_rfl) rfl rfl ?_;unfold dK;by_cases h1:s= []
 · subst h1;have:=aVD [] (by rfl);simpa using this
 · have hpos:1≤s.length:=by cases s with
    |nil=>exact absurd rfl h1
    |cons _ _=>simp
   have h0: (!(bA (length s) (aD s) 0 0)) =true:=by
    have:=dQ (k:=0) (n:=0) (s:=s) [] h1 rfl rfl;rw [this];rfl
   by_cases h2:s.length≤8
   · have hS:=aCo s;cases h3:eO s with
     | true=>
      rw [h3]at hS;have:=aVA s true _ h0 sd hS rfl (aPM s);simpa [hpos,h2]using this
     | false=>
      rw [h3]at hS;have:=aVB s false h0 sd hS rfl;simpa [hpos,h2]using this
   · have:=aVC s h0 sd;simpa [hpos,h2]using this
theorem hI (n lo hi:Int) :Pure PP 60 [.int .i64 n,.int .i64 lo,.int .i64 hi] (.bool (cF n lo hi)) :=by
 refine bC (by kernel_rfl) rfl rfl ?_;by_cases h:n≥lo
 · have e:cF n lo hi=decide (n≤hi) :=by unfold cF;rw [decide_eq_true (show lo≤n from h),Bool.true_and]
   rw [e];exact aPk n lo hi (by simpa using h)
 · have e:cF n lo hi=false:=by unfold cF;rw [decide_eq_false (show ¬lo≤n from h),Bool.false_and]
   rw [e];exact aPl n lo hi (by simpa using h)
def bDE(a b:Int)(c:aB)(d:List Pat):TS:=bQ PP 186 [(.agg [(nI a),(nI b),(aA c),(iP d)])] [] 0
def aG9(b c:Int)(d:aB)(e:List Pat)(f:Int)(a:List aB):TS:=⟨(tf 186 27 [kp 1 0,(2,.nils),(3,(.gl 1 1 0 a.length false)),(4,(nI f))] [kc f186 244,kl f186 244,.inBlock 0,kc f186 31]),[],[oC 0 [(nI b),(nI c),(aA d),(iP e)],oL 1 1 (map aA a)],2⟩
def eZ(b c:Int)(d:aB)(a:List Pat)(e:Bool)(f:Int):TS:=⟨(tf 189 97 [kp 1 0,(2,(bV false)),(3,(nI (a.length:Int))),(4,(bV e)),(5,(nI f))] [kc f189 500,kl f189 500,.inBlock 1,kc f189 63]),[],[oC 0 [(nI b),(nI c),(aA d),(iP a)]],1⟩
def bDF(b c:Int)(a:aB)(d:List Pat):=tT 0 (bDE b c a d)<|.b 12 7 (b==2) (.i [rn 9,.toL 2 false [(aA a)]] [hr (some [(aA a)]),hr true]<|gu 0 1 (map aA [a])<|gs 0 2 (.gl 1 1 0 [a].length true)<|.i [.weak 2] []<|gz 0 2 1 1 aA [a] false<|gE 0 2 (iS [a]))<|.i [rn 13,.nilL 3 1] []<|gu 0 1 (map aA ([] :List aB))<|gs 0 3 (.gl 1 1 0 ([] :List aB).length false)<|.W 0 2 [0,1] (aG9 b c a d 0 ([] :List aB))
def aVI:=fun a b c d e=>bDF a b c d|>.t e tv
def aVJ:=fun a b c d e=>bDF a b c d|>.f e ⟨kk,trivial⟩
def bDG(e f:Int)(g:aB)(a:List Pat)(b:Int)(c:List aB):=tT 0 (aG9 e f g a b c)<|gm 6 aJ a<|gd 2 15 (b< (a.length:Int)) (xM 9 a b<|fun i j k l=>.y fun d:List aB=>gp 1 186 [(.agg [(nI i),(nI j),(aA k),(iP l)])] (iS d)<|ga 0 aA c d<|gw 6 17 (b+1)<|.W 3 3 [0,2] (aG9 e f g a (b+1) (c++d)))<|gz 8 2 1 1 aA c false<|gE 0 2 (iS c)
def aVK:=fun a b c d e f g i j k l m n o p q r=>bDG a b c d e f|>.t m g i j k n o l p q r ⟨kk,trivial⟩
def aVL:=fun a b c d e f g=>bDG a b c d e f|>.f g tv
def lK(c d:Int)(a:aB)(b:List Pat):=tT 0 (start PP 189 [(.agg [(nI c),(nI d),(aA a),(iP b)])])<|gm 9 aJ b<|.b 19 11 (c==1) (.b 7 16 ((b.length:Int) ==0) (.b 5 21 (d==0) (.W 14 1 [0] (eZ c d a b (bA a.length (aD a) 0 0) 0))<|.W 14 1 [0] (eZ c d a b false 0))<|.W 19 1 [0] (eZ c d a b false 0))<|.b 5 11 (c==5) (.b 5 16 ((b.length:Int) ==0) (.b 5 21 (d==0) (.W 14 1 [0] (eZ c d a b (bA a.length (aD a) 0 0) 0))<|.W 14 1 [0] (eZ c d a b false 0))<|.W 19 1 [0] (eZ c d a b false 0))<|.b 6 26 (c==2) (.b 5 30 ((b.length:Int) ==0) (.b 5 35 (d==0) (dR 2 59 [(aA a)]<|fun e=>.W 11 1 [0] (eZ c d a b e 0))<|.W 14 1 [0] (eZ c d a b false 0))<|.W 19 1 [0] (eZ c d a b false 0))<|.b 6 40 (c==3) (.b 5 44 ((b.length:Int) ==0) (.b 5 49 (bA a.length (aD a) 0 0) (dR 2 60 [(nI d),(nI (-1000000000)),(nI 1000000000)]<|fun e=>.W 11 1 [0] (eZ c d a b e 0))<|.W 14 1 [0] (eZ c d a b false 0))<|.W 19 1 [0] (eZ c d a b false 0))<|.b 6 54 (c==4) (.b 5 58 ((b.length:Int) ==0) (.b 5 63 (bA a.length (aD a) 0 0) (dR 2 60 [(nI d),(nI 0),(nI 1)]<|fun e=>.W 11 1 [0] (eZ c d a b e 0))<|.W 14 1 [0] (eZ c d a b false 0))<|.W 19 1 [0] (eZ c d a b false 0))<|.b 6 68 (c==6) (gd 5 72 ((b.length:Int) ≤3) (.b 5 77 (d==0) (dR 2 120 [(aA a)]<|fun e=>.W 11 1 [0] (eZ c d a b e 0))<|.W 14 1 [0] (eZ c d a b false 0))<|.W 19 1 [0] (eZ c d a b false 0))<|.W 10 1 [0] (eZ c d a b false 0)
def aVM:=fun a b c d e f g=>lK a b c d|>.t e|>.t f|>.t g tv
def aVN:=fun a b c d e f g=>lK a b c d|>.t e|>.t f|>.f g tv
def aVO:=fun a b c d e f=>lK a b c d|>.t e|>.f f tv
def aVP:=fun a b c d e f g i=>lK a b c d|>.f e|>.t f|>.t g|>.t i tv
def aVQ:=fun a b c d e f g i=>lK a b c d|>.f e|>.t f|>.t g|>.f i tv
def aVR:=fun a b c d e f g=>lK a b c d|>.f e|>.t f|>.f g tv
def aVS:=fun a b c d e f g i j k l=>lK a b c d|>.f f|>.f g|>.t i|>.t j|>.t k e l tv
def aVT:=fun a b c d e f g i j=>lK a b c d|>.f e|>.f f|>.t g|>.t i|>.f j tv
def aVU:=fun a b c d e f g i=>lK a b c d|>.f e|>.f f|>.t g|>.f i tv
def aVV:=fun a b c d e f g i j k l m=>lK a b c d|>.f f|>.f g|>.f i|>.t j|>.t k|>.t l e m tv
def aPN:=fun a b c d e f g i j k=>lK a b c d|>.f e|>.f f|>.f g|>.t i|>.t j|>.f k tv
def aPO:=fun a b c d e f g i j=>lK a b c d|>.f e|>.f f|>.f g|>.t i|>.f j tv
def aPP:=fun a b c d e f g i j k l m n=>lK a b c d|>.f f|>.f g|>.f i|>.f j|>.t k|>.t l|>.t m e n tv
def aPQ:=fun a b c d e f g i j k l=>lK a b c d|>.f e|>.f f|>.f g|>.f i|>.t j|>.t k|>.f l tv
def aPR:=fun a b c d e f g i j k=>lK a b c d|>.f e|>.f f|>.f g|>.f i|>.t j|>.f k tv
def aPS:=fun a b c d e f g i j k l m n o=>lK a b c d|>.f f|>.f g|>.f i|>.f j|>.f k|>.t l|>.t m|>.t n e o tv
def aPT:=fun a b c d e f g i j k l m=>lK a b c d|>.f e|>.f f|>.f g|>.f i|>.f j|>.t k|>.t l|>.f m tv
def aPU:=fun a b c d e f g i j k l=>lK a b c d|>.f e|>.f f|>.f g|>.f i|>.f j|>.t k|>.f l tv
def aPV:=fun a b c d e f g i j k=>lK a b c d|>.f e|>.f f|>.f g|>.f i|>.f j|>.f k tv
def aPW(d e:Int)(f:aB)(b:List Pat)(c:Bool)(a:Int):=tT 0 (eZ d e f b c a)<|gd 7 85 (a< (b.length:Int)) (.b 3 87 c (xM 8 b a<|fun g i j k=>dR 1 189 [(.agg [(nI g),(nI i),(aA j),(iP k)])]<|fun l=>gw 6 89 (a+1)<|.W 3 1 [0] (eZ d e f b l (a+1)))<|gE 8 1 (bV c))<|gE 11 1 (bV c)
def aVW:=fun a b c d e f g i j k l m n o p q r=>aPW a b c d e f|>.t m|>.t n g i j k o p l q r tv
def aVX:=fun a b c d e f g i=>aPW a b c d e f|>.t g|>.f i tv
def aVY:=fun a b c d e f g=>aPW a b c d e f|>.f g tv
def aPX(a b:Int)(c:aB)(d:List Pat):=tT 0 (start PP 123 [(.agg [(nI a),(nI b),(aA c),(iP d)])])<|gpI 8 124 [(.agg [(nI a),(nI b),(aA c),(iP d)]),(nI 12)]<|fun f=>gd 2 6 (f≥0) (dR 1 189 [(.agg [(nI a),(nI b),(aA c),(iP d)])]<|fun g=>.b 2 10 g (.y fun e:List aB=>gp 1 186 [(.agg [(nI a),(nI b),(aA c),(iP d)])] (iS e)<|dR 0 49 [(iS e)]<|fun i=>gE 4 1 (bV i))<|gE 7 1 (bV false))<|gE 11 1 (bV false)
def aVZ:=fun a b c d e f g i j k l m n o=>aPX a b c d e j|>.t k f l|>.t m g n i o tv
def aV0:=fun a b c d e f g i j k=>aPX a b c d e g|>.t i f j|>.f k tv
def aV1:=fun a b c d e f g=>aPX a b c d e f|>.f g tv
def bFp(a b c d:Int)(e:aB)(f:List Pat):TS:=bQ PP 269 [(.ptr 0 0),(.agg [(nI c),(nI d),(aA e),(iP f)])] [oC 0 [(nI a),(nI b)]] 1
def aMm(e b f g:Int)(i:aB)(a:List Pat)(c d:Int):TS:=⟨(tf 269 19 [kp 0 0,(9,(iP a)),(10,(nI (a.length:Int))),(11,(nI c))] [kc f269 60,kl f269 60,.inBlock 0]),[],[oC 0 [(nI d),(nI b)]],1⟩
def aMn(a:List (aB×Bool))(b c:Int)(d:aB)(e:List Pat):TS:=bQ PP 270 [(.agg [(nI b),(nI c),(aA d),(iP e)]),(.map 0)] [(0,(.map (aC aA pG 0 a) a.length),true)] 1
def nV(d:List (aB×Bool))(e f:Int)(g:aB)(a:List Pat)(b:List (aB×Bool))(c:Int):TS:=⟨(tf 270 121 [(1,(.map 0)),(111,(iP a)),(112,(nI (a.length:Int))),(113,(nI c))] [kc f270 60,kl f270 60,.inBlock 1]),[],[(0,(.map (aC aA pG 0 b) b.length),true)],1⟩
def bDH(a b:Int)(c:aB)(d:List Pat):TS:=bQ PP 234 [(.agg [(nI a),(nI b),(aA c),(iP d)])] [] 0
def bDI(a b d e:Int)(f:aB)(c:List Pat):=tT 1 (bFp a b d e f c)<|gw 15 8 (a-1)<|gd 11 16 ((a-1) ≥0) (.b 13 3 (!(decide (0≤b))) (.P 7 2 [] [((.iface 299 (.agg [])),false)] [oC 0 [(nI (a-1)),(nI b)]] 1)<|gm 12 aJ c<|.W 4 2 [] (aMm a b d e f c 0 (a-1)))<|.P 20 2 [] [((.iface 299 (.agg [])),false)] [oC 0 [(nI (a-1)),(nI b)]] 1
def bFq:=fun a b c d e f g i j=>bDI a b c d e f g|>.t i|>.f j tv
def bFr:=fun a b c d e f g i=>bDI a b c d e f g|>.f i tv
def aPY(k a l m:Int)(n:aB)(i:List Pat)(f j:Int):=tT 1 (aMm k a l m n i f j)<|gd 5 12 (f< (i.length:Int)) (xM 6 i f<|fun b c d e=>.o (.y fun g:Int=>gK 7 (.enter 269 [(.ptr 0 0),(.agg [(nI b),(nI c),(aA d),(iP e)])]) [oC 0 [(nI j),(nI a)],oC 1 [(nI b),(nI c),(aA d),(iP e)]] 2 [((.iface 299 (.agg [])),false)] [oC 0 [(nI g),(nI a)],oC 1 [(nI b),(nI c),(aA d),(iP e)]] 2<|.P 0 2 [] [((.iface 299 (.agg [])),false)] [oC 0 [(nI g),(nI a)]] 1)<|.y fun g:Int=>gk 7 (.enter 269 [(.ptr 0 0),(.agg [(nI b),(nI c),(aA d),(iP e)])]) [oC 0 [(nI j),(nI a)],oC 1 [(nI b),(nI c),(aA d),(iP e)]] 2 (.tup []) [oC 0 [(nI g),(nI a)],oC 1 [(nI b),(nI c),(aA d),(iP e)]] 2<|gw 4 18 (f+1)<|.W 3 2 [] (aMm k a l m n i (f+1) g))<|.E 3 1 [] (.tup []) [oC 0 [(nI j),(nI a)]] 1
def bFs:=fun a b c d e f g i j k l m n o p q r=>aPY a b c d e f g i|>.t o j k l m p q|>.1 n r tv
def bFt:=fun a b c d e f g i j k l m n o p q r s=>aPY a b c d e f g i|>.t o j k l m p q|>.2 n r s tv
def bFu:=fun a b c d e f g i j=>aPY a b c d e f g i|>.f j tv
def gJ(a:List (aB×Bool))(e d:Int)(b:aB)(c:List Pat):=tT 1 (aMn a e d b c)<|.b 17 9 (e==1) (gm 6 aJ c<|.b 2 16 ((c.length:Int) ==0) (.b 5 21 (d==0) (.b 10 3 (!(bA b.length (aD b) 0 0)) (.P 6 2 [] [((.iface 299 (.agg [])),false)] [(0,(.map (aC aA pG 0 a) a.length),true)] 1)<|gm 10 aJ c<|.W 4 2 [] (nV a e d b c a 0))<|.P 16 2 [] [((.iface 299 (.agg [])),false)] [(0,(.map (aC aA pG 0 a) a.length),true)] 1)<|.P 21 2 [] [((.iface 299 (.agg [])),false)] [(0,(.map (aC aA pG 0 a) a.length),true)] 1)<|.b 5 9 (e==5) (gm 4 aJ c<|.b 2 16 ((c.length:Int) ==0) (.b 5 21 (d==0) (.b 10 3 (!(bA b.length (aD b) 0 0)) (.P 6 2 [] [((.iface 299 (.agg [])),false)] [(0,(.map (aC aA pG 0 a) a.length),true)] 1)<|gm 10 aJ c<|.W 4 2 [] (nV a e d b c a 0))<|.P 16 2 [] [((.iface 299 (.agg [])),false)] [(0,(.map (aC aA pG 0 a) a.length),true)] 1)<|.P 21 2 [] [((.iface 299 (.agg [])),false)] [(0,(.map (aC aA pG 0 a) a.length),true)] 1)<|.b 6 27 (e==2) (gm 5 aJ c<|.b 2 33 ((c.length:Int) ==0) (.b 5 38 (d==0) (dR 2 103 [(aA b)]<|fun f=>.b 2 43 f (.o (.y fun g:Bool=>.i [rn 3,.ans (.look (some (qZ b a,(pG g))))] [.a (cQ b a=some g) (p':=eK (aA b) (aC aA pG 0 a) 0=some (some (qZ b a,(pG g)))) (mI fD)]<|.b 8 3 (!(!g)) (.P 6 2 [] [((.iface 299 (.agg [])),false)] [(0,(.map (aC aA pG 0 a) a.length),true)] 1)<|.i [rn 9,.mput (aC aA pG 0 (eJ b true a)) (eJ b true a).length] [.q (p:=qY (aC aA pG 0 a) a.length (aA b) (pG true) =some ((aC aA pG 0 (eJ b true a)),length (eJ b true a))) (aC1 fD _ _ _)]<|gm 6 aJ c<|.W 4 2 [] (nV a e d b c (eJ b true a) 0))<|.i [rn 3,.ans (.look none)] [.a (cQ b a=none) (p':=eK (aA b) (aC aA pG 0 a) 0=some none) (mH fD)]<|.i [rn 17,.mput (aC aA pG 0 (eJ b true a)) (eJ b true a).length] [.q (p:=qY (aC aA pG 0 a) a.length (aA b) (pG true) =some ((aC aA pG 0 (eJ b true a)),length (eJ b true a))) (aC1 fD _ _ _)]<|gm 6 aJ c<|.W 4 2 [] (nV a e d b c (eJ b true a) 0))<|.P 18 2 [] [((.iface 299 (.agg [])),false)] [(0,(.map (aC aA pG 0 a) a.length),true)] 1)<|.P 23 2 [] [((.iface 299 (.agg [])),false)] [(0,(.map (aC aA pG 0 a) a.length),true)] 1)<|.P 28 2 [] [((.iface 299 (.agg [])),false)] [(0,(.map (aC aA pG 0 a) a.length),true)] 1)<|.b 6 54 (e==3) (gm 4 aJ c<|.b 2 60 ((c.length:Int) ==0) (.b 5 65 (bA b.length (aD b) 0 0) (dR 2 251 [(nI d)]<|fun f=>.b 7 3 (!f) (.P 6 2 [] [((.iface 299 (.agg [])),false)] [(0,(.map (aC aA pG 0 a) a.length),true)] 1)<|gm 10 aJ c<|.W 4 2 [] (nV a e d b c a 0))<|.P 16 2 [] [((.iface 299 (.agg [])),false)] [(0,(.map (aC aA pG 0 a) a.length),true)] 1)<|.P 21 2 [] [((.iface 299 (.agg [])),false)] [(0,(.map (aC aA pG 0 a) a.length),true)] 1)<|.b 6 71 (e==4) (gm 4 aJ c<|.b 2 77 ((c.length:Int) ==0) (.b 5 82 (bA b.length (aD b) 0 0) (.b 4 86 (d==0) (gm 21 aJ c<|.W 4 2 [] (nV a e d b c a 0))<|.b 11 3 (!(d==1)) (.P 6 2 [] [((.iface 299 (.agg [])),false)] [(0,(.map (aC aA pG 0 a) a.length),true)] 1)<|gm 10 aJ c<|.W 4 2 [] (nV a e d b c a 0))<|.P 21 2 [] [((.iface 299 (.agg [])),false)] [(0,(.map (aC aA pG 0 a) a.length),true)] 1)<|.P 26 2 [] [((.iface 299 (.agg [])),false)] [(0,(.map (aC aA pG 0 a) a.length),true)] 1)<|.b 6 93 (e==6) (gm 4 aJ c<|gd 2 99 ((c.length:Int) ≤3) (.b 5 104 (d==0) (dR 2 179 [(aA b)]<|fun f=>.b 7 3 (!f) (.P 6 2 [] [((.iface 299 (.agg [])),false)] [(0,(.map (aC aA pG 0 a) a.length),true)] 1)<|gm 10 aJ c<|.W 4 2 [] (nV a e d b c a 0))<|.P 16 2 [] [((.iface 299 (.agg [])),false)] [(0,(.map (aC aA pG 0 a) a.length),true)] 1)<|.P 21 2 [] [((.iface 299 (.agg [])),false)] [(0,(.map (aC aA pG 0 a) a.length),true)] 1)<|.P 14 2 [] [((.iface 299 (.agg [])),false)] [(0,(.map (aC aA pG 0 a) a.length),true)] 1
def aV2:=fun a b c d e f g i j=>gJ a b c d e|>.t f|>.t g|>.t i|>.t j ⟨aI (fun _=>rfl) (fun _=>rfl) _ _ _,trivial⟩
def aV3:=fun a b c d e f g i j=>gJ a b c d e|>.t f|>.t g|>.t i|>.f j ⟨aI (fun _=>rfl) (fun _=>rfl) _ _ _,trivial⟩
def aV4:=fun a b c d e f g i=>gJ a b c d e|>.t f|>.t g|>.f i ⟨aI (fun _=>rfl) (fun _=>rfl) _ _ _,trivial⟩
def aV5:=fun a b c d e f g=>gJ a b c d e|>.t f|>.f g ⟨aI (fun _=>rfl) (fun _=>rfl) _ _ _,trivial⟩
def aV6:=fun a b c d e f g i j k=>gJ a b c d e|>.f f|>.t g|>.t i|>.t j|>.t k ⟨aI (fun _=>rfl) (fun _=>rfl) _ _ _,trivial⟩
def aV7:=fun a b c d e f g i j k=>gJ a b c d e|>.f f|>.t g|>.t i|>.t j|>.f k ⟨aI (fun _=>rfl) (fun _=>rfl) _ _ _,trivial⟩
def aV8:=fun a b c d e f g i j=>gJ a b c d e|>.f f|>.t g|>.t i|>.f j ⟨aI (fun _=>rfl) (fun _=>rfl) _ _ _,trivial⟩
def aV9:=fun a b c d e f g i=>gJ a b c d e|>.f f|>.t g|>.f i ⟨aI (fun _=>rfl) (fun _=>rfl) _ _ _,trivial⟩
def aWa:=fun a b c d e f g i j k l m n o p q=>gJ a b c d e|>.f i|>.f j|>.t k|>.t l|>.t m f n|>.t o|>.1 g p|>.t q ⟨aI (fun _=>rfl) (fun _=>rfl) _ _ _,trivial⟩
def aWb:=fun a b c d e f g i j k l m n o p q=>gJ a b c d e|>.f i|>.f j|>.t k|>.t l|>.t m f n|>.t o|>.1 g p|>.f q ⟨aI (fun _=>rfl) (fun _=>rfl) _ _ _,trivial⟩
def aPZ:=fun a b c d e f g i j k l m n o=>gJ a b c d e|>.f g|>.f i|>.t j|>.t k|>.t l f m|>.t n|>.2 o ⟨aI (fun _=>rfl) (fun _=>rfl) _ _ _,trivial⟩
def aP0:=fun a b c d e f g i j k l m n=>gJ a b c d e|>.f g|>.f i|>.t j|>.t k|>.t l f m|>.f n ⟨aI (fun _=>rfl) (fun _=>rfl) _ _ _,trivial⟩
def aP1:=fun a b c d e f g i j k=>gJ a b c d e|>.f f|>.f g|>.t i|>.t j|>.f k ⟨aI (fun _=>rfl) (fun _=>rfl) _ _ _,trivial⟩
def aP2:=fun a b c d e f g i j=>gJ a b c d e|>.f f|>.f g|>.t i|>.f j ⟨aI (fun _=>rfl) (fun _=>rfl) _ _ _,trivial⟩
def aP3:=fun a b c d e f g i j k l m n o=>gJ a b c d e|>.f g|>.f i|>.f j|>.t k|>.t l|>.t m f n|>.t o ⟨aI (fun _=>rfl) (fun _=>rfl) _ _ _,trivial⟩
def aP4:=fun a b c d e f g i j k l m n o=>gJ a b c d e|>.f g|>.f i|>.f j|>.t k|>.t l|>.t m f n|>.f o ⟨aI (fun _=>rfl) (fun _=>rfl) _ _ _,trivial⟩
def aP5:=fun a b c d e f g i j k l=>gJ a b c d e|>.f f|>.f g|>.f i|>.t j|>.t k|>.f l ⟨aI (fun _=>rfl) (fun _=>rfl) _ _ _,trivial⟩
def aP6:=fun a b c d e f g i j k=>gJ a b c d e|>.f f|>.f g|>.f i|>.t j|>.f k ⟨aI (fun _=>rfl) (fun _=>rfl) _ _ _,trivial⟩
def aP7:=fun a b c d e f g i j k l m n=>gJ a b c d e|>.f f|>.f g|>.f i|>.f j|>.t k|>.t l|>.t m|>.t n ⟨aI (fun _=>rfl) (fun _=>rfl) _ _ _,trivial⟩
def aP8:=fun a b c d e f g i j k l m n o=>gJ a b c d e|>.f f|>.f g|>.f i|>.f j|>.t k|>.t l|>.t m|>.f n|>.t o ⟨aI (fun _=>rfl) (fun _=>rfl) _ _ _,trivial⟩
def aP9:=fun a b c d e f g i j k l m n o=>gJ a b c d e|>.f f|>.f g|>.f i|>.f j|>.t k|>.t l|>.t m|>.f n|>.f o ⟨aI (fun _=>rfl) (fun _=>rfl) _ _ _,trivial⟩
def aQa:=fun a b c d e f g i j k l m=>gJ a b c d e|>.f f|>.f g|>.f i|>.f j|>.t k|>.t l|>.f m ⟨aI (fun _=>rfl) (fun _=>rfl) _ _ _,trivial⟩
def aQb:=fun a b c d e f g i j k l=>gJ a b c d e|>.f f|>.f g|>.f i|>.f j|>.t k|>.f l ⟨aI (fun _=>rfl) (fun _=>rfl) _ _ _,trivial⟩
def aQc:=fun a b c d e f g i j k l m n o p q=>gJ a b c d e|>.f g|>.f i|>.f j|>.f k|>.f l|>.t m|>.t n|>.t o f p|>.t q ⟨aI (fun _=>rfl) (fun _=>rfl) _ _ _,trivial⟩
def aQd:=fun a b c d e f g i j k l m n o p q=>gJ a b c d e|>.f g|>.f i|>.f j|>.f k|>.f l|>.t m|>.t n|>.t o f p|>.f q ⟨aI (fun _=>rfl) (fun _=>rfl) _ _ _,trivial⟩
def aQe:=fun a b c d e f g i j k l m n=>gJ a b c d e|>.f f|>.f g|>.f i|>.f j|>.f k|>.t l|>.t m|>.f n ⟨aI (fun _=>rfl) (fun _=>rfl) _ _ _,trivial⟩
def aQf:=fun a b c d e f g i j k l m=>gJ a b c d e|>.f f|>.f g|>.f i|>.f j|>.f k|>.t l|>.f m ⟨aI (fun _=>rfl) (fun _=>rfl) _ _ _,trivial⟩
def aQg:=fun a b c d e f g i j k l=>gJ a b c d e|>.f f|>.f g|>.f i|>.f j|>.f k|>.f l ⟨aI (fun _=>rfl) (fun _=>rfl) _ _ _,trivial⟩
def aQh(j:List (aB×Bool))(k l:Int)(m:aB)(i:List Pat)(b:List (aB×Bool))(g:Int):=tT 1 (nV j k l m i b g)<|gd 5 114 (g< (i.length:Int)) (xM 6 i g<|fun c d e f=>.o (.y fun a:List (aB×Bool)=>gK 7 (.enter 270 [(.agg [(nI c),(nI d),(aA e),(iP f)]),(.map 0)]) [(0,(.map (aC aA pG 0 b) b.length),true),oC 1 [(nI c),(nI d),(aA e),(iP f)]] 2 [((.iface 299 (.agg [])),false)] [(0,(.map (aC aA pG 0 a) a.length),true),oC 1 [(nI c),(nI d),(aA e),(iP f)]] 2<|.P 0 2 [] [((.iface 299 (.agg [])),false)] [(0,(.map (aC aA pG 0 a) a.length),true)] 1)<|.y fun a:List (aB×Bool)=>gk 7 (.enter 270 [(.agg [(nI c),(nI d),(aA e),(iP f)]),(.map 0)]) [(0,(.map (aC aA pG 0 b) b.length),true),oC 1 [(nI c),(nI d),(aA e),(iP f)]] 2 (.tup []) [(0,(.map (aC aA pG 0 a) a.length),true),oC 1 [(nI c),(nI d),(aA e),(iP f)]] 2<|gw 4 120 (g+1)<|.W 3 2 [] (nV j k l m i a (g+1)))<|.E 3 1 [] (.tup []) [(0,(.map (aC aA pG 0 b) b.length),true)] 1
def aWc:=fun a b c d e f g i j k l m n o p q=>aQh a b c d e f g|>.t n i j k l o p|>.1 m q ⟨aI (fun _=>rfl) (fun _=>rfl) _ _ _,trivial⟩
def aWd:=fun a b c d e f g i j k l m n o p q r=>aQh a b c d e f g|>.t n i j k l o p|>.2 m q r ⟨aI (fun _=>rfl) (fun _=>rfl) _ _ _,trivial⟩
def aWe:=fun a b c d e f g i=>aQh a b c d e f g|>.f i ⟨aI (fun _=>rfl) (fun _=>rfl) _ _ _,trivial⟩
def aQi(a b:Int)(c:aB)(d:List Pat):=tT 0 (bDH a b c d)<|.o (.y fun e:Int=>gK 36 (.enter 269 [(.ptr 2 0),(.agg [(nI a),(nI b),(aA c),(iP d)])]) [oC 0 [(nI a),(nI b),(aA c),(iP d)],oC 1 [(bV false)],oC 2 [(nI 12),(nI 0)]] 3 [((.iface 299 (.agg [])),false)] [oC 0 [(nI a),(nI b),(aA c),(iP d)],oC 1 [(bV false)],oC 2 [(nI e),(nI 0)]] 3<|gE 50 4 (nI 2))<|.y fun e:Int=>gk 36 (.enter 269 [(.ptr 2 0),(.agg [(nI a),(nI b),(aA c),(iP d)])]) [oC 0 [(nI a),(nI b),(aA c),(iP d)],oC 1 [(bV false)],oC 2 [(nI 12),(nI 0)]] 3 (.tup []) [oC 0 [(nI a),(nI b),(aA c),(iP d)],oC 1 [(bV false)],oC 2 [(nI e),(nI 0)]] 3<|.i [rn 4,.mset 3 (aC aA pG 0 ([] :List (aB×Bool))) ([] :List (aB×Bool)).length] [hr (aC aA pG 0 ([] :List (aB×Bool))),hr (length ([] :List (aB×Bool)))]<|.o (.y fun f:List (aB×Bool)=>gK 0 (.enter 270 [(.agg [(nI a),(nI b),(aA c),(iP d)]),(.map 3)]) [oC 0 [(nI a),(nI b),(aA c),(iP d)],oC 1 [(bV false)],oC 2 [(nI e),(nI 0)],(3,(.map (aC aA pG 0 ([] :List (aB×Bool))) ([] :List (aB×Bool)).length),true)] 4 [((.iface 299 (.agg [])),false)] [oC 0 [(nI a),(nI b),(aA c),(iP d)],oC 1 [(bV false)],oC 2 [(nI e),(nI 0)],(3,(.map (aC aA pG 0 f) f.length),true)] 4<|gE 50 5 (nI 2))<|.y fun f:List (aB×Bool)=>gk 0 (.enter 270 [(.agg [(nI a),(nI b),(aA c),(iP d)]),(.map 3)]) [oC 0 [(nI a),(nI b),(aA c),(iP d)],oC 1 [(bV false)],oC 2 [(nI e),(nI 0)],(3,(.map (aC aA pG 0 ([] :List (aB×Bool))) ([] :List (aB×Bool)).length),true)] 4 (.tup []) [oC 0 [(nI a),(nI b),(aA c),(iP d)],oC 1 [(bV false)],oC 2 [(nI e),(nI 0)],(3,(.map (aC aA pG 0 f) f.length),true)] 4<|gE 38 4 (nI 0)
def aWf:=fun a b c d e f=>aQi a b c d|>.1 e f tv
def aWg:=fun a b c d e f g i=>aQi a b c d|>.2 e g|>.1 f i tv
def aWh:=fun a b c d e f g i=>aQi a b c d|>.2 e g|>.2 f i tv
def bDJ(a:Int):=tT 0 (start PP 251 [(nI a)])<|gd 9 5 (a≥ (-1000000000:Int)) (gE 6 0 (bV (decide (a≤1000000000))))<|gE 6 0 (bV false)
def aWi:=fun a b=>bDJ a|>.t b tv
def aWj:=fun a b=>bDJ a|>.f b tv
theorem aQ {α:Type}(l:List α) : (((length l:Nat) :Int) == (0:Int)) =decide (l.length=0) :=by cases l<;>simp;omega
def bK (f n:Int)(t:aB)(ps:List Pat) :Bool:=
 if f=1∨f=5 then decide (ps.length=0) &&decide (n=0) &&decide (t= [])
 else if f=2 then decide (ps.length=0) &&decide (n=0) &&dK t
 else if f=3 then decide (ps.length=0) &&decide (t= []) &&cF n (-1000000000) 1000000000
 else if f=4 then decide (ps.length=0) &&decide (t= []) &&cF n 0 1
 else if f=6 then decide ((ps.length:Int) ≤3) &&decide (n=0) &&cD t
 else false
mutual
def uC :Pat→Bool
 | .mk f n t ps=>bK f n t ps&&lL ps
def lL :List Pat→Bool
 | [] =>true
 |p::ps=>uC p&&lL ps
end
mutual
def aO :Pat→List aB
 | .mk f _ t ps=>if f=2 then [t]else bY ps
def bY :List Pat→List aB
 | [] =>[]
 |p::ps=>aO p++bY ps
end
mutual
theorem mK :∀p,(aO p).length≤aV p
 | .mk f _ t ps=>by
  have:=wA ps;rw [aO,aV];split
  ·simp
  ·omega
theorem wA :∀ps,(bY ps).length≤aM ps
 | [] =>by simp [bY]
 | p::ps=>by
  have:=mK p;have:=wA ps;simp only [bY,aM,List.length_append];omega
end
theorem aIU (f n:Int)(s:aB)(ps:List Pat)(hl:ps.length<1000000)(ih:∀p∈ps,Pure PP 186 [Pat.av p] (.ilst 1 (map aA (aO p)) false)) :
  ∀ (t:List Pat) (i:Nat) (acc:List aB),ps.drop i=t→ (acc++bY t).length≤1000000→Ends PP 0 (aG9 f n s ps (i:Int) acc).as (.ret (.ilst 1 (map aA (acc++bY t)) false)) (aG [] 0)
 | [],i,acc,h,hb=>by
  have:=bL h;rw [bY,List.append_nil];exact aVL f n s ps i acc sd
 | .mk f' n' s' ps'::t,i,acc,h,hb=>by
  obtain⟨g1,g2,g3⟩ :=bH h;rw [bY,←List.append_assoc]at hb ⊢;refine(aVK f n s ps i acc f' n' s' ps' (aO (.mk f' n' s' ps')) sd sd sd (ih _ (List.mem_of_getElem? g1)) (by simp at hb ⊢;omega) sd).ends ?_;exact aIU f n s ps hl ih t (i+1) _ g2 hb
mutual
theorem aDW :∀ (p:Pat),aV p≤1000→Pure PP 186 [Pat.av p] (.ilst 1 (map aA (aO p)) false)
 | .mk f n s ps,h=>by
  refine cB (s:=bDE f n s ps) (by kernel_rfl) (by kernel_rfl) (by simp [AV.keylessL,kB]) (by simp [AV.keyless]) ?_;simp only [aV]at h;have:=cP ps;have:=wA ps;rw [aO];by_cases hf:f=2
  · rw [if_pos hf];exact aVI f n s ps (by simp [hf])
  · rw [if_neg hf];exact(aVJ f n s ps (by simp [hf])).ends (aIU f n s ps (by omega) (aMo ps (by omega)) ps 0 [] rfl (by simp;omega))
theorem aMo :∀ (ps:List Pat),aM ps≤1000→∀p∈ps,Pure PP 186 [Pat.av p] (.ilst 1 (map aA (aO p)) false)
 | [],_,p,hp=>by cases hp
 | q::ps,h,p,hp=>by
  simp only [aM]at h;rcases List.mem_cons.1 hp with e|hp
  ·rw [e];exact aDW q (by omega)
  ·exact aMo ps (by omega) p hp
end
theorem bGL (q_form q_n:Int)(q_text:aB)(q_parts:List Pat)(b:Bool)(hk:∀i:Bool,i=bK q_form q_n q_text q_parts→Ends PP 0 (eZ q_form q_n q_text q_parts i 0).as (.ret (.bool b)) (aG [] 0)) :
  Ends PP 0 (start PP 189 [Pat.av (.mk q_form q_n q_text q_parts)]).as (.ret (.bool b)) (aG [] 0) :=by
 cases hb1: (q_form== (1:Int))with
 | true=>
  cases hb2: (((length q_parts:Nat) :Int) == (0:Int))with
  | true=>
   cases hb3: (q_n== (0:Int))with
   | true=>
    exact LeadsM.ends (aVM q_form q_n q_text q_parts   hb1 hb2 hb3) (hk _ (by clear hk;simp_all [bK,aE,aQ] <;>intros<;>omega))
   | false=>
    exact LeadsM.ends (aVN q_form q_n q_text q_parts   hb1 hb2 hb3) (hk _ (by clear hk;simp_all [bK,aE,aQ] <;>intros<;>omega))
  | false=>
   exact LeadsM.ends (aVO q_form q_n q_text q_parts   hb1 hb2) (hk _ (by clear hk;simp_all [bK,aE,aQ] <;>intros<;>omega))
 | false =>
  cases hb4: (q_form== (5:Int))with
  | true=>
   cases hb5: (((length q_parts:Nat) :Int) == (0:Int))with
   | true=>
    cases hb6: (q_n== (0:Int))with
    | true=>
     exact LeadsM.ends (aVP q_form q_n q_text q_parts   hb1 hb4 hb5 hb6) (hk _ (by clear hk;simp_all [bK,aE,aQ] <;>intros<;>omega))
    | false=>
     exact LeadsM.ends (aVQ q_form q_n q_text q_parts   hb1 hb4 hb5 hb6) (hk _ (by clear hk;simp_all [bK,aE,aQ] <;>intros<;>omega))
   | false=>
    exact LeadsM.ends (aVR q_form q_n q_text q_parts   hb1 hb4 hb5) (hk _ (by clear hk;simp_all [bK,aE,aQ] <;>intros<;>omega))
  | false =>
   cases hb7: (q_form== (2:Int))with
   | true=>
    cases hb8: (((length q_parts:Nat) :Int) == (0:Int))with
    | true=>
     cases hb9: (q_n== (0:Int))with
     | true=>
      exact LeadsM.ends (aVS q_form q_n q_text q_parts  (dK q_text) hb1 hb4 hb7 hb8 hb9 (lI q_text)) (hk _ (by clear hk;simp_all [bK,aE,aQ] <;>intros<;>omega))
     | false=>
      exact LeadsM.ends (aVT q_form q_n q_text q_parts   hb1 hb4 hb7 hb8 hb9) (hk _ (by clear hk;simp_all [bK,aE,aQ] <;>intros<;>omega))
    | false=>
     exact LeadsM.ends (aVU q_form q_n q_text q_parts   hb1 hb4 hb7 hb8) (hk _ (by clear hk;simp_all [bK,aE,aQ] <;>intros<;>omega))
   | false=>
    cases hb10: (q_form== (3:Int))with
    | true=>
     cases hb11: (((length q_parts:Nat) :Int) == (0:Int))with
     | true=>
      cases hb12: (bA (length q_text) (aD q_text) 0 0)with
      | true=>
       exact LeadsM.ends (aVV q_form q_n q_text q_parts  (cF q_n (-1000000000) 1000000000) hb1 hb4 hb7 hb10 hb11 hb12 (hI q_n (-1000000000) 1000000000)) (hk _ (by clear hk;simp_all [bK,aE,aQ] <;>intros<;>omega))
      | false=>
       exact LeadsM.ends (aPN q_form q_n q_text q_parts   hb1 hb4 hb7 hb10 hb11 hb12) (hk _ (by clear hk;simp_all [bK,aE,aQ] <;>intros<;>omega))
     | false=>
      exact LeadsM.ends (aPO q_form q_n q_text q_parts   hb1 hb4 hb7 hb10 hb11) (hk _ (by clear hk;simp_all [bK,aE,aQ] <;>intros<;>omega))
    | false=>
     cases hb13: (q_form== (4:Int))with
     | true=>
      cases hb14: (((length q_parts:Nat) :Int) == (0:Int))with
      | true=>
       cases hb15: (bA (length q_text) (aD q_text) 0 0)with
       | true=>
        exact LeadsM.ends (aPP q_form q_n q_text q_parts  (cF q_n 0 1) hb1 hb4 hb7 hb10 hb13 hb14 hb15 (hI q_n 0 1)) (hk _ (by clear hk;simp_all [bK,aE,aQ] <;>intros<;>omega))
       | false=>
        exact LeadsM.ends (aPQ q_form q_n q_text q_parts   hb1 hb4 hb7 hb10 hb13 hb14 hb15) (hk _ (by clear hk;simp_all [bK,aE,aQ] <;>intros<;>omega))
      | false=>
       exact LeadsM.ends (aPR q_form q_n q_text q_parts   hb1 hb4 hb7 hb10 hb13 hb14) (hk _ (by clear hk;simp_all [bK,aE,aQ] <;>intros<;>omega))
     | false=>
      cases hb16: (q_form== (6:Int))with
      | true=>
       cases hb17: (decide (((length q_parts:Nat) :Int) ≤ (3:Int)))with
       | true=>
        cases hb18: (q_n== (0:Int))with
        | true=>
         exact LeadsM.ends (aPS q_form q_n q_text q_parts  (cD q_text) hb1 hb4 hb7 hb10 hb13 hb16 hb17 hb18 (nG q_text)) (hk _ (by clear hk;simp_all [bK,aE,aQ] <;>intros<;>omega))
        | false=>
         exact LeadsM.ends (aPT q_form q_n q_text q_parts   hb1 hb4 hb7 hb10 hb13 hb16 hb17 hb18) (hk _ (by clear hk;simp_all [bK,aE,aQ] <;>intros<;>omega))
       | false=>
        exact LeadsM.ends (aPU q_form q_n q_text q_parts   hb1 hb4 hb7 hb10 hb13 hb16 hb17) (hk _ (by clear hk;simp_all [bK,aE,aQ] <;>intros<;>omega))
      | false=>
       exact LeadsM.ends (aPV q_form q_n q_text q_parts   hb1 hb4 hb7 hb10 hb13 hb16) (hk _ (by clear hk;simp_all [bK,aE,aQ] <;>intros<;>omega))
theorem aIV (f n:Int)(s:aB)(ps:List Pat)(hl:ps.length<1000000)(ih:∀p∈ps,Pure PP 189 [Pat.av p] (.bool (uC p))) :
  ∀ (t:List Pat) (i:Nat) (b:Bool),ps.drop i=t→Ends PP 0 (eZ f n s ps b (i:Int)).as (.ret (.bool (b&&lL t))) (aG [] 0)
 | [],i,b,h=>by
  have:=bL h;exact Ends.eqv (aVY f n s ps b i sd) (by simp [lL])
 | .mk f' n' s' ps'::t,i,b,h=>by
  obtain⟨g1,g2,g3⟩ :=bH h;cases b with
  |false=>exact Ends.eqv (aVX f n s ps false i sd rfl) (by simp)
  | true=>
   refine(aVW f n s ps true i f' n' s' ps' (uC (.mk f' n' s' ps')) sd rfl sd sd (ih _ (List.mem_of_getElem? g1)) sd).ends ?_;exact Ends.eqv (aIV f n s ps hl ih t (i+1) _ g2) (by simp [lL])
mutual
theorem aIW :∀ (p:Pat),aV p<1000000→Pure PP 189 [Pat.av p] (.bool (uC p))
 | .mk f n s ps,h=>by
  refine bC (by kernel_rfl) (by simp [AV.keylessL,kB]) rfl ?_;simp only [aV]at h;have:=cP ps;refine bGL f n s ps _ (fun i hi=>?_);rw [hi,uC];exact aIV f n s ps (by omega) (aMp ps (by omega)) ps 0 _ rfl
theorem aMp :∀ (ps:List Pat),aM ps<1000000→∀p∈ps,Pure PP 189 [Pat.av p] (.bool (uC p))
 | [],_,p,hp=>by cases hp
 | q::ps,h,p,hp=>by
  simp only [aM]at h;rcases List.mem_cons.1 hp with e|hp
  ·rw [e];exact aIW q (by omega)
  ·exact aMp ps (by omega) p hp
end
def sB (p:Pat) :Bool:=decide (aV p≤12) &&uC p&&fS (aO p)
theorem aQj (p:Pat) :Pure PP 123 [Pat.av p] (.bool (sB p)) :=by
 obtain⟨f,n,s,ps⟩ :=p;refine bC (by kernel_rfl) (by simp [AV.keylessL,kB]) rfl ?_;have hw:=vW (.mk f n s ps) 12 (by omega) (by omega);have hi:=aBH (.mk f n s ps) 12;unfold sB;by_cases h12:aV (.mk f n s ps) ≤12
 · have hge:decide (nJ (.mk f n s ps) 12≥ (0:Int)) =true:=by simp;exact hi.2 (by omega)
   have hp:=aIW (.mk f n s ps) (by omega);cases hf:uC (.mk f n s ps)with
   | true=>
    rw [hf]at hp;have hn:=mK (.mk f n s ps);exact Ends.eqv (aVZ f n s ps _ true _ _ hw hge hp rfl (aDW (.mk f n s ps) (by omega)) (aG5 _ (by omega))) (by simp [h12])
   | false=>
    rw [hf]at hp;exact Ends.eqv (aV0 f n s ps _ false hw hge hp rfl) (by simp)
 ·exact Ends.eqv (aV1 f n s ps _ hw (by simp;omega)) (by simp [h12])
def aHa(a b:Int)(c:aB)(d:List Term)(e:List Pat)(j f g i:Int):TS:=⟨(tf 57 37 [(1,(nI g)),(2,(nI f)),kp 3 0,(6,(nI 0)),(7,(nI i))] [kc f57 244,kl f57 244,.inBlock 0,kc f57 31]),[],[oC 0 [(nI a),(nI b),(aA c),(.ilst 5 (av d) false),(iP e)]],1⟩
def aHb(a b:Int)(c:aB)(d:List Term)(e:List Pat)(f:Int):TS:=⟨(tf 63 36 [kp 1 0,(2,(bV false)),(3,(nI f))] [kc f63 116,kl f63 116,.inBlock 0,kc f63 15]),[],[oC 0 [(nI a),(nI b),(aA c),(.ilst 5 (av d) false),(iP e)]],1⟩
def aHc(a b:Int)(c:aB)(d:List Term)(e:List Pat)(f:Int):TS:=⟨(tf 63 36 [kp 1 0,(2,(bV false)),(4,(nI f))] [kc f63 244,kl f63 244,.inBlock 2,kc f63 31]),[],[oC 0 [(nI a),(nI b),(aA c),(.ilst 5 (av d) false),(iP e)]],1⟩
def aQk(c d:Int)(e:aB)(f:List Term)(g:List Pat)(a b:Int):=tT 0 (start PP 57 [(.agg [(nI c),(nI d),(aA e),(.ilst 5 (av f) false),(iP g)]),(nI a),(nI b)])<|gd 11 10 (a<1) (gE 10 1 (nI (-1)))<|gd 4 13 (b<1) (gE 6 1 (nI (-1)))<|gw 6 15 (a-1)<|.W 9 1 [0] (aHa c d e f g a b (a-1) 0)
def aWk:=fun a b c d e f g i=>aQk a b c d e f g|>.t i tv
def aWl:=fun a b c d e f g i j=>aQk a b c d e f g|>.f i|>.t j tv
def aWm:=fun a b c d e f g i j k=>aQk a b c d e f g|>.f i|>.f j k tv
def aQl(e f:Int)(g:aB)(a:List Term)(i:List Pat)(j d b c:Int):=tT 0 (aHa e f g a i j d b c)<|gm 6 aU a<|gd 2 21 (c< (a.length:Int)) (gd 4 24 (b≥0) (aAP 8 a c<|fun k l m n o=>gw 4 34 (d-1)<|gpI 0 57 [(.agg [(nI k),(nI l),(aA m),(.ilst 5 (av n) false),(iP o)]),(nI b),(nI (d-1))]<|fun p=>gw 6 26 (c+1)<|.W 3 1 [0] (aHa e f g a i j d p (c+1)))<|gE 8 1 (nI b))<|gE 12 1 (nI b)
def aWn:=fun a b c d e f g i j k l m n o p q r s t u v w=>aQl a b c d e f g i j|>.t q|>.t r k l m n o s t u p v w tv
def aWo:=fun a b c d e f g i j k l=>aQl a b c d e f g i j|>.t k|>.f l tv
def aWp:=fun a b c d e f g i j k=>aQl a b c d e f g i j|>.f k tv
def wB(g e:Int)(b:aB)(i:List Term)(a:List Pat)(f d c:Bool):=tT 0 (start PP 188 [(.agg [(nI g),(nI e),(aA b),(.ilst 5 (av i) false),(iP a)]),(bV f),(bV d),(bV c)])<|.b 9 10 f (.b 7 17 d (.b 8 25 c (gE 9 1 (bV true))<|gm 2 aJ a<|gE 6 1 (bV ((a.length:Int) ==0)))<|.b 6 23 (bA b.length (aD b) 0 0) (.b 2 25 c (gE 9 1 (bV true))<|gm 2 aJ a<|gE 6 1 (bV ((a.length:Int) ==0)))<|gE 11 1 (bV false))<|.b 5 15 (e==0) (.b 2 17 d (.b 8 25 c (gE 9 1 (bV true))<|gm 2 aJ a<|gE 6 1 (bV ((a.length:Int) ==0)))<|.b 6 23 (bA b.length (aD b) 0 0) (.b 2 25 c (gE 9 1 (bV true))<|gm 2 aJ a<|gE 6 1 (bV ((a.length:Int) ==0)))<|gE 11 1 (bV false))<|gE 19 1 (bV false)
def aWq:=fun a b c d e f g i j k l=>wB a b c d e f g i|>.t j|>.t k|>.t l tv
def aWr:=fun a b c d e f g i j k l=>wB a b c d e f g i|>.t j|>.t k|>.f l tv
def aWs:=fun a b c d e f g i j k l m=>wB a b c d e f g i|>.t j|>.f k|>.t l|>.t m tv
def aWt:=fun a b c d e f g i j k l m=>wB a b c d e f g i|>.t j|>.f k|>.t l|>.f m tv
def aWu:=fun a b c d e f g i j k l=>wB a b c d e f g i|>.t j|>.f k|>.f l tv
def aWv:=fun a b c d e f g i j k l m=>wB a b c d e f g i|>.f j|>.t k|>.t l|>.t m tv
def aWw:=fun a b c d e f g i j k l m=>wB a b c d e f g i|>.f j|>.t k|>.t l|>.f m tv
def aWx:=fun a b c d e f g i j k l m n=>wB a b c d e f g i|>.f j|>.t k|>.f l|>.t m|>.t n tv
def aWy:=fun a b c d e f g i j k l m n=>wB a b c d e f g i|>.f j|>.t k|>.f l|>.t m|>.f n tv
def aWz:=fun a b c d e f g i j k l m=>wB a b c d e f g i|>.f j|>.t k|>.f l|>.f m tv
def aQm:=fun a b c d e f g i j k=>wB a b c d e f g i|>.f j|>.f k tv
def bM(b f:Int)(d:aB)(a:List Term)(e:List Pat):=tT 0 (start PP 122 [(.agg [(nI b),(nI f),(aA d),(.ilst 5 (av a) false),(iP e)])])<|gm 9 aU a<|.b 14 9 (b==1) (.b 6 13 ((a.length:Int) ==0) (dR 1 188 [(.agg [(nI b),(nI f),(aA d),(.ilst 5 (av a) false),(iP e)]),(bV true),(bV false),(bV false)]<|fun c=>.b 2 17 c (dR 2 60 [(nI f),(nI (-1000000000)),(nI 1000000000)]<|fun g=>gE 4 1 (bV g))<|gE 7 1 (bV false))<|gE 11 1 (bV false))<|.b 6 22 (b==2) (.b 6 26 ((a.length:Int) ==0) (dR 1 188 [(.agg [(nI b),(nI f),(aA d),(.ilst 5 (av a) false),(iP e)]),(bV true),(bV false),(bV false)]<|fun c=>.b 2 30 c (dR 2 60 [(nI f),(nI 0),(nI 1)]<|fun g=>gE 4 1 (bV g))<|gE 7 1 (bV false))<|gE 11 1 (bV false))<|.b 7 35 (b==3) (.b 8 42 ((a.length:Int) ==0) (dR 1 188 [(.agg [(nI b),(nI f),(aA d),(.ilst 5 (av a) false),(iP e)]),(bV false),(bV false),(bV false)]<|fun c=>gE 4 1 (bV c))<|gE 6 1 (bV false))<|.b 6 35 (b==21) (.b 8 42 ((a.length:Int) ==0) (dR 1 188 [(.agg [(nI b),(nI f),(aA d),(.ilst 5 (av a) false),(iP e)]),(bV false),(bV false),(bV false)]<|fun c=>gE 4 1 (bV c))<|gE 6 1 (bV false))<|.b 6 35 (b==25) (.b 8 42 ((a.length:Int) ==0) (dR 1 188 [(.agg [(nI b),(nI f),(aA d),(.ilst 5 (av a) false),(iP e)]),(bV false),(bV false),(bV false)]<|fun c=>gE 4 1 (bV c))<|gE 6 1 (bV false))<|.b 5 35 (b==28) (.b 6 42 ((a.length:Int) ==0) (dR 1 188 [(.agg [(nI b),(nI f),(aA d),(.ilst 5 (av a) false),(iP e)]),(bV false),(bV false),(bV false)]<|fun c=>gE 4 1 (bV c))<|gE 6 1 (bV false))<|.b 6 46 (b==4) (.b 6 50 ((a.length:Int) ==0) (dR 1 188 [(.agg [(nI b),(nI f),(aA d),(.ilst 5 (av a) false),(iP e)]),(bV false),(bV true),(bV false)]<|fun c=>.b 2 54 c (dR 2 59 [(aA d)]<|fun g=>gE 4 1 (bV g))<|gE 7 1 (bV false))<|gE 11 1 (bV false))<|.b 7 59 (b==5) (.b 8 64 ((a.length:Int) ==1) (dR 1 188 [(.agg [(nI b),(nI f),(aA d),(.ilst 5 (av a) false),(iP e)]),(bV false),(bV true),(bV false)]<|fun c=>.b 2 68 c (dR 2 59 [(aA d)]<|fun g=>gE 4 1 (bV g))<|gE 7 1 (bV false))<|gE 11 1 (bV false))<|.b 5 59 (b==27) (.b 6 64 ((a.length:Int) ==1) (dR 1 188 [(.agg [(nI b),(nI f),(aA d),(.ilst 5 (av a) false),(iP e)]),(bV false),(bV true),(bV false)]<|fun c=>.b 2 68 c (dR 2 59 [(aA d)]<|fun g=>gE 4 1 (bV g))<|gE 7 1 (bV false))<|gE 11 1 (bV false))<|.b 6 73 (b==7) (.b 6 77 ((a.length:Int) ==2) (dR 1 188 [(.agg [(nI b),(nI f),(aA d),(.ilst 5 (av a) false),(iP e)]),(bV false),(bV true),(bV false)]<|fun c=>.b 2 81 c (dR 2 59 [(aA d)]<|fun g=>gE 4 1 (bV g))<|gE 7 1 (bV false))<|gE 11 1 (bV false))<|.b 6 86 (b==8) (.b 6 90 ((a.length:Int) ==3) (dR 1 188 [(.agg [(nI b),(nI f),(aA d),(.ilst 5 (av a) false),(iP e)]),(bV false),(bV false),(bV false)]<|fun c=>gE 4 1 (bV c))<|gE 6 1 (bV false))<|.b 6 94 (b==14) (gd 6 98 ((a.length:Int) ≤3) (dR 1 188 [(.agg [(nI b),(nI f),(aA d),(.ilst 5 (av a) false),(iP e)]),(bV false),(bV true),(bV false)]<|fun c=>.b 2 102 c (dR 2 120 [(aA d)]<|fun g=>gE 4 1 (bV g))<|gE 7 1 (bV false))<|gE 11 1 (bV false))<|.b 6 107 (b==15) (gm 5 aJ e<|dR 0 60 [(nI (e.length:Int)),(nI 1),(nI 5)]<|fun c=>.b 1 113 c (gm 3 aJ e<|gw 1 118 (1+ (e.length:Int))<|.b 3 121 ((a.length:Int) == (1+ (e.length:Int))) (dR 1 188 [(.agg [(nI b),(nI f),(aA d),(.ilst 5 (av a) false),(iP e)]),(bV false),(bV false),(bV true)]<|fun g=>gE 4 1 (bV g))<|gE 6 1 (bV false))<|gE 14 1 (bV false))<|.b 7 125 (b==16) (.b 8 134 ((a.length:Int) ==1) (dR 1 188 [(.agg [(nI b),(nI f),(aA d),(.ilst 5 (av a) false),(iP e)]),(bV false),(bV false),(bV false)]<|fun c=>gE 4 1 (bV c))<|gE 6 1 (bV false))<|.b 6 125 (b==17) (.b 8 134 ((a.length:Int) ==1) (dR 1 188 [(.agg [(nI b),(nI f),(aA d),(.ilst 5 (av a) false),(iP e)]),(bV false),(bV false),(bV false)]<|fun c=>gE 4 1 (bV c))<|gE 6 1 (bV false))<|.b 6 125 (b==19) (.b 8 134 ((a.length:Int) ==1) (dR 1 188 [(.agg [(nI b),(nI f),(aA d),(.ilst 5 (av a) false),(iP e)]),(bV false),(bV false),(bV false)]<|fun c=>gE 4 1 (bV c))<|gE 6 1 (bV false))<|.b 6 125 (b==20) (.b 8 134 ((a.length:Int) ==1) (dR 1 188 [(.agg [(nI b),(nI f),(aA d),(.ilst 5 (av a) false),(iP e)]),(bV false),(bV false),(bV false)]<|fun c=>gE 4 1 (bV c))<|gE 6 1 (bV false))<|.b 6 125 (b==23) (.b 8 134 ((a.length:Int) ==1) (dR 1 188 [(.agg [(nI b),(nI f),(aA d),(.ilst 5 (av a) false),(iP e)]),(bV false),(bV false),(bV false)]<|fun c=>gE 4 1 (bV c))<|gE 6 1 (bV false))<|.b 5 125 (b==26) (.b 6 134 ((a.length:Int) ==1) (dR 1 188 [(.agg [(nI b),(nI f),(aA d),(.ilst 5 (av a) false),(iP e)]),(bV false),(bV false),(bV false)]<|fun c=>gE 4 1 (bV c))<|gE 6 1 (bV false))<|.b 6 138 (b==24) (.b 6 142 ((a.length:Int) ==1) (dR 1 188 [(.agg [(nI b),(nI f),(aA d),(.ilst 5 (av a) false),(iP e)]),(bV true),(bV false),(bV false)]<|fun c=>.b 2 146 c (dR 2 60 [(nI f),(nI 0),(nI 3)]<|fun g=>gE 4 1 (bV g))<|gE 7 1 (bV false))<|gE 11 1 (bV false))<|.b 7 151 (b==6) (.b 8 162 ((a.length:Int) ==2) (dR 1 188 [(.agg [(nI b),(nI f),(aA d),(.ilst 5 (av a) false),(iP e)]),(bV false),(bV false),(bV false)]<|fun c=>gE 4 1 (bV c))<|gE 6 1 (bV false))<|.b 6 151 (b==9) (.b 8 162 ((a.length:Int) ==2) (dR 1 188 [(.agg [(nI b),(nI f),(aA d),(.ilst 5 (av a) false),(iP e)]),(bV false),(bV false),(bV false)]<|fun c=>gE 4 1 (bV c))<|gE 6 1 (bV false))<|.b 6 151 (b==10) (.b 8 162 ((a.length:Int) ==2) (dR 1 188 [(.agg [(nI b),(nI f),(aA d),(.ilst 5 (av a) false),(iP e)]),(bV false),(bV false),(bV false)]<|fun c=>gE 4 1 (bV c))<|gE 6 1 (bV false))<|.b 6 151 (b==11) (.b 8 162 ((a.length:Int) ==2) (dR 1 188 [(.agg [(nI b),(nI f),(aA d),(.ilst 5 (av a) false),(iP e)]),(bV false),(bV false),(bV false)]<|fun c=>gE 4 1 (bV c))<|gE 6 1 (bV false))<|.b 6 151 (b==12) (.b 8 162 ((a.length:Int) ==2) (dR 1 188 [(.agg [(nI b),(nI f),(aA d),(.ilst 5 (av a) false),(iP e)]),(bV false),(bV false),(bV false)]<|fun c=>gE 4 1 (bV c))<|gE 6 1 (bV false))<|.b 6 151 (b==13) (.b 8 162 ((a.length:Int) ==2) (dR 1 188 [(.agg [(nI b),(nI f),(aA d),(.ilst 5 (av a) false),(iP e)]),(bV false),(bV false),(bV false)]<|fun c=>gE 4 1 (bV c))<|gE 6 1 (bV false))<|.b 6 151 (b==18) (.b 8 162 ((a.length:Int) ==2) (dR 1 188 [(.agg [(nI b),(nI f),(aA d),(.ilst 5 (av a) false),(iP e)]),(bV false),(bV false),(bV false)]<|fun c=>gE 4 1 (bV c))<|gE 6 1 (bV false))<|.b 5 151 (b==22) (.b 6 162 ((a.length:Int) ==2) (dR 1 188 [(.agg [(nI b),(nI f),(aA d),(.ilst 5 (av a) false),(iP e)]),(bV false),(bV false),(bV false)]<|fun c=>gE 4 1 (bV c))<|gE 6 1 (bV false))<|gE 8 1 (bV false)
def aWA:=fun a b c d e f g i j k l m=>bM a b c d e|>.t i|>.t j f k|>.t l g m tv
def aWB:=fun a b c d e f g i j k=>bM a b c d e|>.t g|>.t i f j|>.f k tv
def aWC:=fun a b c d e f g=>bM a b c d e|>.t f|>.f g tv
def aWD:=fun a b c d e f g i j k l m n=>bM a b c d e|>.f i|>.t j|>.t k f l|>.t m g n tv
def aWE:=fun a b c d e f g i j k l=>bM a b c d e|>.f g|>.t i|>.t j f k|>.f l tv
def aWF:=fun a b c d e f g i=>bM a b c d e|>.f f|>.t g|>.f i tv
def aWG:=fun a b c d e f g i j k l=>bM a b c d e|>.f g|>.f i|>.t j|>.t k f l tv
def aWH:=fun a b c d e f g i j=>bM a b c d e|>.f f|>.f g|>.t i|>.f j tv
def aWI:=fun a b c d e f g i j k l m=>bM a b c d e|>.f g|>.f i|>.f j|>.t k|>.t l f m tv
def aWJ:=fun a b c d e f g i j k=>bM a b c d e|>.f f|>.f g|>.f i|>.t j|>.f k tv
def aQn:=fun a b c d e f g i j k l m n=>bM a b c d e|>.f g|>.f i|>.f j|>.f k|>.t l|>.t m f n tv
def aQo:=fun a b c d e f g i j k l=>bM a b c d e|>.f f|>.f g|>.f i|>.f j|>.t k|>.f l tv
def aQp:=fun a b c d e f g i j k l m n o=>bM a b c d e|>.f g|>.f i|>.f j|>.f k|>.f l|>.t m|>.t n f o tv
def aQq:=fun a b c d e f g i j k l m=>bM a b c d e|>.f f|>.f g|>.f i|>.f j|>.f k|>.t l|>.f m tv
def aQr:=fun a b c d e f g i j k l m n o p q r s=>bM a b c d e|>.f i|>.f j|>.f k|>.f l|>.f m|>.f n|>.t o|>.t p f q|>.t r g s tv
def aQs:=fun a b c d e f g i j k l m n o p q=>bM a b c d e|>.f g|>.f i|>.f j|>.f k|>.f l|>.f m|>.t n|>.t o f p|>.f q tv
def aQt:=fun a b c d e f g i j k l m n=>bM a b c d e|>.f f|>.f g|>.f i|>.f j|>.f k|>.f l|>.t m|>.f n tv
def aQu:=fun a b c d e f g i j k l m n o p q r s t=>bM a b c d e|>.f i|>.f j|>.f k|>.f l|>.f m|>.f n|>.f o|>.t p|>.t q f r|>.t s g t tv
def aQv:=fun a b c d e f g i j k l m n o p q r=>bM a b c d e|>.f g|>.f i|>.f j|>.f k|>.f l|>.f m|>.f n|>.t o|>.t p f q|>.f r tv
def aQw:=fun a b c d e f g i j k l m n o=>bM a b c d e|>.f f|>.f g|>.f i|>.f j|>.f k|>.f l|>.f m|>.t n|>.f o tv
def aQx:=fun a b c d e f g i j k l m n o p q r s t u=>bM a b c d e|>.f i|>.f j|>.f k|>.f l|>.f m|>.f n|>.f o|>.f p|>.t q|>.t r f s|>.t t g u tv
def aQy:=fun a b c d e f g i j k l m n o p q r s=>bM a b c d e|>.f g|>.f i|>.f j|>.f k|>.f l|>.f m|>.f n|>.f o|>.t p|>.t q f r|>.f s tv
def aQz:=fun a b c d e f g i j k l m n o p=>bM a b c d e|>.f f|>.f g|>.f i|>.f j|>.f k|>.f l|>.f m|>.f n|>.t o|>.f p tv
def aQA:=fun a b c d e f g i j k l m n o p q r s t u v=>bM a b c d e|>.f i|>.f j|>.f k|>.f l|>.f m|>.f n|>.f o|>.f p|>.f q|>.t r|>.t s f t|>.t u g v tv
def aQB:=fun a b c d e f g i j k l m n o p q r s t=>bM a b c d e|>.f g|>.f i|>.f j|>.f k|>.f l|>.f m|>.f n|>.f o|>.f p|>.t q|>.t r f s|>.f t tv
def aQC:=fun a b c d e f g i j k l m n o p q=>bM a b c d e|>.f f|>.f g|>.f i|>.f j|>.f k|>.f l|>.f m|>.f n|>.f o|>.t p|>.f q tv
def aQD:=fun a b c d e f g i j k l m n o p q r s t=>bM a b c d e|>.f g|>.f i|>.f j|>.f k|>.f l|>.f m|>.f n|>.f o|>.f p|>.f q|>.t r|>.t s f t tv
def aQE:=fun a b c d e f g i j k l m n o p q r=>bM a b c d e|>.f f|>.f g|>.f i|>.f j|>.f k|>.f l|>.f m|>.f n|>.f o|>.f p|>.t q|>.f r tv
def aQF:=fun a b c d e f g i j k l m n o p q r s t u v w x=>bM a b c d e|>.f i|>.f j|>.f k|>.f l|>.f m|>.f n|>.f o|>.f p|>.f q|>.f r|>.f s|>.t t|>.t u f v|>.t w g x tv
def aQG:=fun a b c d e f g i j k l m n o p q r s t u v=>bM a b c d e|>.f g|>.f i|>.f j|>.f k|>.f l|>.f m|>.f n|>.f o|>.f p|>.f q|>.f r|>.t s|>.t t f u|>.f v tv
def aQH:=fun a b c d e f g i j k l m n o p q r s=>bM a b c d e|>.f f|>.f g|>.f i|>.f j|>.f k|>.f l|>.f m|>.f n|>.f o|>.f p|>.f q|>.t r|>.f s tv
def aQI:=fun a b c d e f g i j k l m n o p q r s t u v w x y z=>bM a b c d e|>.f i|>.f j|>.f k|>.f l|>.f m|>.f n|>.f o|>.f p|>.f q|>.f r|>.f s|>.f t|>.t u f v|>.t w x|>.t y g z tv
def aQJ:=fun a b c d e f g i j k l m n o p q r s t u v w x=>bM a b c d e|>.f g|>.f i|>.f j|>.f k|>.f l|>.f m|>.f n|>.f o|>.f p|>.f q|>.f r|>.f s|>.t t f u|>.t v w|>.f x tv
def aQK:=fun a b c d e f g i j k l m n o p q r s t u v=>bM a b c d e|>.f g|>.f i|>.f j|>.f k|>.f l|>.f m|>.f n|>.f o|>.f p|>.f q|>.f r|>.f s|>.t t f u|>.f v tv
def aQL:=fun a b c d e f g i j k l m n o p q r s t u v w=>bM a b c d e|>.f g|>.f i|>.f j|>.f k|>.f l|>.f m|>.f n|>.f o|>.f p|>.f q|>.f r|>.f s|>.f t|>.t u|>.t v f w tv
def aQM:=fun a b c d e f g i j k l m n o p q r s t u=>bM a b c d e|>.f f|>.f g|>.f i|>.f j|>.f k|>.f l|>.f m|>.f n|>.f o|>.f p|>.f q|>.f r|>.f s|>.t t|>.f u tv
def aQN:=fun a b c d e f g i j k l m n o p q r s t u v w x=>bM a b c d e|>.f g|>.f i|>.f j|>.f k|>.f l|>.f m|>.f n|>.f o|>.f p|>.f q|>.f r|>.f s|>.f t|>.f u|>.t v|>.t w f x tv
def aQO:=fun a b c d e f g i j k l m n o p q r s t u v=>bM a b c d e|>.f f|>.f g|>.f i|>.f j|>.f k|>.f l|>.f m|>.f n|>.f o|>.f p|>.f q|>.f r|>.f s|>.f t|>.t u|>.f v tv
def aQP:=fun a b c d e f g i j k l m n o p q r s t u v w x y=>bM a b c d e|>.f g|>.f i|>.f j|>.f k|>.f l|>.f m|>.f n|>.f o|>.f p|>.f q|>.f r|>.f s|>.f t|>.f u|>.f v|>.t w|>.t x f y tv
def aQQ:=fun a b c d e f g i j k l m n o p q r s t u v w=>bM a b c d e|>.f f|>.f g|>.f i|>.f j|>.f k|>.f l|>.f m|>.f n|>.f o|>.f p|>.f q|>.f r|>.f s|>.f t|>.f u|>.t v|>.f w tv
def aQR:=fun a b c d e f g i j k l m n o p q r s t u v w x y z=>bM a b c d e|>.f g|>.f i|>.f j|>.f k|>.f l|>.f m|>.f n|>.f o|>.f p|>.f q|>.f r|>.f s|>.f t|>.f u|>.f v|>.f w|>.t x|>.t y f z tv
def aQS:=fun a b c d e f g i j k l m n o p q r s t u v w x=>bM a b c d e|>.f f|>.f g|>.f i|>.f j|>.f k|>.f l|>.f m|>.f n|>.f o|>.f p|>.f q|>.f r|>.f s|>.f t|>.f u|>.f v|>.t w|>.f x tv
def aQT:=fun a b c d e f g i j k l m n o p q r s t u v w x y z A=>bM a b c d e|>.f g|>.f i|>.f j|>.f k|>.f l|>.f m|>.f n|>.f o|>.f p|>.f q|>.f r|>.f s|>.f t|>.f u|>.f v|>.f w|>.f x|>.t y|>.t z f A tv
def aQU:=fun a b c d e f g i j k l m n o p q r s t u v w x y=>bM a b c d e|>.f f|>.f g|>.f i|>.f j|>.f k|>.f l|>.f m|>.f n|>.f o|>.f p|>.f q|>.f r|>.f s|>.f t|>.f u|>.f v|>.f w|>.t x|>.f y tv
def aQV:=fun a b c d e f g i j k l m n o p q r s t u v w x y z A B=>bM a b c d e|>.f g|>.f i|>.f j|>.f k|>.f l|>.f m|>.f n|>.f o|>.f p|>.f q|>.f r|>.f s|>.f t|>.f u|>.f v|>.f w|>.f x|>.f y|>.t z|>.t A f B tv
def aQW:=fun a b c d e f g i j k l m n o p q r s t u v w x y z=>bM a b c d e|>.f f|>.f g|>.f i|>.f j|>.f k|>.f l|>.f m|>.f n|>.f o|>.f p|>.f q|>.f r|>.f s|>.f t|>.f u|>.f v|>.f w|>.f x|>.t y|>.f z tv
def aQX:=fun a b c d e f g i j k l m n o p q r s t u v w x y z A B C D F G=>bM a b c d e|>.f i|>.f j|>.f k|>.f l|>.f m|>.f n|>.f o|>.f p|>.f q|>.f r|>.f s|>.f t|>.f u|>.f v|>.f w|>.f x|>.f y|>.f z|>.f A|>.t B|>.t C f D|>.t F g G tv
def aQY:=fun a b c d e f g i j k l m n o p q r s t u v w x y z A B C D=>bM a b c d e|>.f g|>.f i|>.f j|>.f k|>.f l|>.f m|>.f n|>.f o|>.f p|>.f q|>.f r|>.f s|>.f t|>.f u|>.f v|>.f w|>.f x|>.f y|>.f z|>.t A|>.t B f C|>.f D tv
def aQZ:=fun a b c d e f g i j k l m n o p q r s t u v w x y z A=>bM a b c d e|>.f f|>.f g|>.f i|>.f j|>.f k|>.f l|>.f m|>.f n|>.f o|>.f p|>.f q|>.f r|>.f s|>.f t|>.f u|>.f v|>.f w|>.f x|>.f y|>.t z|>.f A tv
def aQ0:=fun a b c d e f g i j k l m n o p q r s t u v w x y z A B C D=>bM a b c d e|>.f g|>.f i|>.f j|>.f k|>.f l|>.f m|>.f n|>.f o|>.f p|>.f q|>.f r|>.f s|>.f t|>.f u|>.f v|>.f w|>.f x|>.f y|>.f z|>.f A|>.t B|>.t C f D tv
def aQ1:=fun a b c d e f g i j k l m n o p q r s t u v w x y z A B=>bM a b c d e|>.f f|>.f g|>.f i|>.f j|>.f k|>.f l|>.f m|>.f n|>.f o|>.f p|>.f q|>.f r|>.f s|>.f t|>.f u|>.f v|>.f w|>.f x|>.f y|>.f z|>.t A|>.f B tv
def aQ2:=fun a b c d e f g i j k l m n o p q r s t u v w x y z A B C D F=>bM a b c d e|>.f g|>.f i|>.f j|>.f k|>.f l|>.f m|>.f n|>.f o|>.f p|>.f q|>.f r|>.f s|>.f t|>.f u|>.f v|>.f w|>.f x|>.f y|>.f z|>.f A|>.f B|>.t C|>.t D f F tv
def aQ3:=fun a b c d e f g i j k l m n o p q r s t u v w x y z A B C=>bM a b c d e|>.f f|>.f g|>.f i|>.f j|>.f k|>.f l|>.f m|>.f n|>.f o|>.f p|>.f q|>.f r|>.f s|>.f t|>.f u|>.f v|>.f w|>.f x|>.f y|>.f z|>.f A|>.t B|>.f C tv
def aQ4:=fun a b c d e f g i j k l m n o p q r s t u v w x y z A B C D F G=>bM a b c d e|>.f g|>.f i|>.f j|>.f k|>.f l|>.f m|>.f n|>.f o|>.f p|>.f q|>.f r|>.f s|>.f t|>.f u|>.f v|>.f w|>.f x|>.f y|>.f z|>.f A|>.f B|>.f C|>.t D|>.t F f G tv
def aQ5:=fun a b c d e f g i j k l m n o p q r s t u v w x y z A B C D=>bM a b c d e|>.f f|>.f g|>.f i|>.f j|>.f k|>.f l|>.f m|>.f n|>.f o|>.f p|>.f q|>.f r|>.f s|>.f t|>.f u|>.f v|>.f w|>.f x|>.f y|>.f z|>.f A|>.f B|>.t C|>.f D tv
def aQ6:=fun a b c d e f g i j k l m n o p q r s t u v w x y z A B C D F G H=>bM a b c d e|>.f g|>.f i|>.f j|>.f k|>.f l|>.f m|>.f n|>.f o|>.f p|>.f q|>.f r|>.f s|>.f t|>.f u|>.f v|>.f w|>.f x|>.f y|>.f z|>.f A|>.f B|>.f C|>.f D|>.t F|>.t G f H tv
def aQ7:=fun a b c d e f g i j k l m n o p q r s t u v w x y z A B C D F=>bM a b c d e|>.f f|>.f g|>.f i|>.f j|>.f k|>.f l|>.f m|>.f n|>.f o|>.f p|>.f q|>.f r|>.f s|>.f t|>.f u|>.f v|>.f w|>.f x|>.f y|>.f z|>.f A|>.f B|>.f C|>.t D|>.f F tv
def aQ8:=fun a b c d e f g i j k l m n o p q r s t u v w x y z A B C D F G H I=>bM a b c d e|>.f g|>.f i|>.f j|>.f k|>.f l|>.f m|>.f n|>.f o|>.f p|>.f q|>.f r|>.f s|>.f t|>.f u|>.f v|>.f w|>.f x|>.f y|>.f z|>.f A|>.f B|>.f C|>.f D|>.f F|>.t G|>.t H f I tv
def aQ9:=fun a b c d e f g i j k l m n o p q r s t u v w x y z A B C D F G=>bM a b c d e|>.f f|>.f g|>.f i|>.f j|>.f k|>.f l|>.f m|>.f n|>.f o|>.f p|>.f q|>.f r|>.f s|>.f t|>.f u|>.f v|>.f w|>.f x|>.f y|>.f z|>.f A|>.f B|>.f C|>.f D|>.t F|>.f G tv
def aRa:=fun a b c d e f g i j k l m n o p q r s t u v w x y z A B C D F G H I J=>bM a b c d e|>.f g|>.f i|>.f j|>.f k|>.f l|>.f m|>.f n|>.f o|>.f p|>.f q|>.f r|>.f s|>.f t|>.f u|>.f v|>.f w|>.f x|>.f y|>.f z|>.f A|>.f B|>.f C|>.f D|>.f F|>.f G|>.t H|>.t I f J tv
def aRb:=fun a b c d e f g i j k l m n o p q r s t u v w x y z A B C D F G H=>bM a b c d e|>.f f|>.f g|>.f i|>.f j|>.f k|>.f l|>.f m|>.f n|>.f o|>.f p|>.f q|>.f r|>.f s|>.f t|>.f u|>.f v|>.f w|>.f x|>.f y|>.f z|>.f A|>.f B|>.f C|>.f D|>.f F|>.t G|>.f H tv
def aRc:=fun a b c d e f g i j k l m n o p q r s t u v w x y z A B C D F G H I J K=>bM a b c d e|>.f g|>.f i|>.f j|>.f k|>.f l|>.f m|>.f n|>.f o|>.f p|>.f q|>.f r|>.f s|>.f t|>.f u|>.f v|>.f w|>.f x|>.f y|>.f z|>.f A|>.f B|>.f C|>.f D|>.f F|>.f G|>.f H|>.t I|>.t J f K tv
def aRd:=fun a b c d e f g i j k l m n o p q r s t u v w x y z A B C D F G H I=>bM a b c d e|>.f f|>.f g|>.f i|>.f j|>.f k|>.f l|>.f m|>.f n|>.f o|>.f p|>.f q|>.f r|>.f s|>.f t|>.f u|>.f v|>.f w|>.f x|>.f y|>.f z|>.f A|>.f B|>.f C|>.f D|>.f F|>.f G|>.t H|>.f I tv
def aRe:=fun a b c d e f g i j k l m n o p q r s t u v w x y z A B C D F G H I J K L=>bM a b c d e|>.f g|>.f i|>.f j|>.f k|>.f l|>.f m|>.f n|>.f o|>.f p|>.f q|>.f r|>.f s|>.f t|>.f u|>.f v|>.f w|>.f x|>.f y|>.f z|>.f A|>.f B|>.f C|>.f D|>.f F|>.f G|>.f H|>.f I|>.t J|>.t K f L tv
def aRf:=fun a b c d e f g i j k l m n o p q r s t u v w x y z A B C D F G H I J=>bM a b c d e|>.f f|>.f g|>.f i|>.f j|>.f k|>.f l|>.f m|>.f n|>.f o|>.f p|>.f q|>.f r|>.f s|>.f t|>.f u|>.f v|>.f w|>.f x|>.f y|>.f z|>.f A|>.f B|>.f C|>.f D|>.f F|>.f G|>.f H|>.t I|>.f J tv
def aRg:=fun a b c d e f g i j k l m n o p q r s t u v w x y z A B C D F G H I=>bM a b c d e|>.f f|>.f g|>.f i|>.f j|>.f k|>.f l|>.f m|>.f n|>.f o|>.f p|>.f q|>.f r|>.f s|>.f t|>.f u|>.f v|>.f w|>.f x|>.f y|>.f z|>.f A|>.f B|>.f C|>.f D|>.f F|>.f G|>.f H|>.f I tv
def bDK(a b:Int)(c:aB)(d:List Term)(e:List Pat):=tT 0 (start PP 63 [(.agg [(nI a),(nI b),(aA c),(.ilst 5 (av d) false),(iP e)])])<|dR 9 122 [(.agg [(nI a),(nI b),(aA c),(.ilst 5 (av d) false),(iP e)])]<|fun f=>.b 2 7 (!f) (gE 6 1 (bV false))<|.W 9 1 [0] (aHb a b c d e 0)
def aWK:=fun a b c d e f g i=>bDK a b c d e f g|>.t i tv
def aWL:=fun a b c d e f g i=>bDK a b c d e f g|>.f i tv
def aRh(c d:Int)(e:aB)(f:List Term)(a:List Pat)(b:Int):=tT 0 (aHb c d e f a b)<|gm 6 aJ a<|gd 2 12 (b< (a.length:Int)) (xM 9 a b<|fun g i j k=>dR 1 123 [(.agg [(nI g),(nI i),(aA j),(iP k)])]<|fun l=>.b 2 21 (!l) (gE 6 1 (bV false))<|gw 6 14 (b+1)<|.W 3 1 [0] (aHb c d e f a (b+1)))<|.W 9 1 [0] (aHc c d e f a 0)
def aWM:=fun a b c d e f g i j k l m n o p q=>aRh a b c d e f|>.t m g i j k n o l p|>.t q tv
def aWN:=fun a b c d e f g i j k l m n o p q r=>aRh a b c d e f|>.t m g i j k n o l p|>.f q r tv
def aWO:=fun a b c d e f g=>aRh a b c d e f|>.f g tv
def aRi(c d:Int)(e:aB)(a:List Term)(f:List Pat)(b:Int):=tT 0 (aHc c d e a f b)<|gm 6 aU a<|gd 2 26 (b< (a.length:Int)) (aAP 9 a b<|fun g i j k l=>dR 1 63 [(.agg [(nI g),(nI i),(aA j),(.ilst 5 (av k) false),(iP l)])]<|fun m=>.b 2 35 (!m) (gE 6 1 (bV false))<|gw 6 28 (b+1)<|.W 3 1 [0] (aHc c d e a f (b+1)))<|gE 7 1 (bV true)
def aWP:=fun a b c d e f g i j k l m n o p q r=>aRi a b c d e f|>.t n g i j k l o p m q|>.t r tv
def aWQ:=fun a b c d e f g i j k l m n o p q r s=>aRi a b c d e f|>.t n g i j k l o p m q|>.f r s tv
def aWR:=fun a b c d e f g=>aRi a b c d e f|>.f g tv
def bDL(a b:Int)(c:aB)(d:List Term)(e:List Pat):=tT 0 (start PP 15 [(.agg [(nI a),(nI b),(aA c),(.ilst 5 (av d) false),(iP e)])])<|gpI 8 57 [(.agg [(nI a),(nI b),(aA c),(.ilst 5 (av d) false),(iP e)]),(nI 60),(nI 14)]<|fun f=>gd 2 6 (f≥0) (dR 1 63 [(.agg [(nI a),(nI b),(aA c),(.ilst 5 (av d) false),(iP e)])]<|fun g=>gE 4 1 (bV g))<|gE 6 1 (bV false)
def aWS:=fun a b c d e f g i j k=>bDL a b c d e f i|>.t j g k tv
def aWT:=fun a b c d e f g i=>bDL a b c d e f g|>.f i tv
end
end Go.Hb
