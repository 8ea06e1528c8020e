/-
  OWN WORK (V101, V30, H30, V10, G1, V11, G2, V12, G3, G4, G5, V13, H8, H9): a machine on abstract values, its soundness, ways through the text (the ways WRITTEN BY A PROGRAM), plain laws.
-/
import Derived.Test.YtabmpnmmkeieiaaGreatHF
set_option linter.defProp false
set_option linter.unusedVariables false
set_option linter.unusedSimpArgs false
set_option linter.unusedSectionVars false
set_option maxRecDepth 100000
namespace Go.Hb
open Go.Proofs
inductive Typ where
 |mk (sort n:Int) (text:aE) (parts:List Typ)
mutual
def Typ.av :Typ→AV
 | .mk f n t ps=>.agg [.int .i64 f,.int .i64 n,aC t,.ilst 4 (Typs.av ps) false]
def Typs.av :List Typ→List AV
 | [] =>[]
 |p::ps=>Typ.av p::Typs.av ps
end
theorem aZ :∀l,Typs.av l=List.map Typ.av l
 | [] =>rfl
 |p::ps=>by rw [Typs.av,aZ ps];rfl
mutual
theorem wF :∀p,AV.keyless (Typ.av p) =true
 | .mk f n t ps=>by simp [Typ.av,AV.keyless,AV.keylessL,aC]
theorem aJg :∀l,AV.keylessL (Typs.av l) =true
 | [] =>rfl
 |p::ps=>by rw [Typs.av,AV.keylessL,wF p,aJg ps];rfl
end
inductive Term where
 |mk (op n:Int) (text:aE) (kids:List Term) (pats:List Pat)
mutual
def Term.av :Term→AV
 | .mk o n t ks ps=>.agg [.int .i64 o,.int .i64 n,aC t,.ilst 5 (Terms.av ks) false,.ilst 4 (Pats.av ps) false]
def Terms.av :List Term→List AV
 | [] =>[]
 |p::ps=>Term.av p::Terms.av ps
end
theorem bS :∀l,Terms.av l=List.map Term.av l
 | [] =>rfl
 |p::ps=>by rw [Terms.av,bS ps];rfl
mutual
theorem eF :∀p,AV.keyless (Term.av p) =true
 | .mk o n t ks ps=>by simp [Term.av,AV.keyless,AV.keylessL,aC]
theorem aFL :∀l,AV.keylessL (Terms.av l) =true
 | [] =>rfl
 |p::ps=>by rw [Terms.av,AV.keylessL,eF p,aFL ps];rfl
end
theorem mK {l:List Typ}:AV.keylessL (Typs.av l) =true:=aJg l
theorem cY {l:List Term}:AV.keylessL (Terms.av l) =true:=aFL l
noncomputable abbrev aPz (n:Nat)(l:List Typ)(i:Int)(a:Int→Int→aE→List Typ→Tr) :Tr:=.y fun p=>.y fun q=>.y fun r=>.y fun s=>giF aZ n l i (.mk p q r s) (a p q r s)
noncomputable abbrev aJh (n:Nat)(l:List Term)(i:Int)(a:Int→Int→aE→List Term→List Pat→Tr) :Tr:=.y fun p=>.y fun q=>.y fun r=>.y fun s=>.y fun t=>giF bS n l i (.mk p q r s t) (a p q r s t)
end Go.Hb
namespace Go.Hb
open Go.Proofs
noncomputable section
inductive KV where
 |row (l:List Int)
 |nil
 |val (u:Value)
def KV.av :KV→AV
 | .row l=>.ilst 1 (List.map dF l) false
 | .nil=>.nils
 | .val u=>.val u
structure ONode where
 op:Int
 n:Int
 kv:KV
 pats:List Pat
def ONode.av (x:ONode) :AV:=.agg [.int .i64 x.op,.int .i64 x.n,x.kv.av,.ilst 4 (Pats.av x.pats) false]
def Node.o (x:Node) :ONode:= ⟨x.op,x.n,.row x.kids,x.pats⟩
theorem aOc {E:Emb}{x y:AV}(hv:∀v,VR E x v→VR E y v) :∀ {xs:List AV} {i:Nat},xs[i]?=some x→∀vs,VRs E xs vs→VRs E (xs.set i y) vs
 | [],i,h,vs,hvs=>by simp at h
 | a::xs,0,h,vs,hvs=>by
  simp only [VRs]at hvs;obtain⟨u,us,rfl,h1,h2⟩ :=hvs;simp at h;subst h;simp only [List.set_cons_zero,VRs];exact⟨u,us,rfl,hv u h1,h2⟩
 | a::xs,i+1,h,vs,hvs=>by
  simp only [VRs]at hvs;obtain⟨u,us,rfl,h1,h2⟩ :=hvs;simp only [List.getElem?_cons_succ]at h;simp only [List.set_cons_succ,VRs];exact⟨u,us,rfl,h1,aOc hv h us h2⟩
theorem aRZ {α:Type}{f:α→AV}{l:List α}{i:Nat}{y:α}(h:l[i]?=some y) :List.map f l≠ [] :=fun e=>by
 cases l with
 |nil=>simp at h
 |cons _ _=>cases e
end
end Go.Hb
namespace Go.Hb
open Go.Proofs
noncomputable section
def kwL :List aE:=[(strOf [98,111,111,108]),(strOf [99,101,108,108]),(strOf [99,104,97,110]),(strOf [101,108,115,101]),(strOf [102,97,108,115,101]),(strOf [102,117,110]),(strOf [103,101,116]),(strOf [105,102]),(strOf [105,110]),(strOf [105,110,112,117,116]),(strOf [105,110,116]),(strOf [106,111,105,110]),(strOf [108,101,116]),(strOf [109,97,116,99,104]),(strOf [109,111,100,117,108,101]),(strOf [111,117,116]),(strOf [112,97,117,115,101]),(strOf [112,117,116]),(strOf [114,101,115,101,116]),(strOf [115,101,110,100]),(strOf [115,104,105,102,116]),(strOf [115,112,97,119,110]),(strOf [116,97,107,101]),(strOf [116,97,115,107]),(strOf [116,104,101,110]),(strOf [116,114,117,101]),(strOf [116,121,112,101]),(strOf [117,110,105,116])]
def bEK:TS:=bW PP 187 [] [] 0
def aX6:=(tT 0 (bEK)<|.i [rn 10,.toL 0 false [(.str 4 1819242338),(.str 4 1819043171),(.str 4 1851877475),(.str 4 1702063205),(.str 5 435728179558),(.str 3 7239014),(.str 3 7628135),(.str 2 26217),(.str 2 28265),(.str 5 500186508905),(.str 3 7630441),(.str 4 1852403562),(.str 3 7628140),(.str 5 448345170285),(.str 6 111516500389741),(.str 3 7632239),(.str 5 435728769392),(.str 3 7632240),(.str 5 499918267762),(.str 4 1684956531),(.str 5 499934390387),(.str 5 474449277043),(.str 4 1701536116),(.str 4 1802723700),(.str 4 1852139636),(.str 4 1702195828),(.str 4 1701869940),(.str 4 1953066613)]] [hr (some [(AV.str 4 1819242338),(AV.str 4 1819043171),(AV.str 4 1851877475),(AV.str 4 1702063205),(AV.str 5 435728179558),(AV.str 3 7239014),(AV.str 3 7628135),(AV.str 2 26217),(AV.str 2 28265),(AV.str 5 500186508905),(AV.str 3 7630441),(AV.str 4 1852403562),(AV.str 3 7628140),(AV.str 5 448345170285),(AV.str 6 111516500389741),(AV.str 3 7632239),(AV.str 5 435728769392),(AV.str 3 7632240),(AV.str 5 499918267762),(AV.str 4 1684956531),(AV.str 5 499934390387),(AV.str 5 474449277043),(AV.str 4 1701536116),(AV.str 4 1802723700),(AV.str 4 1852139636),(AV.str 4 1702195828),(AV.str 4 1701869940),(AV.str 4 1953066613)]),hr true]<|gu 0 0 (List.map aC kwL)<|gs 0 0 (.gl 0 1 0 kwL.length true)<|.i [.weak 0] []<|gz 0 0 0 1 aC kwL false<|gE 0 1 (iS kwL)) tv
def aR0 (c:aE):=fun a b d e=>(tT 0 (start PP 119 [(aC c)])<|.y fun a:List aE=>gp 6 187 [] (iS a)<|cP 1 51 [(iS a),(aC c)]<|fun b=>gE 3 0 (bV b)) a d b e tv
def aOd(a:aE):=tT 0 (start PP 59 [(aC a)])<|gd 10 6 ((a.length:Int) ≥1) (gd 5 11 ((a.length:Int) ≤8) (cP 1 118 [(aC a)]<|fun b=>.b 2 15 b (cP 1 119 [(aC a)]<|fun c=>gE 5 0 (bV (!c)))<|gE 7 0 (bV false))<|gE 11 0 (bV false))<|gE 16 0 (bV false)
def aX7:=fun a b c d e f g i=>aOd a|>.t d|>.t e b f|>.t g c i tv
def aX8:=fun a b c d e f=>aOd a|>.t c|>.t d b e|>.f f tv
def aX9:=fun a b c=>aOd a|>.t b|>.f c tv
def aYa:=fun a b=>aOd a|>.f b tv
def bEL(a b c:Int):=tT 0 (start PP 60 [(nI a),(nI b),(nI c)])<|gd 10 10 (a≥b) (gE 7 0 (bV (decide (a≤c))))<|gE 7 0 (bV false)
def aR1:=fun a b c d=>bEL a b c|>.t d tv
def aR2:=fun a b c d=>bEL a b c|>.f d tv
def fO(a:aE):=tT 0 (start PP 176 [(aC a)])<|.b 16 4 (aQ a.length (aB a) 4 1819242338) (gE 8 0 (bV true))<|.b 6 4 (aQ a.length (aB a) 4 1819043171) (gE 8 0 (bV true))<|.b 6 4 (aQ a.length (aB a) 4 1851877475) (gE 8 0 (bV true))<|.b 6 4 (aQ a.length (aB a) 4 1702063205) (gE 8 0 (bV true))<|.b 6 4 (aQ a.length (aB a) 5 435728179558) (gE 8 0 (bV true))<|.b 6 4 (aQ a.length (aB a) 3 7239014) (gE 8 0 (bV true))<|.b 6 4 (aQ a.length (aB a) 3 7628135) (gE 8 0 (bV true))<|.b 6 4 (aQ a.length (aB a) 2 26217) (gE 8 0 (bV true))<|.b 6 4 (aQ a.length (aB a) 2 28265) (gE 8 0 (bV true))<|.b 6 4 (aQ a.length (aB a) 5 500186508905) (gE 8 0 (bV true))<|.b 6 4 (aQ a.length (aB a) 3 7630441) (gE 8 0 (bV true))<|.b 6 4 (aQ a.length (aB a) 4 1852403562) (gE 8 0 (bV true))<|.b 6 4 (aQ a.length (aB a) 3 7628140) (gE 8 0 (bV true))<|.b 6 4 (aQ a.length (aB a) 5 448345170285) (gE 8 0 (bV true))<|.b 6 4 (aQ a.length (aB a) 6 111516500389741) (gE 8 0 (bV true))<|.b 6 4 (aQ a.length (aB a) 3 7632239) (gE 8 0 (bV true))<|.b 6 4 (aQ a.length (aB a) 5 435728769392) (gE 8 0 (bV true))<|.b 6 4 (aQ a.length (aB a) 3 7632240) (gE 8 0 (bV true))<|.b 6 4 (aQ a.length (aB a) 5 499918267762) (gE 8 0 (bV true))<|.b 6 4 (aQ a.length (aB a) 4 1684956531) (gE 8 0 (bV true))<|.b 6 4 (aQ a.length (aB a) 5 499934390387) (gE 8 0 (bV true))<|.b 6 4 (aQ a.length (aB a) 5 474449277043) (gE 8 0 (bV true))<|.b 6 4 (aQ a.length (aB a) 4 1701536116) (gE 8 0 (bV true))<|.b 6 4 (aQ a.length (aB a) 4 1802723700) (gE 8 0 (bV true))<|.b 6 4 (aQ a.length (aB a) 4 1852139636) (gE 8 0 (bV true))<|.b 6 4 (aQ a.length (aB a) 4 1702195828) (gE 8 0 (bV true))<|.b 6 4 (aQ a.length (aB a) 4 1701869940) (gE 8 0 (bV true))<|.b 5 4 (aQ a.length (aB a) 4 1953066613) (gE 6 0 (bV true))<|gE 8 0 (bV false)
def aYb:=fun a b=>fO a|>.t b tv
def aYc:=fun a b c=>fO a|>.f b|>.t c tv
def aYd:=fun a b c d=>fO a|>.f b|>.f c|>.t d tv
def aYe:=fun a b c d e=>fO a|>.f b|>.f c|>.f d|>.t e tv
def aYf:=fun a b c d e f=>fO a|>.f b|>.f c|>.f d|>.f e|>.t f tv
def aYg:=fun a b c d e f g=>fO a|>.f b|>.f c|>.f d|>.f e|>.f f|>.t g tv
def aYh:=fun a b c d e f g i=>fO a|>.f b|>.f c|>.f d|>.f e|>.f f|>.f g|>.t i tv
def aYi:=fun a b c d e f g i j=>fO a|>.f b|>.f c|>.f d|>.f e|>.f f|>.f g|>.f i|>.t j tv
def aYj:=fun a b c d e f g i j k=>fO a|>.f b|>.f c|>.f d|>.f e|>.f f|>.f g|>.f i|>.f j|>.t k tv
def aYk:=fun a b c d e f g i j k l=>fO a|>.f b|>.f c|>.f d|>.f e|>.f f|>.f g|>.f i|>.f j|>.f k|>.t l tv
def aR3:=fun a b c d e f g i j k l m=>fO a|>.f b|>.f c|>.f d|>.f e|>.f f|>.f g|>.f i|>.f j|>.f k|>.f l|>.t m tv
def aR4:=fun a b c d e f g i j k l m n=>fO a|>.f b|>.f c|>.f d|>.f e|>.f f|>.f g|>.f i|>.f j|>.f k|>.f l|>.f m|>.t n tv
def aR5:=fun a b c d e f g i j k l m n o=>fO a|>.f b|>.f c|>.f d|>.f e|>.f f|>.f g|>.f i|>.f j|>.f k|>.f l|>.f m|>.f n|>.t o tv
def aR6:=fun a b c d e f g i j k l m n o p=>fO a|>.f b|>.f c|>.f d|>.f e|>.f f|>.f g|>.f i|>.f j|>.f k|>.f l|>.f m|>.f n|>.f o|>.t p tv
def aR7:=fun a b c d e f g i j k l m n o p q=>fO a|>.f b|>.f c|>.f d|>.f e|>.f f|>.f g|>.f i|>.f j|>.f k|>.f l|>.f m|>.f n|>.f o|>.f p|>.t q tv
def aR8:=fun a b c d e f g i j k l m n o p q r=>fO a|>.f b|>.f c|>.f d|>.f e|>.f f|>.f g|>.f i|>.f j|>.f k|>.f l|>.f m|>.f n|>.f o|>.f p|>.f q|>.t r tv
def aR9:=fun a b c d e f g i j k l m n o p q r s=>fO a|>.f b|>.f c|>.f d|>.f e|>.f f|>.f g|>.f i|>.f j|>.f k|>.f l|>.f m|>.f n|>.f o|>.f p|>.f q|>.f r|>.t s tv
def aSa:=fun a b c d e f g i j k l m n o p q r s t=>fO a|>.f b|>.f c|>.f d|>.f e|>.f f|>.f g|>.f i|>.f j|>.f k|>.f l|>.f m|>.f n|>.f o|>.f p|>.f q|>.f r|>.f s|>.t t tv
def aSb:=fun a b c d e f g i j k l m n o p q r s t u=>fO a|>.f b|>.f c|>.f d|>.f e|>.f f|>.f g|>.f i|>.f j|>.f k|>.f l|>.f m|>.f n|>.f o|>.f p|>.f q|>.f r|>.f s|>.f t|>.t u tv
def aSc:=fun a b c d e f g i j k l m n o p q r s t u v=>fO a|>.f b|>.f c|>.f d|>.f e|>.f f|>.f g|>.f i|>.f j|>.f k|>.f l|>.f m|>.f n|>.f o|>.f p|>.f q|>.f r|>.f s|>.f t|>.f u|>.t v tv
def aSd:=fun a b c d e f g i j k l m n o p q r s t u v w=>fO a|>.f b|>.f c|>.f d|>.f e|>.f f|>.f g|>.f i|>.f j|>.f k|>.f l|>.f m|>.f n|>.f o|>.f p|>.f q|>.f r|>.f s|>.f t|>.f u|>.f v|>.t w tv
def aSe:=fun a b c d e f g i j k l m n o p q r s t u v w x=>fO a|>.f b|>.f c|>.f d|>.f e|>.f f|>.f g|>.f i|>.f j|>.f k|>.f l|>.f m|>.f n|>.f o|>.f p|>.f q|>.f r|>.f s|>.f t|>.f u|>.f v|>.f w|>.t x tv
def aSf:=fun a b c d e f g i j k l m n o p q r s t u v w x y=>fO a|>.f b|>.f c|>.f d|>.f e|>.f f|>.f g|>.f i|>.f j|>.f k|>.f l|>.f m|>.f n|>.f o|>.f p|>.f q|>.f r|>.f s|>.f t|>.f u|>.f v|>.f w|>.f x|>.t y tv
def aSg:=fun a b c d e f g i j k l m n o p q r s t u v w x y z=>fO a|>.f b|>.f c|>.f d|>.f e|>.f f|>.f g|>.f i|>.f j|>.f k|>.f l|>.f m|>.f n|>.f o|>.f p|>.f q|>.f r|>.f s|>.f t|>.f u|>.f v|>.f w|>.f x|>.f y|>.t z tv
def aSh:=fun a b c d e f g i j k l m n o p q r s t u v w x y z A=>fO a|>.f b|>.f c|>.f d|>.f e|>.f f|>.f g|>.f i|>.f j|>.f k|>.f l|>.f m|>.f n|>.f o|>.f p|>.f q|>.f r|>.f s|>.f t|>.f u|>.f v|>.f w|>.f x|>.f y|>.f z|>.t A tv
def aSi:=fun a b c d e f g i j k l m n o p q r s t u v w x y z A B=>fO a|>.f b|>.f c|>.f d|>.f e|>.f f|>.f g|>.f i|>.f j|>.f k|>.f l|>.f m|>.f n|>.f o|>.f p|>.f q|>.f r|>.f s|>.f t|>.f u|>.f v|>.f w|>.f x|>.f y|>.f z|>.f A|>.t B tv
def aSj:=fun a b c d e f g i j k l m n o p q r s t u v w x y z A B C=>fO a|>.f b|>.f c|>.f d|>.f e|>.f f|>.f g|>.f i|>.f j|>.f k|>.f l|>.f m|>.f n|>.f o|>.f p|>.f q|>.f r|>.f s|>.f t|>.f u|>.f v|>.f w|>.f x|>.f y|>.f z|>.f A|>.f B|>.t C tv
def aSk:=fun a b c d e f g i j k l m n o p q r s t u v w x y z A B C D=>fO a|>.f b|>.f c|>.f d|>.f e|>.f f|>.f g|>.f i|>.f j|>.f k|>.f l|>.f m|>.f n|>.f o|>.f p|>.f q|>.f r|>.f s|>.f t|>.f u|>.f v|>.f w|>.f x|>.f y|>.f z|>.f A|>.f B|>.f C|>.t D tv
def aSl:=fun a b c d e f g i j k l m n o p q r s t u v w x y z A B C D=>fO a|>.f b|>.f c|>.f d|>.f e|>.f f|>.f g|>.f i|>.f j|>.f k|>.f l|>.f m|>.f n|>.f o|>.f p|>.f q|>.f r|>.f s|>.f t|>.f u|>.f v|>.f w|>.f x|>.f y|>.f z|>.f A|>.f B|>.f C|>.f D tv
def aOe(a:aE):=tT 0 (start PP 103 [(aC a)])<|.b 9 5 (!(aQ a.length (aB a) 0 0)) (gd 5 10 ((a.length:Int) ≤8) (cP 1 175 [(aC a)]<|fun b=>.b 2 14 b (cP 1 176 [(aC a)]<|fun c=>gE 5 0 (bV (!c)))<|gE 7 0 (bV false))<|gE 11 0 (bV false))<|gE 16 0 (bV false)
def aYl:=fun a b c d e f g i=>aOe a|>.t d|>.t e b f|>.t g c i tv
def aYm:=fun a b c d e f=>aOe a|>.t c|>.t d b e|>.f f tv
def aYn:=fun a b c=>aOe a|>.t b|>.f c tv
def aYo:=fun a b=>aOe a|>.f b tv
end
end Go.Hb
namespace Go.Hb
open Go.Proofs
mutual
def lA :Pat→Int→Int
 | .mk _ _ _ ps,left=>if left<1 then -1 else jQ ps (left-1)
def jQ :List Pat→Int→Int
 | [],left=>left
 |p::ps,left=>if 0≤left then jQ ps (lA p left)else left
end
mutual
theorem aJi :∀ (p:Pat) (left:Int),0≤left→ -1≤lA p left∧lA p left≤left-1
 | .mk _ _ _ ps,left,h=>by
  rw [lA];split
  ·omega
  ·have:=aFM ps (left-1) (by omega);omega
theorem aFM :∀ (ps:List Pat) (left:Int),-1≤left→ -1≤jQ ps left∧jQ ps left≤left
 | [],left,h=>by rw [jQ];omega
 | p ::ps,left,h=>by
  rw [jQ];split
  · rename_i h0;have a:=aJi p left h0;have:=aFM ps (lA p left) a.1;omega
  ·omega
end
theorem aB8 (f n:Int)(s:aE)(ps:List Pat)(l0:Int)(ih:∀p∈ps,∀left:Int,0≤left→left≤1000→Pure PP 124 [Pat.av p,.int .i64 left] (.int .i64 (lA p left))) :
  ∀ (t:List Pat) (i:Nat) (left:Int),ps.drop i=t→ -1≤left→ (i:Int) +left≤1000→Ends PP 0 (xJ f n s ps l0 left (i:Int)).as (.ret (.int .i64 (jQ t left))) (aG [] 0)
 | [],i,left,h,h1,h2=>by
  have:=bD h;rw [jQ];exact aMc f n s ps l0 left i sd
 | .mk f' n' s' ps'::t,i,left,h,h1,h2=>by
  obtain⟨g1,g2,g3⟩ :=bB h;rw [jQ];split
  · rename_i h0;have w:=aJi (.mk f' n' s' ps') left h0;refine(aMa f n s ps l0 left i f' n' s' ps' _ sd sd sd sd (ih _ (List.mem_of_getElem? g1) left h0 (by omega)) sd).ends ?_;exact aB8 f n s ps l0 ih t (i+1) _ g2 w.1 (by omega)
  ·exact aMb f n s ps l0 left i sd sd
mutual
theorem qP :∀ (p:Pat) (left:Int),-1≤left→left≤1000→Pure PP 124 [Pat.av p,.int .i64 left] (.int .i64 (lA p left))
 | .mk f n s ps,left,h0,h1=>by
  refine aM (by kernel_rfl) (by simp [AV.keylessL,fC,AV.keyless]) rfl ?_;rw [lA];split
  ·exact aL8 f n s ps left sd
  · refine(aL9 f n s ps left sd sd).ends ?_;exact aB8 f n s ps left (fun p hp left h0 h1=>aDW ps p hp left h0 h1) ps 0 _ rfl (by omega) (by omega)
theorem aDW :∀ (ps:List Pat),∀p∈ps,∀left:Int,0≤left→left≤1000→Pure PP 124 [Pat.av p,.int .i64 left] (.int .i64 (lA p left))
 | [],p,hp,_,_,_=>by cases hp
 | q::ps,p,hp,left,h0,h1=>by
  rcases List.mem_cons.1 hp with e|hp
  ·rw [e];exact qP q left (by omega) h1
  ·exact aDW ps p hp left h0 h1
end
mutual
def nL :Pat→Bool
 | .mk _ _ s ps=>nZ ps&&decide (s.length≤30)
def nZ :List Pat→Bool
 | [] =>true
 |p::ps=>nL p&&nZ ps
end
mutual
def aP :Pat→Nat
 | .mk _ _ _ ps=>aK ps+1
def aK :List Pat→Nat
 | [] =>0
 |p::ps=>aP p+aK ps
end
theorem cL :∀ps:List Pat,ps.length≤aK ps
 | [] =>by simp [aK]
 | .mk _ _ _ qs::ps=>by have:=cL ps;simp only [aK,aP,List.length_cons];omega
mutual
theorem aDX :∀ (p:Pat) (left:Int),0≤lA p left→lA p left=left-aP p
 | .mk _ _ _ ps,left,h=>by
  rw [lA]at h ⊢;split at h
  ·omega
  · rename_i h1;rw [if_neg h1];have:=aB9 ps (left-1) h;simp only [aP];omega
theorem aB9 :∀ (ps:List Pat) (left:Int),0≤jQ ps left→jQ ps left=left-aK ps
 | [],left,h=>by simp [jQ,aK]
 | p ::ps,left,h=>by
  rw [jQ]at h ⊢;split at h
  · rename_i h1;rw [if_pos h1];have a:=aB9 ps _ h;have b:=aDX p left (by omega);simp only [aK];omega
  ·omega
end
mutual
theorem aDY :∀ (p:Pat) (left:Int),(aP p:Int) ≤left→lA p left=left-aP p
 | .mk _ _ _ ps,left,h=>by
  simp only [aP]at h ⊢;rw [lA,if_neg (by omega),aCa ps (left-1) (by omega)];omega
theorem aCa :∀ (ps:List Pat) (left:Int),(aK ps:Int) ≤left→jQ ps left=left-aK ps
 | [],left,h=>by simp [jQ,aK]
 | p::ps,left,h=>by
  simp only [aK]at h ⊢;rw [jQ,if_pos (by omega),aDY p left (by omega),aCa ps _ (by omega)];omega
end
theorem sD (p:Pat)(left:Int) :0≤lA p left↔ (aP p:Int) ≤left:=by
 constructor
 ·intro h;have:=aDX p left h;omega
 ·intro h;rw [aDY p left h];omega
theorem wG (f n:Int)(s:aE)(ps:List Pat)(hl:ps.length<1000000)(ih:∀p∈ps,Pure PP 125 [Pat.av p] (.bool (nL p))) :
  ∀ (t:List Pat) (i:Nat),ps.drop i=t→Ends PP 0 (nY f n s ps (i:Int)).as (.ret (.bool (nZ t&&decide (s.length≤30)))) (aG [] 0)
 | [],i,h=>by
  have:=bD h;have e:decide (((List.length s:Nat) :Int) ≤ (30:Int)) =decide (s.length≤30) :=by congr 1;simp;omega
  rw [nZ,Bool.true_and,←e];exact aFh f n s ps i sd
 | .mk f' n' s' ps'::t,i,h=>by
  obtain⟨g1,g2,g3⟩ :=bB h;have ihp:=ih _ (List.mem_of_getElem? g1);rw [nZ];cases hb:nL (.mk f' n' s' ps')with
  | false=>
   rw [hb]at ihp;exact aFf f n s ps i f' n' s' ps' false sd sd sd ihp rfl
  | true=>
   rw [hb]at ihp;refine(aFg f n s ps i f' n' s' ps' true sd sd sd ihp rfl sd).ends ?_;rw [Bool.true_and];exact wG f n s ps hl ih t (i+1) g2
mutual
theorem wH :∀ (p:Pat),aP p<1000000→Pure PP 125 [Pat.av p] (.bool (nL p))
 | .mk f n s ps,h=>by
  refine aM (by kernel_rfl) (by simp [AV.keylessL,fC]) rfl ?_;simp only [aP]at h;have:=cL ps;refine(aFe f n s ps).ends ?_;rw [nL];exact wG f n s ps (by omega) (yS ps (by omega)) ps 0 rfl
theorem yS :∀ (ps:List Pat),aK ps<1000000→∀p∈ps,Pure PP 125 [Pat.av p] (.bool (nL p))
 | [],_,p,hp=>by cases hp
 | q::ps,h,p,hp=>by
  simp only [aK]at h;rcases List.mem_cons.1 hp with e|hp
  ·rw [e];exact wH q (by omega)
  ·exact yS ps (by omega) p hp
end
def pL (p:Pat) :Bool:=decide (aP p≤16) &&nL p
theorem aAV (p:Pat) :Pure PP 64 [Pat.av p] (.bool (pL p)) :=by
 refine aM (by kernel_rfl) (by simp [AV.keylessL,fC]) rfl ?_;obtain⟨f,n,s,ps⟩ :=p;have hw:=qP (.mk f n s ps) 16 (by omega) (by omega);by_cases h:aP (.mk f n s ps) ≤16
 · have e:pL (.mk f n s ps) =nL (.mk f n s ps) :=by simp [pL,h]
   rw [e];have hg:0≤lA (.mk f n s ps) 16:= (sD (.mk f n s ps) 16).2 (by omega);exact aJb f n s ps _ _ hw (decide_eq_true hg) (wH (.mk f n s ps) (by omega))
 · have e:pL (.mk f n s ps) =false:=by simp [pL,h]
   rw [e];refine aJc f n s ps _ hw (decide_eq_false fun g=>h ?_);have:= (sD (.mk f n s ps) 16).1 g;omega
def jH (l:List Con) :Bool:=l.all fun c=>decide (c.name.length≤40)
def jJ (l:List Pat) :Bool:=l.all pL
def bQ (x:Node) :Bool:=decide (x.kids.length≤10) &&decide (x.pats.length≤10) &&jJ x.pats
def aN (p:Prog) :Bool:=decide (p.nodes.length≤320) &&decide (p.funs.length≤320) &&decide (p.cons.length≤25) &&jH p.cons&&p.nodes.all bQ
mutual
theorem bHN (p:Prog)(hn:p.nodes.length≤320) :∀ (t:List Node) (i:Nat),p.nodes.drop i=t→Ends PP 0 (mH p (i:Int)).as (.ret (.bool (t.all bQ))) (aG [] 0)
 | [],i,h=>by
  have:=bD h;exact aDR p i sd
 | x :: t,i,h=>by
  obtain⟨g1,g2,g3⟩ :=bB h;by_cases k1:x.kids.length≤10
  · by_cases k2:x.pats.length≤10
    · have e: (x::t).all bQ= (jJ (x.pats.drop 0) &&t.all bQ) :=by simp [bQ,k1,k2]
      rw [e];refine(aDQ p i x sd sd sd sd sd).ends ?_;have ih:=bHN p hn t (i+1) g2;clear e g1 g2 h
      suffices ∀ (u:List Pat) (k:Nat),x.pats.drop k=u→Ends PP 0 (mI p x.op x.n x.kids x.pats (k:Int) (i:Int)).as (.ret (.bool (jJ u&&t.all bQ))) (aG [] 0)from this _ 0 rfl
      intro u
      induction u with
      | nil=>
       intro k hk;have:=bD hk;refine(aDU p x.op x.n x.kids x.pats k i sd sd).ends ?_;simp only [jJ,List.all_nil,Bool.true_and];exact ih
      | cons q u ihu=>
       intro k hk;obtain⟨q1,q2,q3⟩ :=bB hk;obtain⟨f',n',s',ps'⟩ :=q;have hp:=aAV (.mk f' n' s' ps');cases hb:pL (.mk f' n' s' ps')with
       | false=>
        rw [hb]at hp;have e: (jJ (.mk f' n' s' ps'::u) &&t.all bQ) =false:=by simp [jJ,hb]
        rw [e];exact aDS p x.op x.n x.kids x.pats k i f' n' s' ps' false sd sd sd hp rfl
       | true=>
        rw [hb]at hp;have e: (jJ (.mk f' n' s' ps'::u) &&t.all bQ) = (jJ u&&t.all bQ) :=by simp [jJ,hb]
        rw [e];refine(aDT p x.op x.n x.kids x.pats k i f' n' s' ps' true sd sd sd hp rfl sd).ends ?_;exact ihu (k+1) q2
    · have e: (x::t).all bQ=false:=by simp [bQ,k2]
      rw [e];exact aDP p i x sd sd sd sd sd
  · have e: (x::t).all bQ=false:=by simp [bQ,k1]
    rw [e];exact aDO p i x sd sd sd sd
end
theorem bHO (p:Prog)(hc:p.cons.length≤25)(hn:p.nodes.length≤320) :∀ (t:List Con) (i:Nat),p.cons.drop i=t→Ends PP 0 (mG p (i:Int)).as (.ret (.bool (jH t&&p.nodes.all bQ))) (aG [] 0)
 | [],i,h=>by
  have:=bD h;refine(aDN p i sd).ends ?_;simp only [jH,List.all_nil,Bool.true_and];exact bHN p hn p.nodes 0 rfl
 | c ::t,i,h=>by
  obtain⟨g1,g2,g3⟩ :=bB h;by_cases k:c.name.length≤40
  · have e: (jH (c::t) &&p.nodes.all bQ) = (jH t&&p.nodes.all bQ) :=by simp [jH,k]
    rw [e];refine(aDM p i c sd sd sd sd sd).ends ?_;exact bHO p hc hn t (i+1) g2
  · have e: (jH (c::t) &&p.nodes.all bQ) =false:=by simp [jH,k]
    rw [e];exact aDL p i c sd sd sd sd
theorem aCC (p:Prog) :Pure PP 17 [Prog.av p] (.bool (aN p)) :=by
 refine aM (by kernel_rfl) rfl rfl ?_;by_cases h1:p.nodes.length≤320
 · by_cases h2:p.funs.length≤320
   · by_cases h3:p.cons.length≤25
     · have e:aN p= (jH p.cons&&p.nodes.all bQ) :=by simp [aN,h1,h2,h3]
       rw [e];exact(aDK p sd sd sd).ends (bHO p h3 h1 p.cons 0 rfl)
     · have e:aN p=false:=by simp [aN,h3]
       rw [e];exact aDJ p sd sd sd
   · have e:aN p=false:=by simp [aN,h2]
     rw [e];exact aDI p sd sd
 · have e:aN p=false:=by simp [aN,h1]
   rw [e];exact aDH p sd
end Go.Hb
namespace Go.Hb
open Go.Proofs
noncomputable section
open Go.Proofs Tryz
def dR(b c:Int)(d:aE)(a:List Pat)(e:List Con)(f:Bool)(g:Int):TS:=⟨(tf 126 82 [(1,(iC e)),kp 2 0,(4,(bV false)),(5,(bV f)),(6,(nI (a.length:Int))),(7,(nI g))] [kc f126 1012,kl f126 1012,.inBlock 1,kc f126 127]),[],[oC 0 [(nI b),(nI c),(aC d),(iP a)]],1⟩
def tV(d b:Int)(a:aE)(c:List Pat)(e:List Con):=tT 0 (start PP 126 [(.agg [(nI d),(nI b),(aC a),(iP c)]),(iC e)])<|gm 13 aF c<|.b 15 13 (d==1) (.b 7 19 ((c.length:Int) ==0) (.b 11 61 (b==0) (.W 13 1 [0] (dR d b a c e (aQ a.length (aB a) 0 0) 0))<|.W 13 1 [0] (dR d b a c e false 0))<|.W 24 1 [0] (dR d b a c e false 0))<|.b 6 13 (d==2) (.b 7 19 ((c.length:Int) ==0) (.b 11 61 (b==0) (.W 13 1 [0] (dR d b a c e (aQ a.length (aB a) 0 0) 0))<|.W 13 1 [0] (dR d b a c e false 0))<|.W 24 1 [0] (dR d b a c e false 0))<|.b 5 13 (d==5) (.b 5 19 ((c.length:Int) ==0) (.b 11 61 (b==0) (.W 13 1 [0] (dR d b a c e (aQ a.length (aB a) 0 0) 0))<|.W 13 1 [0] (dR d b a c e false 0))<|.W 24 1 [0] (dR d b a c e false 0))<|.b 6 24 (d==3) (.b 5 28 ((c.length:Int) ==0) (cP 2 65 [(nI b),(nI (-1000000000)),(nI 1000000000)]<|fun f=>.b 8 61 f (.W 13 1 [0] (dR d b a c e (aQ a.length (aB a) 0 0) 0))<|.W 13 1 [0] (dR d b a c e false 0))<|.W 24 1 [0] (dR d b a c e false 0))<|.b 6 33 (d==4) (.b 5 37 ((c.length:Int) ==0) (cP 2 65 [(nI b),(nI 0),(nI 1)]<|fun f=>.b 8 61 f (.W 13 1 [0] (dR d b a c e (aQ a.length (aB a) 0 0) 0))<|.W 13 1 [0] (dR d b a c e false 0))<|.W 24 1 [0] (dR d b a c e false 0))<|.b 6 42 (d==6) (gl 5 Con.av e<|gw 1 48 ((e.length:Int) -1)<|cP 0 65 [(nI b),(nI 0),(nI ((e.length:Int) -1))]<|fun f=>.b 1 50 f (gX Con.av 4 e b<|fun g=>.b 11 61 ((c.length:Int) ==g.args) (.W 13 1 [0] (dR d b a c e (aQ a.length (aB a) 0 0) 0))<|.W 13 1 [0] (dR d b a c e false 0))<|.W 29 1 [0] (dR d b a c e false 0))<|.W 20 1 [0] (dR d b a c e false 0)
def aSm:=fun a b c d e f g i=>tV a b c d e|>.t f|>.t g|>.t i tv
def aSn:=fun a b c d e f g i=>tV a b c d e|>.t f|>.t g|>.f i tv
def aSo:=fun a b c d e f g=>tV a b c d e|>.t f|>.f g tv
def aSp:=fun a b c d e f g i j=>tV a b c d e|>.f f|>.t g|>.t i|>.t j tv
def aSq:=fun a b c d e f g i j=>tV a b c d e|>.f f|>.t g|>.t i|>.f j tv
def aSr:=fun a b c d e f g i=>tV a b c d e|>.f f|>.t g|>.f i tv
def aSs:=fun a b c d e f g i j k=>tV a b c d e|>.f f|>.f g|>.t i|>.t j|>.t k tv
def aSt:=fun a b c d e f g i j k=>tV a b c d e|>.f f|>.f g|>.t i|>.t j|>.f k tv
def aSu:=fun a b c d e f g i j=>tV a b c d e|>.f f|>.f g|>.t i|>.f j tv
def aSv:=fun a b c d e f g i j k l m n=>tV a b c d e|>.f g|>.f i|>.f j|>.t k|>.t l f m|>.t n tv
def aPA:=fun a b c d e f g i j k l m n=>tV a b c d e|>.f g|>.f i|>.f j|>.t k|>.t l f m|>.f n tv
def aPB:=fun a b c d e f g i j k=>tV a b c d e|>.f f|>.f g|>.f i|>.t j|>.f k tv
def aPC:=fun a b c d e f g i j k l m n o=>tV a b c d e|>.f g|>.f i|>.f j|>.f k|>.t l|>.t m f n|>.t o tv
def aPD:=fun a b c d e f g i j k l m n o=>tV a b c d e|>.f g|>.f i|>.f j|>.f k|>.t l|>.t m f n|>.f o tv
def aPE:=fun a b c d e f g i j k l=>tV a b c d e|>.f f|>.f g|>.f i|>.f j|>.t k|>.f l tv
def aPF:=fun a b c d e f g i j k l m n o p q r s t=>tV a b c d e|>.f i|>.f j|>.f k|>.f l|>.f m|>.t n o f p|>.t q g r s|>.t t tv
def aPG:=fun a b c d e f g i j k l m n o p q r s t=>tV a b c d e|>.f i|>.f j|>.f k|>.f l|>.f m|>.t n o f p|>.t q g r s|>.f t tv
def aPH:=fun a b c d e f g i j k l m n o p=>tV a b c d e|>.f g|>.f i|>.f j|>.f k|>.f l|>.t m n f o|>.f p tv
def aPI:=fun a b c d e f g i j k l=>tV a b c d e|>.f f|>.f g|>.f i|>.f j|>.f k|>.f l tv
def bGt(e f:Int)(g:aE)(b:List Pat)(d:List Con)(c:Bool)(a:Int):=tT 0 (dR e f g b d c a)<|gd 7 69 (a< (b.length:Int)) (.b 3 71 c (mW 8 b a<|fun i j k l=>cP 2 126 [(.agg [(nI i),(nI j),(aC k),(iP l)]),(iC d)]<|fun m=>gw 6 73 (a+1)<|.W 3 1 [0] (dR e f g b d m (a+1)))<|gE 8 1 (bV c))<|gE 11 1 (bV c)
def aSw:=fun a b c d e f g i j k l m n o p q r s=>bGt a b c d e f g|>.t n|>.t o i j k l p q m r s tv
def aSx:=fun a b c d e f g i j=>bGt a b c d e f g|>.t i|>.f j tv
def aSy:=fun a b c d e f g i=>bGt a b c d e f g|>.f i tv
def lB(a b c:Int):=tT 0 (start PP 127 [(nI a),(nI b),(nI c)])<|.b 16 8 (a==1) (gE 8 0 (nI 0))<|.b 6 8 (a==2) (gE 8 0 (nI 0))<|.b 6 8 (a==3) (gE 8 0 (nI 0))<|.b 6 8 (a==4) (gE 8 0 (nI 0))<|.b 6 8 (a==21) (gE 8 0 (nI 0))<|.b 6 8 (a==25) (gE 8 0 (nI 0))<|.b 5 8 (a==28) (gE 6 0 (nI 0))<|.b 7 16 (a==5) (gE 8 0 (nI 1))<|.b 6 16 (a==27) (gE 8 0 (nI 1))<|.b 6 16 (a==16) (gE 8 0 (nI 1))<|.b 6 16 (a==17) (gE 8 0 (nI 1))<|.b 6 16 (a==19) (gE 8 0 (nI 1))<|.b 6 16 (a==20) (gE 8 0 (nI 1))<|.b 6 16 (a==23) (gE 8 0 (nI 1))<|.b 6 16 (a==26) (gE 8 0 (nI 1))<|.b 5 16 (a==24) (gE 6 0 (nI 1))<|.b 7 26 (a==6) (gE 8 0 (nI 2))<|.b 6 26 (a==7) (gE 8 0 (nI 2))<|.b 6 26 (a==9) (gE 8 0 (nI 2))<|.b 6 26 (a==10) (gE 8 0 (nI 2))<|.b 6 26 (a==11) (gE 8 0 (nI 2))<|.b 6 26 (a==12) (gE 8 0 (nI 2))<|.b 6 26 (a==13) (gE 8 0 (nI 2))<|.b 6 26 (a==18) (gE 8 0 (nI 2))<|.b 5 26 (a==22) (gE 6 0 (nI 2))<|.b 6 36 (a==8) (gE 6 0 (nI 3))<|.b 6 38 (a==15) (gw 5 41 (1+b)<|gE 3 0 (nI (1+b)))<|.b 6 42 (a==14) (gE 7 0 (nI c))<|gE 8 0 (nI (-1))
def aPJ:=fun a b c d=>lB a b c|>.t d tv
def aPK:=fun a b c d e=>lB a b c|>.f d|>.t e tv
def aPL:=fun a b c d e f=>lB a b c|>.f d|>.f e|>.t f tv
def aPM:=fun a b c d e f g=>lB a b c|>.f d|>.f e|>.f f|>.t g tv
def aPN:=fun a b c d e f g i=>lB a b c|>.f d|>.f e|>.f f|>.f g|>.t i tv
def aPO:=fun a b c d e f g i j=>lB a b c|>.f d|>.f e|>.f f|>.f g|>.f i|>.t j tv
def aPP:=fun a b c d e f g i j k=>lB a b c|>.f d|>.f e|>.f f|>.f g|>.f i|>.f j|>.t k tv
def aPQ:=fun a b c d e f g i j k l=>lB a b c|>.f d|>.f e|>.f f|>.f g|>.f i|>.f j|>.f k|>.t l tv
def aPR:=fun a b c d e f g i j k l m=>lB a b c|>.f d|>.f e|>.f f|>.f g|>.f i|>.f j|>.f k|>.f l|>.t m tv
def aPS:=fun a b c d e f g i j k l m n=>lB a b c|>.f d|>.f e|>.f f|>.f g|>.f i|>.f j|>.f k|>.f l|>.f m|>.t n tv
def aMd:=fun a b c d e f g i j k l m n o=>lB a b c|>.f d|>.f e|>.f f|>.f g|>.f i|>.f j|>.f k|>.f l|>.f m|>.f n|>.t o tv
def aMe:=fun a b c d e f g i j k l m n o p=>lB a b c|>.f d|>.f e|>.f f|>.f g|>.f i|>.f j|>.f k|>.f l|>.f m|>.f n|>.f o|>.t p tv
def aMf:=fun a b c d e f g i j k l m n o p q=>lB a b c|>.f d|>.f e|>.f f|>.f g|>.f i|>.f j|>.f k|>.f l|>.f m|>.f n|>.f o|>.f p|>.t q tv
def aMg:=fun a b c d e f g i j k l m n o p q r=>lB a b c|>.f d|>.f e|>.f f|>.f g|>.f i|>.f j|>.f k|>.f l|>.f m|>.f n|>.f o|>.f p|>.f q|>.t r tv
def aMh:=fun a b c d e f g i j k l m n o p q r s=>lB a b c|>.f d|>.f e|>.f f|>.f g|>.f i|>.f j|>.f k|>.f l|>.f m|>.f n|>.f o|>.f p|>.f q|>.f r|>.t s tv
def aMi:=fun a b c d e f g i j k l m n o p q r s t=>lB a b c|>.f d|>.f e|>.f f|>.f g|>.f i|>.f j|>.f k|>.f l|>.f m|>.f n|>.f o|>.f p|>.f q|>.f r|>.f s|>.t t tv
def aMj:=fun a b c d e f g i j k l m n o p q r s t u=>lB a b c|>.f d|>.f e|>.f f|>.f g|>.f i|>.f j|>.f k|>.f l|>.f m|>.f n|>.f o|>.f p|>.f q|>.f r|>.f s|>.f t|>.t u tv
def aMk:=fun a b c d e f g i j k l m n o p q r s t u v=>lB a b c|>.f d|>.f e|>.f f|>.f g|>.f i|>.f j|>.f k|>.f l|>.f m|>.f n|>.f o|>.f p|>.f q|>.f r|>.f s|>.f t|>.f u|>.t v tv
def aMl:=fun a b c d e f g i j k l m n o p q r s t u v w=>lB a b c|>.f d|>.f e|>.f f|>.f g|>.f i|>.f j|>.f k|>.f l|>.f m|>.f n|>.f o|>.f p|>.f q|>.f r|>.f s|>.f t|>.f u|>.f v|>.t w tv
def aMm:=fun a b c d e f g i j k l m n o p q r s t u v w x=>lB a b c|>.f d|>.f e|>.f f|>.f g|>.f i|>.f j|>.f k|>.f l|>.f m|>.f n|>.f o|>.f p|>.f q|>.f r|>.f s|>.f t|>.f u|>.f v|>.f w|>.t x tv
def aMn:=fun a b c d e f g i j k l m n o p q r s t u v w x y=>lB a b c|>.f d|>.f e|>.f f|>.f g|>.f i|>.f j|>.f k|>.f l|>.f m|>.f n|>.f o|>.f p|>.f q|>.f r|>.f s|>.f t|>.f u|>.f v|>.f w|>.f x|>.t y tv
def aMo:=fun a b c d e f g i j k l m n o p q r s t u v w x y z=>lB a b c|>.f d|>.f e|>.f f|>.f g|>.f i|>.f j|>.f k|>.f l|>.f m|>.f n|>.f o|>.f p|>.f q|>.f r|>.f s|>.f t|>.f u|>.f v|>.f w|>.f x|>.f y|>.t z tv
def aMp:=fun a b c d e f g i j k l m n o p q r s t u v w x y z A=>lB a b c|>.f d|>.f e|>.f f|>.f g|>.f i|>.f j|>.f k|>.f l|>.f m|>.f n|>.f o|>.f p|>.f q|>.f r|>.f s|>.f t|>.f u|>.f v|>.f w|>.f x|>.f y|>.f z|>.t A tv
def aMq:=fun a b c d e f g i j k l m n o p q r s t u v w x y z A B=>lB a b c|>.f d|>.f e|>.f f|>.f g|>.f i|>.f j|>.f k|>.f l|>.f m|>.f n|>.f o|>.f p|>.f q|>.f r|>.f s|>.f t|>.f u|>.f v|>.f w|>.f x|>.f y|>.f z|>.f A|>.t B tv
def aMr:=fun a b c d e f g i j k l m n o p q r s t u v w x y z A B C=>lB a b c|>.f d|>.f e|>.f f|>.f g|>.f i|>.f j|>.f k|>.f l|>.f m|>.f n|>.f o|>.f p|>.f q|>.f r|>.f s|>.f t|>.f u|>.f v|>.f w|>.f x|>.f y|>.f z|>.f A|>.f B|>.t C tv
def aMs:=fun a b c d e f g i j k l m n o p q r s t u v w x y z A B C D=>lB a b c|>.f d|>.f e|>.f f|>.f g|>.f i|>.f j|>.f k|>.f l|>.f m|>.f n|>.f o|>.f p|>.f q|>.f r|>.f s|>.f t|>.f u|>.f v|>.f w|>.f x|>.f y|>.f z|>.f A|>.f B|>.f C|>.t D tv
def aMt:=fun a b c d e f g i j k l m n o p q r s t u v w x y z A B C D F G=>lB a b c|>.f d|>.f e|>.f f|>.f g|>.f i|>.f j|>.f k|>.f l|>.f m|>.f n|>.f o|>.f p|>.f q|>.f r|>.f s|>.f t|>.f u|>.f v|>.f w|>.f x|>.f y|>.f z|>.f A|>.f B|>.f C|>.f D|>.t F G tv
def aMu:=fun a b c d e f g i j k l m n o p q r s t u v w x y z A B C D F G=>lB a b c|>.f d|>.f e|>.f f|>.f g|>.f i|>.f j|>.f k|>.f l|>.f m|>.f n|>.f o|>.f p|>.f q|>.f r|>.f s|>.f t|>.f u|>.f v|>.f w|>.f x|>.f y|>.f z|>.f A|>.f B|>.f C|>.f D|>.f F|>.t G tv
def aMv:=fun a b c d e f g i j k l m n o p q r s t u v w x y z A B C D F G=>lB a b c|>.f d|>.f e|>.f f|>.f g|>.f i|>.f j|>.f k|>.f l|>.f m|>.f n|>.f o|>.f p|>.f q|>.f r|>.f s|>.f t|>.f u|>.f v|>.f w|>.f x|>.f y|>.f z|>.f A|>.f B|>.f C|>.f D|>.f F|>.f G tv
end
end Go.Hb
namespace Go.Hb
open Go.Proofs
theorem Ends.eqv {P:Program}{m:Nat}{s:AS}{v v':AV}{h':Hp}(h:Ends P m s (.ret v) h')(e:v=v') :Ends P m s (.ret v') h':=e ▸ h
theorem inB_iff {n lo hi:Int}:aW n lo hi=true↔lo≤n∧n≤hi:=by simp [aW]
theorem inB_not {n lo hi:Int}:aW n lo hi=false↔¬ (lo≤n∧n≤hi) :=by simp [aW]
theorem sdI {p:Prop}(h:p:=by first|assumption|rfl| (simp only [Int.toNat_natCast];assumption) | (simp only [decide_eq_true_eq,decide_eq_false_iff_not];omega) |omega| (apply wrap64<;>omega) | (simp_all;done) | (simp only [inB_iff,inB_not,beq_iff_eq,decide_eq_true_eq,decide_eq_false_iff_not]at *;omega)) :p:=h
theorem idT {p:Prop}(h:p:=by exact⟨_,List.getElem?_eq_getElem (by simp only [inB_iff,inB_not,beq_iff_eq,decide_eq_true_eq,decide_eq_false_iff_not]at *;omega)⟩) :p:=h
def dH (op pats args:Int) :Int:=
 if op=1∨op=2∨op=3∨op=4∨op=21∨op=25∨op=28 then 0
 else if op=5∨op=27∨op=16∨op=17∨op=19∨op=20∨op=23∨op=26∨op=24 then 1
 else if op=6∨op=7∨op=9∨op=10∨op=11∨op=12∨op=13∨op=18∨op=22 then 2
 else if op=8 then 3 else if op=15 then 1+pats else if op=14 then args else -1
theorem rKids_E (op pats args :Int)(hp:0≤pats)(hp2:pats≤1000) :Ends PP 0 (start PP 127 [.int .i64 op,.int .i64 pats,.int .i64 args]).as (.ret (.int .i64 (dH op pats args))) (aG [] 0) :=by
 cases hb1: (op== (1:Int))with
 | true=>
  exact Ends.eqv (aPJ op pats args   hb1) (by simp_all [dH])
 | false =>
  cases hb2: (op== (2:Int))with
  | true=>
   exact Ends.eqv (aPK op pats args   hb1 hb2) (by simp_all [dH])
  | false =>
   cases hb3: (op== (3:Int))with
   | true=>
    exact Ends.eqv (aPL op pats args   hb1 hb2 hb3) (by simp_all [dH])
   | false =>
    cases hb4: (op== (4:Int))with
    | true=>
     exact Ends.eqv (aPM op pats args   hb1 hb2 hb3 hb4) (by simp_all [dH])
    | false =>
     cases hb5: (op== (21:Int))with
     | true=>
      exact Ends.eqv (aPN op pats args   hb1 hb2 hb3 hb4 hb5) (by simp_all [dH])
     | false =>
      cases hb6: (op== (25:Int))with
      | true=>
       exact Ends.eqv (aPO op pats args   hb1 hb2 hb3 hb4 hb5 hb6) (by simp_all [dH])
      | false =>
       cases hb7: (op== (28:Int))with
       | true=>
        exact Ends.eqv (aPP op pats args   hb1 hb2 hb3 hb4 hb5 hb6 hb7) (by simp_all [dH])
       | false =>
        cases hb8: (op== (5:Int))with
        | true=>
         exact Ends.eqv (aPQ op pats args   hb1 hb2 hb3 hb4 hb5 hb6 hb7 hb8) (by simp_all [dH])
        | false =>
         cases hb9: (op== (27:Int))with
         | true=>
          exact Ends.eqv (aPR op pats args   hb1 hb2 hb3 hb4 hb5 hb6 hb7 hb8 hb9) (by simp_all [dH])
         | false =>
          cases hb10: (op== (16:Int))with
          | true=>
           exact Ends.eqv (aPS op pats args   hb1 hb2 hb3 hb4 hb5 hb6 hb7 hb8 hb9 hb10) (by simp_all [dH])
          | false =>
           cases hb11: (op== (17:Int))with
           | true=>
            exact Ends.eqv (aMd op pats args   hb1 hb2 hb3 hb4 hb5 hb6 hb7 hb8 hb9 hb10 hb11) (by simp_all [dH])
           | false =>
            cases hb12: (op== (19:Int))with
            | true=>
             exact Ends.eqv (aMe op pats args   hb1 hb2 hb3 hb4 hb5 hb6 hb7 hb8 hb9 hb10 hb11 hb12) (by simp_all [dH])
            | false =>
             cases hb13: (op== (20:Int))with
             | true=>
              exact Ends.eqv (aMf op pats args   hb1 hb2 hb3 hb4 hb5 hb6 hb7 hb8 hb9 hb10 hb11 hb12 hb13) (by simp_all [dH])
             | false =>
              cases hb14: (op== (23:Int))with
              | true=>
               exact Ends.eqv (aMg op pats args   hb1 hb2 hb3 hb4 hb5 hb6 hb7 hb8 hb9 hb10 hb11 hb12 hb13 hb14) (by simp_all [dH])
              | false =>
               cases hb15: (op== (26:Int))with
               | true=>
                exact Ends.eqv (aMh op pats args   hb1 hb2 hb3 hb4 hb5 hb6 hb7 hb8 hb9 hb10 hb11 hb12 hb13 hb14 hb15) (by simp_all [dH])
               | false =>
                cases hb16: (op== (24:Int))with
                | true=>
                 exact Ends.eqv (aMi op pats args   hb1 hb2 hb3 hb4 hb5 hb6 hb7 hb8 hb9 hb10 hb11 hb12 hb13 hb14 hb15 hb16) (by simp_all [dH])
                | false =>
                 cases hb17: (op== (6:Int))with
                 | true=>
                  exact Ends.eqv (aMj op pats args   hb1 hb2 hb3 hb4 hb5 hb6 hb7 hb8 hb9 hb10 hb11 hb12 hb13 hb14 hb15 hb16 hb17) (by simp_all [dH])
                 | false =>
                  cases hb18: (op== (7:Int))with
                  | true=>
                   exact Ends.eqv (aMk op pats args   hb1 hb2 hb3 hb4 hb5 hb6 hb7 hb8 hb9 hb10 hb11 hb12 hb13 hb14 hb15 hb16 hb17 hb18) (by simp_all [dH])
                  | false =>
                   cases hb19: (op== (9:Int))with
                   | true=>
                    exact Ends.eqv (aMl op pats args   hb1 hb2 hb3 hb4 hb5 hb6 hb7 hb8 hb9 hb10 hb11 hb12 hb13 hb14 hb15 hb16 hb17 hb18 hb19) (by simp_all [dH])
                   | false =>
                    cases hb20: (op== (10:Int))with
                    | true=>
                     exact Ends.eqv (aMm op pats args   hb1 hb2 hb3 hb4 hb5 hb6 hb7 hb8 hb9 hb10 hb11 hb12 hb13 hb14 hb15 hb16 hb17 hb18 hb19 hb20) (by simp_all [dH])
                    | false =>
                     cases hb21: (op== (11:Int))with
                     | true=>
                      exact Ends.eqv (aMn op pats args   hb1 hb2 hb3 hb4 hb5 hb6 hb7 hb8 hb9 hb10 hb11 hb12 hb13 hb14 hb15 hb16 hb17 hb18 hb19 hb20 hb21) (by simp_all [dH])
                     | false =>
                      cases hb22: (op== (12:Int))with
                      | true=>
                       exact Ends.eqv (aMo op pats args   hb1 hb2 hb3 hb4 hb5 hb6 hb7 hb8 hb9 hb10 hb11 hb12 hb13 hb14 hb15 hb16 hb17 hb18 hb19 hb20 hb21 hb22) (by simp_all [dH])
                      | false =>
                       cases hb23: (op== (13:Int))with
                       | true=>
                        exact Ends.eqv (aMp op pats args   hb1 hb2 hb3 hb4 hb5 hb6 hb7 hb8 hb9 hb10 hb11 hb12 hb13 hb14 hb15 hb16 hb17 hb18 hb19 hb20 hb21 hb22 hb23) (by simp_all [dH])
                       | false=>
                        cases hb24: (op== (18:Int))with
                        | true=>
                         exact Ends.eqv (aMq op pats args   hb1 hb2 hb3 hb4 hb5 hb6 hb7 hb8 hb9 hb10 hb11 hb12 hb13 hb14 hb15 hb16 hb17 hb18 hb19 hb20 hb21 hb22 hb23 hb24) (by simp_all [dH])
                        | false=>
                         cases hb25: (op== (22:Int))with
                         | true=>
                          exact Ends.eqv (aMr op pats args   hb1 hb2 hb3 hb4 hb5 hb6 hb7 hb8 hb9 hb10 hb11 hb12 hb13 hb14 hb15 hb16 hb17 hb18 hb19 hb20 hb21 hb22 hb23 hb24 hb25) (by simp_all [dH])
                         | false=>
                          cases hb26: (op== (8:Int))with
                          | true=>
                           exact Ends.eqv (aMs op pats args   hb1 hb2 hb3 hb4 hb5 hb6 hb7 hb8 hb9 hb10 hb11 hb12 hb13 hb14 hb15 hb16 hb17 hb18 hb19 hb20 hb21 hb22 hb23 hb24 hb25 hb26) (by simp_all [dH])
                          | false=>
                           cases hb27: (op== (15:Int))with
                           | true=>
                            exact Ends.eqv (aMt op pats args   hb1 hb2 hb3 hb4 hb5 hb6 hb7 hb8 hb9 hb10 hb11 hb12 hb13 hb14 hb15 hb16 hb17 hb18 hb19 hb20 hb21 hb22 hb23 hb24 hb25 hb26 hb27 sdI) (by simp_all [dH])
                           | false=>
                            cases hb28: (op== (14:Int))with
                            | true=>
                             exact Ends.eqv (aMu op pats args   hb1 hb2 hb3 hb4 hb5 hb6 hb7 hb8 hb9 hb10 hb11 hb12 hb13 hb14 hb15 hb16 hb17 hb18 hb19 hb20 hb21 hb22 hb23 hb24 hb25 hb26 hb27 hb28) (by simp_all [dH])
                            | false=>
                             exact Ends.eqv (aMv op pats args   hb1 hb2 hb3 hb4 hb5 hb6 hb7 hb8 hb9 hb10 hb11 hb12 hb13 hb14 hb15 hb16 hb17 hb18 hb19 hb20 hb21 hb22 hb23 hb24 hb25 hb26 hb27 hb28) (by simp_all [dH])
theorem aMw (op pats args:Int)(hp:0≤pats)(hp2:pats≤1000) :Pure PP 127 [.int .i64 op,.int .i64 pats,.int .i64 args] (.int .i64 (dH op pats args)) :=
 aM (by kernel_rfl) rfl rfl (rKids_E op pats args hp hp2)
def eU (cons:List Con)(n:Int) :Int:=match cons[n.toNat]? with
 |some c=>c.args
 |none=> -1
def dA (cons:List Con)(f n:Int)(s:aE)(k:Nat) :Bool:=
 (if f=1∨f=2∨f=5 then decide (k=0) &&decide (n=0)
 else if f=3 then decide (k=0) &&aW n (-1000000000) 1000000000
 else if f=4 then decide (k=0) &&aW n 0 1
 else if f=6 then aW n 0 ((cons.length:Int) -1) &&decide ((k:Int) =eU cons n)
 else false) &&decide (s= [])
mutual
def cT (cons:List Con) :Pat→Bool
 | .mk f n s ps=>dA cons f n s ps.length&&cB cons ps
def cB (cons:List Con) :List Pat→Bool
 | [] =>true
 |p::ps=>cT cons p&&cB cons ps
end
theorem ptT {p:Prop}(h:p:=by simp_all [dA,eU,aA]) :p:=h
theorem bGu (q_form q_n:Int)(q_text:aE)(q_parts:List Pat)(cons:List Con)(hc:cons.length≤1000)(b:Bool)(hk:∀i:Bool,i=dA cons q_form q_n q_text q_parts.length→Ends PP 0 (dR q_form q_n q_text q_parts cons i 0).as (.ret (.bool b)) (aG [] 0)) :
  Ends PP 0 (start PP 126 [Pat.av (.mk q_form q_n q_text q_parts),.ilst 2 (List.map Con.av cons) false]).as (.ret (.bool b)) (aG [] 0) :=by
 cases hb1: (q_form== (1:Int))with
 | true=>
  cases hb2: (((List.length q_parts:Nat) :Int) == (0:Int))with
  | true=>
   cases hb3: (q_n== (0:Int))with
   | true=>
    exact LeadsM.ends (aSm q_form q_n q_text q_parts cons   hb1 hb2 hb3) (hk _ (by clear hk;exact ptT))
   | false=>
    exact LeadsM.ends (aSn q_form q_n q_text q_parts cons   hb1 hb2 hb3) (hk _ (by clear hk;exact ptT))
  | false=>
   exact LeadsM.ends (aSo q_form q_n q_text q_parts cons   hb1 hb2) (hk _ (by clear hk;exact ptT))
 | false =>
  cases hb4: (q_form== (2:Int))with
  | true=>
   cases hb5: (((List.length q_parts:Nat) :Int) == (0:Int))with
   | true=>
    cases hb6: (q_n== (0:Int))with
    | true=>
     exact LeadsM.ends (aSp q_form q_n q_text q_parts cons   hb1 hb4 hb5 hb6) (hk _ (by clear hk;exact ptT))
    | false=>
     exact LeadsM.ends (aSq q_form q_n q_text q_parts cons   hb1 hb4 hb5 hb6) (hk _ (by clear hk;exact ptT))
   | false=>
    exact LeadsM.ends (aSr q_form q_n q_text q_parts cons   hb1 hb4 hb5) (hk _ (by clear hk;exact ptT))
  | false =>
   cases hb7: (q_form== (5:Int))with
   | true=>
    cases hb8: (((List.length q_parts:Nat) :Int) == (0:Int))with
    | true=>
     cases hb9: (q_n== (0:Int))with
     | true=>
      exact LeadsM.ends (aSs q_form q_n q_text q_parts cons   hb1 hb4 hb7 hb8 hb9) (hk _ (by clear hk;exact ptT))
     | false=>
      exact LeadsM.ends (aSt q_form q_n q_text q_parts cons   hb1 hb4 hb7 hb8 hb9) (hk _ (by clear hk;exact ptT))
    | false=>
     exact LeadsM.ends (aSu q_form q_n q_text q_parts cons   hb1 hb4 hb7 hb8) (hk _ (by clear hk;exact ptT))
   | false=>
    cases hb10: (q_form== (3:Int))with
    | true=>
     cases hb11: (((List.length q_parts:Nat) :Int) == (0:Int))with
     | true=>
      cases hb12: (aW q_n (-1000000000) 1000000000)with
      | true=>
       exact LeadsM.ends (aSv q_form q_n q_text q_parts cons  (aW q_n (-1000000000) 1000000000) hb1 hb4 hb7 hb10 hb11 (aY q_n (-1000000000) 1000000000) hb12) (hk _ (by clear hk;exact ptT))
      | false=>
       exact LeadsM.ends (aPA q_form q_n q_text q_parts cons  (aW q_n (-1000000000) 1000000000) hb1 hb4 hb7 hb10 hb11 (aY q_n (-1000000000) 1000000000) hb12) (hk _ (by clear hk;exact ptT))
     | false=>
      exact LeadsM.ends (aPB q_form q_n q_text q_parts cons   hb1 hb4 hb7 hb10 hb11) (hk _ (by clear hk;exact ptT))
    | false=>
     cases hb13: (q_form== (4:Int))with
     | true=>
      cases hb14: (((List.length q_parts:Nat) :Int) == (0:Int))with
      | true=>
       cases hb15: (aW q_n 0 1)with
       | true=>
        exact LeadsM.ends (aPC q_form q_n q_text q_parts cons  (aW q_n 0 1) hb1 hb4 hb7 hb10 hb13 hb14 (aY q_n 0 1) hb15) (hk _ (by clear hk;exact ptT))
       | false=>
        exact LeadsM.ends (aPD q_form q_n q_text q_parts cons  (aW q_n 0 1) hb1 hb4 hb7 hb10 hb13 hb14 (aY q_n 0 1) hb15) (hk _ (by clear hk;exact ptT))
      | false=>
       exact LeadsM.ends (aPE q_form q_n q_text q_parts cons   hb1 hb4 hb7 hb10 hb13 hb14) (hk _ (by clear hk;exact ptT))
     | false=>
      cases hb16: (q_form== (6:Int))with
      | true=>
       cases hb17: (aW q_n 0 (((List.length cons:Nat) :Int) - (1:Int)))with
       | true=>
        obtain⟨y1,hx18⟩ :∃y,((cons)[q_n.toNat]?) =some y:=idT;cases hb19: (((List.length q_parts:Nat) :Int) ==y1.args)with
        | true=>
         exact LeadsM.ends (aPF q_form q_n q_text q_parts cons  (aW q_n 0 (((List.length cons:Nat) :Int) - (1:Int))) y1 hb1 hb4 hb7 hb10 hb13 hb16 sdI (aY q_n 0 (((List.length cons:Nat) :Int) - (1:Int))) hb17 sdI hx18 hb19) (hk _ (by clear hk;exact ptT))
        | false=>
         exact LeadsM.ends (aPG q_form q_n q_text q_parts cons  (aW q_n 0 (((List.length cons:Nat) :Int) - (1:Int))) y1 hb1 hb4 hb7 hb10 hb13 hb16 sdI (aY q_n 0 (((List.length cons:Nat) :Int) - (1:Int))) hb17 sdI hx18 hb19) (hk _ (by clear hk;exact ptT))
       | false=>
        exact LeadsM.ends (aPH q_form q_n q_text q_parts cons  (aW q_n 0 (((List.length cons:Nat) :Int) - (1:Int))) hb1 hb4 hb7 hb10 hb13 hb16 sdI (aY q_n 0 (((List.length cons:Nat) :Int) - (1:Int))) hb17) (hk _ (by clear hk;exact ptT))
      | false=>
       exact LeadsM.ends (aPI q_form q_n q_text q_parts cons   hb1 hb4 hb7 hb10 hb13 hb16) (hk _ (by clear hk;exact ptT))
theorem aFO (f n:Int)(s:aE)(ps:List Pat)(cons:List Con)(hl:ps.length<1000000)(ih:∀p∈ps,Pure PP 126 [Pat.av p,.ilst 2 (List.map Con.av cons) false] (.bool (cT cons p))) :
  ∀ (t:List Pat) (i:Nat) (b:Bool),ps.drop i=t→Ends PP 0 (dR f n s ps cons b (i:Int)).as (.ret (.bool (b&&cB cons t))) (aG [] 0)
 | [],i,b,h=>by
  have:=bD h;exact Ends.eqv (aSy f n s ps cons b i sd) (by simp [cB])
 | .mk f' n' s' ps'::t,i,b,h=>by
  obtain⟨g1,g2,g3⟩ :=bB h;cases b with
  |false=>exact Ends.eqv (aSx f n s ps cons false i sd rfl) (by simp)
  | true=>
   refine(aSw f n s ps cons true i f' n' s' ps' _ sd rfl sd sd (ih (.mk f' n' s' ps') (List.mem_of_getElem? g1)) sd).ends ?_;exact Ends.eqv (aFO f n s ps cons hl ih t (i+1) _ g2) (by simp [cB])
mutual
theorem aFP (cons:List Con)(hc:cons.length≤1000) :∀ (p:Pat),aP p<1000000→Pure PP 126 [Pat.av p,.ilst 2 (List.map Con.av cons) false] (.bool (cT cons p))
 | .mk f n s ps,h=>by
  refine aM (by kernel_rfl) (by simp [AV.keylessL,fC,AV.keyless]) rfl ?_;simp only [aP]at h;have:=cL ps;refine bGu f n s ps cons hc _ (fun i hi=>?_);subst hi;rw [cT];exact aFO f n s ps cons (by omega) (aJj cons hc ps (by omega)) ps 0 _ rfl
theorem aJj (cons:List Con)(hc:cons.length≤1000) :∀ (ps:List Pat),aK ps<1000000→∀p∈ps,Pure PP 126 [Pat.av p,.ilst 2 (List.map Con.av cons) false] (.bool (cT cons p))
 | [],_,p,hp=>by cases hp
 | q::ps,h,p,hp=>by
  simp only [aK]at h;rcases List.mem_cons.1 hp with e|hp
  ·rw [e];exact aFP cons hc q (by omega)
  ·exact aJj cons hc ps (by omega) p hp
end
end Go.Hb
namespace Go.Hb
open Go.Proofs
noncomputable section
open Go.Proofs Tryz
def cA(a:Prog)(b:Node)(c:Bool)(d e:Int):TS:=⟨(tf 67 112 [kp 2 0,kp 3 1,(4,(bV false)),(5,(nI d)),(6,(bV c)),(7,(nI e))] [kc f67 1012,kl f67 1012,.inBlock 1,kc f67 127]),[],[oC 0 [(iN a.nodes),(iI a.funs),(nI a.main),(iC a.cons)],oC 1 [(nI b.op),(nI b.n),(iI b.kids),(iP b.pats)]],2⟩
def aAW(b:List Con)(c:Int)(a:List aE):TS:=⟨(tf 66 42 [(0,(iC b)),(2,(bV false)),(3,(.gl 0 1 0 a.length false)),(4,(nI c))] [kc f66 116,kl f66 116,.inBlock 0,kc f66 15]),[],[oL 0 1 (List.map aC a)],1⟩
def tW(a:Prog)(c:Int)(b:List Bool):TS:=⟨(tf 18 133 [kp 1 0,(2,(bV false)),(3,(nI (a.nodes.length:Int))),(4,(.gl 1 1 0 b.length true)),(5,(nI c))] [kc f18 500,kl f18 500,.inBlock 0,kc f18 63]),[],[oC 0 [(iN a.nodes),(iI a.funs),(nI a.main),(iC a.cons)],oL 1 1 (List.map hI b)],2⟩
def pM(a:Prog)(b:List Bool)(c:Int):TS:=⟨(tf 18 133 [kp 1 0,(2,(bV false)),(3,(nI (a.nodes.length:Int))),(4,(.gl 1 1 0 b.length true)),(6,(nI c))] [kc f18 1012,kl f18 1012,.inBlock 2,kc f18 127]),[],[oC 0 [(iN a.nodes),(iI a.funs),(nI a.main),(iC a.cons)],oL 1 1 (List.map hI b)],2⟩
def tX(a:Prog)(b:List Bool)(c d:Int):TS:=⟨(tf 18 133 [kp 1 0,(2,(bV false)),(3,(nI (a.nodes.length:Int))),(4,(.gl 1 1 0 b.length true)),(6,(nI d)),(7,(nI c))] [kc f18 129612,kl f18 129612,.inBlock 4,.inBlock 3,kc f18 4051,kl f18 1012,.inBlock 2,kc f18 127]),[],[oC 0 [(iN a.nodes),(iI a.funs),(nI a.main),(iC a.cons)],oL 1 1 (List.map hI b)],2⟩
def tY(b:Prog)(a:List Bool)(c:Int):TS:=⟨(tf 18 133 [(2,(bV false)),(3,(nI (b.nodes.length:Int))),(4,(.gl 0 1 0 a.length true)),(9,(nI c))] [kc f18 2036,kl f18 2036,.inBlock 6,kc f18 255]),[],[oL 0 1 (List.map hI a)],1⟩
def oD(b:Prog)(a:Node):=tT 0 (start PP 67 [(Prog.av b),(Node.av a)])<|.b 29 13 (a.op==1) (cP 4 65 [(nI a.n),(nI (-1000000000)),(nI 1000000000)]<|fun c=>.b 10 56 (a.op==15) (.b 4 58 c (gm 2 aF a.pats<|cP 0 65 [(nI (a.pats.length:Int)),(nI 1),(nI 5)]<|fun d=>.W 10 2 [0,1] (cA b a d 0 0))<|.W 14 2 [0,1] (cA b a false 0 0))<|.b 4 65 c (gm 2 aF a.pats<|.W 11 2 [0,1] (cA b a ((a.pats.length:Int) ==0) 0 0))<|.W 14 2 [0,1] (cA b a false 0 0))<|.b 6 18 (a.op==2) (cP 4 65 [(nI a.n),(nI 0),(nI 1)]<|fun c=>.b 10 56 (a.op==15) (.b 4 58 c (gm 2 aF a.pats<|cP 0 65 [(nI (a.pats.length:Int)),(nI 1),(nI 5)]<|fun d=>.W 10 2 [0,1] (cA b a d 0 0))<|.W 14 2 [0,1] (cA b a false 0 0))<|.b 4 65 c (gm 2 aF a.pats<|.W 11 2 [0,1] (cA b a ((a.pats.length:Int) ==0) 0 0))<|.W 14 2 [0,1] (cA b a false 0 0))<|.b 6 23 (a.op==4) (gl 6 dF b.funs<|gw 1 30 (0- (b.funs.length:Int))<|cP 0 65 [(nI a.n),(nI (0- (b.funs.length:Int))),(nI 29)]<|fun c=>.b 10 56 (a.op==15) (.b 4 58 c (gm 2 aF a.pats<|cP 0 65 [(nI (a.pats.length:Int)),(nI 1),(nI 5)]<|fun d=>.W 10 2 [0,1] (cA b a d 0 0))<|.W 14 2 [0,1] (cA b a false 0 0))<|.b 4 65 c (gm 2 aF a.pats<|.W 11 2 [0,1] (cA b a ((a.pats.length:Int) ==0) 0 0))<|.W 14 2 [0,1] (cA b a false 0 0))<|.b 6 32 (a.op==24) (cP 4 65 [(nI a.n),(nI 0),(nI 3)]<|fun c=>.b 10 56 (a.op==15) (.b 4 58 c (gm 2 aF a.pats<|cP 0 65 [(nI (a.pats.length:Int)),(nI 1),(nI 5)]<|fun d=>.W 10 2 [0,1] (cA b a d 0 0))<|.W 14 2 [0,1] (cA b a false 0 0))<|.b 4 65 c (gm 2 aF a.pats<|.W 11 2 [0,1] (cA b a ((a.pats.length:Int) ==0) 0 0))<|.W 14 2 [0,1] (cA b a false 0 0))<|.b 6 37 (a.op==14) (gl 7 Con.av b.cons<|gw 1 44 ((b.cons.length:Int) -1)<|cP 0 65 [(nI a.n),(nI 0),(nI ((b.cons.length:Int) -1))]<|fun c=>.b 6 46 c (gX Con.av 6 b.cons a.n<|fun d=>.b 12 56 (a.op==15) (.b 4 58 c (gm 2 aF a.pats<|cP 0 65 [(nI (a.pats.length:Int)),(nI 1),(nI 5)]<|fun e=>.W 10 2 [0,1] (cA b a e d.args 0)) .x)<|.b 4 65 c (gm 2 aF a.pats<|.W 11 2 [0,1] (cA b a ((a.pats.length:Int) ==0) d.args 0)) .x)<|.b 10 56 (a.op==15) (.b 4 58 c .x<|.W 14 2 [0,1] (cA b a false 0 0))<|.b 4 65 c .x<|.W 14 2 [0,1] (cA b a false 0 0))<|.b 10 56 (a.op==15) (.b 4 58 (a.n==0) (gm 2 aF a.pats<|cP 0 65 [(nI (a.pats.length:Int)),(nI 1),(nI 5)]<|fun c=>.W 10 2 [0,1] (cA b a c 0 0))<|.W 14 2 [0,1] (cA b a false 0 0))<|.b 4 65 (a.n==0) (gm 2 aF a.pats<|.W 11 2 [0,1] (cA b a ((a.pats.length:Int) ==0) 0 0))<|.W 14 2 [0,1] (cA b a false 0 0)
def aPT:=fun a b c d e f g i j=>oD a b|>.t e c f|>.t g|>.t i d j tv
def aPU:=fun a b c d e f g=>oD a b|>.t d c e|>.t f|>.f g tv
def aPV:=fun a b c d e f g=>oD a b|>.t d c e|>.f f|>.t g tv
def aPW:=fun a b c d e f g=>oD a b|>.t d c e|>.f f|>.f g tv
def aPX:=fun a b c d e f g i j k=>oD a b|>.f e|>.t f c g|>.t i|>.t j d k tv
def aPY:=fun a b c d e f g i=>oD a b|>.f d|>.t e c f|>.t g|>.f i tv
def aPZ:=fun a b c d e f g i=>oD a b|>.f d|>.t e c f|>.f g|>.t i tv
def aP0:=fun a b c d e f g i=>oD a b|>.f d|>.t e c f|>.f g|>.f i tv
def aP1:=fun a b c d e f g i j k l m=>oD a b|>.f e|>.f f|>.t g i c j|>.t k|>.t l d m tv
def aP2:=fun a b c d e f g i j k=>oD a b|>.f d|>.f e|>.t f g c i|>.t j|>.f k tv
def aMx:=fun a b c d e f g i j k=>oD a b|>.f d|>.f e|>.t f g c i|>.f j|>.t k tv
def aMy:=fun a b c d e f g i j k=>oD a b|>.f d|>.f e|>.t f g c i|>.f j|>.f k tv
def aMz:=fun a b c d e f g i j k l m=>oD a b|>.f e|>.f f|>.f g|>.t i c j|>.t k|>.t l d m tv
def aMA:=fun a b c d e f g i j k=>oD a b|>.f d|>.f e|>.f f|>.t g c i|>.t j|>.f k tv
def aMB:=fun a b c d e f g i j k=>oD a b|>.f d|>.f e|>.f f|>.t g c i|>.f j|>.t k tv
def aMC:=fun a b c d e f g i j k=>oD a b|>.f d|>.f e|>.f f|>.t g c i|>.f j|>.f k tv
def aMD:=fun b c d e f g i j k l m n a o p q r=>oD b c|>.f g|>.f i|>.f j|>.f k|>.t l m d n|>.t a e o p|>.t q|>.t a f r tv
def aME:=fun b c d e f g i j k l m a n o p=>oD b c|>.f f|>.f g|>.f i|>.f j|>.t k l d m|>.t a e n o|>.f p|>.t a tv
def aMF:=fun b c d e f g i j k l a m=>oD b c|>.f e|>.f f|>.f g|>.f i|>.t j k d l|>.f a|>.t m|>.f a tv
def aMG:=fun b c d e f g i j k l a m=>oD b c|>.f e|>.f f|>.f g|>.f i|>.t j k d l|>.f a|>.f m|>.f a tv
def aMH:=fun a b c d e f g i j k l=>oD a b|>.f d|>.f e|>.f f|>.f g|>.f i|>.t j|>.t k c l tv
def aMI:=fun a b c d e f g i j=>oD a b|>.f c|>.f d|>.f e|>.f f|>.f g|>.t i|>.f j tv
def aMJ:=fun a b c d e f g i j=>oD a b|>.f c|>.f d|>.f e|>.f f|>.f g|>.f i|>.t j tv
def aMK:=fun a b c d e f g i j=>oD a b|>.f c|>.f d|>.f e|>.f f|>.f g|>.f i|>.f j tv
def aSz(j:Prog)(a:Node)(i:Bool)(k b:Int):=tT 0 (cA j a i k b)<|gm 6 aF a.pats<|gd 2 76 (b< (a.pats.length:Int)) (.b 3 78 i (.o (.y fun c:Int=>.y fun d:Int=>.y fun e:aE=>.y fun f:List Pat=>.y fun g:Int=>.y fun l:Bool=>.i [rn 4,.reg (rd 3 (.ans (.idx (Pat.av (Pat.mk c d e f)))::.d::.pure (nI g)::.d::.d::.b 88 true::rd 3 (.ans (.idx (Pat.av (Pat.mk c d e f)))::rd 3 [.pure (bV l),.d,.d])))] [hA (0≤b),.a (((a.pats)[b.toNat]?) =some (Pat.mk c d e f)) (dY aF),hA (Pure PP 124 [(.agg [(nI c),(nI d),(aC e),(iP f)]),(nI 12)] (nI g)),hA (decide (g≥0) =true),hA (0≤b),.a (((a.pats)[b.toNat]?) =some (Pat.mk c d e f)) (dY aF),hA (Pure PP 126 [(.agg [(nI c),(nI d),(aC e),(iP f)]),(iC j.cons)] (bV l))]<|gw 4 80 (b+1)<|.W 3 2 [0,1] (cA j a l k (b+1)))<|.y fun c:Int=>.y fun d:Int=>.y fun e:aE=>.y fun f:List Pat=>.y fun g:Int=>.i [rn 4,.reg (rd 3 (.ans (.idx (Pat.av (Pat.mk c d e f)))::.d::.pure (nI g)::.d::.d::.b 88 false::rd 10 []))] [hA (0≤b),.a (((a.pats)[b.toNat]?) =some (Pat.mk c d e f)) (dY aF),hA (Pure PP 124 [(.agg [(nI c),(nI d),(aC e),(iP f)]),(nI 12)] (nI g)),hA (decide (g≥0) =false)]<|gw 4 80 (b+1)<|.W 3 2 [0,1] (cA j a false k (b+1)))<|.i [rn 3,.reg (.d::.d::.b 99 false::rd 13 [])] [hA (i=false)]<|gE 1 2 (bV false))<|.o (.y fun m:Int=>.i [rn 6,.reg (.d::.d::.b 99 true::.d::.d::.ans (.len (a.kids.length:Int))::rd 4 (.ans (.len (a.pats.length:Int))::.d::.pure (nI m)::rd 3 []))] [hA (i=true),hl dF a.kids,hm aF a.pats,hA (Pure PP 127 [(nI a.op),(nI (a.pats.length:Int)),(nI k)] (nI m)),.q (p:=(nI ((jI a.kids).length:Int)) = (nI (a.kids.length:Int))) (congrArg (AV.int .i64) (aI2 _ _)),.q (p:=(nI ((jI a.kids).length:Int)) = (nI (a.kids.length:Int))) (congrArg (AV.int .i64) (aI2 _ _)),hr (AV.ilst 1 (jI a.kids) false),hr (AV.ilst 1 (jI a.kids) false)]<|gE 1 2 (bV ((a.kids.length:Int) ==m)))<|.i [rn 6,.reg (.d::.d::.b 99 false::rd 13 [])] [hA (i=false)]<|gE 1 2 (bV false)
def aP3:=fun c d e f g i j k l m n o p a b q r s t=>aSz c d e f g|>.t o|>.t p|>.1 i j k l m n a b q r a b s t tv
def aP4:=fun a b c d e f g i j k l m n o p q r=>aSz a b c d e|>.t l|>.t m|>.2 f g i j k n o p q r tv
def aP5:=fun b c d e f g a=>aSz b c d e f|>.t g|>.f a a tv
def aP6:=fun a b c d e f g i j=>aSz a b c d e|>.f g|>.1 f i j tv
def aP7:=fun a b c d e f g=>aSz a b c d e|>.f f|>.2 g tv
def aP8 (a:List Con):=(tT 0 (start PP 66 [(iC a)])<|.i [rn 15,.nilL 3 1] []<|gu 0 0 (List.map aC ([] :List aE))<|gs 0 3 (.gl 0 1 0 ([] :List aE).length false)<|.W 0 1 [0] (aAW a 0 ([] :List aE))) ⟨kk,trivial⟩
def aSA(a:List Con)(c:Int)(d:List aE):=tT 0 (aAW a c d)<|gl 5 Con.av a<|gd 2 8 (c< (a.length:Int)) (gX Con.av 9 a c<|fun b=>cP 2 120 [(aC b.name)]<|fun e=>.b 2 18 (!e) (gE 15 1 (bV false))<|gi Con.av 2 a c b<|cP 2 65 [(nI b.args),(nI 0),(nI 3)]<|fun f=>.b 3 26 (!f) (gE 6 1 (bV false))<|gi Con.av 6 a c b<|ga 3 aC d [b.name]<|gw 6 10 (c+1)<|.W 3 3 [2] (aAW a (c+1) (d++ [b.name])))<|gl 5 Con.av a<|gd 2 38 ((a.length:Int) ≤20) (gz 1 39 0 1 aC d false<|cP 0 49 [(iS d)]<|fun b=>gE 4 1 (bV b))<|gE 6 1 (bV false)
def aP9:=fun a b c d e f g i j k=>aSA a b c|>.t f d g i e j|>.t k tv
def aQa:=fun c d e f g i j a b k l m n=>aSA c d e|>.t j f a b g k|>.f l a b i m|>.t n tv
def aQb:=fun c d e f g i j a b k l m n o p=>aSA c d e|>.t j f a b g k|>.f l a b i m|>.f n a b o p ⟨kk,trivial⟩
def aQc:=fun a b c d e f g=>aSA a b c|>.f e|>.t f d g tv
def aQd:=fun a b c d e=>aSA a b c|>.f d|>.f e tv
def aSB(a:Prog):=tT 0 (start PP 18 [(Prog.av a)])<|gl 9 Node.av a.nodes<|gd 8 15 ((a.nodes.length:Int) >300) (gE 30 1 (bV false))<|gl 2 dF a.funs<|cP 1 65 [(nI (a.funs.length:Int)),(nI 1),(nI (a.nodes.length:Int))]<|fun b=>.b 3 23 (!b) (gE 22 1 (bV false))<|gl 4 dF a.funs<|gw 1 29 ((a.funs.length:Int) -1)<|cP 0 65 [(nI a.main),(nI 0),(nI ((a.funs.length:Int) -1))]<|fun c=>.b 3 33 (!c) (gE 12 1 (bV false))<|cP 2 66 [(iC a.cons)]<|fun d=>.b 3 38 (!d) (gE 6 1 (bV false))<|.i [rn 5,.mk a.nodes.length] [hr (a.nodes.length:Int),hr (a.nodes.length:Int),hA (a.nodes.length<100000)]<|.i [.lset 1 (List.map hI (List.replicate a.nodes.length false))] [.q (p:=List.replicate a.nodes.length (hI false) = (List.map hI (List.replicate a.nodes.length false))) (aHh _ _ _)]<|.i [.set 40 (.gl 1 1 0 (List.replicate a.nodes.length false).length true)] [.q (p:=(AV.gl 1 1 0 a.nodes.length true) = (.gl 1 1 0 (List.replicate a.nodes.length false).length true)) (cG (List.length_replicate ..).symm)]<|.W 9 2 [0,1] (tW a 0 (List.replicate a.nodes.length false))
def aJk:=fun a b=>aSB a|>.t b tv
def aJl:=fun a b c d e=>aSB a|>.f c b d|>.t e tv
def aJm:=fun a b c d e f g i j=>aSB a|>.f d b e|>.f f g c i|>.t j tv
def aJn:=fun a b c d e f g i j k l m=>aSB a|>.f e b f|>.f g i c j|>.f k d l|>.t m tv
def aJo:=fun a b c d e f g i j k l m n=>aSB a|>.f e b f|>.f g i c j|>.f k d l|>.f m n ⟨kk,trivial⟩
def aYp(c:Prog)(d:Int)(a:List Bool):=tT 0 (tW c d a)<|gl 6 dF c.funs<|gd 2 45 (d< (c.funs.length:Int)) (gX dF 10 c.funs d<|fun b=>gw 3 54 ((c.nodes.length:Int) -1)<|cP 0 65 [(nI b),(nI 0),(nI ((c.nodes.length:Int) -1))]<|fun f=>.b 2 57 (!f) (gE 16 2 (bV false))<|gi dF 4 c.funs d b<|.i [rn 1,.ans (.ix)] [hA (0≤b),hA (b< (a.length:Int))]<|.y fun e:Bool=>gj hI 0 a b.toNat e<|.b 2 66 e (gE 6 2 (bV false))<|gi dF 7 c.funs d b<|.i [rn 1,.ans (.ix)] [hA (0≤b),hA (b< (a.length:Int))]<|.i [.st (hI e) (hI true)] [.a (((a)[b.toNat]?) =some e) (iT (f:=hI)),hr (some (hI true))]<|.i [.lset 1 (List.map hI (List.set a b.toNat true))] [.q (p:=(List.map hI a).set (0+b.toNat) (hI true) = (List.map hI (List.set a b.toNat true))) (pI _ _ _ _)]<|.i [.set 4 (.gl 1 1 0 (List.set a b.toNat true).length true)] [.q (p:=(AV.gl 1 1 0 a.length true) = (.gl 1 1 0 (List.set a b.toNat true).length true)) (cG (List.length_set ..).symm)]<|.i [.set 58 (.gl 1 1 0 (List.set a b.toNat true).length true)] [.q (p:=(AV.gl 1 1 0 a.length true) = (.gl 1 1 0 (List.set a b.toNat true).length true)) (cG (List.length_set ..).symm)]<|.i [.set 67 (.gl 1 1 0 (List.set a b.toNat true).length true)] [.q (p:=(AV.gl 1 1 0 a.length true) = (.gl 1 1 0 (List.set a b.toNat true).length true)) (cG (List.length_set ..).symm)]<|gw 5 47 (d+1)<|.W 3 2 [0,1] (tW c (d+1) (List.set a b.toNat true)))<|.W 9 2 [0,1] (pM c a 0)
def aJp:=fun a b c d e f g i j k l=>aYp a b c|>.t f d g i j e k|>.t l tv
def aJq:=fun c d e f g i j a b k l m n o p q=>aYp c d e|>.t j f a b k g l|>.f m a b n o i p|>.t q tv
def aJr:=fun f g i j k l m a b n o p c d e q r=>aYp f g i|>.t m j a b n k o|>.f p a b c d l e|>.f q a b c d e r ⟨kk,trivial⟩
def aJs:=fun a b c d=>aYp a b c|>.f d ⟨kk,trivial⟩
def bGv(a:Prog)(c:List Bool)(b:Int):=tT 0 (pM a c b)<|gd 7 76 (b< (a.nodes.length:Int)) (.y fun d:Node=>.y fun e:Bool=>.i [rn 6,.reg (rd 4 [.ans (.idx (Node.av d)),.d,.pure (bV e),.d])] [hA (0≤b),.a (((a.nodes)[b.toNat]?) =some d) (cN (f:=Node.av)),hA (Pure PP 67 [(Prog.av a),(Node.av d)] (bV e))]<|.b 0 86 (!e) (gE 6 2 (bV false))<|.W 8 2 [0,1] (tX a c 0 b))<|.W 9 2 [1] (tY a c 0)
def aJt:=fun a b c d e f g i j k=>bGv a b c|>.t f d e g i j|>.t k tv
def aJu:=fun a b c d e f g i j k=>bGv a b c|>.t f d e g i j|>.f k ⟨kk,trivial⟩
def aJv:=fun a b c d=>bGv a b c|>.f d ⟨kk,trivial⟩
def aYq(d:Prog)(a:List Bool)(e c:Int):=tT 0 (tX d a e c)<|gX Node.av 7 d.nodes c<|fun f=>gl 2 dF f.kids<|gd 2 95 (e< (f.kids.length:Int)) (gi Node.av 9 d.nodes c f<|gX dF 3 f.kids e<|fun b=>gw 9 109 (c+1)<|gw 2 111 ((d.nodes.length:Int) -1)<|cP 0 65 [(nI b),(nI (c+1)),(nI ((d.nodes.length:Int) -1))]<|fun i=>.b 2 114 (!i) (gE 12 2 (bV false))<|.i [rn 2,.ans (.ix)] [hA (0≤b),hA (b< (a.length:Int))]<|.y fun g:Bool=>gj hI 0 a b.toNat g<|.b 2 119 g (gE 6 2 (bV false))<|.i [rn 5,.ans (.ix)] [hA (0≤b),hA (b< (a.length:Int))]<|.i [.st (hI g) (hI true)] [.a (((a)[b.toNat]?) =some g) (iT (f:=hI)),hr (some (hI true))]<|.i [.lset 1 (List.map hI (List.set a b.toNat true))] [.q (p:=(List.map hI a).set (0+b.toNat) (hI true) = (List.map hI (List.set a b.toNat true))) (pI _ _ _ _)]<|.i [.set 4 (.gl 1 1 0 (List.set a b.toNat true).length true)] [.q (p:=(AV.gl 1 1 0 a.length true) = (.gl 1 1 0 (List.set a b.toNat true).length true)) (cG (List.length_set ..).symm)]<|.i [.set 115 (.gl 1 1 0 (List.set a b.toNat true).length true)] [.q (p:=(AV.gl 1 1 0 a.length true) = (.gl 1 1 0 (List.set a b.toNat true).length true)) (cG (List.length_set ..).symm)]<|.i [.set 120 (.gl 1 1 0 (List.set a b.toNat true).length true)] [.q (p:=(AV.gl 1 1 0 a.length true) = (.gl 1 1 0 (List.set a b.toNat true).length true)) (cG (List.length_set ..).symm)]<|gw 5 97 (e+1)<|.W 3 2 [0,1] (tX d (List.set a b.toNat true) (e+1) c))<|gw 6 78 (c+1)<|.W 3 2 [0,1] (pM d a (c+1))
def aJw:=fun c d e f g i j a b k l m n o p q=>aYq c d e f g a b|>.t k a b i l m n o j p|>.t q tv
def aJx:=fun c d e f g i j k a b l m n o p q r s t u v=>aYq c d e f g a b|>.t l a b i m n o p j q|>.f r s t k u|>.t v tv
def aJy:=fun f g i j k l m n a b o p q r s t u c d e v w=>aYq f g i j k a b|>.t o a b l p q r s m t|>.f u c d n e|>.f v c d e w ⟨kk,trivial⟩
def aJz:=fun a b c d e f g i j=>aYq a b c d e f g|>.f i j ⟨kk,trivial⟩
def bGw(c:Prog)(b:List Bool)(a:Int):=tT 0 (tY c b a)<|gd 7 125 (a< (c.nodes.length:Int)) (.i [rn 8,.ans (.ix)] [hA (0≤a),hA (a< (b.length:Int))]<|.y fun d:Bool=>gj hI 0 b a.toNat d<|.b 2 132 (!d) (gE 6 1 (bV false))<|gw 6 127 (a+1)<|.W 3 1 [0] (tY c b (a+1)))<|gE 7 1 (bV true)
def aJA:=fun a b c d e f g i j=>bGw a b c|>.t e f g d i|>.t j tv
def aJB:=fun a b c d e f g i j k=>bGw a b c|>.t e f g d i|>.f j k ⟨kk,trivial⟩
def aJC:=fun a b c d=>bGw a b c|>.f d tv
end
end Go.Hb
namespace Go.Hb
open Go.Proofs
def gI (c:Con) :Bool:=cH c.name&&aW c.args 0 3
def bH (l:List Con) :List aE:=l.map Con.name
def zK (l:List Con) :Bool:=l.all gI&&decide (l.length≤20) &&jW (bH l)
def eG (p:Prog)(op n:Int) :Bool:=
 if op=1 then aW n (-1000000000) 1000000000
 else if op=2 then aW n 0 1
 else if op=4 then aW n (0- (p.funs.length:Int)) 29
 else if op=24 then aW n 0 3
 else if op=14 then aW n 0 ((p.cons.length:Int) -1)
 else decide (n=0)
def mX (p:Prog)(x:Node) :Bool:=
 eG p x.op x.n&& (if x.op=15 then aW (x.pats.length:Int) 1 5 else decide (x.pats.length=0))
def lC (p:Prog)(x:Node) :Int:=if x.op=14∧aW x.n 0 ((p.cons.length:Int) -1) =true then eU p.cons x.n else 0
def jK (cons:List Con)(q:Pat) :Bool:=decide (aP q≤12) &&cT cons q
def cO (p:Prog)(x:Node) :Bool:=
 mX p x&&x.pats.all (jK p.cons) &&decide ((x.kids.length:Int) =dH x.op x.pats.length (lC p x))
theorem gJ {α:Type}(l:List α) : ((l.length:Int) ==0) =decide (l= []) :=by cases l<;>simp;omega
theorem oQ {p:Prop}(h:p:=by simp_all [mX,eG,lC,eU,gJ]) :p:=h
set_option maxHeartbeats 2000000
theorem aYr (p:Prog)(x:Node)(hc:p.cons.length≤1000)(hf:p.funs.length≤1000)(b:Bool)(hk:∀ (i:Bool) (a:Int),i=mX p x→a=lC p x→Ends PP 0 (cA p x i a 0).as (.ret (.bool b)) (aG [] 0)) :
  Ends PP 0 (start PP 67 [Prog.av p,Node.av x]).as (.ret (.bool b)) (aG [] 0) :=by
 cases hb1: (x.op== (1:Int))with
 | true=>
  cases hb2: (x.op== (15:Int))with
  | true=>
   cases hb3: (aW (x.n) (-1000000000) 1000000000)with
   | true=>
    exact LeadsM.ends (aPT p x  (aW (x.n) (-1000000000) 1000000000) (aW ((List.length x.pats:Nat) :Int) 1 5) hb1 (aY (x.n) (-1000000000) 1000000000) hb2 hb3 (aY ((List.length x.pats:Nat) :Int) 1 5)) (hk _ _ (by clear hk;exact oQ) (by clear hk;exact oQ))
   | false=>
    exact LeadsM.ends (aPU p x  (aW (x.n) (-1000000000) 1000000000) hb1 (aY (x.n) (-1000000000) 1000000000) hb2 hb3) (hk _ _ (by clear hk;exact oQ) (by clear hk;exact oQ))
  | false=>
   cases hb4: (aW (x.n) (-1000000000) 1000000000)with
   | true=>
    exact LeadsM.ends (aPV p x  (aW (x.n) (-1000000000) 1000000000) hb1 (aY (x.n) (-1000000000) 1000000000) hb2 hb4) (hk _ _ (by clear hk;exact oQ) (by clear hk;exact oQ))
   | false=>
    exact LeadsM.ends (aPW p x  (aW (x.n) (-1000000000) 1000000000) hb1 (aY (x.n) (-1000000000) 1000000000) hb2 hb4) (hk _ _ (by clear hk;exact oQ) (by clear hk;exact oQ))
 | false =>
  cases hb5: (x.op== (2:Int))with
  | true=>
   cases hb6: (x.op== (15:Int))with
   | true=>
    cases hb7: (aW (x.n) 0 1)with
    | true=>
     exact LeadsM.ends (aPX p x  (aW (x.n) 0 1) (aW ((List.length x.pats:Nat) :Int) 1 5) hb1 hb5 (aY (x.n) 0 1) hb6 hb7 (aY ((List.length x.pats:Nat) :Int) 1 5)) (hk _ _ (by clear hk;exact oQ) (by clear hk;exact oQ))
    | false=>
     exact LeadsM.ends (aPY p x  (aW (x.n) 0 1) hb1 hb5 (aY (x.n) 0 1) hb6 hb7) (hk _ _ (by clear hk;exact oQ) (by clear hk;exact oQ))
   | false=>
    cases hb8: (aW (x.n) 0 1)with
    | true=>
     exact LeadsM.ends (aPZ p x  (aW (x.n) 0 1) hb1 hb5 (aY (x.n) 0 1) hb6 hb8) (hk _ _ (by clear hk;exact oQ) (by clear hk;exact oQ))
    | false=>
     exact LeadsM.ends (aP0 p x  (aW (x.n) 0 1) hb1 hb5 (aY (x.n) 0 1) hb6 hb8) (hk _ _ (by clear hk;exact oQ) (by clear hk;exact oQ))
  | false=>
   cases hb9: (x.op== (4:Int))with
   | true=>
    cases hb10: (x.op== (15:Int))with
    | true=>
     cases hb11: (aW (x.n) (0- ((List.length p.funs:Nat) :Int)) 29)with
     | true=>
      exact LeadsM.ends (aP1 p x  (aW (x.n) (0- ((List.length p.funs:Nat) :Int)) 29) (aW ((List.length x.pats:Nat) :Int) 1 5) hb1 hb5 hb9 sdI (aY (x.n) (0- ((List.length p.funs:Nat) :Int)) 29) hb10 hb11 (aY ((List.length x.pats:Nat) :Int) 1 5)) (hk _ _ (by clear hk;exact oQ) (by clear hk;exact oQ))
     | false=>
      exact LeadsM.ends (aP2 p x  (aW (x.n) (0- ((List.length p.funs:Nat) :Int)) 29) hb1 hb5 hb9 sdI (aY (x.n) (0- ((List.length p.funs:Nat) :Int)) 29) hb10 hb11) (hk _ _ (by clear hk;exact oQ) (by clear hk;exact oQ))
    | false=>
     cases hb12: (aW (x.n) (0- ((List.length p.funs:Nat) :Int)) 29)with
     | true=>
      exact LeadsM.ends (aMx p x  (aW (x.n) (0- ((List.length p.funs:Nat) :Int)) 29) hb1 hb5 hb9 sdI (aY (x.n) (0- ((List.length p.funs:Nat) :Int)) 29) hb10 hb12) (hk _ _ (by clear hk;exact oQ) (by clear hk;exact oQ))
     | false=>
      exact LeadsM.ends (aMy p x  (aW (x.n) (0- ((List.length p.funs:Nat) :Int)) 29) hb1 hb5 hb9 sdI (aY (x.n) (0- ((List.length p.funs:Nat) :Int)) 29) hb10 hb12) (hk _ _ (by clear hk;exact oQ) (by clear hk;exact oQ))
   | false=>
    cases hb13: (x.op== (24:Int))with
    | true=>
     cases hb14: (x.op== (15:Int))with
     | true=>
      cases hb15: (aW (x.n) 0 3)with
      | true=>
       exact LeadsM.ends (aMz p x  (aW (x.n) 0 3) (aW ((List.length x.pats:Nat) :Int) 1 5) hb1 hb5 hb9 hb13 (aY (x.n) 0 3) hb14 hb15 (aY ((List.length x.pats:Nat) :Int) 1 5)) (hk _ _ (by clear hk;exact oQ) (by clear hk;exact oQ))
      | false=>
       exact LeadsM.ends (aMA p x  (aW (x.n) 0 3) hb1 hb5 hb9 hb13 (aY (x.n) 0 3) hb14 hb15) (hk _ _ (by clear hk;exact oQ) (by clear hk;exact oQ))
     | false=>
      cases hb16: (aW (x.n) 0 3)with
      | true=>
       exact LeadsM.ends (aMB p x  (aW (x.n) 0 3) hb1 hb5 hb9 hb13 (aY (x.n) 0 3) hb14 hb16) (hk _ _ (by clear hk;exact oQ) (by clear hk;exact oQ))
      | false=>
       exact LeadsM.ends (aMC p x  (aW (x.n) 0 3) hb1 hb5 hb9 hb13 (aY (x.n) 0 3) hb14 hb16) (hk _ _ (by clear hk;exact oQ) (by clear hk;exact oQ))
    | false=>
     cases hb17: (x.op== (14:Int))with
     | true=>
      cases hb18: (aW (x.n) 0 (((List.length p.cons:Nat) :Int) - (1:Int)))with
      | true=>
       obtain⟨y1,hx19⟩ :∃y,((p.cons)[x.n.toNat]?) =some y:=idT;cases hb20: (x.op== (15:Int))with
       | true=>
        exact LeadsM.ends (aMD p x  (aW (x.n) 0 (((List.length p.cons:Nat) :Int) - (1:Int))) y1 (aW ((List.length x.pats:Nat) :Int) 1 5) hb1 hb5 hb9 hb13 hb17 sdI (aY (x.n) 0 (((List.length p.cons:Nat) :Int) - (1:Int))) hb18 sdI hx19 hb20 (aY ((List.length x.pats:Nat) :Int) 1 5)) (hk _ _ (by clear hk;exact oQ) (by clear hk;exact oQ))
       | false=>
        exact LeadsM.ends (aME p x  (aW (x.n) 0 (((List.length p.cons:Nat) :Int) - (1:Int))) y1 hb1 hb5 hb9 hb13 hb17 sdI (aY (x.n) 0 (((List.length p.cons:Nat) :Int) - (1:Int))) hb18 sdI hx19 hb20) (hk _ _ (by clear hk;exact oQ) (by clear hk;exact oQ))
      | false=>
       cases hb21: (x.op== (15:Int))with
       | true=>
        exact LeadsM.ends (aMF p x  (aW (x.n) 0 (((List.length p.cons:Nat) :Int) - (1:Int))) hb1 hb5 hb9 hb13 hb17 sdI (aY (x.n) 0 (((List.length p.cons:Nat) :Int) - (1:Int))) hb18 hb21) (hk _ _ (by clear hk;exact oQ) (by clear hk;exact oQ))
       | false=>
        exact LeadsM.ends (aMG p x  (aW (x.n) 0 (((List.length p.cons:Nat) :Int) - (1:Int))) hb1 hb5 hb9 hb13 hb17 sdI (aY (x.n) 0 (((List.length p.cons:Nat) :Int) - (1:Int))) hb18 hb21) (hk _ _ (by clear hk;exact oQ) (by clear hk;exact oQ))
     | false=>
      cases hb22: (x.op== (15:Int))with
      | true=>
       cases hb23: (x.n== (0:Int))with
       | true=>
        exact LeadsM.ends (aMH p x  (aW ((List.length x.pats:Nat) :Int) 1 5) hb1 hb5 hb9 hb13 hb17 hb22 hb23 (aY ((List.length x.pats:Nat) :Int) 1 5)) (hk _ _ (by clear hk;exact oQ) (by clear hk;exact oQ))
       | false=>
        exact LeadsM.ends (aMI p x   hb1 hb5 hb9 hb13 hb17 hb22 hb23) (hk _ _ (by clear hk;exact oQ) (by clear hk;exact oQ))
      | false=>
       cases hb24: (x.n== (0:Int))with
       | true=>
        exact LeadsM.ends (aMJ p x   hb1 hb5 hb9 hb13 hb17 hb22 hb24) (hk _ _ (by clear hk;exact oQ) (by clear hk;exact oQ))
       | false=>
        exact LeadsM.ends (aMK p x   hb1 hb5 hb9 hb13 hb17 hb22 hb24) (hk _ _ (by clear hk;exact oQ) (by clear hk;exact oQ))
theorem zL (p:Prog)(x:Node)(hc:p.cons.length≤1000)(hl:x.pats.length≤10)(a:Int) :
  ∀ (t:List Pat) (i:Nat) (b:Bool),x.pats.drop i=t→Ends PP 0 (cA p x b a (i:Int)).as (.ret (.bool (b&&t.all (jK p.cons) &&decide ((x.kids.length:Int) =dH x.op x.pats.length a)))) (aG [] 0)
 | [],i,b,h=>by
  have:=bD h;cases b with
  |false=>exact Ends.eqv (aP7 p x false a i sd rfl) (by simp)
  | true=>
   refine Ends.eqv (aP6 p x true a i _ sd rfl (aMw x.op x.pats.length a (by omega) (by omega))) ?_;simp only [List.all_nil,Bool.true_and,AV.bool.injEq];rfl
 | .mk f' n' s' ps'::t,i,b,h=>by
  obtain⟨g1,g2,g3⟩ :=bB h;cases b with
  |false=>exact Ends.eqv (aP5 p x false a i sd rfl) (by simp)
  | true=>
   have hw:=qP (.mk f' n' s' ps') 12 (by omega) (by omega);by_cases k:aP (.mk f' n' s' ps') ≤12
   · have hg:0≤lA (.mk f' n' s' ps') 12:= (sD (.mk f' n' s' ps') 12).2 (by omega);refine(aP3 p x true a i f' n' s' ps' _ _ sd rfl sd sd hw (decide_eq_true hg) (aFP p.cons hc (.mk f' n' s' ps') (by omega)) sd).ends ?_;exact Ends.eqv (zL p x hc hl a t (i+1) _ g2) (by simp [jK,k])
   · have hg:¬lA (.mk f' n' s' ps') 12≥0:=fun g=>k (by have:= (sD (.mk f' n' s' ps') 12).1 g;omega);refine(aP4 p x true a i f' n' s' ps' _ sd rfl sd sd hw (decide_eq_false hg) sd).ends ?_;exact Ends.eqv (zL p x hc hl a t (i+1) _ g2) (by simp [jK,k])
theorem aML (p:Prog)(x:Node)(hc:p.cons.length≤1000)(hf:p.funs.length≤1000)(hl:x.pats.length≤10) :Pure PP 67 [Prog.av p,Node.av x] (.bool (cO p x)) :=by
 refine aM (by kernel_rfl) rfl rfl (aYr p x hc hf _ fun i a hi ha=>?_);subst hi ha;exact zL p x hc hl _ x.pats 0 _ rfl
theorem aDZ (l:List Con)(hl:l.length≤1000) :∀ (t:List Con) (i:Nat),l.drop i=t→Ends PP 0 (aAW l (i:Int) (bH (l.take i))).as (.ret (.bool (t.all gI&&decide (l.length≤20) &&jW (bH l)))) (aG [] 0)
 | [],i,h=>by
  have hi:=bD h;have e:bH (l.take i) =bH l:=by rw [List.take_of_length_le hi]
  rw [e];by_cases k:l.length≤20
  ·exact Ends.eqv (aQc l i _ _ sd sd (aAU (bH l) (by simp [bH];omega))) (by simp [k])
  ·exact Ends.eqv (aQd l i _ sd sd) (by simp [k])
 | c ::t,i,h=>by
  obtain⟨g1,g2,g3⟩ :=bB h;have hg:=qO c.name;cases k1:cH c.name with
  | false=>
   rw [k1]at hg;exact Ends.eqv (aP9 l i _ c false sd sd sd hg rfl) (by simp [gI,k1])
  | true=>
   rw [k1]at hg;have hi:=aY c.args 0 3;cases k2:aW c.args 0 3 with
   | false=>
    rw [k2]at hi;exact Ends.eqv (aQa l i _ c true false sd sd sd hg rfl hi rfl) (by simp [gI,k1,k2])
   | true=>
    rw [k2]at hi;have e:bH (l.take i) ++ [c.name] =bH (l.take (i+1)) :=by
     rw [List.take_add_one,g1];simp [bH]
    refine(aQb l i (bH (l.take i)) c true true sd sd sd hg rfl hi rfl (by simp [bH];omega) sd).ends ?_;rw [e];exact Ends.eqv (aDZ l hl t (i+1) g2) (by simp [gI,k1,k2])
theorem aMM (l:List Con)(hl:l.length≤1000) :Pure PP 66 [.ilst 2 (List.map Con.av l) false] (.bool (zK l)) :=
 aM (by kernel_rfl) rfl rfl ((aP8 l).ends (aDZ l hl l 0 rfl))
def marks (lo n:Int) :List Int→List Bool→Option (List Bool)
 | [],u=>some u
 |k::ks,u=>if aW k lo (n-1) =true∧u[k.toNat]?=some false then marks lo n ks (u.set k.toNat true)else none
theorem lW {lo n:Int}:∀ {ks:List Int} {u v:List Bool},marks lo n ks u=some v→v.length=u.length
 | [],u,v,h=>by simp only [marks,Option.some.injEq]at h;rw [h]
 | k::ks,u,v,h=>by
  simp only [marks]at h;split at h
  ·have:=lW h;simpa using this
  ·cases h
def cI (p:Prog) :Nat→List Node→List Bool→Option (List Bool)
 |_,[],u=>some u
 | i,x::t,u=>if cO p x=true then match marks ((i:Int) +1) (p.nodes.length:Int) x.kids u with
   |some v=>cI p (i+1) t v
   |none=>none
  else none
def allT :Option (List Bool) →Bool
 |some u=>u.all fun b=>b
 |none=>false
def eM (p:Prog) :Bool:=decide (p.nodes.length≤300) &&aW (p.funs.length:Int) 1 (p.nodes.length:Int) &&aW p.main 0 ((p.funs.length:Int) -1)
def bC (p:Prog) :Bool:=
 eM p&&zK p.cons&& (match marks 0 (p.nodes.length:Int) p.funs (List.replicate p.nodes.length false)with
  |some u=>allT (cI p 0 p.nodes u)
  |none=>false)
theorem rF3 (p:Prog)(u:List Bool)(hn:p.nodes.length≤1000)(hu:u.length=p.nodes.length) :∀ (t:List Bool) (i:Nat),u.drop i=t→Ends PP 0 (tY p u (i:Int)).as (.ret (.bool (t.all fun b=>b))) (aG [] 0)
 | [],i,h=>by
  have:=bD h;exact aJC p u i sd
 | b::t,i,h=>by
  obtain⟨g1,g2,g3⟩ :=bB h;cases b with
  |false=>exact Ends.eqv (aJA p u i false sd sd sd sd rfl) (by simp)
  | true=>
   refine(aJB p u i true sd sd sd sd rfl sd).ends ?_;exact Ends.eqv (rF3 p u hn hu t (i+1) g2) (by simp)
theorem bHP (p:Prog)(x:Node)(i:Nat)(hx:p.nodes[i]?=some x)(hn:p.nodes.length≤1000)(hk:x.kids.length≤1000)(K:List Bool→Bool)
  (hb:∀v:List Bool,v.length=p.nodes.length→Ends PP 0 (pM p v ((i:Int) +1)).as (.ret (.bool (K v))) (aG [] 0)) :
  ∀ (t:List Int) (k:Nat) (u:List Bool),u.length=p.nodes.length→x.kids.drop k=t→Ends PP 0 (tX p u (k:Int) (i:Int)).as (.ret (.bool (match marks ((i:Int) +1) p.nodes.length t u with|some v=>K v|none=>false))) (aG [] 0)
 | [],k,u,hu,h=>by
  have:=bD h;have hi:= (List.getElem?_eq_some_iff.1 hx).1;refine(aJz p u k i x sd sd sd sd).ends ?_;exact hb u hu
 | y ::t,k,u,hu,h=>by
  obtain⟨g1,g2,g3⟩ :=bB h;have hi:= (List.getElem?_eq_some_iff.1 hx).1;have hin:=aY y ((i:Int) +1) ((p.nodes.length:Int) -1);cases k1:aW y ((i:Int) +1) ((p.nodes.length:Int) -1)with
  | false=>
   rw [k1]at hin;exact Ends.eqv (aJw p u k i x y false sd sd sd sd sd sd sd hin rfl) (by simp [marks,k1])
  | true=>
   rw [k1]at hin;have hy:=inB_iff.1 k1;obtain⟨z,hz⟩ :∃z,u[y.toNat]?=some z:= ⟨_,List.getElem?_eq_getElem (by omega)⟩;cases z with
   | true=>
    exact Ends.eqv (aJx p u k i x y true true sd sd sd sd sd sd sd hin rfl (by omega) (by omega) hz rfl) (by simp [marks,hz])
   | false=>
    refine(aJy p u k i x y true false sd sd sd sd sd sd sd hin rfl (by omega) (by omega) hz rfl sd).ends ?_;exact Ends.eqv (bHP p x i hx hn hk K hb t (k+1) (u.set y.toNat true) (by simpa using hu) g2) (by simp [marks,k1,hz])
theorem rF1 (p:Prog)(hp:aN p=true)(hn:p.nodes.length≤1000)(hc:p.cons.length≤1000)(hf:p.funs.length≤1000) :∀ (t:List Node) (i:Nat) (u:List Bool),u.length=p.nodes.length→p.nodes.drop i=t →
  Ends PP 0 (pM p u (i:Int)).as (.ret (.bool (allT (cI p i t u)))) (aG [] 0)
 | [],i,u,hu,h=>by
  have:=bD h;refine(aJv p u i sd).ends ?_;exact rF3 p u hn hu u 0 rfl
 | x::t,i,u,hu,h=>by
  obtain⟨g1,g2,g3⟩ :=bB h;have hx:bQ x=true:=by
   simp only [aN,Bool.and_eq_true]at hp;exact List.all_eq_true.1 hp.2 x (List.mem_of_getElem? g1)
  simp only [bQ,Bool.and_eq_true,decide_eq_true_eq]at hx;have ho:=aML p x hc hf hx.1.2;cases k:cO p x with
  | false=>
   rw [k]at ho;exact Ends.eqv (aJt p u i x false sd sd sd ho rfl) (by simp [cI,k,allT])
  | true=>
   rw [k]at ho;refine(aJu p u i x true sd sd sd ho rfl).ends ?_;refine Ends.eqv (bHP p x i g1 hn (by omega) (fun v=>allT (cI p (i+1) t v)) (fun v hv=>rF1 p hp hn hc hf t (i+1) v hv g2) x.kids 0 u hu rfl) ?_;simp only [cI,k,if_true];cases marks ((i:Int) +1) (p.nodes.length:Int) x.kids u<;>rfl
theorem rF0 (p:Prog)(hp:aN p=true)(hn:p.nodes.length≤1000)(hc:p.cons.length≤1000)(hf:p.funs.length≤1000) :∀ (t:List Int) (i:Nat) (u:List Bool),u.length=p.nodes.length→p.funs.drop i=t →
  Ends PP 0 (tW p (i:Int) u).as (.ret (.bool (match marks 0 p.nodes.length t u with|some v=>allT (cI p 0 p.nodes v) |none=>false))) (aG [] 0)
 | [],i,u,hu,h=>by
  have:=bD h;refine(aJs p i u sd).ends ?_;exact rF1 p hp hn hc hf p.nodes 0 u hu rfl
 | y ::t,i,u,hu,h=>by
  obtain⟨g1,g2,g3⟩ :=bB h;have hin:=aY y 0 ((p.nodes.length:Int) -1);cases k1:aW y 0 ((p.nodes.length:Int) -1)with
  | false=>
   rw [k1]at hin;exact Ends.eqv (aJp p i u y false sd sd sd sd hin rfl) (by simp [marks,k1])
  | true=>
   rw [k1]at hin;have hy:=inB_iff.1 k1;obtain⟨z,hz⟩ :∃z,u[y.toNat]?=some z:= ⟨_,List.getElem?_eq_getElem (by omega)⟩;cases z with
   | true=>
    exact Ends.eqv (aJq p i u y true true sd sd sd sd hin rfl (by omega) (by omega) hz rfl) (by simp [marks,hz])
   | false=>
    refine(aJr p i u y true false sd sd sd sd hin rfl (by omega) (by omega) hz rfl sd).ends ?_;exact Ends.eqv (rF0 p hp hn hc hf t (i+1) (u.set y.toNat true) (by simpa using hu) g2) (by simp [marks,k1,hz])
theorem oG (p:Prog)(hp:aN p=true) :Pure PP 18 [Prog.av p] (.bool (bC p)) :=by
 refine aM (by kernel_rfl) rfl rfl ?_;have hs:=hp;simp only [aN,Bool.and_eq_true,decide_eq_true_eq]at hs;obtain⟨⟨⟨⟨s1,s2⟩,s3⟩,_⟩,_⟩ :=hs;by_cases k0:p.nodes.length≤300
 · have hi1:=aY (p.funs.length:Int) 1 (p.nodes.length:Int);cases k1:aW (p.funs.length:Int) 1 (p.nodes.length:Int)with
   | false=>
    rw [k1]at hi1;exact Ends.eqv (aJl p false sd hi1 rfl) (by simp [bC,eM,k1])
   | true=>
    rw [k1]at hi1;have hi2:=aY p.main 0 ((p.funs.length:Int) -1);cases k2:aW p.main 0 ((p.funs.length:Int) -1)with
    | false=>
     rw [k2]at hi2;exact Ends.eqv (aJm p true false sd hi1 rfl sd hi2 rfl) (by simp [bC,eM,k2])
    | true=>
     rw [k2]at hi2;have hco:=aMM p.cons (by omega);cases k3:zK p.cons with
     | false=>
      rw [k3]at hco;exact Ends.eqv (aJn p true true false sd hi1 rfl sd hi2 rfl hco rfl) (by simp [bC,k3])
     | true=>
      rw [k3]at hco;refine(aJo p true true true sd hi1 rfl sd hi2 rfl hco rfl (by omega)).ends ?_;refine Ends.eqv (rF0 p hp (by omega) (by omega) (by omega) p.funs 0 _ (by simp) rfl) ?_;have e:eM p=true:=by simp [eM,k0,k1,k2]
      simp only [bC,e,k3,Bool.true_and]
 ·exact Ends.eqv (aJk p sd) (by simp [bC,eM,k0])
def checkN (b:Bool) :Int:=if b=true then 0 else 2
end Go.Hb
namespace Go.Hb
open Go.Proofs
noncomputable section
open Go.Proofs Tryz
def xM(a:aE)(b:Nat):TS:=⟨(tf 175 16 [(2,(bV false)),kp 6 0] [kc f175 52,kl f175 52,.inBlock 0,kc f175 7]),[],[(0,(.siter a.length (aB a) b),false)],1⟩
def aAX(e f:Int)(g:aE)(a:List Pat)(b c d:Int):TS:=⟨(tf 208 27 [(1,(nI b)),(4,(nI 0)),(5,(nI c)),(9,(iP a)),(10,(nI (a.length:Int))),(11,(nI d))] [kc f208 116,kl f208 116,.inBlock 0,kc f208 15]),[],[],0⟩
def bHQ(a b c:Int):=tT 0 (start PP 77 [(nI a),(nI b),(nI c)])<|gd 10 10 (a≥b) (gE 7 0 (bV (decide (a≤c))))<|gE 7 0 (bV false)
def aYs:=fun a b c d=>bHQ a b c|>.t d tv
def aYt:=fun a b c d=>bHQ a b c|>.f d tv
def aSC (b:Int):=fun a c=>(tT 0 (start PP 252 [(nI b)])<|cP 7 77 [(nI b),(nI (-1000000000)),(nI 1000000000)]<|fun a=>gE 3 0 (bV a)) a c tv
def aMN (a:aE):=(tT 0 (start PP 175 [(aC a)])<|.W 12 1 [0] (xM a 0)) tv
def aYu(a:aE)(b:Nat):=tT 0 (xM a b)<|.o (.y fun c:Nat=>.y fun d:Nat=>.i [rn 2,.nxt c d] [hA (b<a.length),hA (aLx a.length (aB a) b=some (c,d))]<|gd 16 12 ((c:Int) <97) (gE 10 1 (bV false))<|gd 4 15 ((c:Int) >122) (gE 6 1 (bV false))<|.W 4 1 [0] (xM a (Nat.add b d)))<|.i [rn 2,.nxtE] [hA (a.length≤b)]<|gE 10 1 (bV true)
def aMO:=fun a b c d e f g=>aYu a b|>.1 c d e f|>.t g tv
def aMP:=fun a b c d e f g i=>aYu a b|>.1 c d e f|>.f g|>.t i tv
def aMQ:=fun a b c d e f g i=>aYu a b|>.1 c d e f|>.f g|>.f i tv
def aMR:=fun a b c=>aYu a b|>.2 c tv
def aSD(a:aE):=tT 0 (start PP 179 [(aC a)])<|.b 9 5 (!(aQ a.length (aB a) 0 0)) (gd 5 10 ((a.length:Int) ≤8) (.y fun b:UInt8=>.i [rn 1,.ans (.ev (.int .u8 ((b.toNat:Nat) :Int)))] [.q (p:=0≤ (0:Int)) (by decide),.a ((a)[0]?=some b) (p':=(0:Int) < (a.length:Int)) (fun h=>(aBz (k:= (0:Int)) (by decide) h)),.a ((a)[0]?=some b) (p':=AV.int .u8 ((Nat.mod (Nat.div (aB a) (Nat.pow 256 (0:Int).toNat)) 256:Nat) :Int) = (.int .u8 ((b.toNat:Nat) :Int))) (fun h=>(aBA (k:= (0:Int)) h))]<|gd 3 15 (((b.toNat:Nat) :Int) ≥65) (.i [rn 1,.ans (.ev (.int .u8 ((b.toNat:Nat) :Int)))] [.q (p:=0≤ (0:Int)) (by decide),.a ((a)[0]?=some b) (p':=(0:Int) < (a.length:Int)) (fun h=>(aBz (k:= (0:Int)) (by decide) h)),.a ((a)[0]?=some b) (p':=AV.int .u8 ((Nat.mod (Nat.div (aB a) (Nat.pow 256 (0:Int).toNat)) 256:Nat) :Int) = (.int .u8 ((b.toNat:Nat) :Int))) (fun h=>(aBA (k:= (0:Int)) h))]<|gd 3 20 (((b.toNat:Nat) :Int) ≤90) (.i [rn 1,.ans (.ev (aC (List.drop 1 a)))] [.a (1≤List.length a) (p':=aDE PP 9 (aC a) (some (nI 1)) none (aC (List.drop 1 a))) (fun h=>(aB4 (k:= (1:Int)) (by kernel_rfl) (by decide) h))]<|cP 0 175 [(aC (List.drop 1 a))]<|fun c=>gE 4 0 (bV c))<|gE 7 0 (bV false))<|gE 12 0 (bV false))<|gE 17 0 (bV false))<|gE 22 0 (bV false)
def aMS:=fun b c d e f a g i j k=>aSD b|>.t e|>.t f c a a|>.t g a a|>.t i j d k tv
def aMT:=fun b c d e a f g=>aSD b|>.t d|>.t e c a a|>.t f a a|>.f g tv
def aMU:=fun b c d e a f=>aSD b|>.t d|>.t e c a a|>.f f tv
def aMV:=fun a b c=>aSD a|>.t b|>.f c tv
def aMW:=fun a b=>aSD a|>.f b tv
def bHR(a:Con):=tT 0 (start PP 156 [(.agg [(aC a.name),(nI a.args)])])<|cP 9 179 [(aC a.name)]<|fun b=>.b 1 6 b (cP 2 77 [(nI a.args),(nI 0),(nI 3)]<|fun c=>gE 4 1 (bV c))<|gE 7 1 (bV false)
def aSE:=fun a b c d e f=>bHR a b d|>.t e c f tv
def aSF:=fun a b c d=>bHR a b c|>.f d tv
def aQe(c:Prog)(a:Node):=tT 0 (start PP 210 [(Prog.av c),(Node.av a)])<|.b 18 7 (a.op==1) (cP 5 252 [(nI a.n)]<|fun b=>gE 3 2 (bV b))<|.b 6 12 (a.op==2) (cP 5 77 [(nI a.n),(nI 0),(nI 1)]<|fun b=>gE 3 2 (bV b))<|.b 6 17 (a.op==24) (cP 5 77 [(nI a.n),(nI 0),(nI 3)]<|fun b=>gE 3 2 (bV b))<|.b 6 22 (a.op==4) (gl 8 dF c.funs<|gw 1 30 (0- (c.funs.length:Int))<|cP 0 77 [(nI a.n),(nI (0- (c.funs.length:Int))),(nI 29)]<|fun b=>gE 3 2 (bV b))<|.b 6 32 (a.op==14) (gE 6 2 (bV true))<|gE 11 2 (bV (a.n==0))
def aJD:=fun a b c d e=>aQe a b|>.t d c e tv
def aJE:=fun a b c d e f=>aQe a b|>.f d|>.t e c f tv
def aJF:=fun a b c d e f g=>aQe a b|>.f d|>.f e|>.t f c g tv
def aJG:=fun a b c d e f g i j=>aQe a b|>.f d|>.f e|>.f f|>.t g i c j tv
def aJH:=fun a b c d e f g=>aQe a b|>.f c|>.f d|>.f e|>.f f|>.t g tv
def aJI:=fun a b c d e f g=>aQe a b|>.f c|>.f d|>.f e|>.f f|>.f g tv
def aQf (b c:Int)(d:aE)(a:List Pat)(e:Int):=(tT 0 (start PP 208 [(.agg [(nI b),(nI c),(aC d),(iP a)]),(nI e)])<|gm 14 aF a<|.W 4 1 [] (aAX b c d a e 1 0)) tv
def bGx(e f:Int)(g:aE)(d:List Pat)(b a c:Int):=tT 0 (aAX e f g d b a c)<|gd 5 12 (c< (d.length:Int)) (mW 6 d c<|fun j k l m=>gd 11 17 (a>b) (gE 8 1 (nI a))<|gw 8 22 (b-a)<|gpI 0 208 [(.agg [(nI j),(nI k),(aC l),(iP m)]),(nI (b-a))]<|fun i=>gw 1 24 (a+i)<|gw 5 25 (c+1)<|.W 3 1 [] (aAX e f g d b (a+i) (c+1)))<|gE 8 0 (nI a)
def aQg:=fun a b c d e f g i j k l m n o p=>bGx a b c d e f g|>.t m i j k l n o|>.t p tv
def aQh:=fun a b c d e f g i j k l m n o p q r s t u=>bGx a b c d e f g|>.t n i j k l o p|>.f q r m s t u tv
def aQi:=fun a b c d e f g i=>bGx a b c d e f g|>.f i tv
def zM(d:Prog)(e c:Int)(f:aE)(a:List Pat):=tT 0 (start PP 209 [(Prog.av d),(.agg [(nI e),(nI c),(aC f),(iP a)])])<|.b 13 8 (!(aQ f.length (aB f) 0 0)) (gE 14 2 (bV false))<|cP 4 211 [(iP a),(.func 209 [(Prog.av d)] [])]<|fun i=>.b 3 15 (!i) (gE 6 2 (bV false))<|.b 15 18 (e==1) (.b 9 25 (c==0) (gm 2 aF a<|gE 5 2 (bV ((a.length:Int) ==0)))<|gE 8 2 (bV false))<|.b 6 18 (e==2) (.b 9 25 (c==0) (gm 2 aF a<|gE 5 2 (bV ((a.length:Int) ==0)))<|gE 8 2 (bV false))<|.b 5 18 (e==5) (.b 7 25 (c==0) (gm 2 aF a<|gE 5 2 (bV ((a.length:Int) ==0)))<|gE 8 2 (bV false))<|.b 6 31 (e==3) (cP 5 252 [(nI c)]<|fun b=>.b 1 36 b (gm 2 aF a<|gE 5 2 (bV ((a.length:Int) ==0)))<|gE 8 2 (bV false))<|.b 6 42 (e==4) (cP 5 77 [(nI c),(nI 0),(nI 1)]<|fun b=>.b 1 47 b (gm 2 aF a<|gE 5 2 (bV ((a.length:Int) ==0)))<|gE 8 2 (bV false))<|.b 6 53 (e==6) (.o (.y fun b:Bool=>.y fun g:Con=>.i [rn 2,.reg (rd 5 (.ans (.len (d.cons.length:Int))::.d::.pure (bV b)::.d::.b 63 true::.d::.d::.ans (.len (a.length:Int))::rd 5 (.ans (.idx (Con.av g))::rd 5 [])))] [hl Con.av d.cons,hA (Pure PP 77 [(nI c),(nI 0),(nI (IntKind.i64.wrap ((d.cons.length:Int) -1)))] (bV b)),hA (b=true),hm aF a,hA (0≤c),.a (((d.cons)[c.toNat]?) =some g) (cN (f:=Con.av))]<|gE 1 2 (bV ((a.length:Int) ==g.args)))<|.y fun b:Bool=>.i [rn 2,.reg (rd 5 (.ans (.len (d.cons.length:Int))::.d::.pure (bV b)::.d::.b 63 false::rd 14 []))] [hl Con.av d.cons,hA (Pure PP 77 [(nI c),(nI 0),(nI (IntKind.i64.wrap ((d.cons.length:Int) -1)))] (bV b)),hA (b=false)]<|gE 1 2 (bV false))<|gE 8 2 (bV false)
def aSG:=fun a b c d e f=>zM a b c d e|>.t f tv
def aSH:=fun a b c d e f g i j=>zM a b c d e|>.f g f i|>.t j tv
def aSI:=fun a b c d e f g i j k l=>zM a b c d e|>.f g f i|>.f j|>.t k|>.t l tv
def aSJ:=fun a b c d e f g i j k l=>zM a b c d e|>.f g f i|>.f j|>.t k|>.f l tv
def aSK:=fun a b c d e f g i j k l m=>zM a b c d e|>.f g f i|>.f j|>.f k|>.t l|>.t m tv
def aSL:=fun a b c d e f g i j k l m=>zM a b c d e|>.f g f i|>.f j|>.f k|>.t l|>.f m tv
def aSM:=fun a b c d e f g i j k l m n=>zM a b c d e|>.f g f i|>.f j|>.f k|>.f l|>.t m|>.t n tv
def aSN:=fun a b c d e f g i j k l m n=>zM a b c d e|>.f g f i|>.f j|>.f k|>.f l|>.t m|>.f n tv
def aSO:=fun a b c d e f g i j k l m n o p q=>zM a b c d e|>.f i f j|>.f k|>.f l|>.f m|>.f n|>.t o g p|>.t q tv
def aSP:=fun a b c d e f g i j k l m n o p q=>zM a b c d e|>.f i f j|>.f k|>.f l|>.f m|>.f n|>.t o g p|>.f q tv
def aQj:=fun a b c d e f g i j k l m n o p q r=>zM a b c d e|>.f i f j|>.f k|>.f l|>.f m|>.f n|>.f o|>.t p g q|>.t r tv
def aQk:=fun a b c d e f g i j k l m n o p q r=>zM a b c d e|>.f i f j|>.f k|>.f l|>.f m|>.f n|>.f o|>.t p g q|>.f r tv
def aQl:=fun a b c d e f g i j k l m n o p q r s t u v=>zM a b c d e|>.f j f k|>.f l|>.f m|>.f n|>.f o|>.f p|>.f q|>.t r|>.1 g i s t u v tv
def aQm:=fun a b c d e f g i j k l m n o p q r s=>zM a b c d e|>.f i f j|>.f k|>.f l|>.f m|>.f n|>.f o|>.f p|>.t q|>.2 g r s tv
def aQn:=fun a b c d e f g i j k l m n o p=>zM a b c d e|>.f g f i|>.f j|>.f k|>.f l|>.f m|>.f n|>.f o|>.f p tv
def lD(a:Int):=tT 0 (start PP 206 [(nI a)])<|.b 16 4 (a==1) (gE 9 0 (.iface 306 (nI 0)))<|.b 6 4 (a==2) (gE 9 0 (.iface 306 (nI 0)))<|.b 6 4 (a==3) (gE 9 0 (.iface 306 (nI 0)))<|.b 6 4 (a==4) (gE 9 0 (.iface 306 (nI 0)))<|.b 6 4 (a==21) (gE 9 0 (.iface 306 (nI 0)))<|.b 6 4 (a==25) (gE 9 0 (.iface 306 (nI 0)))<|.b 5 4 (a==28) (gE 7 0 (.iface 306 (nI 0)))<|.b 7 13 (a==5) (gE 9 0 (.iface 306 (nI 1)))<|.b 6 13 (a==27) (gE 9 0 (.iface 306 (nI 1)))<|.b 6 13 (a==16) (gE 9 0 (.iface 306 (nI 1)))<|.b 6 13 (a==17) (gE 9 0 (.iface 306 (nI 1)))<|.b 6 13 (a==19) (gE 9 0 (.iface 306 (nI 1)))<|.b 6 13 (a==20) (gE 9 0 (.iface 306 (nI 1)))<|.b 6 13 (a==23) (gE 9 0 (.iface 306 (nI 1)))<|.b 6 13 (a==24) (gE 9 0 (.iface 306 (nI 1)))<|.b 5 13 (a==26) (gE 7 0 (.iface 306 (nI 1)))<|.b 7 24 (a==6) (gE 9 0 (.iface 306 (nI 2)))<|.b 6 24 (a==7) (gE 9 0 (.iface 306 (nI 2)))<|.b 6 24 (a==9) (gE 9 0 (.iface 306 (nI 2)))<|.b 6 24 (a==10) (gE 9 0 (.iface 306 (nI 2)))<|.b 6 24 (a==11) (gE 9 0 (.iface 306 (nI 2)))<|.b 6 24 (a==12) (gE 9 0 (.iface 306 (nI 2)))<|.b 6 24 (a==13) (gE 9 0 (.iface 306 (nI 2)))<|.b 6 24 (a==18) (gE 9 0 (.iface 306 (nI 2)))<|.b 5 24 (a==22) (gE 7 0 (.iface 306 (nI 2)))<|.b 6 35 (a==8) (gE 7 0 (.iface 306 (nI 3)))<|.b 6 38 (a==14) (gE 8 0 (.iface 307 (.agg [])))<|.b 6 42 (a==15) (gE 8 0 (.iface 258 (.agg [])))<|gE 8 0 .nili
def aJJ:=fun a b=>lD a|>.t b tv
def aJK:=fun a b c=>lD a|>.f b|>.t c tv
def aJL:=fun a b c d=>lD a|>.f b|>.f c|>.t d tv
def aJM:=fun a b c d e=>lD a|>.f b|>.f c|>.f d|>.t e tv
def aJN:=fun a b c d e f=>lD a|>.f b|>.f c|>.f d|>.f e|>.t f tv
def aJO:=fun a b c d e f g=>lD a|>.f b|>.f c|>.f d|>.f e|>.f f|>.t g tv
def aJP:=fun a b c d e f g i=>lD a|>.f b|>.f c|>.f d|>.f e|>.f f|>.f g|>.t i tv
def aJQ:=fun a b c d e f g i j=>lD a|>.f b|>.f c|>.f d|>.f e|>.f f|>.f g|>.f i|>.t j tv
def aJR:=fun a b c d e f g i j k=>lD a|>.f b|>.f c|>.f d|>.f e|>.f f|>.f g|>.f i|>.f j|>.t k tv
def aJS:=fun a b c d e f g i j k l=>lD a|>.f b|>.f c|>.f d|>.f e|>.f f|>.f g|>.f i|>.f j|>.f k|>.t l tv
def aHm:=fun a b c d e f g i j k l m=>lD a|>.f b|>.f c|>.f d|>.f e|>.f f|>.f g|>.f i|>.f j|>.f k|>.f l|>.t m tv
def aHn:=fun a b c d e f g i j k l m n=>lD a|>.f b|>.f c|>.f d|>.f e|>.f f|>.f g|>.f i|>.f j|>.f k|>.f l|>.f m|>.t n tv
def aHo:=fun a b c d e f g i j k l m n o=>lD a|>.f b|>.f c|>.f d|>.f e|>.f f|>.f g|>.f i|>.f j|>.f k|>.f l|>.f m|>.f n|>.t o tv
def aHp:=fun a b c d e f g i j k l m n o p=>lD a|>.f b|>.f c|>.f d|>.f e|>.f f|>.f g|>.f i|>.f j|>.f k|>.f l|>.f m|>.f n|>.f o|>.t p tv
def aHq:=fun a b c d e f g i j k l m n o p q=>lD a|>.f b|>.f c|>.f d|>.f e|>.f f|>.f g|>.f i|>.f j|>.f k|>.f l|>.f m|>.f n|>.f o|>.f p|>.t q tv
def aHr:=fun a b c d e f g i j k l m n o p q r=>lD a|>.f b|>.f c|>.f d|>.f e|>.f f|>.f g|>.f i|>.f j|>.f k|>.f l|>.f m|>.f n|>.f o|>.f p|>.f q|>.t r tv
def aHs:=fun a b c d e f g i j k l m n o p q r s=>lD a|>.f b|>.f c|>.f d|>.f e|>.f f|>.f g|>.f i|>.f j|>.f k|>.f l|>.f m|>.f n|>.f o|>.f p|>.f q|>.f r|>.t s tv
def aHt:=fun a b c d e f g i j k l m n o p q r s t=>lD a|>.f b|>.f c|>.f d|>.f e|>.f f|>.f g|>.f i|>.f j|>.f k|>.f l|>.f m|>.f n|>.f o|>.f p|>.f q|>.f r|>.f s|>.t t tv
def aHu:=fun a b c d e f g i j k l m n o p q r s t u=>lD a|>.f b|>.f c|>.f d|>.f e|>.f f|>.f g|>.f i|>.f j|>.f k|>.f l|>.f m|>.f n|>.f o|>.f p|>.f q|>.f r|>.f s|>.f t|>.t u tv
def aHv:=fun a b c d e f g i j k l m n o p q r s t u v=>lD a|>.f b|>.f c|>.f d|>.f e|>.f f|>.f g|>.f i|>.f j|>.f k|>.f l|>.f m|>.f n|>.f o|>.f p|>.f q|>.f r|>.f s|>.f t|>.f u|>.t v tv
def aHw:=fun a b c d e f g i j k l m n o p q r s t u v w=>lD a|>.f b|>.f c|>.f d|>.f e|>.f f|>.f g|>.f i|>.f j|>.f k|>.f l|>.f m|>.f n|>.f o|>.f p|>.f q|>.f r|>.f s|>.f t|>.f u|>.f v|>.t w tv
def aHx:=fun a b c d e f g i j k l m n o p q r s t u v w x=>lD a|>.f b|>.f c|>.f d|>.f e|>.f f|>.f g|>.f i|>.f j|>.f k|>.f l|>.f m|>.f n|>.f o|>.f p|>.f q|>.f r|>.f s|>.f t|>.f u|>.f v|>.f w|>.t x tv
def aHy:=fun a b c d e f g i j k l m n o p q r s t u v w x y=>lD a|>.f b|>.f c|>.f d|>.f e|>.f f|>.f g|>.f i|>.f j|>.f k|>.f l|>.f m|>.f n|>.f o|>.f p|>.f q|>.f r|>.f s|>.f t|>.f u|>.f v|>.f w|>.f x|>.t y tv
def aHz:=fun a b c d e f g i j k l m n o p q r s t u v w x y z=>lD a|>.f b|>.f c|>.f d|>.f e|>.f f|>.f g|>.f i|>.f j|>.f k|>.f l|>.f m|>.f n|>.f o|>.f p|>.f q|>.f r|>.f s|>.f t|>.f u|>.f v|>.f w|>.f x|>.f y|>.t z tv
def aHA:=fun a b c d e f g i j k l m n o p q r s t u v w x y z A=>lD a|>.f b|>.f c|>.f d|>.f e|>.f f|>.f g|>.f i|>.f j|>.f k|>.f l|>.f m|>.f n|>.f o|>.f p|>.f q|>.f r|>.f s|>.f t|>.f u|>.f v|>.f w|>.f x|>.f y|>.f z|>.t A tv
def aHB:=fun a b c d e f g i j k l m n o p q r s t u v w x y z A B=>lD a|>.f b|>.f c|>.f d|>.f e|>.f f|>.f g|>.f i|>.f j|>.f k|>.f l|>.f m|>.f n|>.f o|>.f p|>.f q|>.f r|>.f s|>.f t|>.f u|>.f v|>.f w|>.f x|>.f y|>.f z|>.f A|>.t B tv
def aHC:=fun a b c d e f g i j k l m n o p q r s t u v w x y z A B C=>lD a|>.f b|>.f c|>.f d|>.f e|>.f f|>.f g|>.f i|>.f j|>.f k|>.f l|>.f m|>.f n|>.f o|>.f p|>.f q|>.f r|>.f s|>.f t|>.f u|>.f v|>.f w|>.f x|>.f y|>.f z|>.f A|>.f B|>.t C tv
def aHD:=fun a b c d e f g i j k l m n o p q r s t u v w x y z A B C D=>lD a|>.f b|>.f c|>.f d|>.f e|>.f f|>.f g|>.f i|>.f j|>.f k|>.f l|>.f m|>.f n|>.f o|>.f p|>.f q|>.f r|>.f s|>.f t|>.f u|>.f v|>.f w|>.f x|>.f y|>.f z|>.f A|>.f B|>.f C|>.t D tv
def aHE:=fun a b c d e f g i j k l m n o p q r s t u v w x y z A B C D=>lD a|>.f b|>.f c|>.f d|>.f e|>.f f|>.f g|>.f i|>.f j|>.f k|>.f l|>.f m|>.f n|>.f o|>.f p|>.f q|>.f r|>.f s|>.f t|>.f u|>.f v|>.f w|>.f x|>.f y|>.f z|>.f A|>.f B|>.f C|>.f D tv
end
end Go.Hb
namespace Go.Hb
open Go.Proofs
noncomputable section
open Go.Proofs Tryz
def aCO(a:List Pat)(b:Prog)(c:Int):TS:=⟨(tf 279 19 [(0,(iP a)),(1,(.func 254 [] [(.ptr 0 0)])),(4,(nI 0)),(7,(nI (a.length:Int))),(8,(nI c))] [kc f279 52,kl f279 52,.inBlock 0,kc f279 7]),[(tf 253 9 [(4,(bV false)),(5,(iP a)),(6,(.func 254 [] [(.ptr 0 0)]))] [ko f253 6 2,kc f253 7]),(tf 211 9 [(4,(bV false)),(5,(iP a)),(6,(.func 254 [] [(.ptr 0 0)]))] [ko f211 6 2,kc f211 7])],[oC 0 [(.func 209 [(Prog.av b)] [])]],1⟩
def sE(b:Prog)(a:Node)(c:Int):TS:=⟨(tf 279 19 [(0,(iP a.pats)),(1,(.func 254 [] [(.ptr 0 0)])),(4,(nI 0)),(7,(nI (a.pats.length:Int))),(8,(nI c))] [kc f279 52,kl f279 52,.inBlock 0,kc f279 7]),[(tf 253 9 [(4,(bV false)),(5,(iP a.pats)),(6,(.func 254 [] [(.ptr 0 0)]))] [ko f253 6 2,kc f253 7]),(tf 211 9 [(4,(bV false)),(5,(iP a.pats)),(6,(.func 254 [] [(.ptr 0 0)]))] [ko f211 6 2,kc f211 7]),(tf 161 35 [(4,(bV false)),(29,(bV true)),(31,(iP a.pats)),(32,(.func 207 [] [(.ptr 1 0)]))] [ko f161 62 13,kc f161 63])],[oC 0 [(.func 207 [] [(.ptr 1 0)])],oC 1 [(iN b.nodes),(iI b.funs),(nI b.main),(iC b.cons)]],2⟩
def tZ(a:List aE)(c:Int)(b:List (aE×Bool)):TS:=⟨(tf 157 21 [(0,(iS a)),(2,(bV false)),(3,(.map 0)),(7,(iS a)),(8,(nI (a.length:Int))),(9,(nI c))] [kc f157 116,kl f157 116,.inBlock 0,kc f157 15]),[],[(0,(.map (aV aC hI 0 b) b.length),true)],1⟩
def aSQ (a:List Pat)(b:Prog):=(tT 0 (start PP 211 [(iP a),(.func 209 [(Prog.av b)] [])])<|gm 27 aF a<|.W 4 1 [0] (aCO a b 0)) tv
def bGy(b:List Pat)(c:Prog)(a:Int):=tT 0 (aCO b c a)<|gd 5 9 (a< (b.length:Int)) (mW 14 b a<|fun d e f g=>cP 11 209 [(Prog.av c),(.agg [(nI d),(nI e),(aC f),(iP g)])]<|fun i=>.b 6 16 (!i) (gE 17 2 (bV (!(decide (a≥0)))))<|gw 5 18 (a+1)<|.W 3 2 [0] (aCO b c (a+1)))<|gE 17 1 (bV true)
def aSR:=fun a b c d e f g i j k l m n=>bGy a b c|>.t j d e f g k l i m|>.t n tv
def aSS:=fun a b c d e f g i j k l m n o=>bGy a b c|>.t j d e f g k l i m|>.f n o tv
def aST:=fun a b c d=>bGy a b c|>.f d tv
def aBB(b:Prog)(a:Node):=tT 0 (start PP 161 [(Prog.av b),(Node.av a)])<|.o (gp 10 206 [(nI a.op)] (.iface 258 (.agg []))<|gm 44 aF a.pats<|cP 0 77 [(nI (a.pats.length:Int)),(nI 1),(nI 5)]<|fun c=>.b 1 11 c (gl 2 dF a.kids<|gm 2 aF a.pats<|gw 1 18 (1+ (a.pats.length:Int))<|.b 7 24 ((a.kids.length:Int) == (1+ (a.pats.length:Int))) (cP 2 210 [(Prog.av b),(Node.av a)]<|fun d=>.b 2 29 d (gm 31 aF a.pats<|.W 4 6 [5,0] (sE b a 0))<|gE 8 5 (bV false))<|gE 13 5 (bV false))<|gE 27 5 (bV false))<|.o (gp 10 206 [(nI a.op)] (.iface 307 (.agg []))<|gm 24 aF a.pats<|gd 2 14 ((a.pats.length:Int) >0) (gE 6 2 (bV false))<|.o (.y fun c:Bool=>.y fun d:Con=>.i [rn 22,.reg (rd 5 (.ans (.len (b.cons.length:Int))::.d::.pure (bV c)::.d::.b 15 true::.d::.d::.ans (.len (a.kids.length:Int))::rd 5 (.ans (.idx (Con.av d))::rd 5 [])))] [hl Con.av b.cons,hA (Pure PP 77 [(nI a.n),(nI 0),(nI (IntKind.i64.wrap ((b.cons.length:Int) -1)))] (bV c)),hA (c=true),hl dF a.kids,hA (0≤a.n),.a (((b.cons)[a.n.toNat]?) =some d) (cN (f:=Con.av))]<|.b 3 24 ((a.kids.length:Int) ==d.args) (cP 2 210 [(Prog.av b),(Node.av a)]<|fun f=>.b 2 29 f (gm 31 aF a.pats<|.W 4 6 [5,0] (sE b a 0)) .x)<|gE 13 5 (bV false))<|.y fun c:Bool=>.i [rn 22,.reg (rd 5 (.ans (.len (b.cons.length:Int))::.d::.pure (bV c)::.d::.b 15 false::rd 14 []))] [hl Con.av b.cons,hA (Pure PP 77 [(nI a.n),(nI 0),(nI (IntKind.i64.wrap ((b.cons.length:Int) -1)))] (bV c)),hA (c=false)]<|gE 16 5 (bV false))<|.o (.y fun e:Int=>gp 10 206 [(nI a.op)] (.iface 306 (nI e))<|gm 24 aF a.pats<|gd 2 14 ((a.pats.length:Int) >0) (gE 6 2 (bV false))<|gl 24 dF a.kids<|.b 7 24 ((a.kids.length:Int) ==e) (cP 2 210 [(Prog.av b),(Node.av a)]<|fun d=>.b 2 29 d (gm 31 aF a.pats<|.W 4 5 [4,0] (sE b a 0))<|gE 8 4 (bV false))<|gE 13 4 (bV false))<|gp 10 206 [(nI a.op)] (.nili)<|gE 18 2 (bV false)
def aQo:=fun a b c d e f g i j k l=>aBB a b|>.1 e c f|>.t g i|>.t j d k|>.t l tv
def aQp:=fun a b c d e f g i j k l=>aBB a b|>.1 e c f|>.t g i|>.t j d k|>.f l tv
def aQq:=fun a b c d e f g i=>aBB a b|>.1 d c e|>.t f g|>.f i tv
def aQr:=fun a b c d e f=>aBB a b|>.1 d c e|>.f f tv
def aQs:=fun a b c d=>aBB a b|>.2|>.1 c|>.t d tv
def aQt:=fun a b c d e f g i j k l m n o=>aBB a b|>.2|>.1 f|>.f g|>.1 c d i j k l|>.t m e n|>.t o tv
def aQu:=fun a b c d e f g i j k l=>aBB a b|>.2|>.1 e|>.f f|>.1 c d g i j k|>.f l tv
def aQv:=fun a b c d e f g=>aBB a b|>.2|>.1 d|>.f e|>.2 c f g tv
def aQw:=fun a b c d e=>aBB a b|>.2|>.2|>.1 c d|>.t e tv
def aMX:=fun a b c d e f g i j=>aBB a b|>.2|>.2|>.1 c e|>.f f|>.t g d i|>.t j tv
def aMY:=fun a b c d e f g i j=>aBB a b|>.2|>.2|>.1 c e|>.f f|>.t g d i|>.f j tv
def aMZ:=fun a b c d e f=>aBB a b|>.2|>.2|>.1 c d|>.f e|>.f f tv
def aM0:=fun a b c=>aBB a b|>.2|>.2|>.2 c tv
def aYv(c:Prog)(b:Node)(a:Int):=tT 0 (sE c b a)<|gd 5 9 (a< (b.pats.length:Int)) (mW 14 b.pats a<|fun d e f g=>gpI 20 208 [(.agg [(nI d),(nI e),(aC f),(iP g)]),(nI 12)]<|fun i=>gd 2 7 (i≤12) (cP 2 209 [(Prog.av c),(.agg [(nI d),(nI e),(aC f),(iP g)])]<|fun j=>.b 11 16 (!j) (gE 22 4 (bV (!(decide (a≥0)))))<|gw 5 18 (a+1)<|.W 3 4 [0,1] (sE c b (a+1)))<|gE 36 4 (bV (!(decide (a≥0)))))<|gE 22 2 (bV true)
def aQx:=fun a b c d e f g i j k l m n o p q=>aYv a b c|>.t k d e f g l m i n|>.t o j p|>.t q tv
def aQy:=fun a b c d e f g i j k l m n o p q r=>aYv a b c|>.t k d e f g l m i n|>.t o j p|>.f q r tv
def aQz:=fun a b c d e f g i j k l m n=>aYv a b c|>.t j d e f g k l i m|>.f n tv
def aQA:=fun a b c d=>aYv a b c|>.f d tv
def aJT (a:List aE):=(tT 0 (start PP 157 [(iS a)])<|.i [rn 7,.mset 0 (aV aC hI 0 ([] :List (aE×Bool))) ([] :List (aE×Bool)).length] [hr (aV aC hI 0 ([] :List (aE×Bool))),hr (List.length ([] :List (aE×Bool)))]<|gl 6 aC a<|.W 4 1 [0] (tZ a 0 ([] :List (aE×Bool)))) ⟨bK (fun _=>rfl) (fun _=>rfl) _ _ _,trivial⟩
def bHS(b:List aE)(d:Int)(a:List (aE×Bool)):=tT 0 (tZ b d a)<|gd 5 10 (d< (b.length:Int)) (gX aC 6 b d<|fun c=>.i [rn 6,.mput (aV aC hI 0 (fB c true a)) (fB c true a).length] [.q (p:=tL (aV aC hI 0 a) a.length (aC c) (hI true) =some ((aV aC hI 0 (fB c true a)),List.length (fB c true a))) (aHi aAQ _ _ _)]<|gw 4 15 (d+1)<|.W 3 1 [0] (tZ b (d+1) (fB c true a)))<|.i [rn 6,sI 17 (a.length:Int)] [.q (p:=(nI ((aV aC hI 0 a).length:Int)) = (nI (a.length:Int))) (aRM _ _ _)]<|gl 1 aC b<|gE 4 1 (bV ((a.length:Int) == (b.length:Int)))
def aJU:=fun a b c d e f g i=>bHS a b c|>.t e d f g i ⟨bK (fun _=>rfl) (fun _=>rfl) _ _ _,trivial⟩
def aJV:=fun a b c d=>bHS a b c|>.f d tv
end
end Go.Hb
namespace Go.Hb
open Go.Proofs
noncomputable section
open Go.Proofs Tryz
def aCP(a:List Node)(b:Prog)(c:Int):TS:=⟨(tf 112 19 [(0,(iN a)),(1,(.func 205 [] [(.ptr 0 0)])),(4,(nI 0)),(7,(nI (a.length:Int))),(8,(nI c))] [kc f112 52,kl f112 52,.inBlock 0,kc f112 7]),[(tf 45 9 [(4,(bV false)),(5,(iN a)),(6,(.func 205 [] [(.ptr 0 0)]))] [ko f45 6 2,kc f45 7]),(tf 160 9 [(4,(bV false)),(5,(iN a)),(6,(.func 205 [] [(.ptr 0 0)]))] [ko f160 6 2,kc f160 7])],[oC 0 [(.func 161 [(Prog.av b)] [])]],1⟩
def aCQ(a:List Con)(b:Int):TS:=⟨(tf 100 19 [(0,(iC a)),(1,(.func 204 [] [(.ptr 0 0)])),(4,(nI 0)),(7,(nI (a.length:Int))),(8,(nI b))] [kc f100 52,kl f100 52,.inBlock 0,kc f100 7]),[(tf 203 9 [(4,(bV false)),(5,(iC a)),(6,(.func 204 [] [(.ptr 0 0)]))] [ko f203 6 2,kc f203 7]),(tf 155 9 [(4,(bV false)),(5,(iC a)),(6,(.func 204 [] [(.ptr 0 0)]))] [ko f155 6 2,kc f155 7])],[oC 0 [(.func 156 [] [])]],1⟩
def aCR(a:List Int)(b:Int):TS:=⟨(tf 255 19 [(0,(.ilst 1 (jI a) true)),(1,(.func 213 [] [(.ptr 0 0)])),(4,(nI 0)),(7,(nI (a.length:Int))),(8,(nI b))] [kc f255 52,kl f255 52,.inBlock 0,kc f255 7]),[(tf 212 9 [(4,(bV false)),(5,(.ilst 1 (jI a) true)),(6,(.func 213 [] [(.ptr 0 0)]))] [ko f212 6 2,kc f212 7]),(tf 162 9 [(4,(bV false)),(5,(.ilst 1 (jI a) true)),(6,(.func 213 [] [(.ptr 0 0)]))] [ko f162 6 2,kc f162 7])],[oC 0 [(.func 163 [] [])]],1⟩
def aCS(a:List Con)(c:Int)(b:List aE):TS:=⟨(tf 158 22 [(1,(.func 159 [] [])),(4,.nils),(5,(.gl 0 1 0 b.length false)),(8,(iC a)),(9,(nI (a.length:Int))),(10,(nI c))] [kc f158 116,kl f158 116,.inBlock 0,kc f158 15]),[],[oL 0 1 (List.map aC b)],1⟩
def uA(a:Prog)(c:Int)(b:List Int):TS:=⟨(tf 93 128 [kp 1 0,(2,(bV false)),(3,(nI (a.nodes.length:Int))),(4,(.gl 1 1 0 b.length true)),(77,(iI a.funs)),(78,(nI (a.funs.length:Int))),(79,(nI c))] [kc f93 1012,kl f93 1012,.inBlock 0,kc f93 127]),[],[oC 0 [(iN a.nodes),(iI a.funs),(nI a.main),(iC a.cons)],oL 1 1 (jI b)],2⟩
def pN(a:Prog)(b:List Int)(c:Int):TS:=⟨(tf 93 128 [(2,(bV false)),(3,(nI (a.nodes.length:Int))),(4,(.gl 0 1 0 b.length true)),(97,(iN a.nodes)),(98,(nI (a.nodes.length:Int))),(99,(nI c))] [kc f93 2036,kl f93 2036,.inBlock 2,kc f93 255]),[],[oL 0 1 (jI b)],1⟩
def uB(a:Prog)(c:List Int)(d:Int)(b:List Int)(e f g:Int):TS:=⟨(tf 93 128 [(2,(bV false)),(3,(nI (a.nodes.length:Int))),(4,(.gl 0 1 0 b.length true)),(7,(nI f)),(97,(iN a.nodes)),(98,(nI (a.nodes.length:Int))),(99,(nI g)),(105,(iI c)),(106,(nI d)),(107,(nI e))] [kc f93 521420,kl f93 521420,.inBlock 4,.inBlock 3,kc f93 16295,kl f93 2036,.inBlock 2,kc f93 255]),[],[oL 0 1 (jI b)],1⟩
def aSU (a:List Node)(b:Prog):=(tT 0 (start PP 160 [(iN a),(.func 161 [(Prog.av b)] [])])<|gl 27 Node.av a<|.W 4 1 [0] (aCP a b 0)) tv
def bGz(b:List Node)(c:Prog)(a:Int):=tT 0 (aCP b c a)<|gd 5 9 (a< (b.length:Int)) (gX Node.av 14 b a<|fun d=>cP 11 161 [(Prog.av c),(Node.av d)]<|fun e=>.b 6 16 (!e) (gE 17 2 (bV (!(decide (a≥0)))))<|gw 5 18 (a+1)<|.W 3 2 [0] (aCP b c (a+1)))<|gE 17 1 (bV true)
def aSV:=fun a b c d e f g i j k=>bGz a b c|>.t f d g i e j|>.t k tv
def aSW:=fun a b c d e f g i j k l=>bGz a b c|>.t f d g i e j|>.f k l tv
def aSX:=fun a b c d=>bGz a b c|>.f d tv
def aSY (a:List Con):=(tT 0 (start PP 155 [(iC a),(.func 156 [] [])])<|gl 27 Con.av a<|.W 4 1 [0] (aCQ a 0)) tv
def bGA(b:List Con)(a:Int):=tT 0 (aCQ b a)<|gd 5 9 (a< (b.length:Int)) (gX Con.av 14 b a<|fun c=>cP 11 156 [(.agg [(aC c.name),(nI c.args)])]<|fun d=>.b 6 16 (!d) (gE 17 2 (bV (!(decide (a≥0)))))<|gw 5 18 (a+1)<|.W 3 2 [0] (aCQ b (a+1)))<|gE 17 1 (bV true)
def aSZ:=fun a b c d e f g i j=>bGA a b|>.t e c f g d i|>.t j tv
def aS0:=fun a b c d e f g i j k=>bGA a b|>.t e c f g d i|>.f j k tv
def aS1:=fun a b c=>bGA a b|>.f c tv
def aS2 (a:List Int):=(tT 0 (start PP 162 [(.ilst 1 (jI a) true),(.func 163 [] [])])<|gl 27 dF a<|.W 4 1 [0] (aCR a 0)) tv
def bGB(b:List Int)(a:Int):=tT 0 (aCR b a)<|gd 5 9 (a< (b.length:Int)) (gX dF 14 b a<|fun c=>.b 29 16 (!(c==1)) (gE 17 1 (bV (!(decide (a≥0)))))<|gw 5 18 (a+1)<|.W 3 1 [0] (aCR b (a+1)))<|gE 17 1 (bV true)
def aS3:=fun a b c d e f g=>bGB a b|>.t d c e f|>.t g tv
def aS4:=fun a b c d e f g i=>bGB a b|>.t d c e f|>.f g i tv
def aS5:=fun a b c=>bGB a b|>.f c tv
def aS6 (a:List Con):=(tT 0 (start PP 158 [(iC a),(.func 159 [] [])])<|gl 12 Con.av a<|.i [rn 4,.nilL 5 1] []<|gu 0 0 (List.map aC ([] :List aE))<|gs 0 5 (.gl 0 1 0 ([] :List aE).length false)<|.W 0 1 [0] (aCS a 0 ([] :List aE))) ⟨kk,trivial⟩
def bHT(c:List Con)(a:Int)(b:List aE):=tT 0 (aCS c a b)<|gd 5 11 (a< (c.length:Int)) (gX Con.av 6 c a<|fun d=>ga 23 aC b [d.name]<|gw 5 20 (a+1)<|.W 3 5 [4] (aCS c (a+1) (b++ [d.name])))<|gz 8 4 0 1 aC b false<|gE 0 1 (iS b)
def aS7:=fun a b c d e f g i j=>bHT a b c|>.t e d f g i j ⟨kk,trivial⟩
def aS8:=fun a b c d=>bHT a b c|>.f d tv
def aHF(a:Prog):=tT 0 (start PP 93 [(Prog.av a)])<|gl 10 Node.av a.nodes<|gd 8 17 ((a.nodes.length:Int) >300) (gE 40 1 (bV false))<|gl 3 dF a.funs<|gd 3 24 ((a.funs.length:Int) <1) (gE 33 1 (bV false))<|gl 3 dF a.funs<|gd 4 32 ((a.funs.length:Int) > (a.nodes.length:Int)) (gE 25 1 (bV false))<|gl 3 Con.av a.cons<|gd 3 39 ((a.cons.length:Int) >20) (gE 18 1 (bV false))<|gl 6 dF a.funs<|gw 1 47 ((a.funs.length:Int) - (1:Int))<|cP 0 77 [(nI a.main),(nI 0),(nI ((a.funs.length:Int) - (1:Int)))]<|fun c=>.b 3 50 (!c) (gE 6 1 (bV false))<|cP 8 155 [(iC a.cons),(.func 156 [] [])]<|fun d=>.b 2 56 (!d) (gE 23 1 (bV false))<|.y fun b:List aE=>gp 3 158 [(iC a.cons),(.func 159 [] [])] (iS b)<|cP 0 157 [(iS b)]<|fun e=>.b 3 64 (!e) (gE 15 1 (bV false))<|cP 5 160 [(iN a.nodes),(.func 161 [(Prog.av a)] [])]<|fun f=>.b 3 72 (!f) (gE 6 1 (bV false))<|.i [rn 5,.mk a.nodes.length] [hr ((a.nodes.length:Nat) :Int),hr ((a.nodes.length:Nat) :Int),hA (a.nodes.length<100000)]<|.i [.lset 1 (jI (List.replicate a.nodes.length (0:Int)))] [.q (p:=List.replicate a.nodes.length (dF (0:Int)) = (jI (List.replicate a.nodes.length (0:Int)))) (aHh _ _ _)]<|.i [.set 74 (.gl 1 1 0 (List.replicate a.nodes.length (0:Int)).length true)] [.q (p:=(AV.gl 1 1 0 a.nodes.length true) = (.gl 1 1 0 (List.replicate a.nodes.length (0:Int)).length true)) (cG (List.length_replicate ..).symm)]<|gl 8 dF a.funs<|.W 4 2 [0,1] (uA a 0 (List.replicate a.nodes.length (0:Int)))
def aJW:=fun a b=>aHF a|>.t b tv
def aJX:=fun a b c=>aHF a|>.f b|>.t c tv
def aJY:=fun a b c d=>aHF a|>.f b|>.f c|>.t d tv
def aJZ:=fun a b c d e=>aHF a|>.f b|>.f c|>.f d|>.t e tv
def aJ0:=fun a b c d e f g i j=>aHF a|>.f c|>.f d|>.f e|>.f f g b i|>.t j tv
def aJ1:=fun a b c d e f g i j k l m=>aHF a|>.f d|>.f e|>.f f|>.f g i b j|>.f k c l|>.t m tv
def aJ2:=fun a b c d e f g i j k l m n o p q r=>aHF a|>.f f|>.f g|>.f i|>.f j k b l|>.f m c n|>.f o d p e q|>.t r tv
def aJ3:=fun a b c d e f g i j k l m n o p q r s t u=>aHF a|>.f g|>.f i|>.f j|>.f k l b m|>.f n c o|>.f p d q e r|>.f s f t|>.t u tv
def aJ4:=fun a b c d e f g i j k l m n o p q r s t u v=>aHF a|>.f g|>.f i|>.f j|>.f k l b m|>.f n c o|>.f p d q e r|>.f s f t|>.f u v ⟨kk,trivial⟩
def bGC(d:Prog)(e:Int)(a:List Int):=tT 0 (uA d e a)<|gd 5 80 (e< (d.funs.length:Int)) (gX dF 6 d.funs e<|fun b=>gw 9 85 ((d.nodes.length:Int) -1)<|cP 0 77 [(nI b),(nI 0),(nI ((d.nodes.length:Int) -1))]<|fun f=>.b 2 87 (!f) (gE 6 2 (bV false))<|.i [rn 5,.ans (.ix)] [hA (0≤b),hA (b< (a.length:Int))]<|.y fun c:Int=>gj dF 0 a b.toNat c<|gw 1 92 (c+1)<|.i [.ans (.ix)] [hA (0≤b),hA (b< (a.length:Int))]<|.i [.st (dF c) (dF (c+1))] [.a (((a)[b.toNat]?) =some c) (iT (f:=dF)),hr (some (dF (c+1)))]<|.i [.lset 1 (jI (List.set a b.toNat (c+1)))] [.q (p:=(jI a).set (0+b.toNat) (dF (c+1)) = (jI (List.set a b.toNat (c+1)))) (pI _ _ _ _)]<|.i [.set 4 (.gl 1 1 0 (List.set a b.toNat (c+1)).length true)] [.q (p:=(AV.gl 1 1 0 a.length true) = (.gl 1 1 0 (List.set a b.toNat (c+1)).length true)) (cG (List.length_set ..).symm)]<|.i [.set 88 (.gl 1 1 0 (List.set a b.toNat (c+1)).length true)] [.q (p:=(AV.gl 1 1 0 a.length true) = (.gl 1 1 0 (List.set a b.toNat (c+1)).length true)) (cG (List.length_set ..).symm)]<|gw 4 94 (e+1)<|.W 3 2 [0,1] (uA d (e+1) (List.set a b.toNat (c+1))))<|gl 8 Node.av d.nodes<|.W 4 2 [1] (pN d a 0)
def aJ5:=fun a b c d e f g i j k l=>bGC a b c|>.t f d g i j e k|>.t l tv
def aJ6:=fun d e f g i j k l m n o p a b c q r=>bGC d e f|>.t k g l m n i o|>.f p a b j c q a b c r ⟨kk,trivial⟩
def aJ7:=fun a b c d=>bGC a b c|>.f d ⟨kk,trivial⟩
def bHU(c:Prog)(d:List Int)(a:Int):=tT 0 (pN c d a)<|gd 5 100 (a< (c.nodes.length:Int)) (gX Node.av 7 c.nodes a<|fun b=>gl 9 dF b.kids<|.W 4 2 [0] (uB c b.kids (b.kids.length:Int) d 0 a a))<|gz 5 126 0 1 dF d true<|cP 0 162 [(.ilst 1 (jI d) true),(.func 163 [] [])]<|fun b=>gE 3 1 (bV b)
def aJ8:=fun a b c d e f g=>bHU a b c|>.t e d f g ⟨kk,trivial⟩
def aJ9:=fun a b c d e f=>bHU a b c|>.f e d f tv
def bGD(d:Prog)(i:List Int)(j:Int)(a:List Int)(e f g:Int):=tT 0 (uB d i j a e f g)<|gd 5 108 (e<j) (gX dF 6 i e<|fun b=>gw 9 113 (f+1)<|gw 2 115 ((d.nodes.length:Int) -1)<|cP 0 77 [(nI b),(nI (f+1)),(nI ((d.nodes.length:Int) -1))]<|fun k=>.b 2 117 (!k) (gE 6 1 (bV false))<|.i [rn 5,.ans (.ix)] [hA (0≤b),hA (b< (a.length:Int))]<|.y fun c:Int=>gj dF 0 a b.toNat c<|gw 1 122 (c+1)<|.i [.ans (.ix)] [hA (0≤b),hA (b< (a.length:Int))]<|.i [.st (dF c) (dF (c+1))] [.a (((a)[b.toNat]?) =some c) (iT (f:=dF)),hr (some (dF (c+1)))]<|.i [.lset 0 (jI (List.set a b.toNat (c+1)))] [.q (p:=(jI a).set (0+b.toNat) (dF (c+1)) = (jI (List.set a b.toNat (c+1)))) (pI _ _ _ _)]<|.i [.set 4 (.gl 0 1 0 (List.set a b.toNat (c+1)).length true)] [.q (p:=(AV.gl 0 1 0 a.length true) = (.gl 0 1 0 (List.set a b.toNat (c+1)).length true)) (cG (List.length_set ..).symm)]<|.i [.set 118 (.gl 0 1 0 (List.set a b.toNat (c+1)).length true)] [.q (p:=(AV.gl 0 1 0 a.length true) = (.gl 0 1 0 (List.set a b.toNat (c+1)).length true)) (cG (List.length_set ..).symm)]<|gw 4 124 (e+1)<|.W 3 1 [0] (uB d i j (List.set a b.toNat (c+1)) (e+1) f g))<|gw 5 125 (g+1)<|.W 3 1 [0] (pN d a (g+1))
def aKa:=fun a b c d e f g i j k l m n o p q=>bGD a b c d e f g|>.t k i l m n o j p|>.t q tv
def aKb:=fun d e f g i j k l m n o p q r s t u a b c v w=>bGD d e f g i j k|>.t o l p q r s m t|>.f u a b n c v a b c w ⟨kk,trivial⟩
def aKc:=fun a b c d e f g i j=>bGD a b c d e f g|>.f i j ⟨kk,trivial⟩
def bHV(a:Prog):=tT 0 (start PP 32 [(Prog.av a)])<|cP 10 93 [(Prog.av a)]<|fun b=>.b 2 6 (!b) (gE 6 1 (nI 2))<|gE 7 1 (nI 0)
def aM1:=fun a b c d=>bHV a b c|>.t d tv
def aM2:=fun a b c d=>bHV a b c|>.f d tv
end
end Go.Hb
namespace Go.Hb
open Go.Proofs
theorem fP (n lo hi:Int) :Pure PP 77 [.int .i64 n,.int .i64 lo,.int .i64 hi] (.bool (aW n lo hi)) :=by
 refine aM (by kernel_rfl) rfl rfl ?_;by_cases h:n≥lo
 · have e:aW n lo hi=decide (n≤hi) :=by unfold aW;rw [decide_eq_true (show lo≤n from h),Bool.true_and]
   rw [e];exact aYs n lo hi (decide_eq_true h)
 · have e:aW n lo hi=false:=by unfold aW;rw [decide_eq_false (show ¬lo≤n from h),Bool.false_and]
   rw [e];exact aYt n lo hi (decide_eq_false h)
theorem aBC (n:Int) :Pure PP 252 [.int .i64 n] (.bool (aW n (-1000000000) 1000000000)) :=
 aM (by kernel_rfl) rfl rfl (aSC n _ (fP n _ _))
theorem aQB (b:ByteArray)(i:Nat)(h:128≤ (b.get! i).toNat) :128≤ (Utf8.decode b i).1:=by
 unfold Utf8.decode Utf8.runeError;simp only [Nat.add_zero];rw [if_neg (show ¬ (b.get! i).toNat<0x80 by omega)]
 repeat' split
 all_goals first
  |assumption
  | (simp_all;done)
  | (rename_i q;simp only [Bool.and_eq_true,decide_eq_true_eq,ge_iff_le]at q;simp only;omega)
theorem aYw {s:aE}{i:Nat}{c:UInt8}(h:s[i]?=some c) :∃r d,aLx (List.length s) (aB s) i=some (r,d) ∧ (c.toNat<128→r=c.toNat∧d=1) ∧ (128≤c.toNat→128≤r) :=by
 have hi:= (List.getElem?_eq_some_iff.1 h).1;have hb:=byte_at h;unfold aLx;have e1:Nat.blt i (List.length s) =true:=by rw [dP];exact decide_eq_true hi
 have e2:Nat.mod (Nat.div (aB s) (Nat.pow 256 i)) 256=c.toNat:=hb;rw [e1,e2];simp only [cond];by_cases k:c.toNat<128
 · have e3:Nat.blt c.toNat 128=true:=by rw [dP];exact decide_eq_true k
   rw [e3];exact⟨_,_,rfl,fun _=> ⟨rfl,rfl⟩,fun g=>by omega⟩
 · have e3:Nat.blt c.toNat 128=false:=by rw [dP];exact decide_eq_false k
   rw [e3];refine⟨_,_,rfl,fun g=>by omega,fun _=>?_⟩;have hn:aU (List.length s) (aB s) =s:=fK s;rw [hn];have hg: ((⟨⟨s⟩⟩ :ByteArray).get! (i+0)).toNat=c.toNat:=by
    simp only [Nat.add_zero,ByteArray.get!];have: (⟨s⟩ :Array UInt8)[i]! =c:=by
     rw [Array.getElem!_eq_getD,Array.getD_eq_getD_getElem?,show(⟨s⟩ :Array UInt8) =s.toArray from rfl,List.getElem?_toArray,h];rfl
    rw [this]
   exact aQB _ _ (by rw [Nat.add_zero]at hg;rw [hg];omega)
theorem aCb (s:aE) :∀ (t:aE) (i:Nat),s.drop i=t→Ends PP 0 (xM s i).as (.ret (.bool (eT t))) (aG [] 0)
 | [],i,h=>aMR s i (bD h)
 | c :: t,i,h=>by
  obtain⟨h1,h2,h3⟩ :=bB h;obtain⟨r,d,q1,q2,q3⟩ :=aYw h1;by_cases g1:c.toNat<97
  · have:= (q2 (by omega)).1;exact Ends.eqv (aMO s i r d h3 q1 sd) (by simp [eT,rI];omega)
  · by_cases g2:122<c.toNat
    · have hr:122<r:=by
       by_cases k:c.toNat<128
       ·have:= (q2 k).1;omega
       ·have:=q3 (by omega);omega
      exact Ends.eqv (aMP s i r d h3 q1 sd sd) (by simp [eT,rI];omega)
    · obtain⟨rfl,rfl⟩ :=q2 (by omega);refine(aMQ s i _ _ h3 q1 sd sd).ends ?_;have e:rI c=true:=by simp [rI];omega
      exact Ends.eqv (aCb s t (i+1) h2) (by simp [eT,e])
theorem aCc (s:aE) :Pure PP 175 [aC s] (.bool (eT s)) :=
 aM (by kernel_rfl) rfl rfl ((aMN s).ends (aCb s s 0 rfl))
theorem fQ (s:aE) :Pure PP 179 [aC s] (.bool (cH s)) :=by
 refine aM (by kernel_rfl) rfl rfl ?_
 match s with
 | [] =>exact aMW [] rfl
 | c ::t=>
  have h0: (!(aQ (List.length (c::t)) (aB (c::t)) 0 0)) =true:=by rw [aA];rfl
  by_cases g0: (c::t).length≤8
  · have g0': (decide (((List.length (c::t) :Nat) :Int) ≤ (8:Int))) =true:=sd;by_cases g1:65≤c.toNat
    · by_cases g2:c.toNat≤90
      ·exact Ends.eqv (aMS (c::t) c _ h0 g0' rfl sd sd (by simp) (aCc t)) (by simp only [cH,decide_eq_true g0,decide_eq_true g1,decide_eq_true g2,Bool.true_and])
      ·exact Ends.eqv (aMT (c::t) c h0 g0' rfl sd sd) (by simp only [cH,decide_eq_false g2,Bool.and_false,Bool.false_and])
    ·exact Ends.eqv (aMU (c::t) c h0 g0' rfl sd) (by simp only [cH,decide_eq_false g1,Bool.and_false,Bool.false_and])
  ·exact Ends.eqv (aMV (c::t) h0 sd) (by simp only [cH,decide_eq_false g0,Bool.false_and])
theorem aQC (c:Con) :Pure PP 156 [Con.av c] (.bool (gI c)) :=by
 refine aM (by kernel_rfl) rfl rfl ?_;have hg:=fQ c.name;cases k:cH c.name with
 |false=>rw [k]at hg;exact Ends.eqv (aSF c false hg rfl) (by simp [gI,k])
 |true=>rw [k]at hg;exact Ends.eqv (aSE c true _ hg rfl (fP _ _ _)) (by simp [gI,k])
def nS (p:Prog)(x:Node) :Bool:=if x.op=14 then true else eG p x.op x.n
theorem aQD (p:Prog)(x:Node)(hf:p.funs.length≤1000) :Ends PP 0 (start PP 210 [Prog.av p,Node.av x]).as (.ret (.bool (nS p x))) (aG [] 0) :=by
 cases hb1: (x.op== (1:Int))with
 | true=>
  exact Ends.eqv (aJD p x  (aW (x.n) (-1000000000) 1000000000) hb1 (aBC (x.n))) (by simp_all [nS,eG] <;>rfl)
 | false=>
  cases hb2: (x.op== (2:Int))with
  | true=>
   exact Ends.eqv (aJE p x  (aW (x.n) 0 1) hb1 hb2 (fP (x.n) 0 1)) (by simp_all [nS,eG] <;>rfl)
  | false=>
   cases hb3: (x.op== (24:Int))with
   | true=>
    exact Ends.eqv (aJF p x  (aW (x.n) 0 3) hb1 hb2 hb3 (fP (x.n) 0 3)) (by simp_all [nS,eG] <;>rfl)
   | false=>
    cases hb4: (x.op== (4:Int))with
    | true=>
     exact Ends.eqv (aJG p x  (aW (x.n) (0- ((List.length p.funs:Nat) :Int)) 29) hb1 hb2 hb3 hb4 sdI (fP (x.n) (0- ((List.length p.funs:Nat) :Int)) 29)) (by simp_all [nS,eG] <;>rfl)
    | false=>
     cases hb5: (x.op== (14:Int))with
     | true=>
      exact Ends.eqv (aJH p x   hb1 hb2 hb3 hb4 hb5) (by simp_all [nS,eG] <;>rfl)
     | false=>
      exact Ends.eqv (aJI p x   hb1 hb2 hb3 hb4 hb5) (by simp_all [nS,eG] <;>rfl)
theorem aHG (p:Prog)(x:Node)(hf:p.funs.length≤1000) :Pure PP 210 [Prog.av p,Node.av x] (.bool (nS p x)) :=
 aM (by kernel_rfl) rfl rfl (aQD p x hf)
mutual
def pO :Pat→Int→Int
 | .mk _ _ _ ps,most=>lX ps most 1
def lX :List Pat→Int→Int→Int
 | [],_,n=>n
 |p::ps,most,n=>if n>most then n else lX ps most (n+pO p (most-n))
end
mutual
theorem aD0 :∀ (p:Pat) (m:Int),0≤m→1≤pO p m∧pO p m≤m+1
 | .mk _ _ _ ps,m,h=>by rw [pO];exact aFQ ps m 1 (by omega) (by omega)
theorem aFQ :∀ (ps:List Pat) (m n:Int),1≤n→n≤m+1→1≤lX ps m n∧lX ps m n≤m+1
 | [],m,n,h1,h2=>by rw [lX];omega
 | p ::ps,m,n,h1,h2=>by
  rw [lX];split
  ·omega
  · have a:=aD0 p (m-n) (by omega);exact aFQ ps m _ (by omega) (by omega)
end
mutual
theorem aKd :∀ (p:Pat) (m:Int),0≤m→ ((aP p:Int) ≤m→pO p m=aP p) ∧ (m<aP p→m<pO p m)
 | .mk _ _ _ ps,m,h=>by
  have:=aFR ps m 1 (by omega);simp only [pO,aP];constructor
  ·intro g;have:=this.1 (by omega);omega
  ·intro g;exact this.2 (by omega)
theorem aFR :∀ (ps:List Pat) (m n:Int),n≤m+1→ (n+aK ps≤m→lX ps m n=n+aK ps) ∧ (m<n+aK ps→m<lX ps m n)
 | [],m,n,h=>by simp only [lX,aK];omega
 | p ::ps,m,n,h=>by
  simp only [lX,aK];split
  ·omega
  · rename_i k;have a:=aKd p (m-n) (by omega);have l:=aD0 p (m-n) (by omega);have b:=aFR ps m (n+pO p (m-n)) (by omega);constructor
    · intro g;have:=a.1 (by omega);have:=b.1 (by omega);omega
    · intro g;refine b.2 ?_;by_cases q: (aP p:Int) ≤m-n
      ·have:=a.1 q;omega
      ·have:=a.2 (by omega);omega
end
theorem aFS (p:Pat)(m:Int)(h:0≤m) :pO p m≤m↔ (aP p:Int) ≤m:=by
 have:=aKd p m h;constructor
 · intro g;by_cases k: (aP p:Int) ≤m
   ·exact k
   ·have:=this.2 (by omega);omega
 ·intro g;have:=this.1 g;omega
theorem aD1 (f n:Int)(s:aE)(ps:List Pat)(m:Int)(hm:m≤1000)(ih:∀p∈ps,∀m:Int,0≤m→m≤1000→Pure PP 208 [Pat.av p,.int .i64 m] (.int .i64 (pO p m))) :
  ∀ (t:List Pat) (i:Nat) (k:Int),ps.drop i=t→ (i:Int) +1≤k→k≤m+1→Ends PP 0 (aAX f n s ps m k (i:Int)).as (.ret (.int .i64 (lX t m k))) (aG [] 0)
 | [],i,k,h,h1,h2=>by
  have:=bD h;rw [lX];exact aQi f n s ps m k i sd
 | .mk f' n' s' ps'::t,i,k,h,h1,h2=>by
  obtain⟨g1,g2,g3⟩ :=bB h;rw [lX];split
  ·exact aQg f n s ps m k i f' n' s' ps' sd sd sd sd
  · rename_i hk;have l:=aD0 (.mk f' n' s' ps') (m-k) (by omega);refine(aQh f n s ps m k i f' n' s' ps' _ sd sd sd sd sd (ih (.mk f' n' s' ps') (List.mem_of_getElem? g1) (m-k) (by omega) (by omega)) sd sd).ends ?_;exact aD1 f n s ps m hm ih t (i+1) _ g2 (by omega) (by omega)
mutual
theorem aD2 :∀ (p:Pat) (m:Int),0≤m→m≤1000→Pure PP 208 [Pat.av p,.int .i64 m] (.int .i64 (pO p m))
 | .mk f n s ps,m,h0,h1=>by
  refine aM (by kernel_rfl) (by simp [AV.keylessL,fC,AV.keyless]) rfl ?_;rw [pO];refine(aQf f n s ps m).ends ?_;exact aD1 f n s ps m h1 (aFT ps) ps 0 1 rfl (by omega) (by omega)
theorem aFT :∀ (ps:List Pat),∀p∈ps,∀m:Int,0≤m→m≤1000→Pure PP 208 [Pat.av p,.int .i64 m] (.int .i64 (pO p m))
 | [],p,hp,_,_,_=>by cases hp
 | q::ps,p,hp,m,h0,h1=>by
  rcases List.mem_cons.1 hp with e|hp
  ·rw [e];exact aD2 q m h0 h1
  ·exact aFT ps p hp m h0 h1
end
end Go.Hb
namespace Go.Hb
open Go.Proofs
noncomputable section
open Go.Proofs Tryz
end
end Go.Hb
namespace Go.Hb
open Go.Proofs
noncomputable section
open Go.Proofs Tryz
def aAY(b i:Int)(c:aE)(d:List Pat)(e:List Int)(f g:Int)(a:List Pat):TS:=⟨(tf 194 36 [(1,(iI e)),kp 2 0,kp 4 1,(5,(.gl 2 4 0 a.length false)),(6,(nI g))] [kc f194 244,kl f194 244,.inBlock 0,kc f194 31]),[],[oC 0 [(nI b),(nI f),(aC c),(iP d)],oC 1 [(nI 0),(nI 0),(.str 0 0),.nils],oL 2 4 (Pats.av a)],3⟩
def bHW(b a:Int)(d:aE)(e:List Pat)(c:List Int):=tT 0 (start PP 194 [(.agg [(nI b),(nI a),(aC d),(iP e)]),(iI c)])<|.b 12 9 (b==6) (gX dF 5 c a<|fun f=>.i [rn 15,.nilL 5 4] []<|gu 0 2 (Pats.av ([] :List Pat))<|gs 0 5 (.gl 2 4 0 ([] :List Pat).length false)<|.W 0 3 [0,1,2] (aAY b a d e c f 0 ([] :List Pat)))<|.i [rn 13,.nilL 5 4] []<|gu 0 2 (Pats.av ([] :List Pat))<|gs 0 5 (.gl 2 4 0 ([] :List Pat).length false)<|.W 0 3 [0,1,2] (aAY b a d e c a 0 ([] :List Pat))
def aS9:=fun a b c d e f g i j=>bHW a b c d e|>.t g f i j ⟨bL,trivial⟩
def aTa:=fun a b c d e f=>bHW a b c d e|>.f f ⟨bL,trivial⟩
def bHX(d m:Int)(e:aE)(a:List Pat)(f:List Int)(g b:Int)(c:List Pat):=tT 0 (aAY d m e a f g b c)<|gm 6 aF a<|gd 2 20 (b< (a.length:Int)) (mW 9 a b<|fun n o p q=>.y fun i:Int=>.y fun j:Int=>.y fun k:aE=>.y fun l:List Pat=>gp 2 194 [(.agg [(nI n),(nI o),(aC p),(iP q)]),(iI f)] (.agg [(nI i),(nI j),(aC k),(iP l)])<|gA 1 aF c [(Pat.mk i j k l)]<|gw 6 22 (b+1)<|.W 3 5 [0,1,4] (aAY d m e a f g (b+1) (c++ [(Pat.mk i j k l)])))<|gZ 6 33 2 4 aF bL c false<|gE 8 3 (.agg [(nI d),(nI g),(aC e),(iP c)])
def aTb:=fun a b c d e f g i j k l m n o p q r s t u v w=>bHX a b c d e f g i|>.t r j k l m s t n o p q u v w ⟨bL,trivial⟩
def aTc:=fun a b c d e f g i j=>bHX a b c d e f g i|>.f j tv
end
end Go.Hb
