/- A machine on abstract values, its soundness, ways, plain laws. -/
import Derived.Test.YtchdjelfnchjcaaGreatHF
set_option linter.defProp false
set_option linter.unusedVariables false
set_option linter.unusedSimpArgs false
set_option linter.unusedSectionVars false
set_option maxRecDepth 100000
set_option maxHeartbeats 8000000
namespace Go.Hb
open AV (int keyless keylessL str)
open List (drop length map mem_of_getElem?)
open Nat (add_zero blt div mod pow)
open Go.Proofs Tryz
noncomputable section
inductive Typ where
 |mk (sort n:Int) (text:aE) (parts:List Typ)
mutual
def Typ.av :Typ→AV
 | .mk f n t ps=>.agg [.int .i64 f,.int .i64 n,aD t,.ilst 4 (Typs.av ps) false]
def Typs.av :List Typ→List AV
 | [] =>[]
 |p::ps=>Typ.av p::Typs.av ps
end
theorem aU :∀l,Typs.av l=map Typ.av l
 | [] =>rfl
 |p::ps=>by rw [Typs.av,aU ps];rfl
mutual
theorem kU :∀p,keyless (Typ.av p) =true
 | .mk f n t ps=>by simp [Typ.av,keyless,keylessL,aD]
theorem aF1 :∀l,keylessL (Typs.av l) =true
 | [] =>rfl
 |p::ps=>by rw [Typs.av,keylessL,kU p,aF1 ps];rfl
end
inductive Term where
 |mk (op n:Int) (text:aE) (kids:List Term) (pats:List Pat)
mutual
def Term.av :Term→AV
 | .mk o n t ks ps=>.agg [.int .i64 o,.int .i64 n,aD t,.ilst 5 (Terms.av ks) false,.ilst 4 (Pats.av ps) false]
def Terms.av :List Term→List AV
 | [] =>[]
 |p::ps=>Term.av p::Terms.av ps
end
theorem cG :∀l,Terms.av l=map Term.av l
 | [] =>rfl
 |p::ps=>by rw [Terms.av,cG ps];rfl
mutual
theorem fC :∀p,keyless (Term.av p) =true
 | .mk o n t ks ps=>by simp [Term.av,keyless,keylessL,aD]
theorem aDo :∀l,keylessL (Terms.av l) =true
 | [] =>rfl
 |p::ps=>by rw [Terms.av,keylessL,fC p,aDo ps];rfl
end
theorem tW {l:List Typ}:keylessL (Typs.av l) =true:=aF1 l
theorem sN {l:List Term}:keylessL (Terms.av l) =true:=aDo l
noncomputable abbrev yJ (n:Nat)(l:List Typ)(i:Int)(a:Int→Int→aE→List Typ→Tr) :Tr:=.y fun p=>.y fun q=>.y fun r=>.y fun s=>giF aU n l i (.mk p q r s) (a p q r s)
noncomputable abbrev aDp (n:Nat)(l:List Term)(i:Int)(a:Int→Int→aE→List Term→List Pat→Tr) :Tr:=.y fun p=>.y fun q=>.y fun r=>.y fun s=>.y fun t=>giF cG n l i (.mk p q r s t) (a p q r s t)
structure ConD where
 name:aE
 args:List Typ
def ConD.av (c:ConD) :AV:=.agg [aD c.name,.ilst 4 (Typs.av c.args) false]
structure DataD where
 name:aE
 cons:List ConD
def DataD.av (d:DataD) :AV:=.agg [aD d.name,.ilst 2 (map ConD.av d.cons) false]
inductive FunD where
 |mk (name param:aE) (frm to:Typ) (body:Term)
def FunD.av :FunD→AV
 | .mk n p (.mk f0 f1 f2 f3) (.mk g0 g1 g2 g3) (.mk b0 b1 b2 b3 b4) =>.agg [aD n,aD p,.int .i64 f0,.int .i64 f1,aD f2,.ilst 4 (Typs.av f3) false,.int .i64 g0,.int .i64 g1,aD g2,.ilst 4 (Typs.av g3) false,.int .i64 b0,.int .i64 b1,aD b2,.ilst 5 (Terms.av b3) false,.ilst 4 (Pats.av b4) false]
def FunDs.av (l:List FunD) :List AV:=map FunD.av l
theorem bE :∀l,FunDs.av l=map FunD.av l:=fun _=>rfl
theorem aIq :∀f,keyless (FunD.av f) =true
 | .mk n p (.mk f0 f1 f2 f3) (.mk g0 g1 g2 g3) (.mk b0 b1 b2 b3 b4) =>by simp [FunD.av,keyless,keylessL,aD]
theorem cX {l:List FunD}:keylessL (FunDs.av l) =true:=iZ _ aIq _
structure Mod where
 name:aE
 datas:List DataD
 funs:List FunD
def Mod.av (m:Mod) :AV:=.agg [aD m.name,.ilst 2 (map DataD.av m.datas) false,.ilst 15 (FunDs.av m.funs) false]
inductive Part where
 |data (d:DataD)
 |fn (f:FunD)
def Part.av :Part→AV
 | .data d=>.iface 129 (DataD.av d)
 | .fn f=>.iface 131 (FunD.av f)
def Parts.av (l:List Part) :List AV:=map Part.av l
theorem lM :∀l,Parts.av l=map Part.av l:=fun _=>rfl
theorem aEn :∀x,keyless (Part.av x) =true
 | .data d=>by simp [Part.av,DataD.av,keyless,keylessL,aD]
 | .fn f=>by simp only [Part.av,keyless];exact aIq f
theorem sO {l:List Part}:keylessL (Parts.av l) =true:=iZ _ aEn _
def kwL :List aE:=[(strOf [98,111,111,108]),(strOf [99,101,108,108]),(strOf [99,104,97,110]),(strOf [101,108,115,101]),(strOf [102,97,108,115,101]),(strOf [102,117,110]),(strOf [103,101,116]),(strOf [105,102]),(strOf [105,110]),(strOf [105,110,112,117,116]),(strOf [105,110,116]),(strOf [106,111,105,110]),(strOf [108,101,116]),(strOf [109,97,116,99,104]),(strOf [109,111,100,117,108,101]),(strOf [111,117,116]),(strOf [112,97,117,115,101]),(strOf [112,117,116]),(strOf [114,101,115,101,116]),(strOf [115,101,110,100]),(strOf [115,104,105,102,116]),(strOf [115,112,97,119,110]),(strOf [116,97,107,101]),(strOf [116,97,115,107]),(strOf [116,104,101,110]),(strOf [116,114,117,101]),(strOf [116,121,112,101]),(strOf [117,110,105,116])]
def aWS:TS:=cK PP 159 [] [] 0
def aPy:=(tT 0 (aWS)<|.i [rn 10,.toL 0 false [(.str 4 1819242338),(.str 4 1819043171),(.str 4 1851877475),(.str 4 1702063205),(.str 5 435728179558),(.str 3 7239014),(.str 3 7628135),(.str 2 26217),(.str 2 28265),(.str 5 500186508905),(.str 3 7630441),(.str 4 1852403562),(.str 3 7628140),(.str 5 448345170285),(.str 6 111516500389741),(.str 3 7632239),(.str 5 435728769392),(.str 3 7632240),(.str 5 499918267762),(.str 4 1684956531),(.str 5 499934390387),(.str 5 474449277043),(.str 4 1701536116),(.str 4 1802723700),(.str 4 1852139636),(.str 4 1702195828),(.str 4 1701869940),(.str 4 1953066613)]] [hr (some [(str 4 1819242338),(str 4 1819043171),(str 4 1851877475),(str 4 1702063205),(str 5 435728179558),(str 3 7239014),(str 3 7628135),(str 2 26217),(str 2 28265),(str 5 500186508905),(str 3 7630441),(str 4 1852403562),(str 3 7628140),(str 5 448345170285),(str 6 111516500389741),(str 3 7632239),(str 5 435728769392),(str 3 7632240),(str 5 499918267762),(str 4 1684956531),(str 5 499934390387),(str 5 474449277043),(str 4 1701536116),(str 4 1802723700),(str 4 1852139636),(str 4 1702195828),(str 4 1701869940),(str 4 1953066613)]),hr true]<|gu 0 0 (map aD kwL)<|gs 0 0 (.gl 0 1 0 kwL.length true)<|.i [.weak 0] []<|gz 0 0 0 1 aD kwL false<|gE 0 1 (iS kwL)) tv
def aKQ (c:aE):=fun a b d e=>(tT 0 (start PP 113 [(aD c)])<|.y fun a:List aE=>gp 6 159 [] (iS a)<|cZ 1 77 [(iS a),(aD c)]<|fun b=>gE 3 0 (bV b)) a d b e tv
def aIr(a:aE):=tT 0 (start PP 72 [(aD a)])<|gd 10 6 ((a.length:Int) ≥1) (gd 5 11 ((a.length:Int) ≤8) (cZ 1 112 [(aD a)]<|fun b=>.b 2 15 b (cZ 1 113 [(aD a)]<|fun c=>gE 5 0 (bV (!c)))<|gE 7 0 (bV false))<|gE 11 0 (bV false))<|gE 16 0 (bV false)
def aPz:=fun a b c d e f g i=>aIr a|>.t d|>.t e b f|>.t g c i tv
def aPA:=fun a b c d e f=>aIr a|>.t c|>.t d b e|>.f f tv
def aPB:=fun a b c=>aIr a|>.t b|>.f c tv
def aPC:=fun a b=>aIr a|>.f b tv
def aWT(a b c:Int):=tT 0 (start PP 73 [(nI a),(nI b),(nI c)])<|gd 10 10 (a≥b) (gE 7 0 (bV (decide (a≤c))))<|gE 7 0 (bV false)
def aKR:=fun a b c d=>aWT a b c|>.t d tv
def aKS:=fun a b c d=>aWT a b c|>.f d tv
def eE(a:aE):=tT 0 (start PP 97 [(aD a)])<|.b 16 4 (aP a.length (aA a) 4 1819242338) (gE 8 0 (bV true))<|.b 6 4 (aP a.length (aA a) 4 1819043171) (gE 8 0 (bV true))<|.b 6 4 (aP a.length (aA a) 4 1851877475) (gE 8 0 (bV true))<|.b 6 4 (aP a.length (aA a) 4 1702063205) (gE 8 0 (bV true))<|.b 6 4 (aP a.length (aA a) 5 435728179558) (gE 8 0 (bV true))<|.b 6 4 (aP a.length (aA a) 3 7239014) (gE 8 0 (bV true))<|.b 6 4 (aP a.length (aA a) 3 7628135) (gE 8 0 (bV true))<|.b 6 4 (aP a.length (aA a) 2 26217) (gE 8 0 (bV true))<|.b 6 4 (aP a.length (aA a) 2 28265) (gE 8 0 (bV true))<|.b 6 4 (aP a.length (aA a) 5 500186508905) (gE 8 0 (bV true))<|.b 6 4 (aP a.length (aA a) 3 7630441) (gE 8 0 (bV true))<|.b 6 4 (aP a.length (aA a) 4 1852403562) (gE 8 0 (bV true))<|.b 6 4 (aP a.length (aA a) 3 7628140) (gE 8 0 (bV true))<|.b 6 4 (aP a.length (aA a) 5 448345170285) (gE 8 0 (bV true))<|.b 6 4 (aP a.length (aA a) 6 111516500389741) (gE 8 0 (bV true))<|.b 6 4 (aP a.length (aA a) 3 7632239) (gE 8 0 (bV true))<|.b 6 4 (aP a.length (aA a) 5 435728769392) (gE 8 0 (bV true))<|.b 6 4 (aP a.length (aA a) 3 7632240) (gE 8 0 (bV true))<|.b 6 4 (aP a.length (aA a) 5 499918267762) (gE 8 0 (bV true))<|.b 6 4 (aP a.length (aA a) 4 1684956531) (gE 8 0 (bV true))<|.b 6 4 (aP a.length (aA a) 5 499934390387) (gE 8 0 (bV true))<|.b 6 4 (aP a.length (aA a) 5 474449277043) (gE 8 0 (bV true))<|.b 6 4 (aP a.length (aA a) 4 1701536116) (gE 8 0 (bV true))<|.b 6 4 (aP a.length (aA a) 4 1802723700) (gE 8 0 (bV true))<|.b 6 4 (aP a.length (aA a) 4 1852139636) (gE 8 0 (bV true))<|.b 6 4 (aP a.length (aA a) 4 1702195828) (gE 8 0 (bV true))<|.b 6 4 (aP a.length (aA a) 4 1701869940) (gE 8 0 (bV true))<|.b 5 4 (aP a.length (aA a) 4 1953066613) (gE 6 0 (bV true))<|gE 8 0 (bV false)
def aPD:=fun a b=>eE a|>.t b tv
def aPE:=fun a b c=>eE a|>.f b|>.t c tv
def aPF:=fun a b c d=>eE a|>.f b|>.f c|>.t d tv
def aPG:=fun a b c d e=>eE a|>.f b|>.f c|>.f d|>.t e tv
def aPH:=fun a b c d e f=>eE a|>.f b|>.f c|>.f d|>.f e|>.t f tv
def aPI:=fun a b c d e f g=>eE a|>.f b|>.f c|>.f d|>.f e|>.f f|>.t g tv
def aPJ:=fun a b c d e f g i=>eE a|>.f b|>.f c|>.f d|>.f e|>.f f|>.f g|>.t i tv
def aPK:=fun a b c d e f g i j=>eE a|>.f b|>.f c|>.f d|>.f e|>.f f|>.f g|>.f i|>.t j tv
def aPL:=fun a b c d e f g i j k=>eE a|>.f b|>.f c|>.f d|>.f e|>.f f|>.f g|>.f i|>.f j|>.t k tv
def aPM:=fun a b c d e f g i j k l=>eE a|>.f b|>.f c|>.f d|>.f e|>.f f|>.f g|>.f i|>.f j|>.f k|>.t l tv
def aKT:=fun a b c d e f g i j k l m=>eE a|>.f b|>.f c|>.f d|>.f e|>.f f|>.f g|>.f i|>.f j|>.f k|>.f l|>.t m tv
def aKU:=fun a b c d e f g i j k l m n=>eE a|>.f b|>.f c|>.f d|>.f e|>.f f|>.f g|>.f i|>.f j|>.f k|>.f l|>.f m|>.t n tv
def aKV:=fun a b c d e f g i j k l m n o=>eE a|>.f b|>.f c|>.f d|>.f e|>.f f|>.f g|>.f i|>.f j|>.f k|>.f l|>.f m|>.f n|>.t o tv
def aKW:=fun a b c d e f g i j k l m n o p=>eE a|>.f b|>.f c|>.f d|>.f e|>.f f|>.f g|>.f i|>.f j|>.f k|>.f l|>.f m|>.f n|>.f o|>.t p tv
def aKX:=fun a b c d e f g i j k l m n o p q=>eE a|>.f b|>.f c|>.f d|>.f e|>.f f|>.f g|>.f i|>.f j|>.f k|>.f l|>.f m|>.f n|>.f o|>.f p|>.t q tv
def aKY:=fun a b c d e f g i j k l m n o p q r=>eE a|>.f b|>.f c|>.f d|>.f e|>.f f|>.f g|>.f i|>.f j|>.f k|>.f l|>.f m|>.f n|>.f o|>.f p|>.f q|>.t r tv
def aKZ:=fun a b c d e f g i j k l m n o p q r s=>eE a|>.f b|>.f c|>.f d|>.f e|>.f f|>.f g|>.f i|>.f j|>.f k|>.f l|>.f m|>.f n|>.f o|>.f p|>.f q|>.f r|>.t s tv
def aK0:=fun a b c d e f g i j k l m n o p q r s t=>eE a|>.f b|>.f c|>.f d|>.f e|>.f f|>.f g|>.f i|>.f j|>.f k|>.f l|>.f m|>.f n|>.f o|>.f p|>.f q|>.f r|>.f s|>.t t tv
def aK1:=fun a b c d e f g i j k l m n o p q r s t u=>eE a|>.f b|>.f c|>.f d|>.f e|>.f f|>.f g|>.f i|>.f j|>.f k|>.f l|>.f m|>.f n|>.f o|>.f p|>.f q|>.f r|>.f s|>.f t|>.t u tv
def aK2:=fun a b c d e f g i j k l m n o p q r s t u v=>eE a|>.f b|>.f c|>.f d|>.f e|>.f f|>.f g|>.f i|>.f j|>.f k|>.f l|>.f m|>.f n|>.f o|>.f p|>.f q|>.f r|>.f s|>.f t|>.f u|>.t v tv
def aK3:=fun a b c d e f g i j k l m n o p q r s t u v w=>eE a|>.f b|>.f c|>.f d|>.f e|>.f f|>.f g|>.f i|>.f j|>.f k|>.f l|>.f m|>.f n|>.f o|>.f p|>.f q|>.f r|>.f s|>.f t|>.f u|>.f v|>.t w tv
def aK4:=fun a b c d e f g i j k l m n o p q r s t u v w x=>eE a|>.f b|>.f c|>.f d|>.f e|>.f f|>.f g|>.f i|>.f j|>.f k|>.f l|>.f m|>.f n|>.f o|>.f p|>.f q|>.f r|>.f s|>.f t|>.f u|>.f v|>.f w|>.t x tv
def aK5:=fun a b c d e f g i j k l m n o p q r s t u v w x y=>eE a|>.f b|>.f c|>.f d|>.f e|>.f f|>.f g|>.f i|>.f j|>.f k|>.f l|>.f m|>.f n|>.f o|>.f p|>.f q|>.f r|>.f s|>.f t|>.f u|>.f v|>.f w|>.f x|>.t y tv
def aK6:=fun a b c d e f g i j k l m n o p q r s t u v w x y z=>eE a|>.f b|>.f c|>.f d|>.f e|>.f f|>.f g|>.f i|>.f j|>.f k|>.f l|>.f m|>.f n|>.f o|>.f p|>.f q|>.f r|>.f s|>.f t|>.f u|>.f v|>.f w|>.f x|>.f y|>.t z tv
def aK7:=fun a b c d e f g i j k l m n o p q r s t u v w x y z A=>eE a|>.f b|>.f c|>.f d|>.f e|>.f f|>.f g|>.f i|>.f j|>.f k|>.f l|>.f m|>.f n|>.f o|>.f p|>.f q|>.f r|>.f s|>.f t|>.f u|>.f v|>.f w|>.f x|>.f y|>.f z|>.t A tv
def aK8:=fun a b c d e f g i j k l m n o p q r s t u v w x y z A B=>eE a|>.f b|>.f c|>.f d|>.f e|>.f f|>.f g|>.f i|>.f j|>.f k|>.f l|>.f m|>.f n|>.f o|>.f p|>.f q|>.f r|>.f s|>.f t|>.f u|>.f v|>.f w|>.f x|>.f y|>.f z|>.f A|>.t B tv
def aK9:=fun a b c d e f g i j k l m n o p q r s t u v w x y z A B C=>eE a|>.f b|>.f c|>.f d|>.f e|>.f f|>.f g|>.f i|>.f j|>.f k|>.f l|>.f m|>.f n|>.f o|>.f p|>.f q|>.f r|>.f s|>.f t|>.f u|>.f v|>.f w|>.f x|>.f y|>.f z|>.f A|>.f B|>.t C tv
def aLa:=fun a b c d e f g i j k l m n o p q r s t u v w x y z A B C D=>eE a|>.f b|>.f c|>.f d|>.f e|>.f f|>.f g|>.f i|>.f j|>.f k|>.f l|>.f m|>.f n|>.f o|>.f p|>.f q|>.f r|>.f s|>.f t|>.f u|>.f v|>.f w|>.f x|>.f y|>.f z|>.f A|>.f B|>.f C|>.t D tv
def aLb:=fun a b c d e f g i j k l m n o p q r s t u v w x y z A B C D=>eE a|>.f b|>.f c|>.f d|>.f e|>.f f|>.f g|>.f i|>.f j|>.f k|>.f l|>.f m|>.f n|>.f o|>.f p|>.f q|>.f r|>.f s|>.f t|>.f u|>.f v|>.f w|>.f x|>.f y|>.f z|>.f A|>.f B|>.f C|>.f D tv
def aIs(a:aE):=tT 0 (start PP 58 [(aD a)])<|.b 9 5 (!(aP a.length (aA a) 0 0)) (gd 5 10 ((a.length:Int) ≤8) (cZ 1 96 [(aD a)]<|fun b=>.b 2 14 b (cZ 1 97 [(aD a)]<|fun c=>gE 5 0 (bV (!c)))<|gE 7 0 (bV false))<|gE 11 0 (bV false))<|gE 16 0 (bV false)
def aPN:=fun a b c d e f g i=>aIs a|>.t d|>.t e b f|>.t g c i tv
def aPO:=fun a b c d e f=>aIs a|>.t c|>.t d b e|>.f f tv
def aPP:=fun a b c=>aIs a|>.t b|>.f c tv
def aPQ:=fun a b=>aIs a|>.f b tv
mutual
def kJ :Pat→Int→Int
 | .mk _ _ _ ps,left=>if left<1 then -1 else gU ps (left-1)
def gU :List Pat→Int→Int
 | [],left=>left
 |p::ps,left=>if 0≤left then gU ps (kJ p left)else left
end
mutual
theorem aF2 :∀ (p:Pat) (left:Int),0≤left→ -1≤kJ p left∧kJ p left≤left-1
 | .mk _ _ _ ps,left,h=>by
  rw [kJ];split
  ·omega
  ·have:=aDq ps (left-1) (by omega);omega
theorem aDq :∀ (ps:List Pat) (left:Int),-1≤left→ -1≤gU ps left∧gU ps left≤left
 | [],left,h=>by rw [gU];omega
 | p ::ps,left,h=>by
  rw [gU];split
  · rename_i h0;have a:=aF2 p left h0;have:=aDq ps (kJ p left) a.1;omega
  ·omega
end
theorem aAE (f n:Int)(s:aE)(ps:List Pat)(l0:Int)(ih:∀p∈ps,∀left:Int,0≤left→left≤1000→Pure PP 147 [Pat.av p,.int .i64 left] (.int .i64 (kJ p left))) :
  ∀ (t:List Pat) (i:Nat) (left:Int),ps.drop i=t→ -1≤left→ (i:Int) +left≤1000→Ends PP 0 (tV f n s ps l0 left (i:Int)).as (.ret (.int .i64 (gU t left))) (aO [] 0)
 | [],i,left,h,h1,h2=>by
  have:=bD h;rw [gU];exact aHH f n s ps l0 left i sd
 | .mk f' n' s' ps'::t,i,left,h,h1,h2=>by
  obtain⟨g1,g2,g3⟩ :=aW h;rw [gU];split
  · rename_i h0;have w:=aF2 (.mk f' n' s' ps') left h0;refine(aHF f n s ps l0 left i f' n' s' ps' _ sd sd sd sd (ih _ (mem_of_getElem? g1) left h0 (by omega)) sd).ends ?_;exact aAE f n s ps l0 ih t (i+1) _ g2 w.1 (by omega)
  ·exact aHG f n s ps l0 left i sd sd
mutual
theorem sP :∀ (p:Pat) (left:Int),-1≤left→left≤1000→Pure PP 147 [Pat.av p,.int .i64 left] (.int .i64 (kJ p left))
 | .mk f n s ps,left,h0,h1=>by
  refine bC (by kernel_rfl) (by simp [keylessL,lZ,keyless]) rfl ?_;rw [kJ];split
  ·exact aHD f n s ps left sd
  · refine(aHE f n s ps left sd sd).ends ?_;exact aAE f n s ps left (fun p hp left h0 h1=>aBW ps p hp left h0 h1) ps 0 _ rfl (by omega) (by omega)
theorem aBW :∀ (ps:List Pat),∀p∈ps,∀left:Int,0≤left→left≤1000→Pure PP 147 [Pat.av p,.int .i64 left] (.int .i64 (kJ p left))
 | [],p,hp,_,_,_=>by cases hp
 | q::ps,p,hp,left,h0,h1=>by
  rcases List.mem_cons.1 hp with e|hp
  ·rw [e];exact sP q left (by omega) h1
  ·exact aBW ps p hp left h0 h1
end
mutual
def sQ :Pat→Bool
 | .mk _ _ s ps=>yK ps&&decide (s.length≤30)
def yK :List Pat→Bool
 | [] =>true
 |p::ps=>sQ p&&yK ps
end
mutual
def bJ :Pat→Nat
 | .mk _ _ _ ps=>aZ ps+1
def aZ :List Pat→Nat
 | [] =>0
 |p::ps=>bJ p+aZ ps
end
theorem dJ :∀ps:List Pat,ps.length≤aZ ps
 | [] =>by simp [aZ]
 | .mk _ _ _ qs::ps=>by have:=dJ ps;simp only [aZ,bJ,List.length_cons];omega
mutual
theorem aBX :∀ (p:Pat) (left:Int),0≤kJ p left→kJ p left=left-bJ p
 | .mk _ _ _ ps,left,h=>by
  rw [kJ]at h ⊢;split at h
  ·omega
  · rename_i h1;rw [if_neg h1];have:=aAF ps (left-1) h;simp only [bJ];omega
theorem aAF :∀ (ps:List Pat) (left:Int),0≤gU ps left→gU ps left=left-aZ ps
 | [],left,h=>by simp [gU,aZ]
 | p ::ps,left,h=>by
  rw [gU]at h ⊢;split at h
  · rename_i h1;rw [if_pos h1];have a:=aAF ps _ h;have b:=aBX p left (by omega);simp only [aZ];omega
  ·omega
end
mutual
theorem aBY :∀ (p:Pat) (left:Int),(bJ p:Int) ≤left→kJ p left=left-bJ p
 | .mk _ _ _ ps,left,h=>by
  simp only [bJ]at h ⊢;rw [kJ,if_neg (by omega),aAG ps (left-1) (by omega)];omega
theorem aAG :∀ (ps:List Pat) (left:Int),(aZ ps:Int) ≤left→gU ps left=left-aZ ps
 | [],left,h=>by simp [gU,aZ]
 | p::ps,left,h=>by
  simp only [aZ]at h ⊢;rw [gU,if_pos (by omega),aBY p left (by omega),aAG ps _ (by omega)];omega
end
theorem aAc (p:Pat)(left:Int) :0≤kJ p left↔ (bJ p:Int) ≤left:=by
 constructor
 ·intro h;have:=aBX p left h;omega
 ·intro h;rw [aBY p left h];omega
theorem sR (f n:Int)(s:aE)(ps:List Pat)(hl:ps.length<1000000)(ih:∀p∈ps,Pure PP 148 [Pat.av p] (.bool (sQ p))) :
  ∀ (t:List Pat) (i:Nat),ps.drop i=t→Ends PP 0 (lF f n s ps (i:Int)).as (.ret (.bool (yK t&&decide (s.length≤30)))) (aO [] 0)
 | [],i,h=>by
  have:=bD h;have e:decide (((length s:Nat) :Int) ≤ (30:Int)) =decide (s.length≤30) :=by congr 1;simp;omega
  rw [yK,Bool.true_and,←e];exact aCP f n s ps i sd
 | .mk f' n' s' ps'::t,i,h=>by
  obtain⟨g1,g2,g3⟩ :=aW h;have ihp:=ih _ (mem_of_getElem? g1);rw [yK];cases hb:sQ (.mk f' n' s' ps')with
  | false=>
   rw [hb]at ihp;exact aCN f n s ps i f' n' s' ps' false sd sd sd ihp rfl
  | true=>
   rw [hb]at ihp;refine(aCO f n s ps i f' n' s' ps' true sd sd sd ihp rfl sd).ends ?_;rw [Bool.true_and];exact sR f n s ps hl ih t (i+1) g2
mutual
theorem sS :∀ (p:Pat),bJ p<1000000→Pure PP 148 [Pat.av p] (.bool (sQ p))
 | .mk f n s ps,h=>by
  refine bC (by kernel_rfl) (by simp [keylessL,lZ]) rfl ?_;simp only [bJ]at h;have:=dJ ps;refine(aCM f n s ps).ends ?_;rw [sQ];exact sR f n s ps (by omega) (vN ps (by omega)) ps 0 rfl
theorem vN :∀ (ps:List Pat),aZ ps<1000000→∀p∈ps,Pure PP 148 [Pat.av p] (.bool (sQ p))
 | [],_,p,hp=>by cases hp
 | q::ps,h,p,hp=>by
  simp only [aZ]at h;rcases List.mem_cons.1 hp with e|hp
  ·rw [e];exact sS q (by omega)
  ·exact vN ps (by omega) p hp
end
def mA (p:Pat) :Bool:=decide (bJ p≤16) &&sQ p
theorem aEo (p:Pat) :Pure PP 101 [Pat.av p] (.bool (mA p)) :=by
 refine bC (by kernel_rfl) (by simp [keylessL,lZ]) rfl ?_;obtain⟨f,n,s,ps⟩ :=p;have hw:=sP (.mk f n s ps) 16 (by omega) (by omega);by_cases h:bJ (.mk f n s ps) ≤16
 · have e:mA (.mk f n s ps) =sQ (.mk f n s ps) :=by simp [mA,h]
   rw [e];have hg:0≤kJ (.mk f n s ps) 16:= (aAc (.mk f n s ps) 16).2 (by omega);exact aFY f n s ps _ _ hw (decide_eq_true hg) (sS (.mk f n s ps) (by omega))
 · have e:mA (.mk f n s ps) =false:=by simp [mA,h]
   rw [e];refine aFZ f n s ps _ hw (decide_eq_false fun g=>h ?_);have:= (aAc (.mk f n s ps) 16).1 g;omega
def aJG (l:List Con) :Bool:=l.all fun c=>decide (c.name.length≤40)
def aJH (l:List Pat) :Bool:=l.all mA
def aAd (x:Node) :Bool:=decide (x.kids.length≤10) &&decide (x.pats.length≤10) &&aJH x.pats
def jS (p:Prog) :Bool:=decide (p.nodes.length≤320) &&decide (p.funs.length≤320) &&decide (p.cons.length≤25) &&aJG p.cons&&p.nodes.all aAd
theorem Ends.eqv {P:Program}{m:Nat}{s:AS}{v v':AV}{h':Hp}(h:Ends P m s (.ret v) h')(e:v=v') :Ends P m s (.ret v') h':=e ▸ h
theorem inB_iff {n lo hi:Int}:cC n lo hi=true↔lo≤n∧n≤hi:=by simp [cC]
theorem aPR {n lo hi:Int}:cC n lo hi=false↔¬ (lo≤n∧n≤hi) :=by simp [cC]
theorem sdI {p:Prop}(h:p:=by first|assumption|rfl| (simp only [Int.toNat_natCast];assumption) | (simp only [decide_eq_true_eq,decide_eq_false_iff_not];omega) |omega| (apply wrap64<;>omega) | (simp_all;done) | (simp only [inB_iff,aPR,beq_iff_eq,decide_eq_true_eq,decide_eq_false_iff_not]at *;omega)) :p:=h
def aLc (op pats args:Int) :Int:=
 if op=1∨op=2∨op=3∨op=4∨op=21∨op=25∨op=28 then 0
 else if op=5∨op=27∨op=16∨op=17∨op=19∨op=20∨op=23∨op=26∨op=24 then 1
 else if op=6∨op=7∨op=9∨op=10∨op=11∨op=12∨op=13∨op=18∨op=22 then 2
 else if op=8 then 3 else if op=15 then 1+pats else if op=14 then args else -1
def aBZ (cons:List Con)(n:Int) :Int:=match cons[n.toNat]? with
 |some c=>c.args
 |none=> -1
def aIt (cons:List Con)(f n:Int)(s:aE)(k:Nat) :Bool:=
 (if f=1∨f=2∨f=5 then decide (k=0) &&decide (n=0)
 else if f=3 then decide (k=0) &&cC n (-1000000000) 1000000000
 else if f=4 then decide (k=0) &&cC n 0 1
 else if f=6 then cC n 0 ((cons.length:Int) -1) &&decide ((k:Int) =aBZ cons n)
 else false) &&decide (s= [])
mutual
def aDr (cons:List Con) :Pat→Bool
 | .mk f n s ps=>aIt cons f n s ps.length&&wG cons ps
def wG (cons:List Con) :List Pat→Bool
 | [] =>true
 |p::ps=>aDr cons p&&wG cons ps
end
def aIu (c:Con) :Bool:=cB c.name&&cC c.args 0 3
def aJI (l:List Con) :List aE:=l.map Con.name
def aHI (l:List Con) :Bool:=l.all aIu&&decide (l.length≤20) &&hP (aJI l)
def aAe (p:Prog)(op n:Int) :Bool:=
 if op=1 then cC n (-1000000000) 1000000000
 else if op=2 then cC n 0 1
 else if op=4 then cC n (0- (p.funs.length:Int)) 29
 else if op=24 then cC n 0 3
 else if op=14 then cC n 0 ((p.cons.length:Int) -1)
 else decide (n=0)
def aF3 (p:Prog)(x:Node) :Bool:=
 aAe p x.op x.n&& (if x.op=15 then cC (x.pats.length:Int) 1 5 else decide (x.pats.length=0))
def aLd (p:Prog)(x:Node) :Int:=if x.op=14∧cC x.n 0 ((p.cons.length:Int) -1) =true then aBZ p.cons x.n else 0
def aEp (cons:List Con)(q:Pat) :Bool:=decide (bJ q≤12) &&aDr cons q
def qE (p:Prog)(x:Node) :Bool:=
 aF3 p x&&x.pats.all (aEp p.cons) &&decide ((x.kids.length:Int) =aLc x.op x.pats.length (aLd p x))
def marks (lo n:Int) :List Int→List Bool→Option (List Bool)
 | [],u=>some u
 |k::ks,u=>if cC k lo (n-1) =true∧u[k.toNat]?=some false then marks lo n ks (u.set k.toNat true)else none
theorem aAf {lo n:Int}:∀ {ks:List Int} {u v:List Bool},marks lo n ks u=some v→v.length=u.length
 | [],u,v,h=>by simp only [marks,Option.some.injEq]at h;rw [h]
 | k::ks,u,v,h=>by
  simp only [marks]at h;split at h
  ·have:=aAf h;simpa using this
  ·cases h
def hI (p:Prog) :Nat→List Node→List Bool→Option (List Bool)
 |_,[],u=>some u
 | i,x::t,u=>if qE p x=true then match marks ((i:Int) +1) (p.nodes.length:Int) x.kids u with
   |some v=>hI p (i+1) t v
   |none=>none
  else none
def allT :Option (List Bool) →Bool
 |some u=>u.all fun b=>b
 |none=>false
def aF4 (p:Prog) :Bool:=decide (p.nodes.length≤300) &&cC (p.funs.length:Int) 1 (p.nodes.length:Int) &&cC p.main 0 ((p.funs.length:Int) -1)
def gP (p:Prog) :Bool:=
 aF4 p&&aHI p.cons&& (match marks 0 (p.nodes.length:Int) p.funs (List.replicate p.nodes.length false)with
  |some u=>allT (hI p 0 p.nodes u)
  |none=>false)
def tX(a:aE)(b:Nat):TS:=⟨(tf 96 16 [(2,(bV false)),kp 6 0] [kc f96 52,kl f96 52,.inBlock 0,kc f96 7]),[],[(0,(.siter a.length (aA a) b),false)],1⟩
def aHJ (a:aE):=(tT 0 (start PP 96 [(aD a)])<|.W 12 1 [0] (tX a 0)) tv
def aPS(a:aE)(b:Nat):=tT 0 (tX a b)<|.o (.y fun c:Nat=>.y fun d:Nat=>.i [rn 2,.nxt c d] [hA (b<a.length),hA (aGZ a.length (aA a) b=some (c,d))]<|gd 16 12 ((c:Int) <97) (gE 10 1 (bV false))<|gd 4 15 ((c:Int) >122) (gE 6 1 (bV false))<|.W 4 1 [0] (tX a (Nat.add b d)))<|.i [rn 2,.nxtE] [hA (a.length≤b)]<|gE 10 1 (bV true)
def aHK:=fun a b c d e f g=>aPS a b|>.1 c d e f|>.t g tv
def aHL:=fun a b c d e f g i=>aPS a b|>.1 c d e f|>.f g|>.t i tv
def aHM:=fun a b c d e f g i=>aPS a b|>.1 c d e f|>.f g|>.f i tv
def aHN:=fun a b c=>aPS a b|>.2 c tv
def aLe(a:aE):=tT 0 (start PP 104 [(aD a)])<|.b 9 5 (!(aP a.length (aA a) 0 0)) (gd 5 10 ((a.length:Int) ≤8) (.y fun b:UInt8=>.i [rn 1,.ans (.ev (.int .u8 ((b.toNat:Nat) :Int)))] [.q (p:=0≤ (0:Int)) (by decide),.a ((a)[0]?=some b) (p':=(0:Int) < (a.length:Int)) (fun h=>(aAa (k:= (0:Int)) (by decide) h)),.a ((a)[0]?=some b) (p':=int .u8 ((mod (div (aA a) (pow 256 (0:Int).toNat)) 256:Nat) :Int) = (.int .u8 ((b.toNat:Nat) :Int))) (fun h=>(aAb (k:= (0:Int)) h))]<|gd 3 15 (((b.toNat:Nat) :Int) ≥65) (.i [rn 1,.ans (.ev (.int .u8 ((b.toNat:Nat) :Int)))] [.q (p:=0≤ (0:Int)) (by decide),.a ((a)[0]?=some b) (p':=(0:Int) < (a.length:Int)) (fun h=>(aAa (k:= (0:Int)) (by decide) h)),.a ((a)[0]?=some b) (p':=int .u8 ((mod (div (aA a) (pow 256 (0:Int).toNat)) 256:Nat) :Int) = (.int .u8 ((b.toNat:Nat) :Int))) (fun h=>(aAb (k:= (0:Int)) h))]<|gd 3 20 (((b.toNat:Nat) :Int) ≤90) (.i [rn 1,.ans (.ev (aD (drop 1 a)))] [.a (1≤length a) (p':=aJB PP 9 (aD a) (some (nI 1)) none (aD (drop 1 a))) (fun h=>(aAA (k:= (1:Int)) (by kernel_rfl) (by decide) h))]<|cZ 0 96 [(aD (drop 1 a))]<|fun c=>gE 4 0 (bV c))<|gE 7 0 (bV false))<|gE 12 0 (bV false))<|gE 17 0 (bV false))<|gE 22 0 (bV false)
def aHO:=fun b c d e f a g i j k=>aLe b|>.t e|>.t f c a a|>.t g a a|>.t i j d k tv
def aHP:=fun b c d e a f g=>aLe b|>.t d|>.t e c a a|>.t f a a|>.f g tv
def aHQ:=fun b c d e a f=>aLe b|>.t d|>.t e c a a|>.f f tv
def aHR:=fun a b c=>aLe a|>.t b|>.f c tv
def aHS:=fun a b=>aLe a|>.f b tv
theorem aJJ (b:ByteArray)(i:Nat)(h:128≤ (b.get! i).toNat) :128≤ (Utf8.decode b i).1:=by
 unfold Utf8.decode Utf8.runeError;simp only [add_zero];rw [if_neg (show ¬ (b.get! i).toNat<0x80 by omega)]
 repeat' split
 all_goals first
  |assumption
  | (simp_all;done)
  | (rename_i q;simp only [Bool.and_eq_true,decide_eq_true_eq,ge_iff_le]at q;simp only;omega)
theorem aPT {s:aE}{i:Nat}{c:UInt8}(h:s[i]?=some c) :∃r d,aGZ (length s) (aA s) i=some (r,d) ∧ (c.toNat<128→r=c.toNat∧d=1) ∧ (128≤c.toNat→128≤r) :=by
 have hi:= (List.getElem?_eq_some_iff.1 h).1;have hb:=byte_at h;unfold aGZ;have e1:blt i (length s) =true:=by rw [dC];exact decide_eq_true hi
 have e2:mod (div (aA s) (pow 256 i)) 256=c.toNat:=hb;rw [e1,e2];simp only [cond];by_cases k:c.toNat<128
 · have e3:blt c.toNat 128=true:=by rw [dC];exact decide_eq_true k
   rw [e3];exact⟨_,_,rfl,fun _=> ⟨rfl,rfl⟩,fun g=>by omega⟩
 · have e3:blt c.toNat 128=false:=by rw [dC];exact decide_eq_false k
   rw [e3];refine⟨_,_,rfl,fun g=>by omega,fun _=>?_⟩;have hn:aR (length s) (aA s) =s:=eB s;rw [hn];have hg: ((⟨⟨s⟩⟩ :ByteArray).get! (i+0)).toNat=c.toNat:=by
    simp only [add_zero,ByteArray.get!];have: (⟨s⟩ :Array UInt8)[i]! =c:=by
     rw [Array.getElem!_eq_getD,Array.getD_eq_getD_getElem?,show(⟨s⟩ :Array UInt8) =s.toArray from rfl,List.getElem?_toArray,h];rfl
    rw [this]
   exact aJJ _ _ (by rw [add_zero]at hg;rw [hg];omega)
theorem aAH (s:aE) :∀ (t:aE) (i:Nat),s.drop i=t→Ends PP 0 (tX s i).as (.ret (.bool (fA t))) (aO [] 0)
 | [],i,h=>aHN s i (bD h)
 | c :: t,i,h=>by
  obtain⟨h1,h2,h3⟩ :=aW h;obtain⟨r,d,q1,q2,q3⟩ :=aPT h1;by_cases g1:c.toNat<97
  · have:= (q2 (by omega)).1;exact Ends.eqv (aHK s i r d h3 q1 sd) (by simp [fA,qC];omega)
  · by_cases g2:122<c.toNat
    · have hr:122<r:=by
       by_cases k:c.toNat<128
       ·have:= (q2 k).1;omega
       ·have:=q3 (by omega);omega
      exact Ends.eqv (aHL s i r d h3 q1 sd sd) (by simp [fA,qC];omega)
    · obtain⟨rfl,rfl⟩ :=q2 (by omega);refine(aHM s i _ _ h3 q1 sd sd).ends ?_;have e:qC c=true:=by simp [qC];omega
      exact Ends.eqv (aAH s t (i+1) h2) (by simp [fA,e])
theorem aAI (s:aE) :Pure PP 96 [aD s] (.bool (fA s)) :=
 bC (by kernel_rfl) rfl rfl ((aHJ s).ends (aAH s s 0 rfl))
theorem eV (s:aE) :Pure PP 104 [aD s] (.bool (cB s)) :=by
 refine bC (by kernel_rfl) rfl rfl ?_
 match s with
 | [] =>exact aHS [] rfl
 | c ::t=>
  have h0: (!(aP (length (c::t)) (aA (c::t)) 0 0)) =true:=by rw [aB];rfl
  by_cases g0: (c::t).length≤8
  · have g0': (decide (((length (c::t) :Nat) :Int) ≤ (8:Int))) =true:=sd;by_cases g1:65≤c.toNat
    · by_cases g2:c.toNat≤90
      ·exact Ends.eqv (aHO (c::t) c _ h0 g0' rfl sd sd (by simp) (aAI t)) (by simp only [cB,decide_eq_true g0,decide_eq_true g1,decide_eq_true g2,Bool.true_and])
      ·exact Ends.eqv (aHP (c::t) c h0 g0' rfl sd sd) (by simp only [cB,decide_eq_false g2,Bool.and_false,Bool.false_and])
    ·exact Ends.eqv (aHQ (c::t) c h0 g0' rfl sd) (by simp only [cB,decide_eq_false g1,Bool.and_false,Bool.false_and])
  ·exact Ends.eqv (aHR (c::t) h0 sd) (by simp only [cB,decide_eq_false g0,Bool.false_and])
def aYV (cons:List Int)(f n:Int) :Option Int:=if f=6 then(if 0≤n then cons[n.toNat]? else none)else some n
mutual
def bAJ (cons:List Int) :Pat→Option Pat
 | .mk f n t ps=>match aYV cons f n with
  | some n'=>match aLf cons ps with
   |some ps'=>some (.mk f n' t ps')
   |none=>none
  |none=>none
def aLf (cons:List Int) :List Pat→Option (List Pat)
 | [] =>some []
 | p::ps=>match bAJ cons p with
  | some p'=>match aLf cons ps with
   |some ps'=>some (p'::ps')
   |none=>none
  |none=>none
end
def mN (funs cons:List Int)(op n:Int) :Option Int:=
 if op=4∧n<0 then
  match funs[(-1-n).toNat]? with
  |some g=>if -1000000000≤n∧ -1000000000≤g∧g≤1000000000 then some (-1-g)else none
  |none=>none
 else if op=14 then(if 0≤n then cons[n.toNat]? else none)else some n
def aWU (f:Nat→Int→Option (List Node)) :Nat→List Int→Option (List Int×List Node)
 |_,[] =>some ([],[])
 | len,c::cs=>match f len c with
  | some ns=>match aWU f (len+ns.length) cs with
   |some (ks,r) =>some ((len:Int) ::ks,ns++r)
   |none=>none
  |none=>none
def aLg (p:Prog)(funs cons:List Int) :Nat→Nat→Int→Option (List Node)
 |0,_,_=>none
 | k+1, len,at0=>if 0≤at0∧len<1000000 then
   match p.nodes[at0.toNat]? with
   | some y=>if y.kids.length<1000000∧aZ y.pats<1000000 then
     match mN funs cons y.op y.n with
     | some n'=>match aLf cons y.pats with
      | some ps'=>match aWU (aLg p funs cons k) (len+1) y.kids with
       |some (ks,r) =>some (⟨y.op,n',ks,ps'⟩ ::r)
       |none=>none
      |none=>none
     |none=>none
    else none
   |none=>none
  else none
abbrev PA (p:Prog) :AV:=.agg [(.ilst 4 (map Node.av p.nodes) false),(.ilst 1 (map avI p.funs) false),(.int .i64 p.main),(.ilst 2 (map Con.av p.cons) false)]
abbrev OL (L:List ONode) :AObj:=.lst 4 (map ONode.av L)
abbrev EndsL (s:TS)(L:List ONode) :Prop:=Ends PP 0 s.as (.ret (.gl 0 4 0 (length L) false)) (aO [(0,OL L,true)] 1)
def aPU (p:Prog)(funs cons:List Int)(c:Int)(L:List ONode)(ns:List Node) :Prop:=
 aYQ PP (.enter 999999 [.gl 0 4 0 (length L) false,PA p,.int .i64 c,.ilst 1 (map avI funs) false,.ilst 1 (map avI cons) false]) (aO [(0,OL L,true)] 1)
  (.ret (.gl 0 4 0 (length (L++map Node.o ns)) false)) (aO [(0,OL (L++map Node.o ns),true)] 1)
theorem EndsL.of {s:TS}{L L':List ONode}(h:EndsL s L)(e:L=L') :EndsL s L':=e ▸ h
section
variable (p :Prog) (funs cons:List Int) (k:Nat) (ih:∀ (L:List ONode) (c:Int) (ns:List Node),aLg p funs cons k L.length c=some ns→aPU p funs cons c L ns)
 (l:List ONode) (at0 op n':Int) (ps':List Pat) (kids:List Int) (hkids:kids.length<1000000)
include ih hkids
end
theorem bS {f:Nat}{args:List AV}{v:AV}{s:TS}(e: (start PP f args).as=s.as)(hb:gJ PP f=true)(hk:keylessL args=true)(hv:keyless v=true)(he:Ends PP 0 s.as (.ret v) (aO [] 0)) :Pure PP f args v:=
 bC hb hk hv (by rw [e];exact he)
theorem aLh :Pure PP 159 [] (.ilst 1 (map aD kwL) false) :=
 bS (s:=aWS) (by kernel_rfl) (by kernel_rfl) rfl (by simp [keyless]) aPy
theorem aJK (s:aE) :Pure PP 113 [aD s] (.bool (kG kwL s)) :=
 bC (by kernel_rfl) rfl rfl (aKQ s kwL _ aLh (aDm kwL s (by unfold kwL;simp)))
theorem aLi (s:aE)(l:List Nat){k n:Nat}(hk: (strOf l).length=k)(hn:aA (strOf l) =n) :aP (length s) (aA s) k n=decide (s=strOf l) :=by
 rw [←hk,←hn];exact bF s (strOf l)
theorem cD {s:aE}(l:List Nat){k n:Nat}(e:s=strOf l)(hk: (strOf l).length=k)(hn:aA (strOf l) =n) :aP (length s) (aA s) k n=true:=by rw [aLi s l hk hn];simp [e]
theorem cY {s:aE}(l:List Nat){k n:Nat}(e:¬s=strOf l)(hk: (strOf l).length=k)(hn:aA (strOf l) =n) :aP (length s) (aA s) k n=false:=by rw [aLi s l hk hn];simp [e]
theorem dA {l:List aE}{s:aE}(i:Nat){w:aE}(hi:l[i]?=some w)(e:s=w) :kG l s=true:=by
 unfold kG;exact List.any_eq_true.2 ⟨w,mem_of_getElem? hi,by simp [e]⟩
theorem aLj (s:aE) :Pure PP 97 [aD s] (.bool (kG kwL s)) :=by
 refine bC (by kernel_rfl) rfl rfl ?_;by_cases e0:s=strOf [98,111,111,108]
 ·rw [dA 0 (by kernel_rfl) e0];exact aPD s (cD _ e0 (by kernel_rfl) (by kernel_rfl))
 have n0:=cY (k:=4) (n:=1819242338) _ e0 (by kernel_rfl) (by kernel_rfl);by_cases e1:s=strOf [99,101,108,108]
 ·rw [dA 1 (by kernel_rfl) e1];exact aPE s n0 (cD _ e1 (by kernel_rfl) (by kernel_rfl))
 have n1:=cY (k:=4) (n:=1819043171) _ e1 (by kernel_rfl) (by kernel_rfl);by_cases e2:s=strOf [99,104,97,110]
 ·rw [dA 2 (by kernel_rfl) e2];exact aPF s n0 n1 (cD _ e2 (by kernel_rfl) (by kernel_rfl))
 have n2:=cY (k:=4) (n:=1851877475) _ e2 (by kernel_rfl) (by kernel_rfl);by_cases e3:s=strOf [101,108,115,101]
 ·rw [dA 3 (by kernel_rfl) e3];exact aPG s n0 n1 n2 (cD _ e3 (by kernel_rfl) (by kernel_rfl))
 have n3:=cY (k:=4) (n:=1702063205) _ e3 (by kernel_rfl) (by kernel_rfl);by_cases e4:s=strOf [102,97,108,115,101]
 ·rw [dA 4 (by kernel_rfl) e4];exact aPH s n0 n1 n2 n3 (cD _ e4 (by kernel_rfl) (by kernel_rfl))
 have n4:=cY (k:=5) (n:=435728179558) _ e4 (by kernel_rfl) (by kernel_rfl);by_cases e5:s=strOf [102,117,110]
 ·rw [dA 5 (by kernel_rfl) e5];exact aPI s n0 n1 n2 n3 n4 (cD _ e5 (by kernel_rfl) (by kernel_rfl))
 have n5:=cY (k:=3) (n:=7239014) _ e5 (by kernel_rfl) (by kernel_rfl);by_cases e6:s=strOf [103,101,116]
 ·rw [dA 6 (by kernel_rfl) e6];exact aPJ s n0 n1 n2 n3 n4 n5 (cD _ e6 (by kernel_rfl) (by kernel_rfl))
 have n6:=cY (k:=3) (n:=7628135) _ e6 (by kernel_rfl) (by kernel_rfl);by_cases e7:s=strOf [105,102]
 ·rw [dA 7 (by kernel_rfl) e7];exact aPK s n0 n1 n2 n3 n4 n5 n6 (cD _ e7 (by kernel_rfl) (by kernel_rfl))
 have n7:=cY (k:=2) (n:=26217) _ e7 (by kernel_rfl) (by kernel_rfl);by_cases e8:s=strOf [105,110]
 ·rw [dA 8 (by kernel_rfl) e8];exact aPL s n0 n1 n2 n3 n4 n5 n6 n7 (cD _ e8 (by kernel_rfl) (by kernel_rfl))
 have n8:=cY (k:=2) (n:=28265) _ e8 (by kernel_rfl) (by kernel_rfl);by_cases e9:s=strOf [105,110,112,117,116]
 ·rw [dA 9 (by kernel_rfl) e9];exact aPM s n0 n1 n2 n3 n4 n5 n6 n7 n8 (cD _ e9 (by kernel_rfl) (by kernel_rfl))
 have n9:=cY (k:=5) (n:=500186508905) _ e9 (by kernel_rfl) (by kernel_rfl);by_cases e10:s=strOf [105,110,116]
 ·rw [dA 10 (by kernel_rfl) e10];exact aKT s n0 n1 n2 n3 n4 n5 n6 n7 n8 n9 (cD _ e10 (by kernel_rfl) (by kernel_rfl))
 have n10:=cY (k:=3) (n:=7630441) _ e10 (by kernel_rfl) (by kernel_rfl);by_cases e11:s=strOf [106,111,105,110]
 ·rw [dA 11 (by kernel_rfl) e11];exact aKU s n0 n1 n2 n3 n4 n5 n6 n7 n8 n9 n10 (cD _ e11 (by kernel_rfl) (by kernel_rfl))
 have n11:=cY (k:=4) (n:=1852403562) _ e11 (by kernel_rfl) (by kernel_rfl);by_cases e12:s=strOf [108,101,116]
 ·rw [dA 12 (by kernel_rfl) e12];exact aKV s n0 n1 n2 n3 n4 n5 n6 n7 n8 n9 n10 n11 (cD _ e12 (by kernel_rfl) (by kernel_rfl))
 have n12:=cY (k:=3) (n:=7628140) _ e12 (by kernel_rfl) (by kernel_rfl);by_cases e13:s=strOf [109,97,116,99,104]
 ·rw [dA 13 (by kernel_rfl) e13];exact aKW s n0 n1 n2 n3 n4 n5 n6 n7 n8 n9 n10 n11 n12 (cD _ e13 (by kernel_rfl) (by kernel_rfl))
 have n13:=cY (k:=5) (n:=448345170285) _ e13 (by kernel_rfl) (by kernel_rfl);by_cases e14:s=strOf [109,111,100,117,108,101]
 ·rw [dA 14 (by kernel_rfl) e14];exact aKX s n0 n1 n2 n3 n4 n5 n6 n7 n8 n9 n10 n11 n12 n13 (cD _ e14 (by kernel_rfl) (by kernel_rfl))
 have n14:=cY (k:=6) (n:=111516500389741) _ e14 (by kernel_rfl) (by kernel_rfl);by_cases e15:s=strOf [111,117,116]
 ·rw [dA 15 (by kernel_rfl) e15];exact aKY s n0 n1 n2 n3 n4 n5 n6 n7 n8 n9 n10 n11 n12 n13 n14 (cD _ e15 (by kernel_rfl) (by kernel_rfl))
 have n15:=cY (k:=3) (n:=7632239) _ e15 (by kernel_rfl) (by kernel_rfl);by_cases e16:s=strOf [112,97,117,115,101]
 ·rw [dA 16 (by kernel_rfl) e16];exact aKZ s n0 n1 n2 n3 n4 n5 n6 n7 n8 n9 n10 n11 n12 n13 n14 n15 (cD _ e16 (by kernel_rfl) (by kernel_rfl))
 have n16:=cY (k:=5) (n:=435728769392) _ e16 (by kernel_rfl) (by kernel_rfl);by_cases e17:s=strOf [112,117,116]
 ·rw [dA 17 (by kernel_rfl) e17];exact aK0 s n0 n1 n2 n3 n4 n5 n6 n7 n8 n9 n10 n11 n12 n13 n14 n15 n16 (cD _ e17 (by kernel_rfl) (by kernel_rfl))
 have n17:=cY (k:=3) (n:=7632240) _ e17 (by kernel_rfl) (by kernel_rfl);by_cases e18:s=strOf [114,101,115,101,116]
 ·rw [dA 18 (by kernel_rfl) e18];exact aK1 s n0 n1 n2 n3 n4 n5 n6 n7 n8 n9 n10 n11 n12 n13 n14 n15 n16 n17 (cD _ e18 (by kernel_rfl) (by kernel_rfl))
 have n18:=cY (k:=5) (n:=499918267762) _ e18 (by kernel_rfl) (by kernel_rfl);by_cases e19:s=strOf [115,101,110,100]
 ·rw [dA 19 (by kernel_rfl) e19];exact aK2 s n0 n1 n2 n3 n4 n5 n6 n7 n8 n9 n10 n11 n12 n13 n14 n15 n16 n17 n18 (cD _ e19 (by kernel_rfl) (by kernel_rfl))
 have n19:=cY (k:=4) (n:=1684956531) _ e19 (by kernel_rfl) (by kernel_rfl);by_cases e20:s=strOf [115,104,105,102,116]
 ·rw [dA 20 (by kernel_rfl) e20];exact aK3 s n0 n1 n2 n3 n4 n5 n6 n7 n8 n9 n10 n11 n12 n13 n14 n15 n16 n17 n18 n19 (cD _ e20 (by kernel_rfl) (by kernel_rfl))
 have n20:=cY (k:=5) (n:=499934390387) _ e20 (by kernel_rfl) (by kernel_rfl);by_cases e21:s=strOf [115,112,97,119,110]
 ·rw [dA 21 (by kernel_rfl) e21];exact aK4 s n0 n1 n2 n3 n4 n5 n6 n7 n8 n9 n10 n11 n12 n13 n14 n15 n16 n17 n18 n19 n20 (cD _ e21 (by kernel_rfl) (by kernel_rfl))
 have n21:=cY (k:=5) (n:=474449277043) _ e21 (by kernel_rfl) (by kernel_rfl);by_cases e22:s=strOf [116,97,107,101]
 ·rw [dA 22 (by kernel_rfl) e22];exact aK5 s n0 n1 n2 n3 n4 n5 n6 n7 n8 n9 n10 n11 n12 n13 n14 n15 n16 n17 n18 n19 n20 n21 (cD _ e22 (by kernel_rfl) (by kernel_rfl))
 have n22:=cY (k:=4) (n:=1701536116) _ e22 (by kernel_rfl) (by kernel_rfl);by_cases e23:s=strOf [116,97,115,107]
 ·rw [dA 23 (by kernel_rfl) e23];exact aK6 s n0 n1 n2 n3 n4 n5 n6 n7 n8 n9 n10 n11 n12 n13 n14 n15 n16 n17 n18 n19 n20 n21 n22 (cD _ e23 (by kernel_rfl) (by kernel_rfl))
 have n23:=cY (k:=4) (n:=1802723700) _ e23 (by kernel_rfl) (by kernel_rfl);by_cases e24:s=strOf [116,104,101,110]
 ·rw [dA 24 (by kernel_rfl) e24];exact aK7 s n0 n1 n2 n3 n4 n5 n6 n7 n8 n9 n10 n11 n12 n13 n14 n15 n16 n17 n18 n19 n20 n21 n22 n23 (cD _ e24 (by kernel_rfl) (by kernel_rfl))
 have n24:=cY (k:=4) (n:=1852139636) _ e24 (by kernel_rfl) (by kernel_rfl);by_cases e25:s=strOf [116,114,117,101]
 ·rw [dA 25 (by kernel_rfl) e25];exact aK8 s n0 n1 n2 n3 n4 n5 n6 n7 n8 n9 n10 n11 n12 n13 n14 n15 n16 n17 n18 n19 n20 n21 n22 n23 n24 (cD _ e25 (by kernel_rfl) (by kernel_rfl))
 have n25:=cY (k:=4) (n:=1702195828) _ e25 (by kernel_rfl) (by kernel_rfl);by_cases e26:s=strOf [116,121,112,101]
 ·rw [dA 26 (by kernel_rfl) e26];exact aK9 s n0 n1 n2 n3 n4 n5 n6 n7 n8 n9 n10 n11 n12 n13 n14 n15 n16 n17 n18 n19 n20 n21 n22 n23 n24 n25 (cD _ e26 (by kernel_rfl) (by kernel_rfl))
 have n26:=cY (k:=4) (n:=1701869940) _ e26 (by kernel_rfl) (by kernel_rfl);by_cases e27:s=strOf [117,110,105,116]
 ·rw [dA 27 (by kernel_rfl) e27];exact aLa s n0 n1 n2 n3 n4 n5 n6 n7 n8 n9 n10 n11 n12 n13 n14 n15 n16 n17 n18 n19 n20 n21 n22 n23 n24 n25 n26 (cD _ e27 (by kernel_rfl) (by kernel_rfl))
 have n27:=cY (k:=4) (n:=1953066613) _ e27 (by kernel_rfl) (by kernel_rfl);have hno:kG kwL s=false:=by
  unfold kG kwL;simp only [List.any_cons,List.any_nil,Bool.or_false,Bool.or_eq_false_iff,decide_eq_false_iff_not];exact⟨fun h=>e0 h.symm,fun h=>e1 h.symm,fun h=>e2 h.symm,fun h=>e3 h.symm,fun h=>e4 h.symm,fun h=>e5 h.symm,fun h=>e6 h.symm,fun h=>e7 h.symm,fun h=>e8 h.symm,fun h=>e9 h.symm,fun h=>e10 h.symm,fun h=>e11 h.symm,fun h=>e12 h.symm,fun h=>e13 h.symm,fun h=>e14 h.symm,fun h=>e15 h.symm,fun h=>e16 h.symm,fun h=>e17 h.symm,fun h=>e18 h.symm,fun h=>e19 h.symm,fun h=>e20 h.symm,fun h=>e21 h.symm,fun h=>e22 h.symm,fun h=>e23 h.symm,fun h=>e24 h.symm,fun h=>e25 h.symm,fun h=>e26 h.symm,fun h=>e27 h.symm⟩
 rw [hno];exact aLb s n0 n1 n2 n3 n4 n5 n6 n7 n8 n9 n10 n11 n12 n13 n14 n15 n16 n17 n18 n19 n20 n21 n22 n23 n24 n25 n26 n27
def dQ (s:aE) :Bool:=decide (1≤s.length) &&decide (s.length≤8) &&fA s&& !kG kwL s
theorem kK (s:aE) :Pure PP 72 [aD s] (.bool (dQ s)) :=by
 refine bC (by kernel_rfl) rfl rfl ?_;unfold dQ;by_cases h1:1≤s.length
 · by_cases h2:s.length≤8
   · have hS:=aAD s (by omega);cases h3:fA s with
     | true=>
      rw [h3]at hS;have:=aPz s true _ sd sd hS rfl (aJK s);simpa [h1,h2]using this
     | false=>
      rw [h3]at hS;have:=aPA s false sd sd hS rfl;simpa [h1,h2]using this
   · have:=aPB s sd sd;simpa [h1,h2]using this
 · have:=aPC s sd;simpa [h1]using this
theorem jD (s:aE) :Pure PP 58 [aD s] (.bool (dQ s)) :=by
 refine bC (by kernel_rfl) rfl rfl ?_;unfold dQ;by_cases h1:s= []
 · subst h1;have:=aPQ [] (by rfl);simpa using this
 · have hpos:1≤s.length:=by cases s with
    |nil=>exact absurd rfl h1
    |cons _ _=>simp
   have h0: (!(aP (length s) (aA s) 0 0)) =true:=by
    have:=cY (k:=0) (n:=0) (s:=s) [] h1 rfl rfl;rw [this];rfl
   by_cases h2:s.length≤8
   · have hS:=aAI s;cases h3:fA s with
     | true=>
      rw [h3]at hS;have:=aPN s true _ h0 sd hS rfl (aLj s);simpa [hpos,h2]using this
     | false=>
      rw [h3]at hS;have:=aPO s false h0 sd hS rfl;simpa [hpos,h2]using this
   · have:=aPP s h0 sd;simpa [hpos,h2]using this
theorem eT (n lo hi:Int) :Pure PP 73 [.int .i64 n,.int .i64 lo,.int .i64 hi] (.bool (cC n lo hi)) :=by
 refine bC (by kernel_rfl) rfl rfl ?_;by_cases h:n≥lo
 · have e:cC n lo hi=decide (n≤hi) :=by unfold cC;rw [decide_eq_true (show lo≤n from h),Bool.true_and]
   rw [e];exact aKR n lo hi (by simpa using h)
 · have e:cC n lo hi=false:=by unfold cC;rw [decide_eq_false (show ¬lo≤n from h),Bool.false_and]
   rw [e];exact aKS n lo hi (by simpa using h)
def aWV(a b:Int)(c:aE)(d:List Pat):TS:=cK PP 189 [(.agg [(nI a),(nI b),(aD c),(iP d)])] [] 0
def aEq(b c:Int)(d:aE)(e:List Pat)(f:Int)(a:List aE):TS:=⟨(tf 189 27 [kp 1 0,(2,.nils),(3,(.gl 1 1 0 a.length false)),(4,(nI f))] [kc f189 244,kl f189 244,.inBlock 0,kc f189 31]),[],[oC 0 [(nI b),(nI c),(aD d),(iP e)],oL 1 1 (map aD a)],2⟩
def dR(b c:Int)(d:aE)(a:List Pat)(e:Bool)(f:Int):TS:=⟨(tf 188 97 [kp 1 0,(2,(bV false)),(3,(nI (a.length:Int))),(4,(bV e)),(5,(nI f))] [kc f188 500,kl f188 500,.inBlock 1,kc f188 63]),[],[oC 0 [(nI b),(nI c),(aD d),(iP a)]],1⟩
def aWW(b c:Int)(a:aE)(d:List Pat):=tT 0 (aWV b c a d)<|.b 12 7 (b==2) (.i [rn 9,.toL 2 false [(aD a)]] [hr (some [(aD a)]),hr true]<|gu 0 1 (map aD [a])<|gs 0 2 (.gl 1 1 0 [a].length true)<|.i [.weak 2] []<|gz 0 2 1 1 aD [a] false<|gE 0 2 (iS [a]))<|.i [rn 13,.nilL 3 1] []<|gu 0 1 (map aD ([] :List aE))<|gs 0 3 (.gl 1 1 0 ([] :List aE).length false)<|.W 0 2 [0,1] (aEq b c a d 0 ([] :List aE))
def aPV:=fun a b c d e=>aWW a b c d|>.t e tv
def aPW:=fun a b c d e=>aWW a b c d|>.f e ⟨kk,trivial⟩
def aWX(e f:Int)(g:aE)(a:List Pat)(b:Int)(c:List aE):=tT 0 (aEq e f g a b c)<|gm 6 aK a<|gd 2 15 (b< (a.length:Int)) (aBU 9 a b<|fun i j k l=>.y fun d:List aE=>gp 1 189 [(.agg [(nI i),(nI j),(aD k),(iP l)])] (iS d)<|ga 0 aD c d<|gw 6 17 (b+1)<|.W 3 3 [0,2] (aEq e f g a (b+1) (c++d)))<|gz 8 2 1 1 aD c false<|gE 0 2 (iS c)
def aPX:=fun a b c d e f g i j k l m n o p q r=>aWX a b c d e f|>.t m g i j k n o l p q r ⟨kk,trivial⟩
def aPY:=fun a b c d e f g=>aWX a b c d e f|>.f g tv
def jE(c d:Int)(a:aE)(b:List Pat):=tT 0 (start PP 188 [(.agg [(nI c),(nI d),(aD a),(iP b)])])<|gm 9 aK b<|.b 19 11 (c==1) (.b 7 16 ((b.length:Int) ==0) (.b 5 21 (d==0) (.W 14 1 [0] (dR c d a b (aP a.length (aA a) 0 0) 0))<|.W 14 1 [0] (dR c d a b false 0))<|.W 19 1 [0] (dR c d a b false 0))<|.b 5 11 (c==5) (.b 5 16 ((b.length:Int) ==0) (.b 5 21 (d==0) (.W 14 1 [0] (dR c d a b (aP a.length (aA a) 0 0) 0))<|.W 14 1 [0] (dR c d a b false 0))<|.W 19 1 [0] (dR c d a b false 0))<|.b 6 26 (c==2) (.b 5 30 ((b.length:Int) ==0) (.b 5 35 (d==0) (cZ 2 72 [(aD a)]<|fun e=>.W 11 1 [0] (dR c d a b e 0))<|.W 14 1 [0] (dR c d a b false 0))<|.W 19 1 [0] (dR c d a b false 0))<|.b 6 40 (c==3) (.b 5 44 ((b.length:Int) ==0) (.b 5 49 (aP a.length (aA a) 0 0) (cZ 2 73 [(nI d),(nI (-1000000000)),(nI 1000000000)]<|fun e=>.W 11 1 [0] (dR c d a b e 0))<|.W 14 1 [0] (dR c d a b false 0))<|.W 19 1 [0] (dR c d a b false 0))<|.b 6 54 (c==4) (.b 5 58 ((b.length:Int) ==0) (.b 5 63 (aP a.length (aA a) 0 0) (cZ 2 73 [(nI d),(nI 0),(nI 1)]<|fun e=>.W 11 1 [0] (dR c d a b e 0))<|.W 14 1 [0] (dR c d a b false 0))<|.W 19 1 [0] (dR c d a b false 0))<|.b 6 68 (c==6) (gd 5 72 ((b.length:Int) ≤3) (.b 5 77 (d==0) (cZ 2 114 [(aD a)]<|fun e=>.W 11 1 [0] (dR c d a b e 0))<|.W 14 1 [0] (dR c d a b false 0))<|.W 19 1 [0] (dR c d a b false 0))<|.W 10 1 [0] (dR c d a b false 0)
def aPZ:=fun a b c d e f g=>jE a b c d|>.t e|>.t f|>.t g tv
def aP0:=fun a b c d e f g=>jE a b c d|>.t e|>.t f|>.f g tv
def aP1:=fun a b c d e f=>jE a b c d|>.t e|>.f f tv
def aP2:=fun a b c d e f g i=>jE a b c d|>.f e|>.t f|>.t g|>.t i tv
def aP3:=fun a b c d e f g i=>jE a b c d|>.f e|>.t f|>.t g|>.f i tv
def aP4:=fun a b c d e f g=>jE a b c d|>.f e|>.t f|>.f g tv
def aP5:=fun a b c d e f g i j k l=>jE a b c d|>.f f|>.f g|>.t i|>.t j|>.t k e l tv
def aP6:=fun a b c d e f g i j=>jE a b c d|>.f e|>.f f|>.t g|>.t i|>.f j tv
def aP7:=fun a b c d e f g i=>jE a b c d|>.f e|>.f f|>.t g|>.f i tv
def aP8:=fun a b c d e f g i j k l m=>jE a b c d|>.f f|>.f g|>.f i|>.t j|>.t k|>.t l e m tv
def aLk:=fun a b c d e f g i j k=>jE a b c d|>.f e|>.f f|>.f g|>.t i|>.t j|>.f k tv
def aLl:=fun a b c d e f g i j=>jE a b c d|>.f e|>.f f|>.f g|>.t i|>.f j tv
def aLm:=fun a b c d e f g i j k l m n=>jE a b c d|>.f f|>.f g|>.f i|>.f j|>.t k|>.t l|>.t m e n tv
def aLn:=fun a b c d e f g i j k l=>jE a b c d|>.f e|>.f f|>.f g|>.f i|>.t j|>.t k|>.f l tv
def aLo:=fun a b c d e f g i j k=>jE a b c d|>.f e|>.f f|>.f g|>.f i|>.t j|>.f k tv
def aLp:=fun a b c d e f g i j k l m n o=>jE a b c d|>.f f|>.f g|>.f i|>.f j|>.f k|>.t l|>.t m|>.t n e o tv
def aLq:=fun a b c d e f g i j k l m=>jE a b c d|>.f e|>.f f|>.f g|>.f i|>.f j|>.t k|>.t l|>.f m tv
def aLr:=fun a b c d e f g i j k l=>jE a b c d|>.f e|>.f f|>.f g|>.f i|>.f j|>.t k|>.f l tv
def aLs:=fun a b c d e f g i j k=>jE a b c d|>.f e|>.f f|>.f g|>.f i|>.f j|>.f k tv
def aLt(d e:Int)(f:aE)(b:List Pat)(c:Bool)(a:Int):=tT 0 (dR d e f b c a)<|gd 7 85 (a< (b.length:Int)) (.b 3 87 c (aBU 8 b a<|fun g i j k=>cZ 1 188 [(.agg [(nI g),(nI i),(aD j),(iP k)])]<|fun l=>gw 6 89 (a+1)<|.W 3 1 [0] (dR d e f b l (a+1)))<|gE 8 1 (bV c))<|gE 11 1 (bV c)
def aP9:=fun a b c d e f g i j k l m n o p q r=>aLt a b c d e f|>.t m|>.t n g i j k o p l q r tv
def aQa:=fun a b c d e f g i=>aLt a b c d e f|>.t g|>.f i tv
def aQb:=fun a b c d e f g=>aLt a b c d e f|>.f g tv
def aLu(a b:Int)(c:aE)(d:List Pat):=tT 0 (start PP 161 [(.agg [(nI a),(nI b),(aD c),(iP d)])])<|gpI 8 147 [(.agg [(nI a),(nI b),(aD c),(iP d)]),(nI 12)]<|fun f=>gd 2 6 (f≥0) (cZ 1 188 [(.agg [(nI a),(nI b),(aD c),(iP d)])]<|fun g=>.b 2 10 g (.y fun e:List aE=>gp 1 189 [(.agg [(nI a),(nI b),(aD c),(iP d)])] (iS e)<|cZ 0 39 [(iS e)]<|fun i=>gE 4 1 (bV i))<|gE 7 1 (bV false))<|gE 11 1 (bV false)
def aQc:=fun a b c d e f g i j k l m n o=>aLu a b c d e j|>.t k f l|>.t m g n i o tv
def aQd:=fun a b c d e f g i j k=>aLu a b c d e g|>.t i f j|>.f k tv
def aQe:=fun a b c d e f g=>aLu a b c d e f|>.f g tv
def aX4(a b c d:Int)(e:aE)(f:List Pat):TS:=cK PP 235 [(.ptr 0 0),(.agg [(nI c),(nI d),(aD e),(iP f)])] [oC 0 [(nI a),(nI b)]] 1
def aIv(e b f g:Int)(i:aE)(a:List Pat)(c d:Int):TS:=⟨(tf 235 19 [kp 0 0,(9,(iP a)),(10,(nI (a.length:Int))),(11,(nI c))] [kc f235 60,kl f235 60,.inBlock 0]),[],[oC 0 [(nI d),(nI b)]],1⟩
def aIw(a:List (aE×Bool))(b c:Int)(d:aE)(e:List Pat):TS:=cK PP 236 [(.agg [(nI b),(nI c),(aD d),(iP e)]),(.map 0)] [(0,(.map (aN aD dW 0 a) a.length),true)] 1
def kV(d:List (aE×Bool))(e f:Int)(g:aE)(a:List Pat)(b:List (aE×Bool))(c:Int):TS:=⟨(tf 236 121 [(1,(.map 0)),(111,(iP a)),(112,(nI (a.length:Int))),(113,(nI c))] [kc f236 60,kl f236 60,.inBlock 1]),[],[(0,(.map (aN aD dW 0 b) b.length),true)],1⟩
def aWY(a b:Int)(c:aE)(d:List Pat):TS:=cK PP 213 [(.agg [(nI a),(nI b),(aD c),(iP d)])] [] 0
def aWZ(a b d e:Int)(f:aE)(c:List Pat):=tT 1 (aX4 a b d e f c)<|gw 15 8 (a-1)<|gd 11 16 ((a-1) ≥0) (.b 13 3 (!(decide (0≤b))) .x<|gm 12 aK c<|.W 4 2 [] (aIv a b d e f c 0 (a-1)))<|.P 20 2 [] [((.iface 270 (.agg [])),false)] [oC 0 [(nI (a-1)),(nI b)]] 1
def aX5:=fun a b c d e f g i j=>aWZ a b c d e f g|>.t i|>.f j tv
def aX6:=fun a b c d e f g i=>aWZ a b c d e f g|>.f i tv
def aLv(k a l m:Int)(n:aE)(i:List Pat)(f j:Int):=tT 1 (aIv k a l m n i f j)<|gd 5 12 (f< (i.length:Int)) (aBU 6 i f<|fun b c d e=>.o (.y fun g:Int=>gK 7 (.enter 235 [(.ptr 0 0),(.agg [(nI b),(nI c),(aD d),(iP e)])]) [oC 0 [(nI j),(nI a)],oC 1 [(nI b),(nI c),(aD d),(iP e)]] 2 [((.iface 270 (.agg [])),false)] [oC 0 [(nI g),(nI a)],oC 1 [(nI b),(nI c),(aD d),(iP e)]] 2<|.P 0 2 [] [((.iface 270 (.agg [])),false)] [oC 0 [(nI g),(nI a)]] 1)<|.y fun g:Int=>gk 7 (.enter 235 [(.ptr 0 0),(.agg [(nI b),(nI c),(aD d),(iP e)])]) [oC 0 [(nI j),(nI a)],oC 1 [(nI b),(nI c),(aD d),(iP e)]] 2 (.tup []) [oC 0 [(nI g),(nI a)],oC 1 [(nI b),(nI c),(aD d),(iP e)]] 2<|gw 4 18 (f+1)<|.W 3 2 [] (aIv k a l m n i (f+1) g))<|.E 3 1 [] (.tup []) [oC 0 [(nI j),(nI a)]] 1
def aX7:=fun a b c d e f g i j k l m n o p q r=>aLv a b c d e f g i|>.t o j k l m p q|>.1 n r tv
def aX8:=fun a b c d e f g i j k l m n o p q r s=>aLv a b c d e f g i|>.t o j k l m p q|>.2 n r s tv
def aX9:=fun a b c d e f g i j=>aLv a b c d e f g i|>.f j tv
def eH(a:List (aE×Bool))(e d:Int)(b:aE)(c:List Pat):=tT 1 (aIw a e d b c)<|.b 17 9 (e==1) (gm 6 aK c<|.b 2 16 ((c.length:Int) ==0) (.b 5 21 (d==0) (.b 10 3 (!(aP b.length (aA b) 0 0)) (.P 6 2 [] [((.iface 270 (.agg [])),false)] [(0,(.map (aN aD dW 0 a) a.length),true)] 1)<|gm 10 aK c<|.W 4 2 [] (kV a e d b c a 0))<|.P 16 2 [] [((.iface 270 (.agg [])),false)] [(0,(.map (aN aD dW 0 a) a.length),true)] 1)<|.P 21 2 [] [((.iface 270 (.agg [])),false)] [(0,(.map (aN aD dW 0 a) a.length),true)] 1)<|.b 5 9 (e==5) (gm 4 aK c<|.b 2 16 ((c.length:Int) ==0) (.b 5 21 (d==0) (.b 10 3 (!(aP b.length (aA b) 0 0)) (.P 6 2 [] [((.iface 270 (.agg [])),false)] [(0,(.map (aN aD dW 0 a) a.length),true)] 1)<|gm 10 aK c<|.W 4 2 [] (kV a e d b c a 0))<|.P 16 2 [] [((.iface 270 (.agg [])),false)] [(0,(.map (aN aD dW 0 a) a.length),true)] 1)<|.P 21 2 [] [((.iface 270 (.agg [])),false)] [(0,(.map (aN aD dW 0 a) a.length),true)] 1)<|.b 6 27 (e==2) (gm 5 aK c<|.b 2 33 ((c.length:Int) ==0) (.b 5 38 (d==0) (cZ 2 58 [(aD b)]<|fun f=>.b 2 43 f (.o (.y fun g:Bool=>.i [rn 3,.ans (.look (some (wF b a,(dW g))))] [.a (fS b a=some g) (p':=eK (aD b) (aN aD dW 0 a) 0=some (some (wF b a,(dW g)))) (tR eJ)]<|.b 8 3 (!(!g)) (.P 6 2 [] [((.iface 270 (.agg [])),false)] [(0,(.map (aN aD dW 0 a) a.length),true)] 1)<|.i [rn 9,.mput (aN aD dW 0 (cO b true a)) (cO b true a).length] [.q (p:=jA (aN aD dW 0 a) a.length (aD b) (dW true) =some ((aN aD dW 0 (cO b true a)),length (cO b true a))) (mY eJ _ _ _)]<|gm 6 aK c<|.W 4 2 [] (kV a e d b c (cO b true a) 0))<|.i [rn 3,.ans (.look none)] [.a (fS b a=none) (p':=eK (aD b) (aN aD dW 0 a) 0=some none) (tQ eJ)]<|.i [rn 17,.mput (aN aD dW 0 (cO b true a)) (cO b true a).length] [.q (p:=jA (aN aD dW 0 a) a.length (aD b) (dW true) =some ((aN aD dW 0 (cO b true a)),length (cO b true a))) (mY eJ _ _ _)]<|gm 6 aK c<|.W 4 2 [] (kV a e d b c (cO b true a) 0))<|.P 18 2 [] [((.iface 270 (.agg [])),false)] [(0,(.map (aN aD dW 0 a) a.length),true)] 1)<|.P 23 2 [] [((.iface 270 (.agg [])),false)] [(0,(.map (aN aD dW 0 a) a.length),true)] 1)<|.P 28 2 [] [((.iface 270 (.agg [])),false)] [(0,(.map (aN aD dW 0 a) a.length),true)] 1)<|.b 6 54 (e==3) (gm 4 aK c<|.b 2 60 ((c.length:Int) ==0) (.b 5 65 (aP b.length (aA b) 0 0) (cZ 2 212 [(nI d)]<|fun f=>.b 7 3 (!f) (.P 6 2 [] [((.iface 270 (.agg [])),false)] [(0,(.map (aN aD dW 0 a) a.length),true)] 1)<|gm 10 aK c<|.W 4 2 [] (kV a e d b c a 0))<|.P 16 2 [] [((.iface 270 (.agg [])),false)] [(0,(.map (aN aD dW 0 a) a.length),true)] 1)<|.P 21 2 [] [((.iface 270 (.agg [])),false)] [(0,(.map (aN aD dW 0 a) a.length),true)] 1)<|.b 6 71 (e==4) (gm 4 aK c<|.b 2 77 ((c.length:Int) ==0) (.b 5 82 (aP b.length (aA b) 0 0) (.b 4 86 (d==0) (gm 21 aK c<|.W 4 2 [] (kV a e d b c a 0))<|.b 11 3 (!(d==1)) (.P 6 2 [] [((.iface 270 (.agg [])),false)] [(0,(.map (aN aD dW 0 a) a.length),true)] 1)<|gm 10 aK c<|.W 4 2 [] (kV a e d b c a 0))<|.P 21 2 [] [((.iface 270 (.agg [])),false)] [(0,(.map (aN aD dW 0 a) a.length),true)] 1)<|.P 26 2 [] [((.iface 270 (.agg [])),false)] [(0,(.map (aN aD dW 0 a) a.length),true)] 1)<|.b 6 93 (e==6) (gm 4 aK c<|gd 2 99 ((c.length:Int) ≤3) (.b 5 104 (d==0) (cZ 2 104 [(aD b)]<|fun f=>.b 7 3 (!f) (.P 6 2 [] [((.iface 270 (.agg [])),false)] [(0,(.map (aN aD dW 0 a) a.length),true)] 1)<|gm 10 aK c<|.W 4 2 [] (kV a e d b c a 0))<|.P 16 2 [] [((.iface 270 (.agg [])),false)] [(0,(.map (aN aD dW 0 a) a.length),true)] 1)<|.P 21 2 [] [((.iface 270 (.agg [])),false)] [(0,(.map (aN aD dW 0 a) a.length),true)] 1)<|.P 14 2 [] [((.iface 270 (.agg [])),false)] [(0,(.map (aN aD dW 0 a) a.length),true)] 1
def aQf:=fun a b c d e f g i j=>eH a b c d e|>.t f|>.t g|>.t i|>.t j ⟨cA (fun _=>rfl) (fun _=>rfl) _ _ _,trivial⟩
def aQg:=fun a b c d e f g i j=>eH a b c d e|>.t f|>.t g|>.t i|>.f j ⟨cA (fun _=>rfl) (fun _=>rfl) _ _ _,trivial⟩
def aQh:=fun a b c d e f g i=>eH a b c d e|>.t f|>.t g|>.f i ⟨cA (fun _=>rfl) (fun _=>rfl) _ _ _,trivial⟩
def aQi:=fun a b c d e f g=>eH a b c d e|>.t f|>.f g ⟨cA (fun _=>rfl) (fun _=>rfl) _ _ _,trivial⟩
def aQj:=fun a b c d e f g i j k=>eH a b c d e|>.f f|>.t g|>.t i|>.t j|>.t k ⟨cA (fun _=>rfl) (fun _=>rfl) _ _ _,trivial⟩
def aQk:=fun a b c d e f g i j k=>eH a b c d e|>.f f|>.t g|>.t i|>.t j|>.f k ⟨cA (fun _=>rfl) (fun _=>rfl) _ _ _,trivial⟩
def aQl:=fun a b c d e f g i j=>eH a b c d e|>.f f|>.t g|>.t i|>.f j ⟨cA (fun _=>rfl) (fun _=>rfl) _ _ _,trivial⟩
def aQm:=fun a b c d e f g i=>eH a b c d e|>.f f|>.t g|>.f i ⟨cA (fun _=>rfl) (fun _=>rfl) _ _ _,trivial⟩
def aQn:=fun a b c d e f g i j k l m n o p q=>eH a b c d e|>.f i|>.f j|>.t k|>.t l|>.t m f n|>.t o|>.1 g p|>.t q ⟨cA (fun _=>rfl) (fun _=>rfl) _ _ _,trivial⟩
def aQo:=fun a b c d e f g i j k l m n o p q=>eH a b c d e|>.f i|>.f j|>.t k|>.t l|>.t m f n|>.t o|>.1 g p|>.f q ⟨cA (fun _=>rfl) (fun _=>rfl) _ _ _,trivial⟩
def aLw:=fun a b c d e f g i j k l m n o=>eH a b c d e|>.f g|>.f i|>.t j|>.t k|>.t l f m|>.t n|>.2 o ⟨cA (fun _=>rfl) (fun _=>rfl) _ _ _,trivial⟩
def aLx:=fun a b c d e f g i j k l m n=>eH a b c d e|>.f g|>.f i|>.t j|>.t k|>.t l f m|>.f n ⟨cA (fun _=>rfl) (fun _=>rfl) _ _ _,trivial⟩
def aLy:=fun a b c d e f g i j k=>eH a b c d e|>.f f|>.f g|>.t i|>.t j|>.f k ⟨cA (fun _=>rfl) (fun _=>rfl) _ _ _,trivial⟩
def aLz:=fun a b c d e f g i j=>eH a b c d e|>.f f|>.f g|>.t i|>.f j ⟨cA (fun _=>rfl) (fun _=>rfl) _ _ _,trivial⟩
def aLA:=fun a b c d e f g i j k l m n o=>eH a b c d e|>.f g|>.f i|>.f j|>.t k|>.t l|>.t m f n|>.t o ⟨cA (fun _=>rfl) (fun _=>rfl) _ _ _,trivial⟩
def aLB:=fun a b c d e f g i j k l m n o=>eH a b c d e|>.f g|>.f i|>.f j|>.t k|>.t l|>.t m f n|>.f o ⟨cA (fun _=>rfl) (fun _=>rfl) _ _ _,trivial⟩
def aLC:=fun a b c d e f g i j k l=>eH a b c d e|>.f f|>.f g|>.f i|>.t j|>.t k|>.f l ⟨cA (fun _=>rfl) (fun _=>rfl) _ _ _,trivial⟩
def aLD:=fun a b c d e f g i j k=>eH a b c d e|>.f f|>.f g|>.f i|>.t j|>.f k ⟨cA (fun _=>rfl) (fun _=>rfl) _ _ _,trivial⟩
def aLE:=fun a b c d e f g i j k l m n=>eH a b c d e|>.f f|>.f g|>.f i|>.f j|>.t k|>.t l|>.t m|>.t n ⟨cA (fun _=>rfl) (fun _=>rfl) _ _ _,trivial⟩
def aLF:=fun a b c d e f g i j k l m n o=>eH a b c d e|>.f f|>.f g|>.f i|>.f j|>.t k|>.t l|>.t m|>.f n|>.t o ⟨cA (fun _=>rfl) (fun _=>rfl) _ _ _,trivial⟩
def aLG:=fun a b c d e f g i j k l m n o=>eH a b c d e|>.f f|>.f g|>.f i|>.f j|>.t k|>.t l|>.t m|>.f n|>.f o ⟨cA (fun _=>rfl) (fun _=>rfl) _ _ _,trivial⟩
def aLH:=fun a b c d e f g i j k l m=>eH a b c d e|>.f f|>.f g|>.f i|>.f j|>.t k|>.t l|>.f m ⟨cA (fun _=>rfl) (fun _=>rfl) _ _ _,trivial⟩
def aLI:=fun a b c d e f g i j k l=>eH a b c d e|>.f f|>.f g|>.f i|>.f j|>.t k|>.f l ⟨cA (fun _=>rfl) (fun _=>rfl) _ _ _,trivial⟩
def aLJ:=fun a b c d e f g i j k l m n o p q=>eH a b c d e|>.f g|>.f i|>.f j|>.f k|>.f l|>.t m|>.t n|>.t o f p|>.t q ⟨cA (fun _=>rfl) (fun _=>rfl) _ _ _,trivial⟩
def aLK:=fun a b c d e f g i j k l m n o p q=>eH a b c d e|>.f g|>.f i|>.f j|>.f k|>.f l|>.t m|>.t n|>.t o f p|>.f q ⟨cA (fun _=>rfl) (fun _=>rfl) _ _ _,trivial⟩
def aLL:=fun a b c d e f g i j k l m n=>eH a b c d e|>.f f|>.f g|>.f i|>.f j|>.f k|>.t l|>.t m|>.f n ⟨cA (fun _=>rfl) (fun _=>rfl) _ _ _,trivial⟩
def aLM:=fun a b c d e f g i j k l m=>eH a b c d e|>.f f|>.f g|>.f i|>.f j|>.f k|>.t l|>.f m ⟨cA (fun _=>rfl) (fun _=>rfl) _ _ _,trivial⟩
def aLN:=fun a b c d e f g i j k l=>eH a b c d e|>.f f|>.f g|>.f i|>.f j|>.f k|>.f l ⟨cA (fun _=>rfl) (fun _=>rfl) _ _ _,trivial⟩
def aLO(j:List (aE×Bool))(k l:Int)(m:aE)(i:List Pat)(b:List (aE×Bool))(g:Int):=tT 1 (kV j k l m i b g)<|gd 5 114 (g< (i.length:Int)) (aBU 6 i g<|fun c d e f=>.o (.y fun a:List (aE×Bool)=>gK 7 (.enter 236 [(.agg [(nI c),(nI d),(aD e),(iP f)]),(.map 0)]) [(0,(.map (aN aD dW 0 b) b.length),true),oC 1 [(nI c),(nI d),(aD e),(iP f)]] 2 [((.iface 270 (.agg [])),false)] [(0,(.map (aN aD dW 0 a) a.length),true),oC 1 [(nI c),(nI d),(aD e),(iP f)]] 2<|.P 0 2 [] [((.iface 270 (.agg [])),false)] [(0,(.map (aN aD dW 0 a) a.length),true)] 1)<|.y fun a:List (aE×Bool)=>gk 7 (.enter 236 [(.agg [(nI c),(nI d),(aD e),(iP f)]),(.map 0)]) [(0,(.map (aN aD dW 0 b) b.length),true),oC 1 [(nI c),(nI d),(aD e),(iP f)]] 2 (.tup []) [(0,(.map (aN aD dW 0 a) a.length),true),oC 1 [(nI c),(nI d),(aD e),(iP f)]] 2<|gw 4 120 (g+1)<|.W 3 2 [] (kV j k l m i a (g+1)))<|.E 3 1 [] (.tup []) [(0,(.map (aN aD dW 0 b) b.length),true)] 1
def aQp:=fun a b c d e f g i j k l m n o p q=>aLO a b c d e f g|>.t n i j k l o p|>.1 m q ⟨cA (fun _=>rfl) (fun _=>rfl) _ _ _,trivial⟩
def aQq:=fun a b c d e f g i j k l m n o p q r=>aLO a b c d e f g|>.t n i j k l o p|>.2 m q r ⟨cA (fun _=>rfl) (fun _=>rfl) _ _ _,trivial⟩
def aQr:=fun a b c d e f g i=>aLO a b c d e f g|>.f i ⟨cA (fun _=>rfl) (fun _=>rfl) _ _ _,trivial⟩
def aLP(a b:Int)(c:aE)(d:List Pat):=tT 0 (aWY a b c d)<|.o (.y fun e:Int=>gK 36 (.enter 235 [(.ptr 2 0),(.agg [(nI a),(nI b),(aD c),(iP d)])]) [oC 0 [(nI a),(nI b),(aD c),(iP d)],oC 1 [(bV false)],oC 2 [(nI 12),(nI 0)]] 3 [((.iface 270 (.agg [])),false)] [oC 0 [(nI a),(nI b),(aD c),(iP d)],oC 1 [(bV false)],oC 2 [(nI e),(nI 0)]] 3<|gE 50 4 (nI 2))<|.y fun e:Int=>gk 36 (.enter 235 [(.ptr 2 0),(.agg [(nI a),(nI b),(aD c),(iP d)])]) [oC 0 [(nI a),(nI b),(aD c),(iP d)],oC 1 [(bV false)],oC 2 [(nI 12),(nI 0)]] 3 (.tup []) [oC 0 [(nI a),(nI b),(aD c),(iP d)],oC 1 [(bV false)],oC 2 [(nI e),(nI 0)]] 3<|.i [rn 4,.mset 3 (aN aD dW 0 ([] :List (aE×Bool))) ([] :List (aE×Bool)).length] [hr (aN aD dW 0 ([] :List (aE×Bool))),hr (length ([] :List (aE×Bool)))]<|.o (.y fun f:List (aE×Bool)=>gK 0 (.enter 236 [(.agg [(nI a),(nI b),(aD c),(iP d)]),(.map 3)]) [oC 0 [(nI a),(nI b),(aD c),(iP d)],oC 1 [(bV false)],oC 2 [(nI e),(nI 0)],(3,(.map (aN aD dW 0 ([] :List (aE×Bool))) ([] :List (aE×Bool)).length),true)] 4 [((.iface 270 (.agg [])),false)] [oC 0 [(nI a),(nI b),(aD c),(iP d)],oC 1 [(bV false)],oC 2 [(nI e),(nI 0)],(3,(.map (aN aD dW 0 f) f.length),true)] 4<|gE 50 5 (nI 2))<|.y fun f:List (aE×Bool)=>gk 0 (.enter 236 [(.agg [(nI a),(nI b),(aD c),(iP d)]),(.map 3)]) [oC 0 [(nI a),(nI b),(aD c),(iP d)],oC 1 [(bV false)],oC 2 [(nI e),(nI 0)],(3,(.map (aN aD dW 0 ([] :List (aE×Bool))) ([] :List (aE×Bool)).length),true)] 4 (.tup []) [oC 0 [(nI a),(nI b),(aD c),(iP d)],oC 1 [(bV false)],oC 2 [(nI e),(nI 0)],(3,(.map (aN aD dW 0 f) f.length),true)] 4<|gE 38 4 (nI 0)
def aQs:=fun a b c d e f=>aLP a b c d|>.1 e f tv
def aQt:=fun a b c d e f g i=>aLP a b c d|>.2 e g|>.1 f i tv
def aQu:=fun a b c d e f g i=>aLP a b c d|>.2 e g|>.2 f i tv
def aW0(a:Int):=tT 0 (start PP 212 [(nI a)])<|gd 9 5 (a≥ (-1000000000:Int)) (gE 6 0 (bV (decide (a≤1000000000))))<|gE 6 0 (bV false)
def aQv:=fun a b=>aW0 a|>.t b tv
def aQw:=fun a b=>aW0 a|>.f b tv
theorem aM {α:Type}(l:List α) : (((length l:Nat) :Int) == (0:Int)) =decide (l.length=0) :=by cases l<;>simp;omega
def bK (f n:Int)(t:aE)(ps:List Pat) :Bool:=
 if f=1∨f=5 then decide (ps.length=0) &&decide (n=0) &&decide (t= [])
 else if f=2 then decide (ps.length=0) &&decide (n=0) &&dQ t
 else if f=3 then decide (ps.length=0) &&decide (t= []) &&cC n (-1000000000) 1000000000
 else if f=4 then decide (ps.length=0) &&decide (t= []) &&cC n 0 1
 else if f=6 then decide ((ps.length:Int) ≤3) &&decide (n=0) &&cB t
 else false
mutual
def aB0 :Pat→Bool
 | .mk f n t ps=>bK f n t ps&&vO ps
def vO :List Pat→Bool
 | [] =>true
 |p::ps=>aB0 p&&vO ps
end
mutual
def fO :Pat→List aE
 | .mk f _ t ps=>if f=2 then [t]else gR ps
def gR :List Pat→List aE
 | [] =>[]
 |p::ps=>fO p++gR ps
end
mutual
theorem aB1 :∀p,(fO p).length≤bJ p
 | .mk f _ t ps=>by
  have:=sT ps;rw [fO,bJ];split
  ·simp
  ·omega
theorem sT :∀ps,(gR ps).length≤aZ ps
 | [] =>by simp [gR]
 | p::ps=>by
  have:=aB1 p;have:=sT ps;simp only [gR,aZ,List.length_append];omega
end
theorem aF5 (f n:Int)(s:aE)(ps:List Pat)(hl:ps.length<1000000)(ih:∀p∈ps,Pure PP 189 [Pat.av p] (.ilst 1 (map aD (fO p)) false)) :
  ∀ (t:List Pat) (i:Nat) (acc:List aE),ps.drop i=t→ (acc++gR t).length≤1000000→Ends PP 0 (aEq f n s ps (i:Int) acc).as (.ret (.ilst 1 (map aD (acc++gR t)) false)) (aO [] 0)
 | [],i,acc,h,hb=>by
  have:=bD h;rw [gR,List.append_nil];exact aPY f n s ps i acc sd
 | .mk f' n' s' ps'::t,i,acc,h,hb=>by
  obtain⟨g1,g2,g3⟩ :=aW h;rw [gR,←List.append_assoc]at hb ⊢;refine(aPX f n s ps i acc f' n' s' ps' (fO (.mk f' n' s' ps')) sd sd sd (ih _ (mem_of_getElem? g1)) (by simp at hb ⊢;omega) sd).ends ?_;exact aF5 f n s ps hl ih t (i+1) _ g2 hb
mutual
theorem aF6 :∀ (p:Pat),bJ p≤1000→Pure PP 189 [Pat.av p] (.ilst 1 (map aD (fO p)) false)
 | .mk f n s ps,h=>by
  refine bS (s:=aWV f n s ps) (by kernel_rfl) (by kernel_rfl) (by simp [keylessL,lZ]) (by simp [keyless]) ?_;simp only [bJ]at h;have:=dJ ps;have:=sT ps;rw [fO];by_cases hf:f=2
  · rw [if_pos hf];exact aPV f n s ps (by simp [hf])
  · rw [if_neg hf];exact(aPW f n s ps (by simp [hf])).ends (aF5 f n s ps (by omega) (aIx ps (by omega)) ps 0 [] rfl (by simp;omega))
theorem aIx :∀ (ps:List Pat),aZ ps≤1000→∀p∈ps,Pure PP 189 [Pat.av p] (.ilst 1 (map aD (fO p)) false)
 | [],_,p,hp=>by cases hp
 | q::ps,h,p,hp=>by
  simp only [aZ]at h;rcases List.mem_cons.1 hp with e|hp
  ·rw [e];exact aF6 q (by omega)
  ·exact aIx ps (by omega) p hp
end
theorem aYW (q_form q_n:Int)(q_text:aE)(q_parts:List Pat)(b:Bool)(hk:∀i:Bool,i=bK q_form q_n q_text q_parts→Ends PP 0 (dR q_form q_n q_text q_parts i 0).as (.ret (.bool b)) (aO [] 0)) :
  Ends PP 0 (start PP 188 [Pat.av (.mk q_form q_n q_text q_parts)]).as (.ret (.bool b)) (aO [] 0) :=by
 cases hb1: (q_form== (1:Int))with
 | true=>
  cases hb2: (((length q_parts:Nat) :Int) == (0:Int))with
  | true=>
   cases hb3: (q_n== (0:Int))with
   | true=>
    exact LeadsM.ends (aPZ q_form q_n q_text q_parts   hb1 hb2 hb3) (hk _ (by clear hk;simp_all [bK,aB,aM] <;>intros<;>omega))
   | false=>
    exact LeadsM.ends (aP0 q_form q_n q_text q_parts   hb1 hb2 hb3) (hk _ (by clear hk;simp_all [bK,aB,aM] <;>intros<;>omega))
  | false=>
   exact LeadsM.ends (aP1 q_form q_n q_text q_parts   hb1 hb2) (hk _ (by clear hk;simp_all [bK,aB,aM] <;>intros<;>omega))
 | false =>
  cases hb4: (q_form== (5:Int))with
  | true=>
   cases hb5: (((length q_parts:Nat) :Int) == (0:Int))with
   | true=>
    cases hb6: (q_n== (0:Int))with
    | true=>
     exact LeadsM.ends (aP2 q_form q_n q_text q_parts   hb1 hb4 hb5 hb6) (hk _ (by clear hk;simp_all [bK,aB,aM] <;>intros<;>omega))
    | false=>
     exact LeadsM.ends (aP3 q_form q_n q_text q_parts   hb1 hb4 hb5 hb6) (hk _ (by clear hk;simp_all [bK,aB,aM] <;>intros<;>omega))
   | false=>
    exact LeadsM.ends (aP4 q_form q_n q_text q_parts   hb1 hb4 hb5) (hk _ (by clear hk;simp_all [bK,aB,aM] <;>intros<;>omega))
  | false =>
   cases hb7: (q_form== (2:Int))with
   | true=>
    cases hb8: (((length q_parts:Nat) :Int) == (0:Int))with
    | true=>
     cases hb9: (q_n== (0:Int))with
     | true=>
      exact LeadsM.ends (aP5 q_form q_n q_text q_parts  (dQ q_text) hb1 hb4 hb7 hb8 hb9 (kK q_text)) (hk _ (by clear hk;simp_all [bK,aB,aM] <;>intros<;>omega))
     | false=>
      exact LeadsM.ends (aP6 q_form q_n q_text q_parts   hb1 hb4 hb7 hb8 hb9) (hk _ (by clear hk;simp_all [bK,aB,aM] <;>intros<;>omega))
    | false=>
     exact LeadsM.ends (aP7 q_form q_n q_text q_parts   hb1 hb4 hb7 hb8) (hk _ (by clear hk;simp_all [bK,aB,aM] <;>intros<;>omega))
   | false=>
    cases hb10: (q_form== (3:Int))with
    | true=>
     cases hb11: (((length q_parts:Nat) :Int) == (0:Int))with
     | true=>
      cases hb12: (aP (length q_text) (aA q_text) 0 0)with
      | true=>
       exact LeadsM.ends (aP8 q_form q_n q_text q_parts  (cC q_n (-1000000000) 1000000000) hb1 hb4 hb7 hb10 hb11 hb12 (eT q_n (-1000000000) 1000000000)) (hk _ (by clear hk;simp_all [bK,aB,aM] <;>intros<;>omega))
      | false=>
       exact LeadsM.ends (aLk q_form q_n q_text q_parts   hb1 hb4 hb7 hb10 hb11 hb12) (hk _ (by clear hk;simp_all [bK,aB,aM] <;>intros<;>omega))
     | false=>
      exact LeadsM.ends (aLl q_form q_n q_text q_parts   hb1 hb4 hb7 hb10 hb11) (hk _ (by clear hk;simp_all [bK,aB,aM] <;>intros<;>omega))
    | false=>
     cases hb13: (q_form== (4:Int))with
     | true=>
      cases hb14: (((length q_parts:Nat) :Int) == (0:Int))with
      | true=>
       cases hb15: (aP (length q_text) (aA q_text) 0 0)with
       | true=>
        exact LeadsM.ends (aLm q_form q_n q_text q_parts  (cC q_n 0 1) hb1 hb4 hb7 hb10 hb13 hb14 hb15 (eT q_n 0 1)) (hk _ (by clear hk;simp_all [bK,aB,aM] <;>intros<;>omega))
       | false=>
        exact LeadsM.ends (aLn q_form q_n q_text q_parts   hb1 hb4 hb7 hb10 hb13 hb14 hb15) (hk _ (by clear hk;simp_all [bK,aB,aM] <;>intros<;>omega))
      | false=>
       exact LeadsM.ends (aLo q_form q_n q_text q_parts   hb1 hb4 hb7 hb10 hb13 hb14) (hk _ (by clear hk;simp_all [bK,aB,aM] <;>intros<;>omega))
     | false=>
      cases hb16: (q_form== (6:Int))with
      | true=>
       cases hb17: (decide (((length q_parts:Nat) :Int) ≤ (3:Int)))with
       | true=>
        cases hb18: (q_n== (0:Int))with
        | true=>
         exact LeadsM.ends (aLp q_form q_n q_text q_parts  (cB q_text) hb1 hb4 hb7 hb10 hb13 hb16 hb17 hb18 (kF q_text)) (hk _ (by clear hk;simp_all [bK,aB,aM] <;>intros<;>omega))
        | false=>
         exact LeadsM.ends (aLq q_form q_n q_text q_parts   hb1 hb4 hb7 hb10 hb13 hb16 hb17 hb18) (hk _ (by clear hk;simp_all [bK,aB,aM] <;>intros<;>omega))
       | false=>
        exact LeadsM.ends (aLr q_form q_n q_text q_parts   hb1 hb4 hb7 hb10 hb13 hb16 hb17) (hk _ (by clear hk;simp_all [bK,aB,aM] <;>intros<;>omega))
      | false=>
       exact LeadsM.ends (aLs q_form q_n q_text q_parts   hb1 hb4 hb7 hb10 hb13 hb16) (hk _ (by clear hk;simp_all [bK,aB,aM] <;>intros<;>omega))
theorem aF7 (f n:Int)(s:aE)(ps:List Pat)(hl:ps.length<1000000)(ih:∀p∈ps,Pure PP 188 [Pat.av p] (.bool (aB0 p))) :
  ∀ (t:List Pat) (i:Nat) (b:Bool),ps.drop i=t→Ends PP 0 (dR f n s ps b (i:Int)).as (.ret (.bool (b&&vO t))) (aO [] 0)
 | [],i,b,h=>by
  have:=bD h;exact Ends.eqv (aQb f n s ps b i sd) (by simp [vO])
 | .mk f' n' s' ps'::t,i,b,h=>by
  obtain⟨g1,g2,g3⟩ :=aW h;cases b with
  |false=>exact Ends.eqv (aQa f n s ps false i sd rfl) (by simp)
  | true=>
   refine(aP9 f n s ps true i f' n' s' ps' (aB0 (.mk f' n' s' ps')) sd rfl sd sd (ih _ (mem_of_getElem? g1)) sd).ends ?_;exact Ends.eqv (aF7 f n s ps hl ih t (i+1) _ g2) (by simp [vO])
mutual
theorem aF8 :∀ (p:Pat),bJ p<1000000→Pure PP 188 [Pat.av p] (.bool (aB0 p))
 | .mk f n s ps,h=>by
  refine bC (by kernel_rfl) (by simp [keylessL,lZ]) rfl ?_;simp only [bJ]at h;have:=dJ ps;refine aYW f n s ps _ (fun i hi=>?_);rw [hi,aB0];exact aF7 f n s ps (by omega) (aIy ps (by omega)) ps 0 _ rfl
theorem aIy :∀ (ps:List Pat),aZ ps<1000000→∀p∈ps,Pure PP 188 [Pat.av p] (.bool (aB0 p))
 | [],_,p,hp=>by cases hp
 | q::ps,h,p,hp=>by
  simp only [aZ]at h;rcases List.mem_cons.1 hp with e|hp
  ·rw [e];exact aF8 q (by omega)
  ·exact aIy ps (by omega) p hp
end
def aAV (p:Pat) :Bool:=decide (bJ p≤12) &&aB0 p&&hP (fO p)
theorem aLQ (p:Pat) :Pure PP 161 [Pat.av p] (.bool (aAV p)) :=by
 obtain⟨f,n,s,ps⟩ :=p;refine bC (by kernel_rfl) (by simp [keylessL,lZ]) rfl ?_;have hw:=sP (.mk f n s ps) 12 (by omega) (by omega);have hi:=aAc (.mk f n s ps) 12;unfold aAV;by_cases h12:bJ (.mk f n s ps) ≤12
 · have hge:decide (kJ (.mk f n s ps) 12≥ (0:Int)) =true:=by simp;exact hi.2 (by omega)
   have hp:=aF8 (.mk f n s ps) (by omega);cases hf:aB0 (.mk f n s ps)with
   | true=>
    rw [hf]at hp;have hn:=aB1 (.mk f n s ps);exact Ends.eqv (aQc f n s ps _ true _ _ hw hge hp rfl (aF6 (.mk f n s ps) (by omega)) (lG _ (by omega))) (by simp [h12])
   | false=>
    rw [hf]at hp;exact Ends.eqv (aQd f n s ps _ false hw hge hp rfl) (by simp)
 ·exact Ends.eqv (aQe f n s ps _ hw (by simp;omega)) (by simp [h12])
def aEr(a b:Int)(c:aE)(d:List Term)(e:List Pat)(j f g i:Int):TS:=⟨(tf 64 37 [(1,(nI g)),(2,(nI f)),kp 3 0,(6,(nI 0)),(7,(nI i))] [kc f64 244,kl f64 244,.inBlock 0,kc f64 31]),[],[oC 0 [(nI a),(nI b),(aD c),(.ilst 5 (Terms.av d) false),(iP e)]],1⟩
def aEs(a b:Int)(c:aE)(d:List Term)(e:List Pat)(f:Int):TS:=⟨(tf 116 36 [kp 1 0,(2,(bV false)),(3,(nI f))] [kc f116 116,kl f116 116,.inBlock 0,kc f116 15]),[],[oC 0 [(nI a),(nI b),(aD c),(.ilst 5 (Terms.av d) false),(iP e)]],1⟩
def aEt(a b:Int)(c:aE)(d:List Term)(e:List Pat)(f:Int):TS:=⟨(tf 116 36 [kp 1 0,(2,(bV false)),(4,(nI f))] [kc f116 244,kl f116 244,.inBlock 2,kc f116 31]),[],[oC 0 [(nI a),(nI b),(aD c),(.ilst 5 (Terms.av d) false),(iP e)]],1⟩
def aLR(c d:Int)(e:aE)(f:List Term)(g:List Pat)(a b:Int):=tT 0 (start PP 64 [(.agg [(nI c),(nI d),(aD e),(.ilst 5 (Terms.av f) false),(iP g)]),(nI a),(nI b)])<|gd 11 10 (a<1) (gE 10 1 (nI (-1)))<|gd 4 13 (b<1) (gE 6 1 (nI (-1)))<|gw 6 15 (a-1)<|.W 9 1 [0] (aEr c d e f g a b (a-1) 0)
def aQx:=fun a b c d e f g i=>aLR a b c d e f g|>.t i tv
def aQy:=fun a b c d e f g i j=>aLR a b c d e f g|>.f i|>.t j tv
def aQz:=fun a b c d e f g i j k=>aLR a b c d e f g|>.f i|>.f j k tv
def aLS(e f:Int)(g:aE)(a:List Term)(i:List Pat)(j d b c:Int):=tT 0 (aEr e f g a i j d b c)<|gm 6 cG a<|gd 2 21 (c< (a.length:Int)) (gd 4 24 (b≥0) (aDp 8 a c<|fun k l m n o=>gw 4 34 (d-1)<|gpI 0 64 [(.agg [(nI k),(nI l),(aD m),(.ilst 5 (Terms.av n) false),(iP o)]),(nI b),(nI (d-1))]<|fun p=>gw 6 26 (c+1)<|.W 3 1 [0] (aEr e f g a i j d p (c+1)))<|gE 8 1 (nI b))<|gE 12 1 (nI b)
def aQA:=fun a b c d e f g i j k l m n o p q r s t u v w=>aLS a b c d e f g i j|>.t q|>.t r k l m n o s t u p v w tv
def aQB:=fun a b c d e f g i j k l=>aLS a b c d e f g i j|>.t k|>.f l tv
def aQC:=fun a b c d e f g i j k=>aLS a b c d e f g i j|>.f k tv
def sU(g e:Int)(b:aE)(i:List Term)(a:List Pat)(f d c:Bool):=tT 0 (start PP 187 [(.agg [(nI g),(nI e),(aD b),(.ilst 5 (Terms.av i) false),(iP a)]),(bV f),(bV d),(bV c)])<|.b 9 10 f (.b 7 17 d (.b 8 25 c (gE 9 1 (bV true))<|gm 2 aK a<|gE 6 1 (bV ((a.length:Int) ==0)))<|.b 6 23 (aP b.length (aA b) 0 0) (.b 2 25 c (gE 9 1 (bV true))<|gm 2 aK a<|gE 6 1 (bV ((a.length:Int) ==0)))<|gE 11 1 (bV false))<|.b 5 15 (e==0) (.b 2 17 d (.b 8 25 c (gE 9 1 (bV true))<|gm 2 aK a<|gE 6 1 (bV ((a.length:Int) ==0)))<|.b 6 23 (aP b.length (aA b) 0 0) (.b 2 25 c (gE 9 1 (bV true))<|gm 2 aK a<|gE 6 1 (bV ((a.length:Int) ==0)))<|gE 11 1 (bV false))<|gE 19 1 (bV false)
def aQD:=fun a b c d e f g i j k l=>sU a b c d e f g i|>.t j|>.t k|>.t l tv
def aQE:=fun a b c d e f g i j k l=>sU a b c d e f g i|>.t j|>.t k|>.f l tv
def aQF:=fun a b c d e f g i j k l m=>sU a b c d e f g i|>.t j|>.f k|>.t l|>.t m tv
def aQG:=fun a b c d e f g i j k l m=>sU a b c d e f g i|>.t j|>.f k|>.t l|>.f m tv
def aQH:=fun a b c d e f g i j k l=>sU a b c d e f g i|>.t j|>.f k|>.f l tv
def aQI:=fun a b c d e f g i j k l m=>sU a b c d e f g i|>.f j|>.t k|>.t l|>.t m tv
def aQJ:=fun a b c d e f g i j k l m=>sU a b c d e f g i|>.f j|>.t k|>.t l|>.f m tv
def aQK:=fun a b c d e f g i j k l m n=>sU a b c d e f g i|>.f j|>.t k|>.f l|>.t m|>.t n tv
def aQL:=fun a b c d e f g i j k l m n=>sU a b c d e f g i|>.f j|>.t k|>.f l|>.t m|>.f n tv
def aQM:=fun a b c d e f g i j k l m=>sU a b c d e f g i|>.f j|>.t k|>.f l|>.f m tv
def aLT:=fun a b c d e f g i j k=>sU a b c d e f g i|>.f j|>.f k tv
def bG(b f:Int)(d:aE)(a:List Term)(e:List Pat):=tT 0 (start PP 160 [(.agg [(nI b),(nI f),(aD d),(.ilst 5 (Terms.av a) false),(iP e)])])<|gm 9 cG a<|.b 14 9 (b==1) (.b 6 13 ((a.length:Int) ==0) (cZ 1 187 [(.agg [(nI b),(nI f),(aD d),(.ilst 5 (Terms.av a) false),(iP e)]),(bV true),(bV false),(bV false)]<|fun c=>.b 2 17 c (cZ 2 73 [(nI f),(nI (-1000000000)),(nI 1000000000)]<|fun g=>gE 4 1 (bV g))<|gE 7 1 (bV false))<|gE 11 1 (bV false))<|.b 6 22 (b==2) (.b 6 26 ((a.length:Int) ==0) (cZ 1 187 [(.agg [(nI b),(nI f),(aD d),(.ilst 5 (Terms.av a) false),(iP e)]),(bV true),(bV false),(bV false)]<|fun c=>.b 2 30 c (cZ 2 73 [(nI f),(nI 0),(nI 1)]<|fun g=>gE 4 1 (bV g))<|gE 7 1 (bV false))<|gE 11 1 (bV false))<|.b 7 35 (b==3) (.b 8 42 ((a.length:Int) ==0) (cZ 1 187 [(.agg [(nI b),(nI f),(aD d),(.ilst 5 (Terms.av a) false),(iP e)]),(bV false),(bV false),(bV false)]<|fun c=>gE 4 1 (bV c))<|gE 6 1 (bV false))<|.b 6 35 (b==21) (.b 8 42 ((a.length:Int) ==0) (cZ 1 187 [(.agg [(nI b),(nI f),(aD d),(.ilst 5 (Terms.av a) false),(iP e)]),(bV false),(bV false),(bV false)]<|fun c=>gE 4 1 (bV c))<|gE 6 1 (bV false))<|.b 6 35 (b==25) (.b 8 42 ((a.length:Int) ==0) (cZ 1 187 [(.agg [(nI b),(nI f),(aD d),(.ilst 5 (Terms.av a) false),(iP e)]),(bV false),(bV false),(bV false)]<|fun c=>gE 4 1 (bV c))<|gE 6 1 (bV false))<|.b 5 35 (b==28) (.b 6 42 ((a.length:Int) ==0) (cZ 1 187 [(.agg [(nI b),(nI f),(aD d),(.ilst 5 (Terms.av a) false),(iP e)]),(bV false),(bV false),(bV false)]<|fun c=>gE 4 1 (bV c))<|gE 6 1 (bV false))<|.b 6 46 (b==4) (.b 6 50 ((a.length:Int) ==0) (cZ 1 187 [(.agg [(nI b),(nI f),(aD d),(.ilst 5 (Terms.av a) false),(iP e)]),(bV false),(bV true),(bV false)]<|fun c=>.b 2 54 c (cZ 2 72 [(aD d)]<|fun g=>gE 4 1 (bV g))<|gE 7 1 (bV false))<|gE 11 1 (bV false))<|.b 7 59 (b==5) (.b 8 64 ((a.length:Int) ==1) (cZ 1 187 [(.agg [(nI b),(nI f),(aD d),(.ilst 5 (Terms.av a) false),(iP e)]),(bV false),(bV true),(bV false)]<|fun c=>.b 2 68 c (cZ 2 72 [(aD d)]<|fun g=>gE 4 1 (bV g))<|gE 7 1 (bV false))<|gE 11 1 (bV false))<|.b 5 59 (b==27) (.b 6 64 ((a.length:Int) ==1) (cZ 1 187 [(.agg [(nI b),(nI f),(aD d),(.ilst 5 (Terms.av a) false),(iP e)]),(bV false),(bV true),(bV false)]<|fun c=>.b 2 68 c (cZ 2 72 [(aD d)]<|fun g=>gE 4 1 (bV g))<|gE 7 1 (bV false))<|gE 11 1 (bV false))<|.b 6 73 (b==7) (.b 6 77 ((a.length:Int) ==2) (cZ 1 187 [(.agg [(nI b),(nI f),(aD d),(.ilst 5 (Terms.av a) false),(iP e)]),(bV false),(bV true),(bV false)]<|fun c=>.b 2 81 c (cZ 2 72 [(aD d)]<|fun g=>gE 4 1 (bV g))<|gE 7 1 (bV false))<|gE 11 1 (bV false))<|.b 6 86 (b==8) (.b 6 90 ((a.length:Int) ==3) (cZ 1 187 [(.agg [(nI b),(nI f),(aD d),(.ilst 5 (Terms.av a) false),(iP e)]),(bV false),(bV false),(bV false)]<|fun c=>gE 4 1 (bV c))<|gE 6 1 (bV false))<|.b 6 94 (b==14) (gd 6 98 ((a.length:Int) ≤3) (cZ 1 187 [(.agg [(nI b),(nI f),(aD d),(.ilst 5 (Terms.av a) false),(iP e)]),(bV false),(bV true),(bV false)]<|fun c=>.b 2 102 c (cZ 2 114 [(aD d)]<|fun g=>gE 4 1 (bV g))<|gE 7 1 (bV false))<|gE 11 1 (bV false))<|.b 6 107 (b==15) (gm 5 aK e<|cZ 0 73 [(nI (e.length:Int)),(nI 1),(nI 5)]<|fun c=>.b 1 113 c (gm 3 aK e<|gw 1 118 (1+ (e.length:Int))<|.b 3 121 ((a.length:Int) == (1+ (e.length:Int))) (cZ 1 187 [(.agg [(nI b),(nI f),(aD d),(.ilst 5 (Terms.av a) false),(iP e)]),(bV false),(bV false),(bV true)]<|fun g=>gE 4 1 (bV g))<|gE 6 1 (bV false))<|gE 14 1 (bV false))<|.b 7 125 (b==16) (.b 8 134 ((a.length:Int) ==1) (cZ 1 187 [(.agg [(nI b),(nI f),(aD d),(.ilst 5 (Terms.av a) false),(iP e)]),(bV false),(bV false),(bV false)]<|fun c=>gE 4 1 (bV c))<|gE 6 1 (bV false))<|.b 6 125 (b==17) (.b 8 134 ((a.length:Int) ==1) (cZ 1 187 [(.agg [(nI b),(nI f),(aD d),(.ilst 5 (Terms.av a) false),(iP e)]),(bV false),(bV false),(bV false)]<|fun c=>gE 4 1 (bV c))<|gE 6 1 (bV false))<|.b 6 125 (b==19) (.b 8 134 ((a.length:Int) ==1) (cZ 1 187 [(.agg [(nI b),(nI f),(aD d),(.ilst 5 (Terms.av a) false),(iP e)]),(bV false),(bV false),(bV false)]<|fun c=>gE 4 1 (bV c))<|gE 6 1 (bV false))<|.b 6 125 (b==20) (.b 8 134 ((a.length:Int) ==1) (cZ 1 187 [(.agg [(nI b),(nI f),(aD d),(.ilst 5 (Terms.av a) false),(iP e)]),(bV false),(bV false),(bV false)]<|fun c=>gE 4 1 (bV c))<|gE 6 1 (bV false))<|.b 6 125 (b==23) (.b 8 134 ((a.length:Int) ==1) (cZ 1 187 [(.agg [(nI b),(nI f),(aD d),(.ilst 5 (Terms.av a) false),(iP e)]),(bV false),(bV false),(bV false)]<|fun c=>gE 4 1 (bV c))<|gE 6 1 (bV false))<|.b 5 125 (b==26) (.b 6 134 ((a.length:Int) ==1) (cZ 1 187 [(.agg [(nI b),(nI f),(aD d),(.ilst 5 (Terms.av a) false),(iP e)]),(bV false),(bV false),(bV false)]<|fun c=>gE 4 1 (bV c))<|gE 6 1 (bV false))<|.b 6 138 (b==24) (.b 6 142 ((a.length:Int) ==1) (cZ 1 187 [(.agg [(nI b),(nI f),(aD d),(.ilst 5 (Terms.av a) false),(iP e)]),(bV true),(bV false),(bV false)]<|fun c=>.b 2 146 c (cZ 2 73 [(nI f),(nI 0),(nI 3)]<|fun g=>gE 4 1 (bV g))<|gE 7 1 (bV false))<|gE 11 1 (bV false))<|.b 7 151 (b==6) (.b 8 162 ((a.length:Int) ==2) (cZ 1 187 [(.agg [(nI b),(nI f),(aD d),(.ilst 5 (Terms.av a) false),(iP e)]),(bV false),(bV false),(bV false)]<|fun c=>gE 4 1 (bV c))<|gE 6 1 (bV false))<|.b 6 151 (b==9) (.b 8 162 ((a.length:Int) ==2) (cZ 1 187 [(.agg [(nI b),(nI f),(aD d),(.ilst 5 (Terms.av a) false),(iP e)]),(bV false),(bV false),(bV false)]<|fun c=>gE 4 1 (bV c))<|gE 6 1 (bV false))<|.b 6 151 (b==10) (.b 8 162 ((a.length:Int) ==2) (cZ 1 187 [(.agg [(nI b),(nI f),(aD d),(.ilst 5 (Terms.av a) false),(iP e)]),(bV false),(bV false),(bV false)]<|fun c=>gE 4 1 (bV c))<|gE 6 1 (bV false))<|.b 6 151 (b==11) (.b 8 162 ((a.length:Int) ==2) (cZ 1 187 [(.agg [(nI b),(nI f),(aD d),(.ilst 5 (Terms.av a) false),(iP e)]),(bV false),(bV false),(bV false)]<|fun c=>gE 4 1 (bV c))<|gE 6 1 (bV false))<|.b 6 151 (b==12) (.b 8 162 ((a.length:Int) ==2) (cZ 1 187 [(.agg [(nI b),(nI f),(aD d),(.ilst 5 (Terms.av a) false),(iP e)]),(bV false),(bV false),(bV false)]<|fun c=>gE 4 1 (bV c))<|gE 6 1 (bV false))<|.b 6 151 (b==13) (.b 8 162 ((a.length:Int) ==2) (cZ 1 187 [(.agg [(nI b),(nI f),(aD d),(.ilst 5 (Terms.av a) false),(iP e)]),(bV false),(bV false),(bV false)]<|fun c=>gE 4 1 (bV c))<|gE 6 1 (bV false))<|.b 6 151 (b==18) (.b 8 162 ((a.length:Int) ==2) (cZ 1 187 [(.agg [(nI b),(nI f),(aD d),(.ilst 5 (Terms.av a) false),(iP e)]),(bV false),(bV false),(bV false)]<|fun c=>gE 4 1 (bV c))<|gE 6 1 (bV false))<|.b 5 151 (b==22) (.b 6 162 ((a.length:Int) ==2) (cZ 1 187 [(.agg [(nI b),(nI f),(aD d),(.ilst 5 (Terms.av a) false),(iP e)]),(bV false),(bV false),(bV false)]<|fun c=>gE 4 1 (bV c))<|gE 6 1 (bV false))<|gE 8 1 (bV false)
def aQN:=fun a b c d e f g i j k l m=>bG a b c d e|>.t i|>.t j f k|>.t l g m tv
def aQO:=fun a b c d e f g i j k=>bG a b c d e|>.t g|>.t i f j|>.f k tv
def aQP:=fun a b c d e f g=>bG a b c d e|>.t f|>.f g tv
def aQQ:=fun a b c d e f g i j k l m n=>bG a b c d e|>.f i|>.t j|>.t k f l|>.t m g n tv
def aQR:=fun a b c d e f g i j k l=>bG a b c d e|>.f g|>.t i|>.t j f k|>.f l tv
def aQS:=fun a b c d e f g i=>bG a b c d e|>.f f|>.t g|>.f i tv
def aQT:=fun a b c d e f g i j k l=>bG a b c d e|>.f g|>.f i|>.t j|>.t k f l tv
def aQU:=fun a b c d e f g i j=>bG a b c d e|>.f f|>.f g|>.t i|>.f j tv
def aQV:=fun a b c d e f g i j k l m=>bG a b c d e|>.f g|>.f i|>.f j|>.t k|>.t l f m tv
def aQW:=fun a b c d e f g i j k=>bG a b c d e|>.f f|>.f g|>.f i|>.t j|>.f k tv
def aLU:=fun a b c d e f g i j k l m n=>bG a b c d e|>.f g|>.f i|>.f j|>.f k|>.t l|>.t m f n tv
def aLV:=fun a b c d e f g i j k l=>bG a b c d e|>.f f|>.f g|>.f i|>.f j|>.t k|>.f l tv
def aLW:=fun a b c d e f g i j k l m n o=>bG a b c d e|>.f g|>.f i|>.f j|>.f k|>.f l|>.t m|>.t n f o tv
def aLX:=fun a b c d e f g i j k l m=>bG a b c d e|>.f f|>.f g|>.f i|>.f j|>.f k|>.t l|>.f m tv
def aLY:=fun a b c d e f g i j k l m n o p q r s=>bG a b c d e|>.f i|>.f j|>.f k|>.f l|>.f m|>.f n|>.t o|>.t p f q|>.t r g s tv
def aLZ:=fun a b c d e f g i j k l m n o p q=>bG a b c d e|>.f g|>.f i|>.f j|>.f k|>.f l|>.f m|>.t n|>.t o f p|>.f q tv
def aL0:=fun a b c d e f g i j k l m n=>bG a b c d e|>.f f|>.f g|>.f i|>.f j|>.f k|>.f l|>.t m|>.f n tv
def aL1:=fun a b c d e f g i j k l m n o p q r s t=>bG a b c d e|>.f i|>.f j|>.f k|>.f l|>.f m|>.f n|>.f o|>.t p|>.t q f r|>.t s g t tv
def aL2:=fun a b c d e f g i j k l m n o p q r=>bG a b c d e|>.f g|>.f i|>.f j|>.f k|>.f l|>.f m|>.f n|>.t o|>.t p f q|>.f r tv
def aL3:=fun a b c d e f g i j k l m n o=>bG a b c d e|>.f f|>.f g|>.f i|>.f j|>.f k|>.f l|>.f m|>.t n|>.f o tv
def aL4:=fun a b c d e f g i j k l m n o p q r s t u=>bG a b c d e|>.f i|>.f j|>.f k|>.f l|>.f m|>.f n|>.f o|>.f p|>.t q|>.t r f s|>.t t g u tv
def aL5:=fun a b c d e f g i j k l m n o p q r s=>bG a b c d e|>.f g|>.f i|>.f j|>.f k|>.f l|>.f m|>.f n|>.f o|>.t p|>.t q f r|>.f s tv
def aL6:=fun a b c d e f g i j k l m n o p=>bG a b c d e|>.f f|>.f g|>.f i|>.f j|>.f k|>.f l|>.f m|>.f n|>.t o|>.f p tv
def aL7:=fun a b c d e f g i j k l m n o p q r s t u v=>bG a b c d e|>.f i|>.f j|>.f k|>.f l|>.f m|>.f n|>.f o|>.f p|>.f q|>.t r|>.t s f t|>.t u g v tv
def aL8:=fun a b c d e f g i j k l m n o p q r s t=>bG a b c d e|>.f g|>.f i|>.f j|>.f k|>.f l|>.f m|>.f n|>.f o|>.f p|>.t q|>.t r f s|>.f t tv
def aL9:=fun a b c d e f g i j k l m n o p q=>bG a b c d e|>.f f|>.f g|>.f i|>.f j|>.f k|>.f l|>.f m|>.f n|>.f o|>.t p|>.f q tv
def aMa:=fun a b c d e f g i j k l m n o p q r s t=>bG a b c d e|>.f g|>.f i|>.f j|>.f k|>.f l|>.f m|>.f n|>.f o|>.f p|>.f q|>.t r|>.t s f t tv
def aMb:=fun a b c d e f g i j k l m n o p q r=>bG a b c d e|>.f f|>.f g|>.f i|>.f j|>.f k|>.f l|>.f m|>.f n|>.f o|>.f p|>.t q|>.f r tv
def aMc:=fun a b c d e f g i j k l m n o p q r s t u v w x=>bG a b c d e|>.f i|>.f j|>.f k|>.f l|>.f m|>.f n|>.f o|>.f p|>.f q|>.f r|>.f s|>.t t|>.t u f v|>.t w g x tv
def aMd:=fun a b c d e f g i j k l m n o p q r s t u v=>bG a b c d e|>.f g|>.f i|>.f j|>.f k|>.f l|>.f m|>.f n|>.f o|>.f p|>.f q|>.f r|>.t s|>.t t f u|>.f v tv
def aMe:=fun a b c d e f g i j k l m n o p q r s=>bG a b c d e|>.f f|>.f g|>.f i|>.f j|>.f k|>.f l|>.f m|>.f n|>.f o|>.f p|>.f q|>.t r|>.f s tv
def aMf:=fun a b c d e f g i j k l m n o p q r s t u v w x y z=>bG a b c d e|>.f i|>.f j|>.f k|>.f l|>.f m|>.f n|>.f o|>.f p|>.f q|>.f r|>.f s|>.f t|>.t u f v|>.t w x|>.t y g z tv
def aMg:=fun a b c d e f g i j k l m n o p q r s t u v w x=>bG a b c d e|>.f g|>.f i|>.f j|>.f k|>.f l|>.f m|>.f n|>.f o|>.f p|>.f q|>.f r|>.f s|>.t t f u|>.t v w|>.f x tv
def aMh:=fun a b c d e f g i j k l m n o p q r s t u v=>bG a b c d e|>.f g|>.f i|>.f j|>.f k|>.f l|>.f m|>.f n|>.f o|>.f p|>.f q|>.f r|>.f s|>.t t f u|>.f v tv
def aMi:=fun a b c d e f g i j k l m n o p q r s t u v w=>bG a b c d e|>.f g|>.f i|>.f j|>.f k|>.f l|>.f m|>.f n|>.f o|>.f p|>.f q|>.f r|>.f s|>.f t|>.t u|>.t v f w tv
def aMj:=fun a b c d e f g i j k l m n o p q r s t u=>bG a b c d e|>.f f|>.f g|>.f i|>.f j|>.f k|>.f l|>.f m|>.f n|>.f o|>.f p|>.f q|>.f r|>.f s|>.t t|>.f u tv
def aMk:=fun a b c d e f g i j k l m n o p q r s t u v w x=>bG a b c d e|>.f g|>.f i|>.f j|>.f k|>.f l|>.f m|>.f n|>.f o|>.f p|>.f q|>.f r|>.f s|>.f t|>.f u|>.t v|>.t w f x tv
def aMl:=fun a b c d e f g i j k l m n o p q r s t u v=>bG a b c d e|>.f f|>.f g|>.f i|>.f j|>.f k|>.f l|>.f m|>.f n|>.f o|>.f p|>.f q|>.f r|>.f s|>.f t|>.t u|>.f v tv
def aMm:=fun a b c d e f g i j k l m n o p q r s t u v w x y=>bG a b c d e|>.f g|>.f i|>.f j|>.f k|>.f l|>.f m|>.f n|>.f o|>.f p|>.f q|>.f r|>.f s|>.f t|>.f u|>.f v|>.t w|>.t x f y tv
def aMn:=fun a b c d e f g i j k l m n o p q r s t u v w=>bG a b c d e|>.f f|>.f g|>.f i|>.f j|>.f k|>.f l|>.f m|>.f n|>.f o|>.f p|>.f q|>.f r|>.f s|>.f t|>.f u|>.t v|>.f w tv
def aMo:=fun a b c d e f g i j k l m n o p q r s t u v w x y z=>bG a b c d e|>.f g|>.f i|>.f j|>.f k|>.f l|>.f m|>.f n|>.f o|>.f p|>.f q|>.f r|>.f s|>.f t|>.f u|>.f v|>.f w|>.t x|>.t y f z tv
def aMp:=fun a b c d e f g i j k l m n o p q r s t u v w x=>bG a b c d e|>.f f|>.f g|>.f i|>.f j|>.f k|>.f l|>.f m|>.f n|>.f o|>.f p|>.f q|>.f r|>.f s|>.f t|>.f u|>.f v|>.t w|>.f x tv
def aMq:=fun a b c d e f g i j k l m n o p q r s t u v w x y z A=>bG a b c d e|>.f g|>.f i|>.f j|>.f k|>.f l|>.f m|>.f n|>.f o|>.f p|>.f q|>.f r|>.f s|>.f t|>.f u|>.f v|>.f w|>.f x|>.t y|>.t z f A tv
def aMr:=fun a b c d e f g i j k l m n o p q r s t u v w x y=>bG a b c d e|>.f f|>.f g|>.f i|>.f j|>.f k|>.f l|>.f m|>.f n|>.f o|>.f p|>.f q|>.f r|>.f s|>.f t|>.f u|>.f v|>.f w|>.t x|>.f y tv
def aMs:=fun a b c d e f g i j k l m n o p q r s t u v w x y z A B=>bG a b c d e|>.f g|>.f i|>.f j|>.f k|>.f l|>.f m|>.f n|>.f o|>.f p|>.f q|>.f r|>.f s|>.f t|>.f u|>.f v|>.f w|>.f x|>.f y|>.t z|>.t A f B tv
def aMt:=fun a b c d e f g i j k l m n o p q r s t u v w x y z=>bG a b c d e|>.f f|>.f g|>.f i|>.f j|>.f k|>.f l|>.f m|>.f n|>.f o|>.f p|>.f q|>.f r|>.f s|>.f t|>.f u|>.f v|>.f w|>.f x|>.t y|>.f z tv
def aMu:=fun a b c d e f g i j k l m n o p q r s t u v w x y z A B C D F G=>bG a b c d e|>.f i|>.f j|>.f k|>.f l|>.f m|>.f n|>.f o|>.f p|>.f q|>.f r|>.f s|>.f t|>.f u|>.f v|>.f w|>.f x|>.f y|>.f z|>.f A|>.t B|>.t C f D|>.t F g G tv
def aMv:=fun a b c d e f g i j k l m n o p q r s t u v w x y z A B C D=>bG a b c d e|>.f g|>.f i|>.f j|>.f k|>.f l|>.f m|>.f n|>.f o|>.f p|>.f q|>.f r|>.f s|>.f t|>.f u|>.f v|>.f w|>.f x|>.f y|>.f z|>.t A|>.t B f C|>.f D tv
def aMw:=fun a b c d e f g i j k l m n o p q r s t u v w x y z A=>bG a b c d e|>.f f|>.f g|>.f i|>.f j|>.f k|>.f l|>.f m|>.f n|>.f o|>.f p|>.f q|>.f r|>.f s|>.f t|>.f u|>.f v|>.f w|>.f x|>.f y|>.t z|>.f A tv
def aMx:=fun a b c d e f g i j k l m n o p q r s t u v w x y z A B C D=>bG a b c d e|>.f g|>.f i|>.f j|>.f k|>.f l|>.f m|>.f n|>.f o|>.f p|>.f q|>.f r|>.f s|>.f t|>.f u|>.f v|>.f w|>.f x|>.f y|>.f z|>.f A|>.t B|>.t C f D tv
def aMy:=fun a b c d e f g i j k l m n o p q r s t u v w x y z A B=>bG a b c d e|>.f f|>.f g|>.f i|>.f j|>.f k|>.f l|>.f m|>.f n|>.f o|>.f p|>.f q|>.f r|>.f s|>.f t|>.f u|>.f v|>.f w|>.f x|>.f y|>.f z|>.t A|>.f B tv
def aMz:=fun a b c d e f g i j k l m n o p q r s t u v w x y z A B C D F=>bG a b c d e|>.f g|>.f i|>.f j|>.f k|>.f l|>.f m|>.f n|>.f o|>.f p|>.f q|>.f r|>.f s|>.f t|>.f u|>.f v|>.f w|>.f x|>.f y|>.f z|>.f A|>.f B|>.t C|>.t D f F tv
def aMA:=fun a b c d e f g i j k l m n o p q r s t u v w x y z A B C=>bG a b c d e|>.f f|>.f g|>.f i|>.f j|>.f k|>.f l|>.f m|>.f n|>.f o|>.f p|>.f q|>.f r|>.f s|>.f t|>.f u|>.f v|>.f w|>.f x|>.f y|>.f z|>.f A|>.t B|>.f C tv
def aMB:=fun a b c d e f g i j k l m n o p q r s t u v w x y z A B C D F G=>bG a b c d e|>.f g|>.f i|>.f j|>.f k|>.f l|>.f m|>.f n|>.f o|>.f p|>.f q|>.f r|>.f s|>.f t|>.f u|>.f v|>.f w|>.f x|>.f y|>.f z|>.f A|>.f B|>.f C|>.t D|>.t F f G tv
def aMC:=fun a b c d e f g i j k l m n o p q r s t u v w x y z A B C D=>bG a b c d e|>.f f|>.f g|>.f i|>.f j|>.f k|>.f l|>.f m|>.f n|>.f o|>.f p|>.f q|>.f r|>.f s|>.f t|>.f u|>.f v|>.f w|>.f x|>.f y|>.f z|>.f A|>.f B|>.t C|>.f D tv
def aMD:=fun a b c d e f g i j k l m n o p q r s t u v w x y z A B C D F G H=>bG a b c d e|>.f g|>.f i|>.f j|>.f k|>.f l|>.f m|>.f n|>.f o|>.f p|>.f q|>.f r|>.f s|>.f t|>.f u|>.f v|>.f w|>.f x|>.f y|>.f z|>.f A|>.f B|>.f C|>.f D|>.t F|>.t G f H tv
def aME:=fun a b c d e f g i j k l m n o p q r s t u v w x y z A B C D F=>bG a b c d e|>.f f|>.f g|>.f i|>.f j|>.f k|>.f l|>.f m|>.f n|>.f o|>.f p|>.f q|>.f r|>.f s|>.f t|>.f u|>.f v|>.f w|>.f x|>.f y|>.f z|>.f A|>.f B|>.f C|>.t D|>.f F tv
def aMF:=fun a b c d e f g i j k l m n o p q r s t u v w x y z A B C D F G H I=>bG a b c d e|>.f g|>.f i|>.f j|>.f k|>.f l|>.f m|>.f n|>.f o|>.f p|>.f q|>.f r|>.f s|>.f t|>.f u|>.f v|>.f w|>.f x|>.f y|>.f z|>.f A|>.f B|>.f C|>.f D|>.f F|>.t G|>.t H f I tv
def aMG:=fun a b c d e f g i j k l m n o p q r s t u v w x y z A B C D F G=>bG a b c d e|>.f f|>.f g|>.f i|>.f j|>.f k|>.f l|>.f m|>.f n|>.f o|>.f p|>.f q|>.f r|>.f s|>.f t|>.f u|>.f v|>.f w|>.f x|>.f y|>.f z|>.f A|>.f B|>.f C|>.f D|>.t F|>.f G tv
def aMH:=fun a b c d e f g i j k l m n o p q r s t u v w x y z A B C D F G H I J=>bG a b c d e|>.f g|>.f i|>.f j|>.f k|>.f l|>.f m|>.f n|>.f o|>.f p|>.f q|>.f r|>.f s|>.f t|>.f u|>.f v|>.f w|>.f x|>.f y|>.f z|>.f A|>.f B|>.f C|>.f D|>.f F|>.f G|>.t H|>.t I f J tv
def aMI:=fun a b c d e f g i j k l m n o p q r s t u v w x y z A B C D F G H=>bG a b c d e|>.f f|>.f g|>.f i|>.f j|>.f k|>.f l|>.f m|>.f n|>.f o|>.f p|>.f q|>.f r|>.f s|>.f t|>.f u|>.f v|>.f w|>.f x|>.f y|>.f z|>.f A|>.f B|>.f C|>.f D|>.f F|>.t G|>.f H tv
def aMJ:=fun a b c d e f g i j k l m n o p q r s t u v w x y z A B C D F G H I J K=>bG a b c d e|>.f g|>.f i|>.f j|>.f k|>.f l|>.f m|>.f n|>.f o|>.f p|>.f q|>.f r|>.f s|>.f t|>.f u|>.f v|>.f w|>.f x|>.f y|>.f z|>.f A|>.f B|>.f C|>.f D|>.f F|>.f G|>.f H|>.t I|>.t J f K tv
def aMK:=fun a b c d e f g i j k l m n o p q r s t u v w x y z A B C D F G H I=>bG a b c d e|>.f f|>.f g|>.f i|>.f j|>.f k|>.f l|>.f m|>.f n|>.f o|>.f p|>.f q|>.f r|>.f s|>.f t|>.f u|>.f v|>.f w|>.f x|>.f y|>.f z|>.f A|>.f B|>.f C|>.f D|>.f F|>.f G|>.t H|>.f I tv
def aML:=fun a b c d e f g i j k l m n o p q r s t u v w x y z A B C D F G H I J K L=>bG a b c d e|>.f g|>.f i|>.f j|>.f k|>.f l|>.f m|>.f n|>.f o|>.f p|>.f q|>.f r|>.f s|>.f t|>.f u|>.f v|>.f w|>.f x|>.f y|>.f z|>.f A|>.f B|>.f C|>.f D|>.f F|>.f G|>.f H|>.f I|>.t J|>.t K f L tv
def aMM:=fun a b c d e f g i j k l m n o p q r s t u v w x y z A B C D F G H I J=>bG a b c d e|>.f f|>.f g|>.f i|>.f j|>.f k|>.f l|>.f m|>.f n|>.f o|>.f p|>.f q|>.f r|>.f s|>.f t|>.f u|>.f v|>.f w|>.f x|>.f y|>.f z|>.f A|>.f B|>.f C|>.f D|>.f F|>.f G|>.f H|>.t I|>.f J tv
def aMN:=fun a b c d e f g i j k l m n o p q r s t u v w x y z A B C D F G H I=>bG a b c d e|>.f f|>.f g|>.f i|>.f j|>.f k|>.f l|>.f m|>.f n|>.f o|>.f p|>.f q|>.f r|>.f s|>.f t|>.f u|>.f v|>.f w|>.f x|>.f y|>.f z|>.f A|>.f B|>.f C|>.f D|>.f F|>.f G|>.f H|>.f I tv
def aW1(a b:Int)(c:aE)(d:List Term)(e:List Pat):=tT 0 (start PP 116 [(.agg [(nI a),(nI b),(aD c),(.ilst 5 (Terms.av d) false),(iP e)])])<|cZ 9 160 [(.agg [(nI a),(nI b),(aD c),(.ilst 5 (Terms.av d) false),(iP e)])]<|fun f=>.b 2 7 (!f) (gE 6 1 (bV false))<|.W 9 1 [0] (aEs a b c d e 0)
def aQX:=fun a b c d e f g i=>aW1 a b c d e f g|>.t i tv
def aQY:=fun a b c d e f g i=>aW1 a b c d e f g|>.f i tv
def aMO(c d:Int)(e:aE)(f:List Term)(a:List Pat)(b:Int):=tT 0 (aEs c d e f a b)<|gm 6 aK a<|gd 2 12 (b< (a.length:Int)) (aBU 9 a b<|fun g i j k=>cZ 1 161 [(.agg [(nI g),(nI i),(aD j),(iP k)])]<|fun l=>.b 2 21 (!l) (gE 6 1 (bV false))<|gw 6 14 (b+1)<|.W 3 1 [0] (aEs c d e f a (b+1)))<|.W 9 1 [0] (aEt c d e f a 0)
def aQZ:=fun a b c d e f g i j k l m n o p q=>aMO a b c d e f|>.t m g i j k n o l p|>.t q tv
def aQ0:=fun a b c d e f g i j k l m n o p q r=>aMO a b c d e f|>.t m g i j k n o l p|>.f q r tv
def aQ1:=fun a b c d e f g=>aMO a b c d e f|>.f g tv
def aMP(c d:Int)(e:aE)(a:List Term)(f:List Pat)(b:Int):=tT 0 (aEt c d e a f b)<|gm 6 cG a<|gd 2 26 (b< (a.length:Int)) (aDp 9 a b<|fun g i j k l=>cZ 1 116 [(.agg [(nI g),(nI i),(aD j),(.ilst 5 (Terms.av k) false),(iP l)])]<|fun m=>.b 2 35 (!m) (gE 6 1 (bV false))<|gw 6 28 (b+1)<|.W 3 1 [0] (aEt c d e a f (b+1)))<|gE 7 1 (bV true)
def aQ2:=fun a b c d e f g i j k l m n o p q r=>aMP a b c d e f|>.t n g i j k l o p m q|>.t r tv
def aQ3:=fun a b c d e f g i j k l m n o p q r s=>aMP a b c d e f|>.t n g i j k l o p m q|>.f r s tv
def aQ4:=fun a b c d e f g=>aMP a b c d e f|>.f g tv
def aW2(a b:Int)(c:aE)(d:List Term)(e:List Pat):=tT 0 (start PP 76 [(.agg [(nI a),(nI b),(aD c),(.ilst 5 (Terms.av d) false),(iP e)])])<|gpI 8 64 [(.agg [(nI a),(nI b),(aD c),(.ilst 5 (Terms.av d) false),(iP e)]),(nI 60),(nI 14)]<|fun f=>gd 2 6 (f≥0) (cZ 1 116 [(.agg [(nI a),(nI b),(aD c),(.ilst 5 (Terms.av d) false),(iP e)])]<|fun g=>gE 4 1 (bV g))<|gE 6 1 (bV false)
def aQ5:=fun a b c d e f g i j k=>aW2 a b c d e f i|>.t j g k tv
def aQ6:=fun a b c d e f g i=>aW2 a b c d e f g|>.f i tv
def aH (n:Int)(s:aE)(m:Int)(a b c:Bool) :Bool:= (a||decide (n=0)) && (b||decide (s= [])) && (c||decide (m=0))
def aG (op n:Int)(s:aE)(k m:Int) :Bool:=
 if op=1 then decide (k=0) &&aH n s m true false false&&cC n (-1000000000) 1000000000
 else if op=2 then decide (k=0) &&aH n s m true false false&&cC n 0 1
 else if op=3∨op=21∨op=25∨op=28 then decide (k=0) &&aH n s m false false false
 else if op=4 then decide (k=0) &&aH n s m false true false&&dQ s
 else if op=5∨op=27 then decide (k=1) &&aH n s m false true false&&dQ s
 else if op=7 then decide (k=2) &&aH n s m false true false&&dQ s
 else if op=8 then decide (k=3) &&aH n s m false false false
 else if op=14 then decide (k≤3) &&aH n s m false true false&&cB s
 else if op=15 then cC m 1 5&&decide (k=1+m) &&aH n s m false false true
 else if op=16∨op=17∨op=19∨op=20∨op=23∨op=26 then decide (k=1) &&aH n s m false false false
 else if op=24 then decide (k=1) &&aH n s m true false false&&cC n 0 3
 else if op=6∨op=9∨op=10∨op=11∨op=12∨op=13∨op=18∨op=22 then decide (k=2) &&aH n s m false false false
 else false
theorem aC {α:Type}(l:List α)(c:Int) : (((length l:Nat) :Int) ==c) =decide (((length l:Nat) :Int) =c) :=by
 by_cases h: ((length l:Nat) :Int) =c<;>simp [h]
theorem aYX (t_op t_n:Int)(t_text:aE)(t_kids:List Term)(t_pats:List Pat)(n x y:Bool) :
  Ends PP 0 (start PP 187 [Term.av (.mk t_op t_n t_text t_kids t_pats),.bool n,.bool x,.bool y]).as (.ret (.bool (aH t_n t_text (length t_pats) n x y))) (aO [] 0) :=by
 cases n with
 | true=>
  cases x with
  | true=>
   cases y with
   | true=>
    exact Ends.eqv (aQD t_op t_n t_text t_kids t_pats true true true   rfl rfl rfl) (by simp_all [aH,aB,aC])
   | false=>
    exact Ends.eqv (aQE t_op t_n t_text t_kids t_pats true true false   rfl rfl rfl) (by simp_all [aH,aB,aC])
  | false=>
   cases hb1: (aP (length t_text) (aA t_text) 0 0)with
   | true=>
    cases y with
    | true=>
     exact Ends.eqv (aQF t_op t_n t_text t_kids t_pats true false true   rfl rfl hb1 rfl) (by simp_all [aH,aB,aC])
    | false=>
     exact Ends.eqv (aQG t_op t_n t_text t_kids t_pats true false false   rfl rfl hb1 rfl) (by simp_all [aH,aB,aC])
   | false=>
    exact Ends.eqv (aQH t_op t_n t_text t_kids t_pats true false y   rfl rfl hb1) (by simp_all [aH,aB,aC])
 | false=>
  cases hb2: (t_n== (0:Int))with
  | true=>
   cases x with
   | true=>
    cases y with
    | true=>
     exact Ends.eqv (aQI t_op t_n t_text t_kids t_pats false true true   rfl hb2 rfl rfl) (by simp_all [aH,aB,aC])
    | false=>
     exact Ends.eqv (aQJ t_op t_n t_text t_kids t_pats false true false   rfl hb2 rfl rfl) (by simp_all [aH,aB,aC])
   | false=>
    cases hb3: (aP (length t_text) (aA t_text) 0 0)with
    | true=>
     cases y with
     | true=>
      exact Ends.eqv (aQK t_op t_n t_text t_kids t_pats false false true   rfl hb2 rfl hb3 rfl) (by simp_all [aH,aB,aC])
     | false=>
      exact Ends.eqv (aQL t_op t_n t_text t_kids t_pats false false false   rfl hb2 rfl hb3 rfl) (by simp_all [aH,aB,aC])
    | false=>
     exact Ends.eqv (aQM t_op t_n t_text t_kids t_pats false false y   rfl hb2 rfl hb3) (by simp_all [aH,aB,aC])
  | false=>
   exact Ends.eqv (aLT t_op t_n t_text t_kids t_pats false x y   rfl hb2) (by simp_all [aH,aB,aC])
theorem bA (o n:Int)(s:aE)(ks:List Term)(ps:List Pat)(a b c:Bool) :Pure PP 187 [Term.av (.mk o n s ks ps),.bool a,.bool b,.bool c] (.bool (aH n s (length ps) a b c)) :=
 bC (by kernel_rfl) (by simp [keylessL,fC,keyless]) rfl (aYX o n s ks ps a b c)
theorem rNd_E (t_op t_n :Int)(t_text:aE)(t_kids:List Term)(t_pats:List Pat)(hks:t_kids.length<1000000)(hps:t_pats.length<1000000) :
  Ends PP 0 (start PP 160 [Term.av (.mk t_op t_n t_text t_kids t_pats)]).as (.ret (.bool (aG t_op t_n t_text (length t_kids) (length t_pats)))) (aO [] 0) :=by
 cases hb1: (t_op== (1:Int))with
 | true=>
  cases hb2: (((length t_kids:Nat) :Int) == (0:Int))with
  | true=>
   cases hb3: (aH t_n t_text (length t_pats) true false false)with
   | true=>
    exact Ends.eqv (aQN t_op t_n t_text t_kids t_pats  (aH t_n t_text (length t_pats) true false false) (cC t_n (-1000000000) 1000000000) hb1 hb2 (bA t_op t_n t_text t_kids t_pats true false false) hb3 (eT t_n (-1000000000) 1000000000)) (by simp_all [aG,aC] <;>intros<;>omega)
   | false=>
    exact Ends.eqv (aQO t_op t_n t_text t_kids t_pats  (aH t_n t_text (length t_pats) true false false) hb1 hb2 (bA t_op t_n t_text t_kids t_pats true false false) hb3) (by simp_all [aG,aC] <;>intros<;>omega)
  | false=>
   exact Ends.eqv (aQP t_op t_n t_text t_kids t_pats   hb1 hb2) (by simp_all [aG,aC] <;>intros<;>omega)
 | false =>
  cases hb4: (t_op== (2:Int))with
  | true=>
   cases hb5: (((length t_kids:Nat) :Int) == (0:Int))with
   | true=>
    cases hb6: (aH t_n t_text (length t_pats) true false false)with
    | true=>
     exact Ends.eqv (aQQ t_op t_n t_text t_kids t_pats  (aH t_n t_text (length t_pats) true false false) (cC t_n 0 1) hb1 hb4 hb5 (bA t_op t_n t_text t_kids t_pats true false false) hb6 (eT t_n 0 1)) (by simp_all [aG,aC] <;>intros<;>omega)
    | false=>
     exact Ends.eqv (aQR t_op t_n t_text t_kids t_pats  (aH t_n t_text (length t_pats) true false false) hb1 hb4 hb5 (bA t_op t_n t_text t_kids t_pats true false false) hb6) (by simp_all [aG,aC] <;>intros<;>omega)
   | false=>
    exact Ends.eqv (aQS t_op t_n t_text t_kids t_pats   hb1 hb4 hb5) (by simp_all [aG,aC] <;>intros<;>omega)
  | false =>
   cases hb7: (t_op== (3:Int))with
   | true=>
    cases hb8: (((length t_kids:Nat) :Int) == (0:Int))with
    | true=>
     exact Ends.eqv (aQT t_op t_n t_text t_kids t_pats  (aH t_n t_text (length t_pats) false false false) hb1 hb4 hb7 hb8 (bA t_op t_n t_text t_kids t_pats false false false)) (by simp_all [aG,aC] <;>intros<;>omega)
    | false=>
     exact Ends.eqv (aQU t_op t_n t_text t_kids t_pats   hb1 hb4 hb7 hb8) (by simp_all [aG,aC] <;>intros<;>omega)
   | false =>
    cases hb9: (t_op== (21:Int))with
    | true=>
     cases hb10: (((length t_kids:Nat) :Int) == (0:Int))with
     | true=>
      exact Ends.eqv (aQV t_op t_n t_text t_kids t_pats  (aH t_n t_text (length t_pats) false false false) hb1 hb4 hb7 hb9 hb10 (bA t_op t_n t_text t_kids t_pats false false false)) (by simp_all [aG,aC] <;>intros<;>omega)
     | false=>
      exact Ends.eqv (aQW t_op t_n t_text t_kids t_pats   hb1 hb4 hb7 hb9 hb10) (by simp_all [aG,aC] <;>intros<;>omega)
    | false =>
     cases hb11: (t_op== (25:Int))with
     | true=>
      cases hb12: (((length t_kids:Nat) :Int) == (0:Int))with
      | true=>
       exact Ends.eqv (aLU t_op t_n t_text t_kids t_pats  (aH t_n t_text (length t_pats) false false false) hb1 hb4 hb7 hb9 hb11 hb12 (bA t_op t_n t_text t_kids t_pats false false false)) (by simp_all [aG,aC] <;>intros<;>omega)
      | false=>
       exact Ends.eqv (aLV t_op t_n t_text t_kids t_pats   hb1 hb4 hb7 hb9 hb11 hb12) (by simp_all [aG,aC] <;>intros<;>omega)
     | false =>
      cases hb13: (t_op== (28:Int))with
      | true=>
       cases hb14: (((length t_kids:Nat) :Int) == (0:Int))with
       | true=>
        exact Ends.eqv (aLW t_op t_n t_text t_kids t_pats  (aH t_n t_text (length t_pats) false false false) hb1 hb4 hb7 hb9 hb11 hb13 hb14 (bA t_op t_n t_text t_kids t_pats false false false)) (by simp_all [aG,aC] <;>intros<;>omega)
       | false=>
        exact Ends.eqv (aLX t_op t_n t_text t_kids t_pats   hb1 hb4 hb7 hb9 hb11 hb13 hb14) (by simp_all [aG,aC] <;>intros<;>omega)
      | false =>
       cases hb15: (t_op== (4:Int))with
       | true=>
        cases hb16: (((length t_kids:Nat) :Int) == (0:Int))with
        | true=>
         cases hb17: (aH t_n t_text (length t_pats) false true false)with
         | true=>
          exact Ends.eqv (aLY t_op t_n t_text t_kids t_pats  (aH t_n t_text (length t_pats) false true false) (dQ t_text) hb1 hb4 hb7 hb9 hb11 hb13 hb15 hb16 (bA t_op t_n t_text t_kids t_pats false true false) hb17 (kK t_text)) (by simp_all [aG,aC] <;>intros<;>omega)
         | false=>
          exact Ends.eqv (aLZ t_op t_n t_text t_kids t_pats  (aH t_n t_text (length t_pats) false true false) hb1 hb4 hb7 hb9 hb11 hb13 hb15 hb16 (bA t_op t_n t_text t_kids t_pats false true false) hb17) (by simp_all [aG,aC] <;>intros<;>omega)
        | false=>
         exact Ends.eqv (aL0 t_op t_n t_text t_kids t_pats   hb1 hb4 hb7 hb9 hb11 hb13 hb15 hb16) (by simp_all [aG,aC] <;>intros<;>omega)
       | false =>
        cases hb18: (t_op== (5:Int))with
        | true=>
         cases hb19: (((length t_kids:Nat) :Int) == (1:Int))with
         | true=>
          cases hb20: (aH t_n t_text (length t_pats) false true false)with
          | true=>
           exact Ends.eqv (aL1 t_op t_n t_text t_kids t_pats  (aH t_n t_text (length t_pats) false true false) (dQ t_text) hb1 hb4 hb7 hb9 hb11 hb13 hb15 hb18 hb19 (bA t_op t_n t_text t_kids t_pats false true false) hb20 (kK t_text)) (by simp_all [aG,aC] <;>intros<;>omega)
          | false=>
           exact Ends.eqv (aL2 t_op t_n t_text t_kids t_pats  (aH t_n t_text (length t_pats) false true false) hb1 hb4 hb7 hb9 hb11 hb13 hb15 hb18 hb19 (bA t_op t_n t_text t_kids t_pats false true false) hb20) (by simp_all [aG,aC] <;>intros<;>omega)
         | false=>
          exact Ends.eqv (aL3 t_op t_n t_text t_kids t_pats   hb1 hb4 hb7 hb9 hb11 hb13 hb15 hb18 hb19) (by simp_all [aG,aC] <;>intros<;>omega)
        | false =>
         cases hb21: (t_op== (27:Int))with
         | true=>
          cases hb22: (((length t_kids:Nat) :Int) == (1:Int))with
          | true=>
           cases hb23: (aH t_n t_text (length t_pats) false true false)with
           | true=>
            exact Ends.eqv (aL4 t_op t_n t_text t_kids t_pats  (aH t_n t_text (length t_pats) false true false) (dQ t_text) hb1 hb4 hb7 hb9 hb11 hb13 hb15 hb18 hb21 hb22 (bA t_op t_n t_text t_kids t_pats false true false) hb23 (kK t_text)) (by simp_all [aG,aC] <;>intros<;>omega)
           | false=>
            exact Ends.eqv (aL5 t_op t_n t_text t_kids t_pats  (aH t_n t_text (length t_pats) false true false) hb1 hb4 hb7 hb9 hb11 hb13 hb15 hb18 hb21 hb22 (bA t_op t_n t_text t_kids t_pats false true false) hb23) (by simp_all [aG,aC] <;>intros<;>omega)
          | false=>
           exact Ends.eqv (aL6 t_op t_n t_text t_kids t_pats   hb1 hb4 hb7 hb9 hb11 hb13 hb15 hb18 hb21 hb22) (by simp_all [aG,aC] <;>intros<;>omega)
         | false =>
          cases hb24: (t_op== (7:Int))with
          | true=>
           cases hb25: (((length t_kids:Nat) :Int) == (2:Int))with
           | true=>
            cases hb26: (aH t_n t_text (length t_pats) false true false)with
            | true=>
             exact Ends.eqv (aL7 t_op t_n t_text t_kids t_pats  (aH t_n t_text (length t_pats) false true false) (dQ t_text) hb1 hb4 hb7 hb9 hb11 hb13 hb15 hb18 hb21 hb24 hb25 (bA t_op t_n t_text t_kids t_pats false true false) hb26 (kK t_text)) (by simp_all [aG,aC] <;>intros<;>omega)
            | false=>
             exact Ends.eqv (aL8 t_op t_n t_text t_kids t_pats  (aH t_n t_text (length t_pats) false true false) hb1 hb4 hb7 hb9 hb11 hb13 hb15 hb18 hb21 hb24 hb25 (bA t_op t_n t_text t_kids t_pats false true false) hb26) (by simp_all [aG,aC] <;>intros<;>omega)
           | false=>
            exact Ends.eqv (aL9 t_op t_n t_text t_kids t_pats   hb1 hb4 hb7 hb9 hb11 hb13 hb15 hb18 hb21 hb24 hb25) (by simp_all [aG,aC] <;>intros<;>omega)
          | false =>
           cases hb27: (t_op== (8:Int))with
           | true=>
            cases hb28: (((length t_kids:Nat) :Int) == (3:Int))with
            | true=>
             exact Ends.eqv (aMa t_op t_n t_text t_kids t_pats  (aH t_n t_text (length t_pats) false false false) hb1 hb4 hb7 hb9 hb11 hb13 hb15 hb18 hb21 hb24 hb27 hb28 (bA t_op t_n t_text t_kids t_pats false false false)) (by simp_all [aG,aC] <;>intros<;>omega)
            | false=>
             exact Ends.eqv (aMb t_op t_n t_text t_kids t_pats   hb1 hb4 hb7 hb9 hb11 hb13 hb15 hb18 hb21 hb24 hb27 hb28) (by simp_all [aG,aC] <;>intros<;>omega)
           | false =>
            cases hb29: (t_op== (14:Int))with
            | true=>
             cases hb30: (decide (((length t_kids:Nat) :Int) ≤ (3:Int)))with
             | true=>
              cases hb31: (aH t_n t_text (length t_pats) false true false)with
              | true=>
               exact Ends.eqv (aMc t_op t_n t_text t_kids t_pats  (aH t_n t_text (length t_pats) false true false) (cB t_text) hb1 hb4 hb7 hb9 hb11 hb13 hb15 hb18 hb21 hb24 hb27 hb29 hb30 (bA t_op t_n t_text t_kids t_pats false true false) hb31 (kF t_text)) (by simp_all [aG,aC] <;>intros<;>omega)
              | false=>
               exact Ends.eqv (aMd t_op t_n t_text t_kids t_pats  (aH t_n t_text (length t_pats) false true false) hb1 hb4 hb7 hb9 hb11 hb13 hb15 hb18 hb21 hb24 hb27 hb29 hb30 (bA t_op t_n t_text t_kids t_pats false true false) hb31) (by simp_all [aG,aC] <;>intros<;>omega)
             | false=>
              exact Ends.eqv (aMe t_op t_n t_text t_kids t_pats   hb1 hb4 hb7 hb9 hb11 hb13 hb15 hb18 hb21 hb24 hb27 hb29 hb30) (by simp_all [aG,aC] <;>intros<;>omega)
            | false =>
             cases hb32: (t_op== (15:Int))with
             | true=>
              cases hb33: (cC ((length t_pats:Nat) :Int) 1 5)with
              | true=>
               cases hb34: (((length t_kids:Nat) :Int) == ((1:Int) + ((length t_pats:Nat) :Int)))with
               | true=>
                exact Ends.eqv (aMf t_op t_n t_text t_kids t_pats  (cC ((length t_pats:Nat) :Int) 1 5) (aH t_n t_text (length t_pats) false false true) hb1 hb4 hb7 hb9 hb11 hb13 hb15 hb18 hb21 hb24 hb27 hb29 hb32 (eT ((length t_pats:Nat) :Int) 1 5) hb33 sdI hb34 (bA t_op t_n t_text t_kids t_pats false false true)) (by simp_all [aG,aC] <;>intros<;>omega)
               | false=>
                exact Ends.eqv (aMg t_op t_n t_text t_kids t_pats  (cC ((length t_pats:Nat) :Int) 1 5) hb1 hb4 hb7 hb9 hb11 hb13 hb15 hb18 hb21 hb24 hb27 hb29 hb32 (eT ((length t_pats:Nat) :Int) 1 5) hb33 sdI hb34) (by simp_all [aG,aC] <;>intros<;>omega)
              | false=>
               exact Ends.eqv (aMh t_op t_n t_text t_kids t_pats  (cC ((length t_pats:Nat) :Int) 1 5) hb1 hb4 hb7 hb9 hb11 hb13 hb15 hb18 hb21 hb24 hb27 hb29 hb32 (eT ((length t_pats:Nat) :Int) 1 5) hb33) (by simp_all [aG,aC] <;>intros<;>omega)
             | false =>
              cases hb35: (t_op== (16:Int))with
              | true=>
               cases hb36: (((length t_kids:Nat) :Int) == (1:Int))with
               | true=>
                exact Ends.eqv (aMi t_op t_n t_text t_kids t_pats  (aH t_n t_text (length t_pats) false false false) hb1 hb4 hb7 hb9 hb11 hb13 hb15 hb18 hb21 hb24 hb27 hb29 hb32 hb35 hb36 (bA t_op t_n t_text t_kids t_pats false false false)) (by simp_all [aG,aC] <;>intros<;>omega)
               | false=>
                exact Ends.eqv (aMj t_op t_n t_text t_kids t_pats   hb1 hb4 hb7 hb9 hb11 hb13 hb15 hb18 hb21 hb24 hb27 hb29 hb32 hb35 hb36) (by simp_all [aG,aC] <;>intros<;>omega)
              | false =>
               cases hb37: (t_op== (17:Int))with
               | true=>
                cases hb38: (((length t_kids:Nat) :Int) == (1:Int))with
                | true=>
                 exact Ends.eqv (aMk t_op t_n t_text t_kids t_pats  (aH t_n t_text (length t_pats) false false false) hb1 hb4 hb7 hb9 hb11 hb13 hb15 hb18 hb21 hb24 hb27 hb29 hb32 hb35 hb37 hb38 (bA t_op t_n t_text t_kids t_pats false false false)) (by simp_all [aG,aC] <;>intros<;>omega)
                | false=>
                 exact Ends.eqv (aMl t_op t_n t_text t_kids t_pats   hb1 hb4 hb7 hb9 hb11 hb13 hb15 hb18 hb21 hb24 hb27 hb29 hb32 hb35 hb37 hb38) (by simp_all [aG,aC] <;>intros<;>omega)
               | false =>
                cases hb39: (t_op== (19:Int))with
                | true=>
                 cases hb40: (((length t_kids:Nat) :Int) == (1:Int))with
                 | true=>
                  exact Ends.eqv (aMm t_op t_n t_text t_kids t_pats  (aH t_n t_text (length t_pats) false false false) hb1 hb4 hb7 hb9 hb11 hb13 hb15 hb18 hb21 hb24 hb27 hb29 hb32 hb35 hb37 hb39 hb40 (bA t_op t_n t_text t_kids t_pats false false false)) (by simp_all [aG,aC] <;>intros<;>omega)
                 | false=>
                  exact Ends.eqv (aMn t_op t_n t_text t_kids t_pats   hb1 hb4 hb7 hb9 hb11 hb13 hb15 hb18 hb21 hb24 hb27 hb29 hb32 hb35 hb37 hb39 hb40) (by simp_all [aG,aC] <;>intros<;>omega)
                | false =>
                 cases hb41: (t_op== (20:Int))with
                 | true=>
                  cases hb42: (((length t_kids:Nat) :Int) == (1:Int))with
                  | true=>
                   exact Ends.eqv (aMo t_op t_n t_text t_kids t_pats  (aH t_n t_text (length t_pats) false false false) hb1 hb4 hb7 hb9 hb11 hb13 hb15 hb18 hb21 hb24 hb27 hb29 hb32 hb35 hb37 hb39 hb41 hb42 (bA t_op t_n t_text t_kids t_pats false false false)) (by simp_all [aG,aC] <;>intros<;>omega)
                  | false=>
                   exact Ends.eqv (aMp t_op t_n t_text t_kids t_pats   hb1 hb4 hb7 hb9 hb11 hb13 hb15 hb18 hb21 hb24 hb27 hb29 hb32 hb35 hb37 hb39 hb41 hb42) (by simp_all [aG,aC] <;>intros<;>omega)
                 | false =>
                  cases hb43: (t_op== (23:Int))with
                  | true=>
                   cases hb44: (((length t_kids:Nat) :Int) == (1:Int))with
                   | true=>
                    exact Ends.eqv (aMq t_op t_n t_text t_kids t_pats  (aH t_n t_text (length t_pats) false false false) hb1 hb4 hb7 hb9 hb11 hb13 hb15 hb18 hb21 hb24 hb27 hb29 hb32 hb35 hb37 hb39 hb41 hb43 hb44 (bA t_op t_n t_text t_kids t_pats false false false)) (by simp_all [aG,aC] <;>intros<;>omega)
                   | false=>
                    exact Ends.eqv (aMr t_op t_n t_text t_kids t_pats   hb1 hb4 hb7 hb9 hb11 hb13 hb15 hb18 hb21 hb24 hb27 hb29 hb32 hb35 hb37 hb39 hb41 hb43 hb44) (by simp_all [aG,aC] <;>intros<;>omega)
                  | false =>
                   cases hb45: (t_op== (26:Int))with
                   | true=>
                    cases hb46: (((length t_kids:Nat) :Int) == (1:Int))with
                    | true=>
                     exact Ends.eqv (aMs t_op t_n t_text t_kids t_pats  (aH t_n t_text (length t_pats) false false false) hb1 hb4 hb7 hb9 hb11 hb13 hb15 hb18 hb21 hb24 hb27 hb29 hb32 hb35 hb37 hb39 hb41 hb43 hb45 hb46 (bA t_op t_n t_text t_kids t_pats false false false)) (by simp_all [aG,aC] <;>intros<;>omega)
                    | false=>
                     exact Ends.eqv (aMt t_op t_n t_text t_kids t_pats   hb1 hb4 hb7 hb9 hb11 hb13 hb15 hb18 hb21 hb24 hb27 hb29 hb32 hb35 hb37 hb39 hb41 hb43 hb45 hb46) (by simp_all [aG,aC] <;>intros<;>omega)
                   | false =>
                    cases hb47: (t_op== (24:Int))with
                    | true=>
                     cases hb48: (((length t_kids:Nat) :Int) == (1:Int))with
                     | true=>
                      cases hb49: (aH t_n t_text (length t_pats) true false false)with
                      | true=>
                       exact Ends.eqv (aMu t_op t_n t_text t_kids t_pats  (aH t_n t_text (length t_pats) true false false) (cC t_n 0 3) hb1 hb4 hb7 hb9 hb11 hb13 hb15 hb18 hb21 hb24 hb27 hb29 hb32 hb35 hb37 hb39 hb41 hb43 hb45 hb47 hb48 (bA t_op t_n t_text t_kids t_pats true false false) hb49 (eT t_n 0 3)) (by simp_all [aG,aC] <;>intros<;>omega)
                      | false=>
                       exact Ends.eqv (aMv t_op t_n t_text t_kids t_pats  (aH t_n t_text (length t_pats) true false false) hb1 hb4 hb7 hb9 hb11 hb13 hb15 hb18 hb21 hb24 hb27 hb29 hb32 hb35 hb37 hb39 hb41 hb43 hb45 hb47 hb48 (bA t_op t_n t_text t_kids t_pats true false false) hb49) (by simp_all [aG,aC] <;>intros<;>omega)
                     | false=>
                      exact Ends.eqv (aMw t_op t_n t_text t_kids t_pats   hb1 hb4 hb7 hb9 hb11 hb13 hb15 hb18 hb21 hb24 hb27 hb29 hb32 hb35 hb37 hb39 hb41 hb43 hb45 hb47 hb48) (by simp_all [aG,aC] <;>intros<;>omega)
                    | false =>
                     cases hb50: (t_op== (6:Int))with
                     | true=>
                      cases hb51: (((length t_kids:Nat) :Int) == (2:Int))with
                      | true=>
                       exact Ends.eqv (aMx t_op t_n t_text t_kids t_pats  (aH t_n t_text (length t_pats) false false false) hb1 hb4 hb7 hb9 hb11 hb13 hb15 hb18 hb21 hb24 hb27 hb29 hb32 hb35 hb37 hb39 hb41 hb43 hb45 hb47 hb50 hb51 (bA t_op t_n t_text t_kids t_pats false false false)) (by simp_all [aG,aC] <;>intros<;>omega)
                      | false=>
                       exact Ends.eqv (aMy t_op t_n t_text t_kids t_pats   hb1 hb4 hb7 hb9 hb11 hb13 hb15 hb18 hb21 hb24 hb27 hb29 hb32 hb35 hb37 hb39 hb41 hb43 hb45 hb47 hb50 hb51) (by simp_all [aG,aC] <;>intros<;>omega)
                     | false =>
                      cases hb52: (t_op== (9:Int))with
                      | true=>
                       cases hb53: (((length t_kids:Nat) :Int) == (2:Int))with
                       | true=>
                        exact Ends.eqv (aMz t_op t_n t_text t_kids t_pats  (aH t_n t_text (length t_pats) false false false) hb1 hb4 hb7 hb9 hb11 hb13 hb15 hb18 hb21 hb24 hb27 hb29 hb32 hb35 hb37 hb39 hb41 hb43 hb45 hb47 hb50 hb52 hb53 (bA t_op t_n t_text t_kids t_pats false false false)) (by simp_all [aG,aC] <;>intros<;>omega)
                       | false=>
                        exact Ends.eqv (aMA t_op t_n t_text t_kids t_pats   hb1 hb4 hb7 hb9 hb11 hb13 hb15 hb18 hb21 hb24 hb27 hb29 hb32 hb35 hb37 hb39 hb41 hb43 hb45 hb47 hb50 hb52 hb53) (by simp_all [aG,aC] <;>intros<;>omega)
                      | false =>
                       cases hb54: (t_op== (10:Int))with
                       | true=>
                        cases hb55: (((length t_kids:Nat) :Int) == (2:Int))with
                        | true=>
                         exact Ends.eqv (aMB t_op t_n t_text t_kids t_pats  (aH t_n t_text (length t_pats) false false false) hb1 hb4 hb7 hb9 hb11 hb13 hb15 hb18 hb21 hb24 hb27 hb29 hb32 hb35 hb37 hb39 hb41 hb43 hb45 hb47 hb50 hb52 hb54 hb55 (bA t_op t_n t_text t_kids t_pats false false false)) (by simp_all [aG,aC] <;>intros<;>omega)
                        | false=>
                         exact Ends.eqv (aMC t_op t_n t_text t_kids t_pats   hb1 hb4 hb7 hb9 hb11 hb13 hb15 hb18 hb21 hb24 hb27 hb29 hb32 hb35 hb37 hb39 hb41 hb43 hb45 hb47 hb50 hb52 hb54 hb55) (by simp_all [aG,aC] <;>intros<;>omega)
                       | false =>
                        cases hb56: (t_op== (11:Int))with
                        | true=>
                         cases hb57: (((length t_kids:Nat) :Int) == (2:Int))with
                         | true=>
                          exact Ends.eqv (aMD t_op t_n t_text t_kids t_pats  (aH t_n t_text (length t_pats) false false false) hb1 hb4 hb7 hb9 hb11 hb13 hb15 hb18 hb21 hb24 hb27 hb29 hb32 hb35 hb37 hb39 hb41 hb43 hb45 hb47 hb50 hb52 hb54 hb56 hb57 (bA t_op t_n t_text t_kids t_pats false false false)) (by simp_all [aG,aC] <;>intros<;>omega)
                         | false=>
                          exact Ends.eqv (aME t_op t_n t_text t_kids t_pats   hb1 hb4 hb7 hb9 hb11 hb13 hb15 hb18 hb21 hb24 hb27 hb29 hb32 hb35 hb37 hb39 hb41 hb43 hb45 hb47 hb50 hb52 hb54 hb56 hb57) (by simp_all [aG,aC] <;>intros<;>omega)
                        | false=>
                         cases hb58: (t_op== (12:Int))with
                         | true=>
                          cases hb59: (((length t_kids:Nat) :Int) == (2:Int))with
                          | true=>
                           exact Ends.eqv (aMF t_op t_n t_text t_kids t_pats  (aH t_n t_text (length t_pats) false false false) hb1 hb4 hb7 hb9 hb11 hb13 hb15 hb18 hb21 hb24 hb27 hb29 hb32 hb35 hb37 hb39 hb41 hb43 hb45 hb47 hb50 hb52 hb54 hb56 hb58 hb59 (bA t_op t_n t_text t_kids t_pats false false false)) (by simp_all [aG,aC] <;>intros<;>omega)
                          | false=>
                           exact Ends.eqv (aMG t_op t_n t_text t_kids t_pats   hb1 hb4 hb7 hb9 hb11 hb13 hb15 hb18 hb21 hb24 hb27 hb29 hb32 hb35 hb37 hb39 hb41 hb43 hb45 hb47 hb50 hb52 hb54 hb56 hb58 hb59) (by simp_all [aG,aC] <;>intros<;>omega)
                         | false=>
                          cases hb60: (t_op== (13:Int))with
                          | true=>
                           cases hb61: (((length t_kids:Nat) :Int) == (2:Int))with
                           | true=>
                            exact Ends.eqv (aMH t_op t_n t_text t_kids t_pats  (aH t_n t_text (length t_pats) false false false) hb1 hb4 hb7 hb9 hb11 hb13 hb15 hb18 hb21 hb24 hb27 hb29 hb32 hb35 hb37 hb39 hb41 hb43 hb45 hb47 hb50 hb52 hb54 hb56 hb58 hb60 hb61 (bA t_op t_n t_text t_kids t_pats false false false)) (by simp_all [aG,aC] <;>intros<;>omega)
                           | false=>
                            exact Ends.eqv (aMI t_op t_n t_text t_kids t_pats   hb1 hb4 hb7 hb9 hb11 hb13 hb15 hb18 hb21 hb24 hb27 hb29 hb32 hb35 hb37 hb39 hb41 hb43 hb45 hb47 hb50 hb52 hb54 hb56 hb58 hb60 hb61) (by simp_all [aG,aC] <;>intros<;>omega)
                          | false=>
                           cases hb62: (t_op== (18:Int))with
                           | true=>
                            cases hb63: (((length t_kids:Nat) :Int) == (2:Int))with
                            | true=>
                             exact Ends.eqv (aMJ t_op t_n t_text t_kids t_pats  (aH t_n t_text (length t_pats) false false false) hb1 hb4 hb7 hb9 hb11 hb13 hb15 hb18 hb21 hb24 hb27 hb29 hb32 hb35 hb37 hb39 hb41 hb43 hb45 hb47 hb50 hb52 hb54 hb56 hb58 hb60 hb62 hb63 (bA t_op t_n t_text t_kids t_pats false false false)) (by simp_all [aG,aC] <;>intros<;>omega)
                            | false=>
                             exact Ends.eqv (aMK t_op t_n t_text t_kids t_pats   hb1 hb4 hb7 hb9 hb11 hb13 hb15 hb18 hb21 hb24 hb27 hb29 hb32 hb35 hb37 hb39 hb41 hb43 hb45 hb47 hb50 hb52 hb54 hb56 hb58 hb60 hb62 hb63) (by simp_all [aG,aC] <;>intros<;>omega)
                           | false=>
                            cases hb64: (t_op== (22:Int))with
                            | true=>
                             cases hb65: (((length t_kids:Nat) :Int) == (2:Int))with
                             | true=>
                              exact Ends.eqv (aML t_op t_n t_text t_kids t_pats  (aH t_n t_text (length t_pats) false false false) hb1 hb4 hb7 hb9 hb11 hb13 hb15 hb18 hb21 hb24 hb27 hb29 hb32 hb35 hb37 hb39 hb41 hb43 hb45 hb47 hb50 hb52 hb54 hb56 hb58 hb60 hb62 hb64 hb65 (bA t_op t_n t_text t_kids t_pats false false false)) (by simp_all [aG,aC] <;>intros<;>omega)
                             | false=>
                              exact Ends.eqv (aMM t_op t_n t_text t_kids t_pats   hb1 hb4 hb7 hb9 hb11 hb13 hb15 hb18 hb21 hb24 hb27 hb29 hb32 hb35 hb37 hb39 hb41 hb43 hb45 hb47 hb50 hb52 hb54 hb56 hb58 hb60 hb62 hb64 hb65) (by simp_all [aG,aC] <;>intros<;>omega)
                            | false=>
                             exact Ends.eqv (aMN t_op t_n t_text t_kids t_pats   hb1 hb4 hb7 hb9 hb11 hb13 hb15 hb18 hb21 hb24 hb27 hb29 hb32 hb35 hb37 hb39 hb41 hb43 hb45 hb47 hb50 hb52 hb54 hb56 hb58 hb60 hb62 hb64) (by simp_all [aG,aC] <;>intros<;>omega)
theorem aMQ (o n:Int)(s:aE)(ks:List Term)(ps:List Pat)(hks:ks.length<1000000)(hps:ps.length<1000000) :Pure PP 160 [Term.av (.mk o n s ks ps)] (.bool (aG o n s (length ks) (length ps))) :=
 bC (by kernel_rfl) (by simp [keylessL,fC]) rfl (rNd_E o n s ks ps hks hps)
mutual
def dL :Term→Nat
 | .mk _ _ _ ks _=>dS ks+1
def dS :List Term→Nat
 | [] =>0
 |t::ts=>dL t+dS ts
end
mutual
def eU :Term→Nat
 | .mk _ _ _ ks _=>fP ks+1
def fP :List Term→Nat
 | [] =>0
 |t::ts=>max (eU t) (fP ts)
end
mutual
def qF :Term→Nat
 | .mk _ _ _ ks ps=>iL ks+aZ ps+1
def iL :List Term→Nat
 | [] =>0
 |t::ts=>qF t+iL ts
end
mutual
def lB :Term→Bool
 | .mk o n s ks ps=>aG o n s (length ks) (length ps) &&ps.all aAV&&wH ks
def wH :List Term→Bool
 | [] =>true
 |t::ts=>lB t&&wH ts
end
theorem tY :∀ts:List Term,ts.length≤iL ts
 | [] =>by simp
 | .mk o n s ks ps::ts=>by have:=tY ts;simp only [iL,qF,List.length_cons];omega
def gV (t:Term)(left dep:Int) :Int:=if(dL t:Int) ≤left∧ (eU t:Int) ≤dep then left-dL t else -1
def kA (ts:List Term)(left dep:Int) :Int:=if left<0 then left else if(dS ts:Int) ≤left∧ (fP ts:Int) ≤dep then left-dS ts else -1
theorem oI :∀t:Term,1≤dL t∧1≤eU t
 | .mk _ _ _ ks _=>by simp only [dL,eU];omega
theorem aEu (t:Term)(ts:List Term){left dep:Int}(h0:0≤left)(hd:0≤dep) :kA (t::ts) left dep=kA ts (gV t left dep) dep:=by
 have hp:=oI t;have hm: ((max (eU t) (fP ts) :Nat) :Int) ≤dep↔ (eU t:Int) ≤dep∧ (fP ts:Int) ≤dep:=by omega
 unfold kA gV;rw [dS,fP];by_cases h1: (dL t:Int) ≤left∧ (eU t:Int) ≤dep
 · rw [if_pos h1,if_neg (show ¬left<0 by omega),if_neg (show ¬left- (dL t:Int) <0 by omega)];by_cases h2: (dS ts:Int) ≤left-dL t∧ (fP ts:Int) ≤dep
   · rw [if_pos h2,if_pos ⟨by omega,by omega⟩];omega
   ·rw [if_neg h2,if_neg (by rintro⟨a,b⟩;exact h2 ⟨by omega,by omega⟩)]
 ·rw [if_neg h1,if_pos (show(-1:Int) <0 by omega),if_neg (show ¬left<0 by omega),if_neg (by rintro⟨a,b⟩;exact h1 ⟨by omega,by omega⟩)]
theorem aF9 (ts:List Term){left dep:Int}(h:left<0) :kA ts left dep=left:=by unfold kA;rw [if_pos h]
theorem aGa (o n:Int)(s:aE)(ks:List Term)(ps:List Pat)(l0 dep:Int)(hd:1≤dep)(hd2:dep≤1000)(ih:∀t∈ks,∀left:Int,0≤left→left≤1000→Pure PP 64 [Term.av t,.int .i64 left,.int .i64 (dep-1)] (.int .i64 (gV t left (dep-1)))) :
  ∀ (ts:List Term) (i:Nat) (left:Int),ks.drop i=ts→ -1≤left→ (i:Int) +left≤1000→Ends PP 0 (aEr o n s ks ps l0 dep left (i:Int)).as (.ret (.int .i64 (kA ts left (dep-1)))) (aO [] 0)
 | [],i,left,h,h1,h2=>by
  have:=bD h;have e:kA [] left (dep-1) =left:=by
   unfold kA;by_cases hn:left<0
   ·rw [if_pos hn]
   · rw [if_neg hn,if_pos (by simp only [dS,fP];omega)];simp only [dS];omega
  rw [e];exact aQC o n s ks ps l0 dep left i sd
 | .mk o' n' s' ks' ps'::ts,i,left,h,h1,h2=>by
  obtain⟨g1,g2,g3⟩ :=aW h;by_cases h0:0≤left
  · have hp:=oI (.mk o' n' s' ks' ps');rw [aEu _ _ h0 (by omega)];refine(aQA o n s ks ps l0 dep left i o' n' s' ks' ps' (gV (.mk o' n' s' ks' ps') left (dep-1)) sd (by simp;omega) sd sd sd (ih _ (mem_of_getElem? g1) left h0 (by omega)) sd).ends ?_;exact aGa o n s ks ps l0 dep hd hd2 ih ts (i+1) _ g2 (by unfold gV;split<;>omega) (by unfold gV;split<;>omega)
  · rw [aF9 _ (by omega)];exact aQB o n s ks ps l0 dep left i sd (by simp;omega)
mutual
theorem aB2 :∀ (t:Term) (left dep:Int),-1≤left→left≤1000→0≤dep→dep≤1000→Pure PP 64 [Term.av t,.int .i64 left,.int .i64 dep] (.int .i64 (gV t left dep))
 | .mk o n s ks ps,left,dep,h1,h2,h3,h4=>by
  refine bC (by kernel_rfl) (by simp [keylessL,fC,keyless]) rfl ?_;by_cases ha:left<1
  · have e:gV (.mk o n s ks ps) left dep= -1:=by unfold gV;rw [if_neg (by simp only [dL];omega)]
    rw [e];exact aQx o n s ks ps left dep (by simp [ha])
  · by_cases hb:dep<1
    · have e:gV (.mk o n s ks ps) left dep= -1:=by unfold gV;rw [if_neg (by simp only [eU];omega)]
      rw [e];exact aQy o n s ks ps left dep (by simp;omega) (by simp [hb])
    · have e:gV (.mk o n s ks ps) left dep=kA ks (left-1) (dep-1) :=by
       have e1:dL (.mk o n s ks ps) =dS ks+1:=by rw [dL]
       have e2:eU (.mk o n s ks ps) =fP ks+1:=by rw [eU]
       unfold gV kA;rw [if_neg (show ¬left-1<0 by omega)];by_cases hc: (dS ks:Int) ≤left-1∧ (fP ks:Int) ≤dep-1
       ·rw [if_pos hc,if_pos (by omega)];omega
       ·rw [if_neg hc,if_neg (by omega)]
      rw [e];refine(aQz o n s ks ps left dep (by simp;omega) (by simp;omega) sd).ends ?_;exact aGa o n s ks ps left dep (by omega) h4 (fun t ht l a b=>aIz ks (dep-1) (by omega) (by omega) t ht l (by omega) b) ks 0 (left-1) rfl (by omega) (by omega)
theorem aIz :∀ (ts:List Term) (dep:Int),0≤dep→dep≤1000→∀t∈ts,∀left:Int,-1≤left→left≤1000→Pure PP 64 [Term.av t,.int .i64 left,.int .i64 dep] (.int .i64 (gV t left dep))
 | [],_,_,_,t,ht=>by cases ht
 | u::ts,dep,h3,h4,t,ht=>by
  rcases List.mem_cons.1 ht with e|ht
  ·rw [e];exact fun left a b=>aB2 u left dep a b h3 h4
  ·exact aIz ts dep h3 h4 t ht
end
theorem aYY (o n:Int)(s:aE)(ks:List Term)(ps:List Pat)(hl:ks.length<1000000)(ih:∀t∈ks,Pure PP 116 [Term.av t] (.bool (lB t))) :
  ∀ (ts:List Term) (i:Nat),ks.drop i=ts→Ends PP 0 (aEt o n s ks ps (i:Int)).as (.ret (.bool (wH ts))) (aO [] 0)
 | [],i,h=>by
  have:=bD h;exact aQ4 o n s ks ps i sd
 | .mk o' n' s' ks' ps'::ts,i,h=>by
  obtain⟨g1,g2,g3⟩ :=aW h;have hp:=ih _ (mem_of_getElem? g1);rw [wH];cases hb:lB (.mk o' n' s' ks' ps')with
  | true=>
   rw [hb]at hp;exact(aQ3 o n s ks ps i o' n' s' ks' ps' true sd sd sd hp rfl sd).ends (Ends.eqv (aYY o n s ks ps hl ih ts (i+1) g2) (by simp))
  | false=>
   rw [hb]at hp;exact Ends.eqv (aQ2 o n s ks ps i o' n' s' ks' ps' false sd sd sd hp rfl) (by simp)
theorem aYZ (o n:Int)(s:aE)(ks:List Term)(ps:List Pat)(hl:ks.length<1000000)(hl2:ps.length<1000000)(ih:∀t∈ks,Pure PP 116 [Term.av t] (.bool (lB t))) :
  ∀ (qs:List Pat) (i:Nat),ps.drop i=qs→Ends PP 0 (aEs o n s ks ps (i:Int)).as (.ret (.bool (qs.all aAV&&wH ks))) (aO [] 0)
 | [],i,h=>by
  have:=bD h;exact(aQ1 o n s ks ps i sd).ends (Ends.eqv (aYY o n s ks ps hl ih ks 0 rfl) (by simp))
 | .mk f' n' s' ps'::qs,i,h=>by
  obtain⟨g1,g2,g3⟩ :=aW h;have hp:=aLQ (.mk f' n' s' ps');cases hb:aAV (.mk f' n' s' ps')with
  | true=>
   rw [hb]at hp;exact(aQ0 o n s ks ps i f' n' s' ps' true sd sd sd hp rfl sd).ends (Ends.eqv (aYZ o n s ks ps hl hl2 ih qs (i+1) g2) (by simp [hb]))
  | false=>
   rw [hb]at hp;exact Ends.eqv (aQZ o n s ks ps i f' n' s' ps' false sd sd sd hp rfl) (by simp [hb])
mutual
theorem aGb :∀ (t:Term),qF t<1000000→Pure PP 116 [Term.av t] (.bool (lB t))
 | .mk o n s ks ps,hf=>by
  simp only [qF]at hf;have:=tY ks;have:=dJ ps;refine bC (by kernel_rfl) (by simp [keylessL,fC]) rfl ?_;have hn:=aMQ o n s ks ps (by omega) (by omega);rw [lB];cases hb:aG o n s (length ks) (length ps)with
  | true=>
   rw [hb]at hn;exact(aQY o n s ks ps true hn rfl).ends (Ends.eqv (aYZ o n s ks ps (by omega) (by omega) (aIA ks (by omega)) ps 0 rfl) (by simp))
  | false=>
   rw [hb]at hn;exact Ends.eqv (aQX o n s ks ps false hn rfl) (by simp)
theorem aIA :∀ (ts:List Term),iL ts<1000000→∀t∈ts,Pure PP 116 [Term.av t] (.bool (lB t))
 | [],_,t,ht=>by cases ht
 | u::ts,hf,t,ht=>by
  simp only [iL]at hf;rcases List.mem_cons.1 ht with e|ht
  ·rw [e];exact aGb u (by omega)
  ·exact aIA ts (by omega) t ht
end
def aAJ (t:Term) :Bool:=decide (dL t≤60) &&decide (eU t≤14) &&lB t
theorem aMR (t:Term)(hf:qF t<1000000) :Pure PP 76 [Term.av t] (.bool (aAJ t)) :=by
 have hw:=aB2 t 60 14 (by omega) (by omega) (by omega) (by omega);have hn:=aGb t hf;have hs:=oI t;unfold aAJ;unfold gV at hw;obtain⟨o,n,s,ks,ps⟩ :=t;refine bC (by kernel_rfl) (by simp [keylessL,fC]) rfl ?_;by_cases h:dL (.mk o n s ks ps) ≤60∧eU (.mk o n s ks ps) ≤14
 · rw [if_pos (by omega)]at hw;exact Ends.eqv (aQ5 o n s ks ps _ _ hw (by simp;omega) hn) (by simp [h.1,h.2])
 · rw [if_neg (by omega)]at hw
   exact Ends.eqv (aQ6 o n s ks ps _ hw (by simp)) (by
    by_cases h1:dL (.mk o n s ks ps) ≤60
    · have:¬eU (.mk o n s ks ps) ≤14:=fun h2=>h ⟨h1,h2⟩;simp [this]
    ·simp [h1])
end
end Go.Hb
