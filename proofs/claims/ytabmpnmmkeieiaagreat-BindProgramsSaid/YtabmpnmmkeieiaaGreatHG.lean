/-
  OWN WORK (V101, V30, H30, V10, G1, V11, G2, V12, G3, G4, G5, V13, H8, H9): a machine on abstract values, its soundness, ways through the text (the ways WRITTEN BY A PROGRAM), plain laws.
-/
import Derived.Test.YtabmpnmmkeieiaaGreatHF
set_option linter.defProp false
set_option linter.unusedVariables false
set_option linter.unusedSimpArgs false
set_option linter.unusedSectionVars false
set_option maxRecDepth 100000
namespace Go.Hb
open Go.Proofs
inductive Typ where
 |mk (sort n:Int) (text:aC) (parts:List Typ)
mutual
def Typ.av :Typ→AV
 | .mk f n t ps=>.agg [.int .i64 f,.int .i64 n,aA t,.ilst 4 (Typs.av ps) false]
def Typs.av :List Typ→List AV
 | [] =>[]
 |p::ps=>Typ.av p::Typs.av ps
end
theorem cT :∀l,Typs.av l=List.map Typ.av l
 | [] =>rfl
 |p::ps=>by rw [Typs.av,cT ps];rfl
mutual
theorem uP :∀p,AV.keyless (Typ.av p) =true
 | .mk f n t ps=>by simp [Typ.av,AV.keyless,AV.keylessL,aA]
theorem aNO :∀l,AV.keylessL (Typs.av l) =true
 | [] =>rfl
 |p::ps=>by rw [Typs.av,AV.keylessL,uP p,aNO ps];rfl
end
inductive Term where
 |mk (op n:Int) (text:aC) (kids:List Term) (pats:List Pat)
mutual
def Term.av :Term→AV
 | .mk o n t ks ps=>.agg [.int .i64 o,.int .i64 n,aA t,.ilst 5 (Terms.av ks) false,.ilst 4 (Pats.av ps) false]
def Terms.av :List Term→List AV
 | [] =>[]
 |p::ps=>Term.av p::Terms.av ps
end
theorem bG :∀l,Terms.av l=List.map Term.av l
 | [] =>rfl
 |p::ps=>by rw [Terms.av,bG ps];rfl
mutual
theorem gV :∀p,AV.keyless (Term.av p) =true
 | .mk o n t ks ps=>by simp [Term.av,AV.keyless,AV.keylessL,aA]
theorem aMh :∀l,AV.keylessL (Terms.av l) =true
 | [] =>rfl
 |p::ps=>by rw [Terms.av,AV.keylessL,gV p,aMh ps];rfl
end
noncomputable abbrev aHs (n:Nat)(l:List Typ)(i:Int)(a:Int→Int→aC→List Typ→Tr) :Tr:=.y fun p=>.y fun q=>.y fun r=>.y fun s=>giF cT n l i (.mk p q r s) (a p q r s)
noncomputable abbrev aCR (n:Nat)(l:List Term)(i:Int)(a:Int→Int→aC→List Term→List Pat→Tr) :Tr:=.y fun p=>.y fun q=>.y fun r=>.y fun s=>.y fun t=>giF bG n l i (.mk p q r s t) (a p q r s t)
end Go.Hb
namespace Go.Hb
open Go.Proofs
noncomputable section
inductive KV where
 |row (l:List Int)
 |nil
 |val (u:Value)
def KV.av :KV→AV
 | .row l=>.ilst 1 (List.map aO l) false
 | .nil=>.nils
 | .val u=>.val u
structure ONode where
 op:Int
 n:Int
 kv:KV
 pats:List Pat
def ONode.av (x:ONode) :AV:=.agg [.int .i64 x.op,.int .i64 x.n,x.kv.av,.ilst 4 (Pats.av x.pats) false]
def Node.o (x:Node) :ONode:= ⟨x.op,x.n,.row x.kids,x.pats⟩
theorem bE5 :∀k:KV,AV.keyless k.av=true
 | .row l=>by simp only [KV.av,AV.keyless]
 | .nil=>rfl
 | .val u=>rfl
theorem bH (x:ONode) :AV.keyless x.av=true:=by
 simp only [ONode.av,AV.keyless,AV.keylessL,bE5,zV,Bool.and_true]
theorem aFI {E:Emb}{x y:AV}(hv:∀v,VR E x v→VR E y v) :∀ {xs:List AV} {i:Nat},xs[i]?=some x→∀vs,VRs E xs vs→VRs E (xs.set i y) vs
 | [],i,h,vs,hvs=>by simp at h
 | a::xs,0,h,vs,hvs=>by
  simp only [VRs]at hvs;obtain⟨u,us,rfl,h1,h2⟩ :=hvs;simp at h;subst h;simp only [List.set_cons_zero,VRs];exact⟨u,us,rfl,hv u h1,h2⟩
 | a::xs,i+1,h,vs,hvs=>by
  simp only [VRs]at hvs;obtain⟨u,us,rfl,h1,h2⟩ :=hvs;simp only [List.getElem?_cons_succ]at h;simp only [List.set_cons_succ,VRs];exact⟨u,us,rfl,h1,aFI hv h us h2⟩
theorem aHt {E:Emb}{x:ONode}{k:KV}(hk:∀v,VR E x.kv.av v→VR E k.av v) :∀v,VR E x.av v→VR E (ONode.av ⟨x.op,x.n,k,x.pats⟩) v:=fun v h=>by
 simp only [ONode.av,VR,VRs]at h ⊢;obtain⟨us,rfl,u1,r1,rfl,q1,u2,r2,rfl,q2,u3,r3,rfl,q3,q4⟩ :=h;exact⟨_,rfl,_,_,rfl,q1,_,_,rfl,q2,_,_,rfl,hk _ q3,q4⟩
theorem aJw {E:Emb}:∀v,VR E KV.nil.av v→VR E (KV.row []).av v:=fun v h=>by
 simp only [KV.av,VR]at h;simp only [KV.av,VR,List.map_nil];exact⟨[],VRs.nil _,fun _ hu=>by(cases hu),.inl ⟨rfl,none,0,h,fun _=>rfl,fun _=>rfl⟩⟩
theorem aNP {l:List ONode}{i:Nat}{y:ONode}(h:l[i]?=some y)(hk:y.kv= .nil) :VW (List.map ONode.av l) (List.map ONode.av (l.set i ⟨y.op,y.n,.row [],y.pats⟩)) :=fun E vs hvs=>by
 have h1: (List.map ONode.av l)[i]?=some y.av:=by rw [List.getElem?_map,h];rfl
 rw [List.map_set];exact aFI (aHt (by rw [hk];exact aJw)) h1 vs hvs
theorem aNQ {l:List ONode}{i:Nat}{y:ONode}{u:Value}{ks:List Int}(h:l[i]?=some y)(hk:y.kv= .val u) :VQ u 1 (List.map aO ks) (List.map ONode.av l) (List.map ONode.av (l.set i ⟨y.op,y.n,.row ks,y.pats⟩)) :=fun E vs hu hvs=>by
 have h1: (List.map ONode.av l)[i]?=some y.av:=by rw [List.getElem?_map,h];rfl
 rw [List.map_set];refine aFI (aHt (fun v hv=>?_)) h1 vs hvs;rw [hk]at hv;simp only [KV.av,VR]at hv;subst hv;exact hu
theorem aFJ {α:Type}{f:α→AV}{l:List α}{i:Nat}{y:α}(h:l[i]?=some y) :List.map f l≠ [] :=fun e=>by
 cases l with
 |nil=>simp at h
 |cons _ _=>cases e
end
end Go.Hb
namespace Go.Hb
open Go.Proofs
noncomputable section
def kwL :List aC:=[(strOf [98,111,111,108]),(strOf [99,101,108,108]),(strOf [99,104,97,110]),(strOf [101,108,115,101]),(strOf [102,97,108,115,101]),(strOf [102,117,110]),(strOf [103,101,116]),(strOf [105,102]),(strOf [105,110]),(strOf [105,110,112,117,116]),(strOf [105,110,116]),(strOf [106,111,105,110]),(strOf [108,101,116]),(strOf [109,97,116,99,104]),(strOf [109,111,100,117,108,101]),(strOf [111,117,116]),(strOf [112,97,117,115,101]),(strOf [112,117,116]),(strOf [114,101,115,101,116]),(strOf [115,101,110,100]),(strOf [115,104,105,102,116]),(strOf [115,112,97,119,110]),(strOf [116,97,107,101]),(strOf [116,97,115,107]),(strOf [116,104,101,110]),(strOf [116,114,117,101]),(strOf [116,121,112,101]),(strOf [117,110,105,116])]
def bBZ:TS:=bF PP 187 [] [] 0
def aTX:=(tT 0 (bBZ)<|.i [rn 10,.toL 0 false [(.str 4 1819242338),(.str 4 1819043171),(.str 4 1851877475),(.str 4 1702063205),(.str 5 435728179558),(.str 3 7239014),(.str 3 7628135),(.str 2 26217),(.str 2 28265),(.str 5 500186508905),(.str 3 7630441),(.str 4 1852403562),(.str 3 7628140),(.str 5 448345170285),(.str 6 111516500389741),(.str 3 7632239),(.str 5 435728769392),(.str 3 7632240),(.str 5 499918267762),(.str 4 1684956531),(.str 5 499934390387),(.str 5 474449277043),(.str 4 1701536116),(.str 4 1802723700),(.str 4 1852139636),(.str 4 1702195828),(.str 4 1701869940),(.str 4 1953066613)]] [hr (some [(AV.str 4 1819242338),(AV.str 4 1819043171),(AV.str 4 1851877475),(AV.str 4 1702063205),(AV.str 5 435728179558),(AV.str 3 7239014),(AV.str 3 7628135),(AV.str 2 26217),(AV.str 2 28265),(AV.str 5 500186508905),(AV.str 3 7630441),(AV.str 4 1852403562),(AV.str 3 7628140),(AV.str 5 448345170285),(AV.str 6 111516500389741),(AV.str 3 7632239),(AV.str 5 435728769392),(AV.str 3 7632240),(AV.str 5 499918267762),(AV.str 4 1684956531),(AV.str 5 499934390387),(AV.str 5 474449277043),(AV.str 4 1701536116),(AV.str 4 1802723700),(AV.str 4 1852139636),(AV.str 4 1702195828),(AV.str 4 1701869940),(AV.str 4 1953066613)]),hr true]<|gu 0 0 (List.map aA kwL)<|gs 0 0 (.gl 0 1 0 kwL.length true)<|.i [.weak 0] []<|gz 0 0 0 1 aA kwL false<|gE 0 1 (iS kwL)) tv
def aNR (c:aC):=fun a b d e=>(tT 0 (start PP 119 [(aA c)])<|.y fun a:List aC=>gp 6 187 [] (iS a)<|dG 1 51 [(iS a),(aA c)]<|fun b=>gE 3 0 (bV b)) a d b e tv
def aKH(a:aC):=tT 0 (start PP 59 [(aA a)])<|gd 10 6 ((a.length:Int) ≥1) (gd 5 11 ((a.length:Int) ≤8) (dG 1 118 [(aA a)]<|fun b=>.b 2 15 b (dG 1 119 [(aA a)]<|fun c=>gE 5 0 (bV (!c)))<|gE 7 0 (bV false))<|gE 11 0 (bV false))<|gE 16 0 (bV false)
def aTY:=fun a b c d e f g i=>aKH a|>.t d|>.t e b f|>.t g c i tv
def aTZ:=fun a b c d e f=>aKH a|>.t c|>.t d b e|>.f f tv
def aT0:=fun a b c=>aKH a|>.t b|>.f c tv
def aT1:=fun a b=>aKH a|>.f b tv
def bB0(a b c:Int):=tT 0 (start PP 60 [(nI a),(nI b),(nI c)])<|gd 10 10 (a≥b) (gE 7 0 (bV (decide (a≤c))))<|gE 7 0 (bV false)
def aNS:=fun a b c d=>bB0 a b c|>.t d tv
def aNT:=fun a b c d=>bB0 a b c|>.f d tv
def fN(a:aC):=tT 0 (start PP 176 [(aA a)])<|.b 16 4 (aU a.length (aE a) 4 1819242338) (gE 8 0 (bV true))<|.b 6 4 (aU a.length (aE a) 4 1819043171) (gE 8 0 (bV true))<|.b 6 4 (aU a.length (aE a) 4 1851877475) (gE 8 0 (bV true))<|.b 6 4 (aU a.length (aE a) 4 1702063205) (gE 8 0 (bV true))<|.b 6 4 (aU a.length (aE a) 5 435728179558) (gE 8 0 (bV true))<|.b 6 4 (aU a.length (aE a) 3 7239014) (gE 8 0 (bV true))<|.b 6 4 (aU a.length (aE a) 3 7628135) (gE 8 0 (bV true))<|.b 6 4 (aU a.length (aE a) 2 26217) (gE 8 0 (bV true))<|.b 6 4 (aU a.length (aE a) 2 28265) (gE 8 0 (bV true))<|.b 6 4 (aU a.length (aE a) 5 500186508905) (gE 8 0 (bV true))<|.b 6 4 (aU a.length (aE a) 3 7630441) (gE 8 0 (bV true))<|.b 6 4 (aU a.length (aE a) 4 1852403562) (gE 8 0 (bV true))<|.b 6 4 (aU a.length (aE a) 3 7628140) (gE 8 0 (bV true))<|.b 6 4 (aU a.length (aE a) 5 448345170285) (gE 8 0 (bV true))<|.b 6 4 (aU a.length (aE a) 6 111516500389741) (gE 8 0 (bV true))<|.b 6 4 (aU a.length (aE a) 3 7632239) (gE 8 0 (bV true))<|.b 6 4 (aU a.length (aE a) 5 435728769392) (gE 8 0 (bV true))<|.b 6 4 (aU a.length (aE a) 3 7632240) (gE 8 0 (bV true))<|.b 6 4 (aU a.length (aE a) 5 499918267762) (gE 8 0 (bV true))<|.b 6 4 (aU a.length (aE a) 4 1684956531) (gE 8 0 (bV true))<|.b 6 4 (aU a.length (aE a) 5 499934390387) (gE 8 0 (bV true))<|.b 6 4 (aU a.length (aE a) 5 474449277043) (gE 8 0 (bV true))<|.b 6 4 (aU a.length (aE a) 4 1701536116) (gE 8 0 (bV true))<|.b 6 4 (aU a.length (aE a) 4 1802723700) (gE 8 0 (bV true))<|.b 6 4 (aU a.length (aE a) 4 1852139636) (gE 8 0 (bV true))<|.b 6 4 (aU a.length (aE a) 4 1702195828) (gE 8 0 (bV true))<|.b 6 4 (aU a.length (aE a) 4 1701869940) (gE 8 0 (bV true))<|.b 5 4 (aU a.length (aE a) 4 1953066613) (gE 6 0 (bV true))<|gE 8 0 (bV false)
def aT2:=fun a b=>fN a|>.t b tv
def aT3:=fun a b c=>fN a|>.f b|>.t c tv
def aT4:=fun a b c d=>fN a|>.f b|>.f c|>.t d tv
def aT5:=fun a b c d e=>fN a|>.f b|>.f c|>.f d|>.t e tv
def aT6:=fun a b c d e f=>fN a|>.f b|>.f c|>.f d|>.f e|>.t f tv
def aT7:=fun a b c d e f g=>fN a|>.f b|>.f c|>.f d|>.f e|>.f f|>.t g tv
def aT8:=fun a b c d e f g i=>fN a|>.f b|>.f c|>.f d|>.f e|>.f f|>.f g|>.t i tv
def aT9:=fun a b c d e f g i j=>fN a|>.f b|>.f c|>.f d|>.f e|>.f f|>.f g|>.f i|>.t j tv
def aUa:=fun a b c d e f g i j k=>fN a|>.f b|>.f c|>.f d|>.f e|>.f f|>.f g|>.f i|>.f j|>.t k tv
def aUb:=fun a b c d e f g i j k l=>fN a|>.f b|>.f c|>.f d|>.f e|>.f f|>.f g|>.f i|>.f j|>.f k|>.t l tv
def aNU:=fun a b c d e f g i j k l m=>fN a|>.f b|>.f c|>.f d|>.f e|>.f f|>.f g|>.f i|>.f j|>.f k|>.f l|>.t m tv
def aNV:=fun a b c d e f g i j k l m n=>fN a|>.f b|>.f c|>.f d|>.f e|>.f f|>.f g|>.f i|>.f j|>.f k|>.f l|>.f m|>.t n tv
def aNW:=fun a b c d e f g i j k l m n o=>fN a|>.f b|>.f c|>.f d|>.f e|>.f f|>.f g|>.f i|>.f j|>.f k|>.f l|>.f m|>.f n|>.t o tv
def aNX:=fun a b c d e f g i j k l m n o p=>fN a|>.f b|>.f c|>.f d|>.f e|>.f f|>.f g|>.f i|>.f j|>.f k|>.f l|>.f m|>.f n|>.f o|>.t p tv
def aNY:=fun a b c d e f g i j k l m n o p q=>fN a|>.f b|>.f c|>.f d|>.f e|>.f f|>.f g|>.f i|>.f j|>.f k|>.f l|>.f m|>.f n|>.f o|>.f p|>.t q tv
def aNZ:=fun a b c d e f g i j k l m n o p q r=>fN a|>.f b|>.f c|>.f d|>.f e|>.f f|>.f g|>.f i|>.f j|>.f k|>.f l|>.f m|>.f n|>.f o|>.f p|>.f q|>.t r tv
def aN0:=fun a b c d e f g i j k l m n o p q r s=>fN a|>.f b|>.f c|>.f d|>.f e|>.f f|>.f g|>.f i|>.f j|>.f k|>.f l|>.f m|>.f n|>.f o|>.f p|>.f q|>.f r|>.t s tv
def aN1:=fun a b c d e f g i j k l m n o p q r s t=>fN a|>.f b|>.f c|>.f d|>.f e|>.f f|>.f g|>.f i|>.f j|>.f k|>.f l|>.f m|>.f n|>.f o|>.f p|>.f q|>.f r|>.f s|>.t t tv
def aN2:=fun a b c d e f g i j k l m n o p q r s t u=>fN a|>.f b|>.f c|>.f d|>.f e|>.f f|>.f g|>.f i|>.f j|>.f k|>.f l|>.f m|>.f n|>.f o|>.f p|>.f q|>.f r|>.f s|>.f t|>.t u tv
def aN3:=fun a b c d e f g i j k l m n o p q r s t u v=>fN a|>.f b|>.f c|>.f d|>.f e|>.f f|>.f g|>.f i|>.f j|>.f k|>.f l|>.f m|>.f n|>.f o|>.f p|>.f q|>.f r|>.f s|>.f t|>.f u|>.t v tv
def aN4:=fun a b c d e f g i j k l m n o p q r s t u v w=>fN a|>.f b|>.f c|>.f d|>.f e|>.f f|>.f g|>.f i|>.f j|>.f k|>.f l|>.f m|>.f n|>.f o|>.f p|>.f q|>.f r|>.f s|>.f t|>.f u|>.f v|>.t w tv
def aN5:=fun a b c d e f g i j k l m n o p q r s t u v w x=>fN a|>.f b|>.f c|>.f d|>.f e|>.f f|>.f g|>.f i|>.f j|>.f k|>.f l|>.f m|>.f n|>.f o|>.f p|>.f q|>.f r|>.f s|>.f t|>.f u|>.f v|>.f w|>.t x tv
def aN6:=fun a b c d e f g i j k l m n o p q r s t u v w x y=>fN a|>.f b|>.f c|>.f d|>.f e|>.f f|>.f g|>.f i|>.f j|>.f k|>.f l|>.f m|>.f n|>.f o|>.f p|>.f q|>.f r|>.f s|>.f t|>.f u|>.f v|>.f w|>.f x|>.t y tv
def aN7:=fun a b c d e f g i j k l m n o p q r s t u v w x y z=>fN a|>.f b|>.f c|>.f d|>.f e|>.f f|>.f g|>.f i|>.f j|>.f k|>.f l|>.f m|>.f n|>.f o|>.f p|>.f q|>.f r|>.f s|>.f t|>.f u|>.f v|>.f w|>.f x|>.f y|>.t z tv
def aN8:=fun a b c d e f g i j k l m n o p q r s t u v w x y z A=>fN a|>.f b|>.f c|>.f d|>.f e|>.f f|>.f g|>.f i|>.f j|>.f k|>.f l|>.f m|>.f n|>.f o|>.f p|>.f q|>.f r|>.f s|>.f t|>.f u|>.f v|>.f w|>.f x|>.f y|>.f z|>.t A tv
def aN9:=fun a b c d e f g i j k l m n o p q r s t u v w x y z A B=>fN a|>.f b|>.f c|>.f d|>.f e|>.f f|>.f g|>.f i|>.f j|>.f k|>.f l|>.f m|>.f n|>.f o|>.f p|>.f q|>.f r|>.f s|>.f t|>.f u|>.f v|>.f w|>.f x|>.f y|>.f z|>.f A|>.t B tv
def aOa:=fun a b c d e f g i j k l m n o p q r s t u v w x y z A B C=>fN a|>.f b|>.f c|>.f d|>.f e|>.f f|>.f g|>.f i|>.f j|>.f k|>.f l|>.f m|>.f n|>.f o|>.f p|>.f q|>.f r|>.f s|>.f t|>.f u|>.f v|>.f w|>.f x|>.f y|>.f z|>.f A|>.f B|>.t C tv
def aOb:=fun a b c d e f g i j k l m n o p q r s t u v w x y z A B C D=>fN a|>.f b|>.f c|>.f d|>.f e|>.f f|>.f g|>.f i|>.f j|>.f k|>.f l|>.f m|>.f n|>.f o|>.f p|>.f q|>.f r|>.f s|>.f t|>.f u|>.f v|>.f w|>.f x|>.f y|>.f z|>.f A|>.f B|>.f C|>.t D tv
def aOc:=fun a b c d e f g i j k l m n o p q r s t u v w x y z A B C D=>fN a|>.f b|>.f c|>.f d|>.f e|>.f f|>.f g|>.f i|>.f j|>.f k|>.f l|>.f m|>.f n|>.f o|>.f p|>.f q|>.f r|>.f s|>.f t|>.f u|>.f v|>.f w|>.f x|>.f y|>.f z|>.f A|>.f B|>.f C|>.f D tv
def aKI(a:aC):=tT 0 (start PP 103 [(aA a)])<|.b 9 5 (!(aU a.length (aE a) 0 0)) (gd 5 10 ((a.length:Int) ≤8) (dG 1 175 [(aA a)]<|fun b=>.b 2 14 b (dG 1 176 [(aA a)]<|fun c=>gE 5 0 (bV (!c)))<|gE 7 0 (bV false))<|gE 11 0 (bV false))<|gE 16 0 (bV false)
def aUc:=fun a b c d e f g i=>aKI a|>.t d|>.t e b f|>.t g c i tv
def aUd:=fun a b c d e f=>aKI a|>.t c|>.t d b e|>.f f tv
def aUe:=fun a b c=>aKI a|>.t b|>.f c tv
def aUf:=fun a b=>aKI a|>.f b tv
end
end Go.Hb
namespace Go.Hb
open Go.Proofs
mutual
def mD :Pat→Int→Int
 | .mk _ _ _ ps,left=>if left<1 then -1 else iU ps (left-1)
def iU :List Pat→Int→Int
 | [],left=>left
 |p::ps,left=>if 0≤left then iU ps (mD p left)else left
end
mutual
theorem aHu :∀ (p:Pat) (left:Int),0≤left→ -1≤mD p left∧mD p left≤left-1
 | .mk _ _ _ ps,left,h=>by
  rw [mD];split
  ·omega
  ·have:=aEv ps (left-1) (by omega);omega
theorem aEv :∀ (ps:List Pat) (left:Int),-1≤left→ -1≤iU ps left∧iU ps left≤left
 | [],left,h=>by rw [iU];omega
 | p ::ps,left,h=>by
  rw [iU];split
  · rename_i h0;have a:=aHu p left h0;have:=aEv ps (mD p left) a.1;omega
  ·omega
end
theorem aBs (f n:Int)(s:aC)(ps:List Pat)(l0:Int)(ih:∀p∈ps,∀left:Int,0≤left→left≤1000→Pure PP 124 [Pat.av p,.int .i64 left] (.int .i64 (mD p left))) :
  ∀ (t:List Pat) (i:Nat) (left:Int),ps.drop i=t→ -1≤left→ (i:Int) +left≤1000→Ends PP 0 (vQ f n s ps l0 left (i:Int)).as (.ret (.int .i64 (iU t left))) (aG [] 0)
 | [],i,left,h,h1,h2=>by
  have:=bA h;rw [iU];exact aJv f n s ps l0 left i sd
 | .mk f' n' s' ps'::t,i,left,h,h1,h2=>by
  obtain⟨g1,g2,g3⟩ :=aZ h;rw [iU];split
  · rename_i h0;have w:=aHu (.mk f' n' s' ps') left h0;refine(aJt f n s ps l0 left i f' n' s' ps' _ sd sd sd sd (ih _ (List.mem_of_getElem? g1) left h0 (by omega)) sd).ends ?_;exact aBs f n s ps l0 ih t (i+1) _ g2 w.1 (by omega)
  ·exact aJu f n s ps l0 left i sd sd
mutual
theorem uQ :∀ (p:Pat) (left:Int),-1≤left→left≤1000→Pure PP 124 [Pat.av p,.int .i64 left] (.int .i64 (mD p left))
 | .mk f n s ps,left,h0,h1=>by
  refine aV (by kernel_rfl) (by simp [AV.keylessL,eE,AV.keyless]) rfl ?_;rw [mD];split
  ·exact aJr f n s ps left sd
  · refine(aJs f n s ps left sd sd).ends ?_;exact aBs f n s ps left (fun p hp left h0 h1=>aCS ps p hp left h0 h1) ps 0 _ rfl (by omega) (by omega)
theorem aCS :∀ (ps:List Pat),∀p∈ps,∀left:Int,0≤left→left≤1000→Pure PP 124 [Pat.av p,.int .i64 left] (.int .i64 (mD p left))
 | [],p,hp,_,_,_=>by cases hp
 | q::ps,p,hp,left,h0,h1=>by
  rcases List.mem_cons.1 hp with e|hp
  ·rw [e];exact uQ q left (by omega) h1
  ·exact aCS ps p hp left h0 h1
end
mutual
def mV :Pat→Bool
 | .mk _ _ s ps=>nL ps&&decide (s.length≤30)
def nL :List Pat→Bool
 | [] =>true
 |p::ps=>mV p&&nL ps
end
mutual
def aQ :Pat→Nat
 | .mk _ _ _ ps=>aM ps+1
def aM :List Pat→Nat
 | [] =>0
 |p::ps=>aQ p+aM ps
end
theorem bK :∀ps:List Pat,ps.length≤aM ps
 | [] =>by simp [aM]
 | .mk _ _ _ qs::ps=>by have:=bK ps;simp only [aM,aQ,List.length_cons];omega
mutual
theorem aCT :∀ (p:Pat) (left:Int),0≤mD p left→mD p left=left-aQ p
 | .mk _ _ _ ps,left,h=>by
  rw [mD]at h ⊢;split at h
  ·omega
  · rename_i h1;rw [if_neg h1];have:=aBt ps (left-1) h;simp only [aQ];omega
theorem aBt :∀ (ps:List Pat) (left:Int),0≤iU ps left→iU ps left=left-aM ps
 | [],left,h=>by simp [iU,aM]
 | p ::ps,left,h=>by
  rw [iU]at h ⊢;split at h
  · rename_i h1;rw [if_pos h1];have a:=aBt ps _ h;have b:=aCT p left (by omega);simp only [aM];omega
  ·omega
end
mutual
theorem aCU :∀ (p:Pat) (left:Int),(aQ p:Int) ≤left→mD p left=left-aQ p
 | .mk _ _ _ ps,left,h=>by
  simp only [aQ]at h ⊢;rw [mD,if_neg (by omega),aBu ps (left-1) (by omega)];omega
theorem aBu :∀ (ps:List Pat) (left:Int),(aM ps:Int) ≤left→iU ps left=left-aM ps
 | [],left,h=>by simp [iU,aM]
 | p::ps,left,h=>by
  simp only [aM]at h ⊢;rw [iU,if_pos (by omega),aCU p left (by omega),aBu ps _ (by omega)];omega
end
theorem aAU (p:Pat)(left:Int) :0≤mD p left↔ (aQ p:Int) ≤left:=by
 constructor
 ·intro h;have:=aCT p left h;omega
 ·intro h;rw [aCU p left h];omega
theorem uR (f n:Int)(s:aC)(ps:List Pat)(hl:ps.length<1000000)(ih:∀p∈ps,Pure PP 125 [Pat.av p] (.bool (mV p))) :
  ∀ (t:List Pat) (i:Nat),ps.drop i=t→Ends PP 0 (nK f n s ps (i:Int)).as (.ret (.bool (nL t&&decide (s.length≤30)))) (aG [] 0)
 | [],i,h=>by
  have:=bA h;have e:decide (((List.length s:Nat) :Int) ≤ (30:Int)) =decide (s.length≤30) :=by congr 1;simp;omega
  rw [nL,Bool.true_and,←e];exact aD1 f n s ps i sd
 | .mk f' n' s' ps'::t,i,h=>by
  obtain⟨g1,g2,g3⟩ :=aZ h;have ihp:=ih _ (List.mem_of_getElem? g1);rw [nL];cases hb:mV (.mk f' n' s' ps')with
  | false=>
   rw [hb]at ihp;exact aDZ f n s ps i f' n' s' ps' false sd sd sd ihp rfl
  | true=>
   rw [hb]at ihp;refine(aD0 f n s ps i f' n' s' ps' true sd sd sd ihp rfl sd).ends ?_;rw [Bool.true_and];exact uR f n s ps hl ih t (i+1) g2
mutual
theorem uS :∀ (p:Pat),aQ p<1000000→Pure PP 125 [Pat.av p] (.bool (mV p))
 | .mk f n s ps,h=>by
  refine aV (by kernel_rfl) (by simp [AV.keylessL,eE]) rfl ?_;simp only [aQ]at h;have:=bK ps;refine(aDY f n s ps).ends ?_;rw [mV];exact uR f n s ps (by omega) (wU ps (by omega)) ps 0 rfl
theorem wU :∀ (ps:List Pat),aM ps<1000000→∀p∈ps,Pure PP 125 [Pat.av p] (.bool (mV p))
 | [],_,p,hp=>by cases hp
 | q::ps,h,p,hp=>by
  simp only [aM]at h;rcases List.mem_cons.1 hp with e|hp
  ·rw [e];exact uS q (by omega)
  ·exact wU ps (by omega) p hp
end
def jL (p:Pat) :Bool:=decide (aQ p≤16) &&mV p
theorem aAa (p:Pat) :Pure PP 64 [Pat.av p] (.bool (jL p)) :=by
 refine aV (by kernel_rfl) (by simp [AV.keylessL,eE]) rfl ?_;obtain⟨f,n,s,ps⟩ :=p;have hw:=uQ (.mk f n s ps) 16 (by omega) (by omega);by_cases h:aQ (.mk f n s ps) ≤16
 · have e:jL (.mk f n s ps) =mV (.mk f n s ps) :=by simp [jL,h]
   rw [e];have hg:0≤mD (.mk f n s ps) 16:= (aAU (.mk f n s ps) 16).2 (by omega);exact aHn f n s ps _ _ hw (decide_eq_true hg) (uS (.mk f n s ps) (by omega))
 · have e:jL (.mk f n s ps) =false:=by simp [jL,h]
   rw [e];refine aHo f n s ps _ hw (decide_eq_false fun g=>h ?_);have:= (aAU (.mk f n s ps) 16).1 g;omega
def aMi (l:List Con) :Bool:=l.all fun c=>decide (c.name.length≤40)
def iR (l:List Pat) :Bool:=l.all jL
def dQ (x:Node) :Bool:=decide (x.kids.length≤10) &&decide (x.pats.length≤10) &&iR x.pats
def lJ (p:Prog) :Bool:=decide (p.nodes.length≤320) &&decide (p.funs.length≤320) &&decide (p.cons.length≤25) &&aMi p.cons&&p.nodes.all dQ
mutual
theorem bGn (p:Prog)(hn:p.nodes.length≤320) :∀ (t:List Node) (i:Nat),p.nodes.drop i=t→Ends PP 0 (qA p (i:Int)).as (.ret (.bool (t.all dQ))) (aG [] 0)
 | [],i,h=>by
  have:=bA h;exact aCN p i sd
 | x :: t,i,h=>by
  obtain⟨g1,g2,g3⟩ :=aZ h;by_cases k1:x.kids.length≤10
  · by_cases k2:x.pats.length≤10
    · have e: (x::t).all dQ= (iR (x.pats.drop 0) &&t.all dQ) :=by simp [dQ,k1,k2]
      rw [e];refine(aCM p i x sd sd sd sd sd).ends ?_;have ih:=bGn p hn t (i+1) g2;clear e g1 g2 h
      suffices ∀ (u:List Pat) (k:Nat),x.pats.drop k=u→Ends PP 0 (lU p x.op x.n x.kids x.pats (k:Int) (i:Int)).as (.ret (.bool (iR u&&t.all dQ))) (aG [] 0)from this _ 0 rfl
      intro u
      induction u with
      | nil=>
       intro k hk;have:=bA hk;refine(aCQ p x.op x.n x.kids x.pats k i sd sd).ends ?_;simp only [iR,List.all_nil,Bool.true_and];exact ih
      | cons q u ihu=>
       intro k hk;obtain⟨q1,q2,q3⟩ :=aZ hk;obtain⟨f',n',s',ps'⟩ :=q;have hp:=aAa (.mk f' n' s' ps');cases hb:jL (.mk f' n' s' ps')with
       | false=>
        rw [hb]at hp;have e: (iR (.mk f' n' s' ps'::u) &&t.all dQ) =false:=by simp [iR,hb]
        rw [e];exact aCO p x.op x.n x.kids x.pats k i f' n' s' ps' false sd sd sd hp rfl
       | true=>
        rw [hb]at hp;have e: (iR (.mk f' n' s' ps'::u) &&t.all dQ) = (iR u&&t.all dQ) :=by simp [iR,hb]
        rw [e];refine(aCP p x.op x.n x.kids x.pats k i f' n' s' ps' true sd sd sd hp rfl sd).ends ?_;exact ihu (k+1) q2
    · have e: (x::t).all dQ=false:=by simp [dQ,k2]
      rw [e];exact aCL p i x sd sd sd sd sd
  · have e: (x::t).all dQ=false:=by simp [dQ,k1]
    rw [e];exact aCK p i x sd sd sd sd
end
end Go.Hb
namespace Go.Hb
open Go.Proofs
noncomputable section
open Go.Proofs Tryz
def dI(b c:Int)(d:aC)(a:List Pat)(e:List Con)(f:Bool)(g:Int):TS:=⟨(tf 126 82 [(1,(iC e)),kp 2 0,(4,(bV false)),(5,(bV f)),(6,(nI (a.length:Int))),(7,(nI g))] [kc f126 1012,kl f126 1012,.inBlock 1,kc f126 127]),[],[oC 0 [(nI b),(nI c),(aA d),(iP a)]],1⟩
def sB(d b:Int)(a:aC)(c:List Pat)(e:List Con):=tT 0 (start PP 126 [(.agg [(nI d),(nI b),(aA a),(iP c)]),(iC e)])<|gm 13 aH c<|.b 15 13 (d==1) (.b 7 19 ((c.length:Int) ==0) (.b 11 61 (b==0) (.W 13 1 [0] (dI d b a c e (aU a.length (aE a) 0 0) 0))<|.W 13 1 [0] (dI d b a c e false 0))<|.W 24 1 [0] (dI d b a c e false 0))<|.b 6 13 (d==2) (.b 7 19 ((c.length:Int) ==0) (.b 11 61 (b==0) (.W 13 1 [0] (dI d b a c e (aU a.length (aE a) 0 0) 0))<|.W 13 1 [0] (dI d b a c e false 0))<|.W 24 1 [0] (dI d b a c e false 0))<|.b 5 13 (d==5) (.b 5 19 ((c.length:Int) ==0) (.b 11 61 (b==0) (.W 13 1 [0] (dI d b a c e (aU a.length (aE a) 0 0) 0))<|.W 13 1 [0] (dI d b a c e false 0))<|.W 24 1 [0] (dI d b a c e false 0))<|.b 6 24 (d==3) (.b 5 28 ((c.length:Int) ==0) (dG 2 65 [(nI b),(nI (-1000000000)),(nI 1000000000)]<|fun f=>.b 8 61 f (.W 13 1 [0] (dI d b a c e (aU a.length (aE a) 0 0) 0))<|.W 13 1 [0] (dI d b a c e false 0))<|.W 24 1 [0] (dI d b a c e false 0))<|.b 6 33 (d==4) (.b 5 37 ((c.length:Int) ==0) (dG 2 65 [(nI b),(nI 0),(nI 1)]<|fun f=>.b 8 61 f (.W 13 1 [0] (dI d b a c e (aU a.length (aE a) 0 0) 0))<|.W 13 1 [0] (dI d b a c e false 0))<|.W 24 1 [0] (dI d b a c e false 0))<|.b 6 42 (d==6) (gl 5 Con.av e<|gw 1 48 ((e.length:Int) -1)<|dG 0 65 [(nI b),(nI 0),(nI ((e.length:Int) -1))]<|fun f=>.b 1 50 f (gX Con.av 4 e b<|fun g=>.b 11 61 ((c.length:Int) ==g.args) (.W 13 1 [0] (dI d b a c e (aU a.length (aE a) 0 0) 0))<|.W 13 1 [0] (dI d b a c e false 0))<|.W 29 1 [0] (dI d b a c e false 0))<|.W 20 1 [0] (dI d b a c e false 0)
def aOd:=fun a b c d e f g i=>sB a b c d e|>.t f|>.t g|>.t i tv
def aOe:=fun a b c d e f g i=>sB a b c d e|>.t f|>.t g|>.f i tv
def aOf:=fun a b c d e f g=>sB a b c d e|>.t f|>.f g tv
def aOg:=fun a b c d e f g i j=>sB a b c d e|>.f f|>.t g|>.t i|>.t j tv
def aOh:=fun a b c d e f g i j=>sB a b c d e|>.f f|>.t g|>.t i|>.f j tv
def aOi:=fun a b c d e f g i=>sB a b c d e|>.f f|>.t g|>.f i tv
def aOj:=fun a b c d e f g i j k=>sB a b c d e|>.f f|>.f g|>.t i|>.t j|>.t k tv
def aOk:=fun a b c d e f g i j k=>sB a b c d e|>.f f|>.f g|>.t i|>.t j|>.f k tv
def aOl:=fun a b c d e f g i j=>sB a b c d e|>.f f|>.f g|>.t i|>.f j tv
def aOm:=fun a b c d e f g i j k l m n=>sB a b c d e|>.f g|>.f i|>.f j|>.t k|>.t l f m|>.t n tv
def aMj:=fun a b c d e f g i j k l m n=>sB a b c d e|>.f g|>.f i|>.f j|>.t k|>.t l f m|>.f n tv
def aMk:=fun a b c d e f g i j k=>sB a b c d e|>.f f|>.f g|>.f i|>.t j|>.f k tv
def aMl:=fun a b c d e f g i j k l m n o=>sB a b c d e|>.f g|>.f i|>.f j|>.f k|>.t l|>.t m f n|>.t o tv
def aMm:=fun a b c d e f g i j k l m n o=>sB a b c d e|>.f g|>.f i|>.f j|>.f k|>.t l|>.t m f n|>.f o tv
def aMn:=fun a b c d e f g i j k l=>sB a b c d e|>.f f|>.f g|>.f i|>.f j|>.t k|>.f l tv
def aMo:=fun a b c d e f g i j k l m n o p q r s t=>sB a b c d e|>.f i|>.f j|>.f k|>.f l|>.f m|>.t n o f p|>.t q g r s|>.t t tv
def aMp:=fun a b c d e f g i j k l m n o p q r s t=>sB a b c d e|>.f i|>.f j|>.f k|>.f l|>.f m|>.t n o f p|>.t q g r s|>.f t tv
def aMq:=fun a b c d e f g i j k l m n o p=>sB a b c d e|>.f g|>.f i|>.f j|>.f k|>.f l|>.t m n f o|>.f p tv
def aMr:=fun a b c d e f g i j k l=>sB a b c d e|>.f f|>.f g|>.f i|>.f j|>.f k|>.f l tv
def bDM(e f:Int)(g:aC)(b:List Pat)(d:List Con)(c:Bool)(a:Int):=tT 0 (dI e f g b d c a)<|gd 7 69 (a< (b.length:Int)) (.b 3 71 c (mU 8 b a<|fun i j k l=>dG 2 126 [(.agg [(nI i),(nI j),(aA k),(iP l)]),(iC d)]<|fun m=>gw 6 73 (a+1)<|.W 3 1 [0] (dI e f g b d m (a+1)))<|gE 8 1 (bV c))<|gE 11 1 (bV c)
def aOn:=fun a b c d e f g i j k l m n o p q r s=>bDM a b c d e f g|>.t n|>.t o i j k l p q m r s tv
def aOo:=fun a b c d e f g i j=>bDM a b c d e f g|>.t i|>.f j tv
def aOp:=fun a b c d e f g i=>bDM a b c d e f g|>.f i tv
end
end Go.Hb
namespace Go.Hb
open Go.Proofs
theorem Ends.eqv {P:Program}{m:Nat}{s:AS}{v v':AV}{h':Hp}(h:Ends P m s (.ret v) h')(e:v=v') :Ends P m s (.ret v') h':=e ▸ h
theorem inB_iff {n lo hi:Int}:bR n lo hi=true↔lo≤n∧n≤hi:=by simp [bR]
theorem aB3 {n lo hi:Int}:bR n lo hi=false↔¬ (lo≤n∧n≤hi) :=by simp [bR]
theorem sdI {p:Prop}(h:p:=by first|assumption|rfl| (simp only [Int.toNat_natCast];assumption) | (simp only [decide_eq_true_eq,decide_eq_false_iff_not];omega) |omega| (apply wrap64<;>omega) | (simp_all;done) | (simp only [inB_iff,aB3,beq_iff_eq,decide_eq_true_eq,decide_eq_false_iff_not]at *;omega)) :p:=h
theorem idT {p:Prop}(h:p:=by exact⟨_,List.getElem?_eq_getElem (by simp only [inB_iff,aB3,beq_iff_eq,decide_eq_true_eq,decide_eq_false_iff_not]at *;omega)⟩) :p:=h
def aOq (op pats args:Int) :Int:=
 if op=1∨op=2∨op=3∨op=4∨op=21∨op=25∨op=28 then 0
 else if op=5∨op=27∨op=16∨op=17∨op=19∨op=20∨op=23∨op=26∨op=24 then 1
 else if op=6∨op=7∨op=9∨op=10∨op=11∨op=12∨op=13∨op=18∨op=22 then 2
 else if op=8 then 3 else if op=15 then 1+pats else if op=14 then args else -1
def fR (cons:List Con)(n:Int) :Int:=match cons[n.toNat]? with
 |some c=>c.args
 |none=> -1
def cZ (cons:List Con)(f n:Int)(s:aC)(k:Nat) :Bool:=
 (if f=1∨f=2∨f=5 then decide (k=0) &&decide (n=0)
 else if f=3 then decide (k=0) &&bR n (-1000000000) 1000000000
 else if f=4 then decide (k=0) &&bR n 0 1
 else if f=6 then bR n 0 ((cons.length:Int) -1) &&decide ((k:Int) =fR cons n)
 else false) &&decide (s= [])
mutual
def dB (cons:List Con) :Pat→Bool
 | .mk f n s ps=>cZ cons f n s ps.length&&bS cons ps
def bS (cons:List Con) :List Pat→Bool
 | [] =>true
 |p::ps=>dB cons p&&bS cons ps
end
theorem ptT {p:Prop}(h:p:=by simp_all [cZ,fR,aD]) :p:=h
theorem bDN (q_form q_n:Int)(q_text:aC)(q_parts:List Pat)(cons:List Con)(hc:cons.length≤1000)(b:Bool)(hk:∀i:Bool,i=cZ cons q_form q_n q_text q_parts.length→Ends PP 0 (dI q_form q_n q_text q_parts cons i 0).as (.ret (.bool b)) (aG [] 0)) :
  Ends PP 0 (start PP 126 [Pat.av (.mk q_form q_n q_text q_parts),.ilst 2 (List.map Con.av cons) false]).as (.ret (.bool b)) (aG [] 0) :=by
 cases hb1: (q_form== (1:Int))with
 | true=>
  cases hb2: (((List.length q_parts:Nat) :Int) == (0:Int))with
  | true=>
   cases hb3: (q_n== (0:Int))with
   | true=>
    exact LeadsM.ends (aOd q_form q_n q_text q_parts cons   hb1 hb2 hb3) (hk _ (by clear hk;exact ptT))
   | false=>
    exact LeadsM.ends (aOe q_form q_n q_text q_parts cons   hb1 hb2 hb3) (hk _ (by clear hk;exact ptT))
  | false=>
   exact LeadsM.ends (aOf q_form q_n q_text q_parts cons   hb1 hb2) (hk _ (by clear hk;exact ptT))
 | false =>
  cases hb4: (q_form== (2:Int))with
  | true=>
   cases hb5: (((List.length q_parts:Nat) :Int) == (0:Int))with
   | true=>
    cases hb6: (q_n== (0:Int))with
    | true=>
     exact LeadsM.ends (aOg q_form q_n q_text q_parts cons   hb1 hb4 hb5 hb6) (hk _ (by clear hk;exact ptT))
    | false=>
     exact LeadsM.ends (aOh q_form q_n q_text q_parts cons   hb1 hb4 hb5 hb6) (hk _ (by clear hk;exact ptT))
   | false=>
    exact LeadsM.ends (aOi q_form q_n q_text q_parts cons   hb1 hb4 hb5) (hk _ (by clear hk;exact ptT))
  | false =>
   cases hb7: (q_form== (5:Int))with
   | true=>
    cases hb8: (((List.length q_parts:Nat) :Int) == (0:Int))with
    | true=>
     cases hb9: (q_n== (0:Int))with
     | true=>
      exact LeadsM.ends (aOj q_form q_n q_text q_parts cons   hb1 hb4 hb7 hb8 hb9) (hk _ (by clear hk;exact ptT))
     | false=>
      exact LeadsM.ends (aOk q_form q_n q_text q_parts cons   hb1 hb4 hb7 hb8 hb9) (hk _ (by clear hk;exact ptT))
    | false=>
     exact LeadsM.ends (aOl q_form q_n q_text q_parts cons   hb1 hb4 hb7 hb8) (hk _ (by clear hk;exact ptT))
   | false=>
    cases hb10: (q_form== (3:Int))with
    | true=>
     cases hb11: (((List.length q_parts:Nat) :Int) == (0:Int))with
     | true=>
      cases hb12: (bR q_n (-1000000000) 1000000000)with
      | true=>
       exact LeadsM.ends (aOm q_form q_n q_text q_parts cons  (bR q_n (-1000000000) 1000000000) hb1 hb4 hb7 hb10 hb11 (oI q_n (-1000000000) 1000000000) hb12) (hk _ (by clear hk;exact ptT))
      | false=>
       exact LeadsM.ends (aMj q_form q_n q_text q_parts cons  (bR q_n (-1000000000) 1000000000) hb1 hb4 hb7 hb10 hb11 (oI q_n (-1000000000) 1000000000) hb12) (hk _ (by clear hk;exact ptT))
     | false=>
      exact LeadsM.ends (aMk q_form q_n q_text q_parts cons   hb1 hb4 hb7 hb10 hb11) (hk _ (by clear hk;exact ptT))
    | false=>
     cases hb13: (q_form== (4:Int))with
     | true=>
      cases hb14: (((List.length q_parts:Nat) :Int) == (0:Int))with
      | true=>
       cases hb15: (bR q_n 0 1)with
       | true=>
        exact LeadsM.ends (aMl q_form q_n q_text q_parts cons  (bR q_n 0 1) hb1 hb4 hb7 hb10 hb13 hb14 (oI q_n 0 1) hb15) (hk _ (by clear hk;exact ptT))
       | false=>
        exact LeadsM.ends (aMm q_form q_n q_text q_parts cons  (bR q_n 0 1) hb1 hb4 hb7 hb10 hb13 hb14 (oI q_n 0 1) hb15) (hk _ (by clear hk;exact ptT))
      | false=>
       exact LeadsM.ends (aMn q_form q_n q_text q_parts cons   hb1 hb4 hb7 hb10 hb13 hb14) (hk _ (by clear hk;exact ptT))
     | false=>
      cases hb16: (q_form== (6:Int))with
      | true=>
       cases hb17: (bR q_n 0 (((List.length cons:Nat) :Int) - (1:Int)))with
       | true=>
        obtain⟨y1,hx18⟩ :∃y,((cons)[q_n.toNat]?) =some y:=idT;cases hb19: (((List.length q_parts:Nat) :Int) ==y1.args)with
        | true=>
         exact LeadsM.ends (aMo q_form q_n q_text q_parts cons  (bR q_n 0 (((List.length cons:Nat) :Int) - (1:Int))) y1 hb1 hb4 hb7 hb10 hb13 hb16 sdI (oI q_n 0 (((List.length cons:Nat) :Int) - (1:Int))) hb17 sdI hx18 hb19) (hk _ (by clear hk;exact ptT))
        | false=>
         exact LeadsM.ends (aMp q_form q_n q_text q_parts cons  (bR q_n 0 (((List.length cons:Nat) :Int) - (1:Int))) y1 hb1 hb4 hb7 hb10 hb13 hb16 sdI (oI q_n 0 (((List.length cons:Nat) :Int) - (1:Int))) hb17 sdI hx18 hb19) (hk _ (by clear hk;exact ptT))
       | false=>
        exact LeadsM.ends (aMq q_form q_n q_text q_parts cons  (bR q_n 0 (((List.length cons:Nat) :Int) - (1:Int))) hb1 hb4 hb7 hb10 hb13 hb16 sdI (oI q_n 0 (((List.length cons:Nat) :Int) - (1:Int))) hb17) (hk _ (by clear hk;exact ptT))
      | false=>
       exact LeadsM.ends (aMr q_form q_n q_text q_parts cons   hb1 hb4 hb7 hb10 hb13 hb16) (hk _ (by clear hk;exact ptT))
theorem aEw (f n:Int)(s:aC)(ps:List Pat)(cons:List Con)(hl:ps.length<1000000)(ih:∀p∈ps,Pure PP 126 [Pat.av p,.ilst 2 (List.map Con.av cons) false] (.bool (dB cons p))) :
  ∀ (t:List Pat) (i:Nat) (b:Bool),ps.drop i=t→Ends PP 0 (dI f n s ps cons b (i:Int)).as (.ret (.bool (b&&bS cons t))) (aG [] 0)
 | [],i,b,h=>by
  have:=bA h;exact Ends.eqv (aOp f n s ps cons b i sd) (by simp [bS])
 | .mk f' n' s' ps'::t,i,b,h=>by
  obtain⟨g1,g2,g3⟩ :=aZ h;cases b with
  |false=>exact Ends.eqv (aOo f n s ps cons false i sd rfl) (by simp)
  | true=>
   refine(aOn f n s ps cons true i f' n' s' ps' _ sd rfl sd sd (ih (.mk f' n' s' ps') (List.mem_of_getElem? g1)) sd).ends ?_;exact Ends.eqv (aEw f n s ps cons hl ih t (i+1) _ g2) (by simp [bS])
mutual
theorem aMs (cons:List Con)(hc:cons.length≤1000) :∀ (p:Pat),aQ p<1000000→Pure PP 126 [Pat.av p,.ilst 2 (List.map Con.av cons) false] (.bool (dB cons p))
 | .mk f n s ps,h=>by
  refine aV (by kernel_rfl) (by simp [AV.keylessL,eE,AV.keyless]) rfl ?_;simp only [aQ]at h;have:=bK ps;refine bDN f n s ps cons hc _ (fun i hi=>?_);subst hi;rw [dB];exact aEw f n s ps cons (by omega) (aHv cons hc ps (by omega)) ps 0 _ rfl
theorem aHv (cons:List Con)(hc:cons.length≤1000) :∀ (ps:List Pat),aM ps<1000000→∀p∈ps,Pure PP 126 [Pat.av p,.ilst 2 (List.map Con.av cons) false] (.bool (dB cons p))
 | [],_,p,hp=>by cases hp
 | q::ps,h,p,hp=>by
  simp only [aM]at h;rcases List.mem_cons.1 hp with e|hp
  ·rw [e];exact aMs cons hc q (by omega)
  ·exact aHv cons hc ps (by omega) p hp
end
end Go.Hb
namespace Go.Hb
open Go.Proofs
noncomputable section
open Go.Proofs Tryz
end
end Go.Hb
namespace Go.Hb
open Go.Proofs
def aKJ (c:Con) :Bool:=cG c.name&&bR c.args 0 3
def aMt (l:List Con) :List aC:=l.map Con.name
def aJx (l:List Con) :Bool:=l.all aKJ&&decide (l.length≤20) &&eK (aMt l)
def aAV (p:Prog)(op n:Int) :Bool:=
 if op=1 then bR n (-1000000000) 1000000000
 else if op=2 then bR n 0 1
 else if op=4 then bR n (0- (p.funs.length:Int)) 29
 else if op=24 then bR n 0 3
 else if op=14 then bR n 0 ((p.cons.length:Int) -1)
 else decide (n=0)
def aHw (p:Prog)(x:Node) :Bool:=
 aAV p x.op x.n&& (if x.op=15 then bR (x.pats.length:Int) 1 5 else decide (x.pats.length=0))
def aOr (p:Prog)(x:Node) :Int:=if x.op=14∧bR x.n 0 ((p.cons.length:Int) -1) =true then fR p.cons x.n else 0
def aFL (cons:List Con)(q:Pat) :Bool:=decide (aQ q≤12) &&dB cons q
def sC (p:Prog)(x:Node) :Bool:=
 aHw p x&&x.pats.all (aFL p.cons) &&decide ((x.kids.length:Int) =aOq x.op x.pats.length (aOr p x))
theorem gW {α:Type}(l:List α) : ((l.length:Int) ==0) =decide (l= []) :=by cases l<;>simp;omega
set_option maxHeartbeats 2000000
def marks (lo n:Int) :List Int→List Bool→Option (List Bool)
 | [],u=>some u
 |k::ks,u=>if bR k lo (n-1) =true∧u[k.toNat]?=some false then marks lo n ks (u.set k.toNat true)else none
theorem aAW {lo n:Int}:∀ {ks:List Int} {u v:List Bool},marks lo n ks u=some v→v.length=u.length
 | [],u,v,h=>by simp only [marks,Option.some.injEq]at h;rw [h]
 | k::ks,u,v,h=>by
  simp only [marks]at h;split at h
  ·have:=aAW h;simpa using this
  ·cases h
def iZ (p:Prog) :Nat→List Node→List Bool→Option (List Bool)
 |_,[],u=>some u
 | i,x::t,u=>if sC p x=true then match marks ((i:Int) +1) (p.nodes.length:Int) x.kids u with
   |some v=>iZ p (i+1) t v
   |none=>none
  else none
def allT :Option (List Bool) →Bool
 |some u=>u.all fun b=>b
 |none=>false
def aHx (p:Prog) :Bool:=decide (p.nodes.length≤300) &&bR (p.funs.length:Int) 1 (p.nodes.length:Int) &&bR p.main 0 ((p.funs.length:Int) -1)
def iT (p:Prog) :Bool:=
 aHx p&&aJx p.cons&& (match marks 0 (p.nodes.length:Int) p.funs (List.replicate p.nodes.length false)with
  |some u=>allT (iZ p 0 p.nodes u)
  |none=>false)
end Go.Hb
namespace Go.Hb
open Go.Proofs
noncomputable section
open Go.Proofs Tryz
def vR(a:aC)(b:Nat):TS:=⟨(tf 175 16 [(2,(bV false)),kp 6 0] [kc f175 52,kl f175 52,.inBlock 0,kc f175 7]),[],[(0,(.siter a.length (aE a) b),false)],1⟩
def aAb(e f:Int)(g:aC)(a:List Pat)(b c d:Int):TS:=⟨(tf 208 27 [(1,(nI b)),(4,(nI 0)),(5,(nI c)),(9,(iP a)),(10,(nI (a.length:Int))),(11,(nI d))] [kc f208 116,kl f208 116,.inBlock 0,kc f208 15]),[],[],0⟩
def bE6(a b c:Int):=tT 0 (start PP 77 [(nI a),(nI b),(nI c)])<|gd 10 10 (a≥b) (gE 7 0 (bV (decide (a≤c))))<|gE 7 0 (bV false)
def aUg:=fun a b c d=>bE6 a b c|>.t d tv
def aUh:=fun a b c d=>bE6 a b c|>.f d tv
def aOs (b:Int):=fun a c=>(tT 0 (start PP 252 [(nI b)])<|dG 7 77 [(nI b),(nI (-1000000000)),(nI 1000000000)]<|fun a=>gE 3 0 (bV a)) a c tv
def aJy (a:aC):=(tT 0 (start PP 175 [(aA a)])<|.W 12 1 [0] (vR a 0)) tv
def aUi(a:aC)(b:Nat):=tT 0 (vR a b)<|.o (.y fun c:Nat=>.y fun d:Nat=>.i [rn 2,.nxt c d] [hA (b<a.length),hA (aIR a.length (aE a) b=some (c,d))]<|gd 16 12 ((c:Int) <97) (gE 10 1 (bV false))<|gd 4 15 ((c:Int) >122) (gE 6 1 (bV false))<|.W 4 1 [0] (vR a (Nat.add b d)))<|.i [rn 2,.nxtE] [hA (a.length≤b)]<|gE 10 1 (bV true)
def aJz:=fun a b c d e f g=>aUi a b|>.1 c d e f|>.t g tv
def aJA:=fun a b c d e f g i=>aUi a b|>.1 c d e f|>.f g|>.t i tv
def aJB:=fun a b c d e f g i=>aUi a b|>.1 c d e f|>.f g|>.f i tv
def aJC:=fun a b c=>aUi a b|>.2 c tv
def aOt(a:aC):=tT 0 (start PP 179 [(aA a)])<|.b 9 5 (!(aU a.length (aE a) 0 0)) (gd 5 10 ((a.length:Int) ≤8) (.y fun b:UInt8=>.i [rn 1,.ans (.ev (.int .u8 ((b.toNat:Nat) :Int)))] [.q (p:=0≤ (0:Int)) (by decide),.a ((a)[0]?=some b) (p':=(0:Int) < (a.length:Int)) (fun h=>(aAS (k:= (0:Int)) (by decide) h)),.a ((a)[0]?=some b) (p':=AV.int .u8 ((Nat.mod (Nat.div (aE a) (Nat.pow 256 (0:Int).toNat)) 256:Nat) :Int) = (.int .u8 ((b.toNat:Nat) :Int))) (fun h=>(aAT (k:= (0:Int)) h))]<|gd 3 15 (((b.toNat:Nat) :Int) ≥65) (.i [rn 1,.ans (.ev (.int .u8 ((b.toNat:Nat) :Int)))] [.q (p:=0≤ (0:Int)) (by decide),.a ((a)[0]?=some b) (p':=(0:Int) < (a.length:Int)) (fun h=>(aAS (k:= (0:Int)) (by decide) h)),.a ((a)[0]?=some b) (p':=AV.int .u8 ((Nat.mod (Nat.div (aE a) (Nat.pow 256 (0:Int).toNat)) 256:Nat) :Int) = (.int .u8 ((b.toNat:Nat) :Int))) (fun h=>(aAT (k:= (0:Int)) h))]<|gd 3 20 (((b.toNat:Nat) :Int) ≤90) (.i [rn 1,.ans (.ev (aA (List.drop 1 a)))] [.a (1≤List.length a) (p':=aMb PP 9 (aA a) (some (nI 1)) none (aA (List.drop 1 a))) (fun h=>(aBo (k:= (1:Int)) (by kernel_rfl) (by decide) h))]<|dG 0 175 [(aA (List.drop 1 a))]<|fun c=>gE 4 0 (bV c))<|gE 7 0 (bV false))<|gE 12 0 (bV false))<|gE 17 0 (bV false))<|gE 22 0 (bV false)
def aJD:=fun b c d e f a g i j k=>aOt b|>.t e|>.t f c a a|>.t g a a|>.t i j d k tv
def aJE:=fun b c d e a f g=>aOt b|>.t d|>.t e c a a|>.t f a a|>.f g tv
def aJF:=fun b c d e a f=>aOt b|>.t d|>.t e c a a|>.f f tv
def aJG:=fun a b c=>aOt a|>.t b|>.f c tv
def aJH:=fun a b=>aOt a|>.f b tv
def aMu (b c:Int)(d:aC)(a:List Pat)(e:Int):=(tT 0 (start PP 208 [(.agg [(nI b),(nI c),(aA d),(iP a)]),(nI e)])<|gm 14 aH a<|.W 4 1 [] (aAb b c d a e 1 0)) tv
def bDO(e f:Int)(g:aC)(d:List Pat)(b a c:Int):=tT 0 (aAb e f g d b a c)<|gd 5 12 (c< (d.length:Int)) (mU 6 d c<|fun j k l m=>gd 11 17 (a>b) (gE 8 1 (nI a))<|gw 8 22 (b-a)<|gpI 0 208 [(.agg [(nI j),(nI k),(aA l),(iP m)]),(nI (b-a))]<|fun i=>gw 1 24 (a+i)<|gw 5 25 (c+1)<|.W 3 1 [] (aAb e f g d b (a+i) (c+1)))<|gE 8 0 (nI a)
def aMv:=fun a b c d e f g i j k l m n o p=>bDO a b c d e f g|>.t m i j k l n o|>.t p tv
def aMw:=fun a b c d e f g i j k l m n o p q r s t u=>bDO a b c d e f g|>.t n i j k l o p|>.f q r m s t u tv
def aMx:=fun a b c d e f g i=>bDO a b c d e f g|>.f i tv
def xU(d:Prog)(e c:Int)(f:aC)(a:List Pat):=tT 0 (start PP 209 [(Prog.av d),(.agg [(nI e),(nI c),(aA f),(iP a)])])<|.b 13 8 (!(aU f.length (aE f) 0 0)) (gE 14 2 (bV false))<|dG 4 211 [(iP a),(.func 209 [(Prog.av d)] [])]<|fun i=>.b 3 15 (!i) (gE 6 2 (bV false))<|.b 15 18 (e==1) (.b 9 25 (c==0) (gm 2 aH a<|gE 5 2 (bV ((a.length:Int) ==0)))<|gE 8 2 (bV false))<|.b 6 18 (e==2) (.b 9 25 (c==0) (gm 2 aH a<|gE 5 2 (bV ((a.length:Int) ==0)))<|gE 8 2 (bV false))<|.b 5 18 (e==5) (.b 7 25 (c==0) (gm 2 aH a<|gE 5 2 (bV ((a.length:Int) ==0)))<|gE 8 2 (bV false))<|.b 6 31 (e==3) (dG 5 252 [(nI c)]<|fun b=>.b 1 36 b (gm 2 aH a<|gE 5 2 (bV ((a.length:Int) ==0)))<|gE 8 2 (bV false))<|.b 6 42 (e==4) (dG 5 77 [(nI c),(nI 0),(nI 1)]<|fun b=>.b 1 47 b (gm 2 aH a<|gE 5 2 (bV ((a.length:Int) ==0)))<|gE 8 2 (bV false))<|.b 6 53 (e==6) (.o (.y fun b:Bool=>.y fun g:Con=>.i [rn 2,.reg (rd 5 (.ans (.len (d.cons.length:Int))::.d::.pure (bV b)::.d::.b 63 true::.d::.d::.ans (.len (a.length:Int))::rd 5 (.ans (.idx (Con.av g))::rd 5 [])))] [hl Con.av d.cons,hA (Pure PP 77 [(nI c),(nI 0),(nI (IntKind.i64.wrap ((d.cons.length:Int) -1)))] (bV b)),hA (b=true),hm aH a,hA (0≤c),.a (((d.cons)[c.toNat]?) =some g) (gP (f:=Con.av))]<|gE 1 2 (bV ((a.length:Int) ==g.args)))<|.y fun b:Bool=>.i [rn 2,.reg (rd 5 (.ans (.len (d.cons.length:Int))::.d::.pure (bV b)::.d::.b 63 false::rd 14 []))] [hl Con.av d.cons,hA (Pure PP 77 [(nI c),(nI 0),(nI (IntKind.i64.wrap ((d.cons.length:Int) -1)))] (bV b)),hA (b=false)]<|gE 1 2 (bV false))<|gE 8 2 (bV false)
def aOu:=fun a b c d e f=>xU a b c d e|>.t f tv
def aOv:=fun a b c d e f g i j=>xU a b c d e|>.f g f i|>.t j tv
def aOw:=fun a b c d e f g i j k l=>xU a b c d e|>.f g f i|>.f j|>.t k|>.t l tv
def aOx:=fun a b c d e f g i j k l=>xU a b c d e|>.f g f i|>.f j|>.t k|>.f l tv
def aOy:=fun a b c d e f g i j k l m=>xU a b c d e|>.f g f i|>.f j|>.f k|>.t l|>.t m tv
def aOz:=fun a b c d e f g i j k l m=>xU a b c d e|>.f g f i|>.f j|>.f k|>.t l|>.f m tv
def aOA:=fun a b c d e f g i j k l m n=>xU a b c d e|>.f g f i|>.f j|>.f k|>.f l|>.t m|>.t n tv
def aOB:=fun a b c d e f g i j k l m n=>xU a b c d e|>.f g f i|>.f j|>.f k|>.f l|>.t m|>.f n tv
def aOC:=fun a b c d e f g i j k l m n o p q=>xU a b c d e|>.f i f j|>.f k|>.f l|>.f m|>.f n|>.t o g p|>.t q tv
def aOD:=fun a b c d e f g i j k l m n o p q=>xU a b c d e|>.f i f j|>.f k|>.f l|>.f m|>.f n|>.t o g p|>.f q tv
def aMy:=fun a b c d e f g i j k l m n o p q r=>xU a b c d e|>.f i f j|>.f k|>.f l|>.f m|>.f n|>.f o|>.t p g q|>.t r tv
def aMz:=fun a b c d e f g i j k l m n o p q r=>xU a b c d e|>.f i f j|>.f k|>.f l|>.f m|>.f n|>.f o|>.t p g q|>.f r tv
def aMA:=fun a b c d e f g i j k l m n o p q r s t u v=>xU a b c d e|>.f j f k|>.f l|>.f m|>.f n|>.f o|>.f p|>.f q|>.t r|>.1 g i s t u v tv
def aMB:=fun a b c d e f g i j k l m n o p q r s=>xU a b c d e|>.f i f j|>.f k|>.f l|>.f m|>.f n|>.f o|>.f p|>.t q|>.2 g r s tv
def aMC:=fun a b c d e f g i j k l m n o p=>xU a b c d e|>.f g f i|>.f j|>.f k|>.f l|>.f m|>.f n|>.f o|>.f p tv
end
end Go.Hb
namespace Go.Hb
open Go.Proofs
noncomputable section
open Go.Proofs Tryz
def aB4(a:List Pat)(b:Prog)(c:Int):TS:=⟨(tf 279 19 [(0,(iP a)),(1,(.func 254 [] [(.ptr 0 0)])),(4,(nI 0)),(7,(nI (a.length:Int))),(8,(nI c))] [kc f279 52,kl f279 52,.inBlock 0,kc f279 7]),[(tf 253 9 [(4,(bV false)),(5,(iP a)),(6,(.func 254 [] [(.ptr 0 0)]))] [ko f253 6 2,kc f253 7]),(tf 211 9 [(4,(bV false)),(5,(iP a)),(6,(.func 254 [] [(.ptr 0 0)]))] [ko f211 6 2,kc f211 7])],[oC 0 [(.func 209 [(Prog.av b)] [])]],1⟩
def aOE (a:List Pat)(b:Prog):=(tT 0 (start PP 211 [(iP a),(.func 209 [(Prog.av b)] [])])<|gm 27 aH a<|.W 4 1 [0] (aB4 a b 0)) tv
def bDP(b:List Pat)(c:Prog)(a:Int):=tT 0 (aB4 b c a)<|gd 5 9 (a< (b.length:Int)) (mU 14 b a<|fun d e f g=>dG 11 209 [(Prog.av c),(.agg [(nI d),(nI e),(aA f),(iP g)])]<|fun i=>.b 6 16 (!i) (gE 17 2 (bV (!(decide (a≥0)))))<|gw 5 18 (a+1)<|.W 3 2 [0] (aB4 b c (a+1)))<|gE 17 1 (bV true)
def aOF:=fun a b c d e f g i j k l m n=>bDP a b c|>.t j d e f g k l i m|>.t n tv
def aOG:=fun a b c d e f g i j k l m n o=>bDP a b c|>.t j d e f g k l i m|>.f n o tv
def aOH:=fun a b c d=>bDP a b c|>.f d tv
end
end Go.Hb
namespace Go.Hb
open Go.Proofs
noncomputable section
open Go.Proofs Tryz
end
end Go.Hb
namespace Go.Hb
open Go.Proofs
theorem uT (n lo hi:Int) :Pure PP 77 [.int .i64 n,.int .i64 lo,.int .i64 hi] (.bool (bR n lo hi)) :=by
 refine aV (by kernel_rfl) rfl rfl ?_;by_cases h:n≥lo
 · have e:bR n lo hi=decide (n≤hi) :=by unfold bR;rw [decide_eq_true (show lo≤n from h),Bool.true_and]
   rw [e];exact aUg n lo hi (decide_eq_true h)
 · have e:bR n lo hi=false:=by unfold bR;rw [decide_eq_false (show ¬lo≤n from h),Bool.false_and]
   rw [e];exact aUh n lo hi (decide_eq_false h)
theorem aEx (n:Int) :Pure PP 252 [.int .i64 n] (.bool (bR n (-1000000000) 1000000000)) :=
 aV (by kernel_rfl) rfl rfl (aOs n _ (uT n _ _))
theorem aMD (b:ByteArray)(i:Nat)(h:128≤ (b.get! i).toNat) :128≤ (Utf8.decode b i).1:=by
 unfold Utf8.decode Utf8.runeError;simp only [Nat.add_zero];rw [if_neg (show ¬ (b.get! i).toNat<0x80 by omega)]
 repeat' split
 all_goals first
  |assumption
  | (simp_all;done)
  | (rename_i q;simp only [Bool.and_eq_true,decide_eq_true_eq,ge_iff_le]at q;simp only;omega)
theorem aUj {s:aC}{i:Nat}{c:UInt8}(h:s[i]?=some c) :∃r d,aIR (List.length s) (aE s) i=some (r,d) ∧ (c.toNat<128→r=c.toNat∧d=1) ∧ (128≤c.toNat→128≤r) :=by
 have hi:= (List.getElem?_eq_some_iff.1 h).1;have hb:=byte_at h;unfold aIR;have e1:Nat.blt i (List.length s) =true:=by rw [cV];exact decide_eq_true hi
 have e2:Nat.mod (Nat.div (aE s) (Nat.pow 256 i)) 256=c.toNat:=hb;rw [e1,e2];simp only [cond];by_cases k:c.toNat<128
 · have e3:Nat.blt c.toNat 128=true:=by rw [cV];exact decide_eq_true k
   rw [e3];exact⟨_,_,rfl,fun _=> ⟨rfl,rfl⟩,fun g=>by omega⟩
 · have e3:Nat.blt c.toNat 128=false:=by rw [cV];exact decide_eq_false k
   rw [e3];refine⟨_,_,rfl,fun g=>by omega,fun _=>?_⟩;have hn:aW (List.length s) (aE s) =s:=fH s;rw [hn];have hg: ((⟨⟨s⟩⟩ :ByteArray).get! (i+0)).toNat=c.toNat:=by
    simp only [Nat.add_zero,ByteArray.get!];have: (⟨s⟩ :Array UInt8)[i]! =c:=by
     rw [Array.getElem!_eq_getD,Array.getD_eq_getD_getElem?,show(⟨s⟩ :Array UInt8) =s.toArray from rfl,List.getElem?_toArray,h];rfl
    rw [this]
   exact aMD _ _ (by rw [Nat.add_zero]at hg;rw [hg];omega)
theorem aBv (s:aC) :∀ (t:aC) (i:Nat),s.drop i=t→Ends PP 0 (vR s i).as (.ret (.bool (gU t))) (aG [] 0)
 | [],i,h=>aJC s i (bA h)
 | c :: t,i,h=>by
  obtain⟨h1,h2,h3⟩ :=aZ h;obtain⟨r,d,q1,q2,q3⟩ :=aUj h1;by_cases g1:c.toNat<97
  · have:= (q2 (by omega)).1;exact Ends.eqv (aJz s i r d h3 q1 sd) (by simp [gU,rZ];omega)
  · by_cases g2:122<c.toNat
    · have hr:122<r:=by
       by_cases k:c.toNat<128
       ·have:= (q2 k).1;omega
       ·have:=q3 (by omega);omega
      exact Ends.eqv (aJA s i r d h3 q1 sd sd) (by simp [gU,rZ];omega)
    · obtain⟨rfl,rfl⟩ :=q2 (by omega);refine(aJB s i _ _ h3 q1 sd sd).ends ?_;have e:rZ c=true:=by simp [rZ];omega
      exact Ends.eqv (aBv s t (i+1) h2) (by simp [gU,e])
theorem aBw (s:aC) :Pure PP 175 [aA s] (.bool (gU s)) :=
 aV (by kernel_rfl) rfl rfl ((aJy s).ends (aBv s s 0 rfl))
theorem gC (s:aC) :Pure PP 179 [aA s] (.bool (cG s)) :=by
 refine aV (by kernel_rfl) rfl rfl ?_
 match s with
 | [] =>exact aJH [] rfl
 | c ::t=>
  have h0: (!(aU (List.length (c::t)) (aE (c::t)) 0 0)) =true:=by rw [aD];rfl
  by_cases g0: (c::t).length≤8
  · have g0': (decide (((List.length (c::t) :Nat) :Int) ≤ (8:Int))) =true:=sd;by_cases g1:65≤c.toNat
    · by_cases g2:c.toNat≤90
      ·exact Ends.eqv (aJD (c::t) c _ h0 g0' rfl sd sd (by simp) (aBw t)) (by simp only [cG,decide_eq_true g0,decide_eq_true g1,decide_eq_true g2,Bool.true_and])
      ·exact Ends.eqv (aJE (c::t) c h0 g0' rfl sd sd) (by simp only [cG,decide_eq_false g2,Bool.and_false,Bool.false_and])
    ·exact Ends.eqv (aJF (c::t) c h0 g0' rfl sd) (by simp only [cG,decide_eq_false g1,Bool.and_false,Bool.false_and])
  ·exact Ends.eqv (aJG (c::t) h0 sd) (by simp only [cG,decide_eq_false g0,Bool.false_and])
mutual
def sQ :Pat→Int→Int
 | .mk _ _ _ ps,most=>lK ps most 1
def lK :List Pat→Int→Int→Int
 | [],_,n=>n
 |p::ps,most,n=>if n>most then n else lK ps most (n+sQ p (most-n))
end
mutual
theorem aCV :∀ (p:Pat) (m:Int),0≤m→1≤sQ p m∧sQ p m≤m+1
 | .mk _ _ _ ps,m,h=>by rw [sQ];exact aEy ps m 1 (by omega) (by omega)
theorem aEy :∀ (ps:List Pat) (m n:Int),1≤n→n≤m+1→1≤lK ps m n∧lK ps m n≤m+1
 | [],m,n,h1,h2=>by rw [lK];omega
 | p ::ps,m,n,h1,h2=>by
  rw [lK];split
  ·omega
  · have a:=aCV p (m-n) (by omega);exact aEy ps m _ (by omega) (by omega)
end
mutual
theorem aOI :∀ (p:Pat) (m:Int),0≤m→ ((aQ p:Int) ≤m→sQ p m=aQ p) ∧ (m<aQ p→m<sQ p m)
 | .mk _ _ _ ps,m,h=>by
  have:=aEz ps m 1 (by omega);simp only [sQ,aQ];constructor
  ·intro g;have:=this.1 (by omega);omega
  ·intro g;exact this.2 (by omega)
theorem aEz :∀ (ps:List Pat) (m n:Int),n≤m+1→ (n+aM ps≤m→lK ps m n=n+aM ps) ∧ (m<n+aM ps→m<lK ps m n)
 | [],m,n,h=>by simp only [lK,aM];omega
 | p ::ps,m,n,h=>by
  simp only [lK,aM];split
  ·omega
  · rename_i k;have a:=aOI p (m-n) (by omega);have l:=aCV p (m-n) (by omega);have b:=aEz ps m (n+sQ p (m-n)) (by omega);constructor
    · intro g;have:=a.1 (by omega);have:=b.1 (by omega);omega
    · intro g;refine b.2 ?_;by_cases q: (aQ p:Int) ≤m-n
      ·have:=a.1 q;omega
      ·have:=a.2 (by omega);omega
end
theorem aCW (f n:Int)(s:aC)(ps:List Pat)(m:Int)(hm:m≤1000)(ih:∀p∈ps,∀m:Int,0≤m→m≤1000→Pure PP 208 [Pat.av p,.int .i64 m] (.int .i64 (sQ p m))) :
  ∀ (t:List Pat) (i:Nat) (k:Int),ps.drop i=t→ (i:Int) +1≤k→k≤m+1→Ends PP 0 (aAb f n s ps m k (i:Int)).as (.ret (.int .i64 (lK t m k))) (aG [] 0)
 | [],i,k,h,h1,h2=>by
  have:=bA h;rw [lK];exact aMx f n s ps m k i sd
 | .mk f' n' s' ps'::t,i,k,h,h1,h2=>by
  obtain⟨g1,g2,g3⟩ :=aZ h;rw [lK];split
  ·exact aMv f n s ps m k i f' n' s' ps' sd sd sd sd
  · rename_i hk;have l:=aCV (.mk f' n' s' ps') (m-k) (by omega);refine(aMw f n s ps m k i f' n' s' ps' _ sd sd sd sd sd (ih (.mk f' n' s' ps') (List.mem_of_getElem? g1) (m-k) (by omega) (by omega)) sd sd).ends ?_;exact aCW f n s ps m hm ih t (i+1) _ g2 (by omega) (by omega)
mutual
theorem aJI :∀ (p:Pat) (m:Int),0≤m→m≤1000→Pure PP 208 [Pat.av p,.int .i64 m] (.int .i64 (sQ p m))
 | .mk f n s ps,m,h0,h1=>by
  refine aV (by kernel_rfl) (by simp [AV.keylessL,eE,AV.keyless]) rfl ?_;rw [sQ];refine(aMu f n s ps m).ends ?_;exact aCW f n s ps m h1 (aEA ps) ps 0 1 rfl (by omega) (by omega)
theorem aEA :∀ (ps:List Pat),∀p∈ps,∀m:Int,0≤m→m≤1000→Pure PP 208 [Pat.av p,.int .i64 m] (.int .i64 (sQ p m))
 | [],p,hp,_,_,_=>by cases hp
 | q::ps,p,hp,m,h0,h1=>by
  rcases List.mem_cons.1 hp with e|hp
  ·rw [e];exact aJI q m h0 h1
  ·exact aEA ps p hp m h0 h1
end
end Go.Hb
namespace Go.Hb
open Go.Proofs
noncomputable section
open Go.Proofs Tryz
end
end Go.Hb
namespace Go.Hb
open Go.Proofs
noncomputable section
open Go.Proofs Tryz
def aAc(b i:Int)(c:aC)(d:List Pat)(e:List Int)(f g:Int)(a:List Pat):TS:=⟨(tf 194 36 [(1,(iI e)),kp 2 0,kp 4 1,(5,(.gl 2 4 0 a.length false)),(6,(nI g))] [kc f194 244,kl f194 244,.inBlock 0,kc f194 31]),[],[oC 0 [(nI b),(nI f),(aA c),(iP d)],oC 1 [(nI 0),(nI 0),(.str 0 0),.nils],oL 2 4 (Pats.av a)],3⟩
def bE7(b a:Int)(d:aC)(e:List Pat)(c:List Int):=tT 0 (start PP 194 [(.agg [(nI b),(nI a),(aA d),(iP e)]),(iI c)])<|.b 12 9 (b==6) (gX aO 5 c a<|fun f=>.i [rn 15,.nilL 5 4] []<|gu 0 2 (Pats.av ([] :List Pat))<|gs 0 5 (.gl 2 4 0 ([] :List Pat).length false)<|.W 0 3 [0,1,2] (aAc b a d e c f 0 ([] :List Pat)))<|.i [rn 13,.nilL 5 4] []<|gu 0 2 (Pats.av ([] :List Pat))<|gs 0 5 (.gl 2 4 0 ([] :List Pat).length false)<|.W 0 3 [0,1,2] (aAc b a d e c a 0 ([] :List Pat))
def aOJ:=fun a b c d e f g i j=>bE7 a b c d e|>.t g f i j ⟨cC,trivial⟩
def aOK:=fun a b c d e f=>bE7 a b c d e|>.f f ⟨cC,trivial⟩
def bE8(d m:Int)(e:aC)(a:List Pat)(f:List Int)(g b:Int)(c:List Pat):=tT 0 (aAc d m e a f g b c)<|gm 6 aH a<|gd 2 20 (b< (a.length:Int)) (mU 9 a b<|fun n o p q=>.y fun i:Int=>.y fun j:Int=>.y fun k:aC=>.y fun l:List Pat=>gp 2 194 [(.agg [(nI n),(nI o),(aA p),(iP q)]),(iI f)] (.agg [(nI i),(nI j),(aA k),(iP l)])<|gA 1 aH c [(Pat.mk i j k l)]<|gw 6 22 (b+1)<|.W 3 5 [0,1,4] (aAc d m e a f g (b+1) (c++ [(Pat.mk i j k l)])))<|gZ 6 33 2 4 aH cC c false<|gE 8 3 (.agg [(nI d),(nI g),(aA e),(iP c)])
def aOL:=fun a b c d e f g i j k l m n o p q r s t u v w=>bE8 a b c d e f g i|>.t r j k l m s t n o p q u v w ⟨cC,trivial⟩
def aOM:=fun a b c d e f g i j=>bE8 a b c d e f g i|>.f j tv
end
end Go.Hb
