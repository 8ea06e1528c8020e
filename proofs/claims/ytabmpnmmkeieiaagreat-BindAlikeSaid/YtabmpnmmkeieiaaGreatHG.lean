/- A machine on abstract values, its soundness, ways, plain laws. -/
import Derived.Test.YtabmpnmmkeieiaaGreatHF
set_option linter.defProp false
set_option linter.unusedVariables false
set_option linter.unusedSimpArgs false
set_option linter.unusedSectionVars false
set_option maxRecDepth 100000
set_option maxHeartbeats 2000000
namespace Go.Hb
open AV (int keyless keylessL str)
open List (drop length map map_set)
open Nat (add_zero blt div mod pow)
open Go.Proofs Tryz
noncomputable section
section
variable {P :Program}
theorem throws_at {f : Nat} {args : List AV} {ch : List (AV×Bool)}(hb:nA P f=true)(hk:keylessL args=true)(hv:∀x∈ch,keyless x.1=true)(he:Ends P 0 (start P f args).as (.pan ch) (aG [] 0)) :vM P f args ch:=fun h=>by
 unfold nA at hb;split at hb
 · rename_i fn hf;split at hb
   · rename_i c hc;have hg:fC P h (.enter f args) =some ⟨f,hQ .leaf 0 args,max fn.ntmps args.length,[.code c],[],.run,.normal,none⟩ :=by simp [fC,eF,hf,hc]
     refine⟨_,hg,fun hm E fr ccs w fr' fs r cl base=>?_⟩;simp only at fs;rw [fs.nil_inv];have f1:FR E.p (start P f args).as.fr fr:=by
      have e1: (start P f args).as.fr= ⟨f,vQ ((List.range args.length).zip args),max fn.ntmps args.length,[.code c],[],.run,.normal,none⟩ :=by simp [start,hf,hc,TS.as,TF.fr]
      rw [e1];refine⟨fr'.fn,⟨fr'.tm.1,fun t a e=>?_⟩,?_,?_,fr'.mode,fr'.kind,?_⟩
      · have h1:=aDI (yZ e);have hlt:= (List.getElem?_eq_some_iff.1 h1).1;have h2: (hQ .leaf 0 args).at t=some a:=by
         unfold hQ;rw [dS,if_pos hlt];exact h1
        obtain⟨cv,g1,g2⟩ :=fr'.tm.2 t a h2;exact⟨cv,g1,eV (keylessL_mem.1 hk a (List.mem_of_getElem? h1)) g2⟩
      · have:=fr'.todo;simpa [IRs,IR]using this
      · have:=fr'.defers;simpa [DRs]using this
      · have:=fr'.round;simpa [RR]using this
     have e2 : (start P f args).as.cs = [] := by unfold start;split; · split<;>rfl
                                                 ·rfl
     have e3 : (start P f args).as.h = ⟨.leaf, 0⟩ := by unfold start;split; · split<;>rfl
                                                        ·rfl
     obtain⟨cl',w',E',g1,⟨cv,rfl,g2⟩,g3,g4⟩ :=he (Nat.zero_le _) E.p fr [] w f1 (by rw [e2];rfl) (by rw [e3];exact aDH r) cl base;rw [e3]at g4;obtain⟨q1,q2⟩ :=aDJ r g3 g4;exact⟨_,w',_,g1,⟨cv,rfl,CR.of_p (E:= ⟨E.loc,E'.imm⟩) (show CR (Emb.p ⟨E.loc,E'.imm⟩) ch cv from zC (E:=E') hv g2)⟩,q1,q2⟩
   ·cases hb
 ·cases hb
end
inductive Typ where
 |mk (sort n:Int) (text:aB) (parts:List Typ)
mutual
def Typ.av :Typ→AV
 | .mk f n t ps=>.agg [.int .i64 f,.int .i64 n,aA t,.ilst 4 (Typs.av ps) false]
def Typs.av :List Typ→List AV
 | [] =>[]
 |p::ps=>Typ.av p::Typs.av ps
end
theorem dD :∀l,Typs.av l=map Typ.av l
 | [] =>rfl
 |p::ps=>by rw [Typs.av,dD ps];rfl
mutual
theorem vV :∀p,keyless (Typ.av p) =true
 | .mk f n t ps=>by simp [Typ.av,keyless,keylessL,aA]
theorem aPh :∀l,keylessL (Typs.av l) =true
 | [] =>rfl
 |p::ps=>by rw [Typs.av,keylessL,vV p,aPh ps];rfl
end
inductive Term where
 |mk (op n:Int) (text:aB) (kids:List Term) (pats:List Pat)
mutual
def Term.av :Term→AV
 | .mk o n t ks ps=>.agg [.int .i64 o,.int .i64 n,aA t,.ilst 5 (Terms.av ks) false,.ilst 4 (Pats.av ps) false]
def Terms.av :List Term→List AV
 | [] =>[]
 |p::ps=>Term.av p::Terms.av ps
end
theorem aU :∀l,Terms.av l=map Term.av l
 | [] =>rfl
 |p::ps=>by rw [Terms.av,aU ps];rfl
mutual
theorem dF :∀p,keyless (Term.av p) =true
 | .mk o n t ks ps=>by simp [Term.av,keyless,keylessL,aA]
theorem aFH :∀l,keylessL (Terms.av l) =true
 | [] =>rfl
 |p::ps=>by rw [Terms.av,keylessL,dF p,aFH ps];rfl
end
theorem fU {l:List Term}:keylessL (Terms.av l) =true:=aFH l
noncomputable abbrev aIP (n:Nat)(l:List Typ)(i:Int)(a:Int→Int→aB→List Typ→Tr) :Tr:=.y fun p=>.y fun q=>.y fun r=>.y fun s=>giF dD n l i (.mk p q r s) (a p q r s)
noncomputable abbrev aAP (n:Nat)(l:List Term)(i:Int)(a:Int→Int→aB→List Term→List Pat→Tr) :Tr:=.y fun p=>.y fun q=>.y fun r=>.y fun s=>.y fun t=>giF aU n l i (.mk p q r s t) (a p q r s t)
inductive KV where
 |row (l:List Int)
 |nil
 |val (u:Value)
def KV.av :KV→AV
 | .row l=>.ilst 1 (map aP l) false
 | .nil=>.nils
 | .val u=>.val u
structure ONode where
 op:Int
 n:Int
 kv:KV
 pats:List Pat
def ONode.av (x:ONode) :AV:=.agg [.int .i64 x.op,.int .i64 x.n,x.kv.av,.ilst 4 (Pats.av x.pats) false]
def Node.o (x:Node) :ONode:= ⟨x.op,x.n,.row x.kids,x.pats⟩
theorem bGJ :∀k:KV,keyless k.av=true
 | .row l=>by simp only [KV.av,keyless]
 | .nil=>rfl
 | .val u=>rfl
theorem gW (x:ONode) :keyless x.av=true:=by
 simp only [ONode.av,keyless,keylessL,bGJ,aAJ,Bool.and_true]
theorem aG6 {E:Emb}{x y:AV}(hv:∀v,VR E x v→VR E y v) :∀ {xs:List AV} {i:Nat},xs[i]?=some x→∀vs,VRs E xs vs→VRs E (xs.set i y) vs
 | [],i,h,vs,hvs=>by simp at h
 | a::xs,0,h,vs,hvs=>by
  simp only [VRs]at hvs;obtain⟨u,us,rfl,h1,h2⟩ :=hvs;simp at h;subst h;simp only [List.set_cons_zero,VRs];exact⟨u,us,rfl,hv u h1,h2⟩
 | a::xs,i+1,h,vs,hvs=>by
  simp only [VRs]at hvs;obtain⟨u,us,rfl,h1,h2⟩ :=hvs;simp only [List.getElem?_cons_succ]at h;simp only [List.set_cons_succ,VRs];exact⟨u,us,rfl,h1,aG6 hv h us h2⟩
theorem aIQ {E:Emb}{x:ONode}{k:KV}(hk:∀v,VR E x.kv.av v→VR E k.av v) :∀v,VR E x.av v→VR E (ONode.av ⟨x.op,x.n,k,x.pats⟩) v:=fun v h=>by
 simp only [ONode.av,VR,VRs]at h ⊢;obtain⟨us,rfl,u1,r1,rfl,q1,u2,r2,rfl,q2,u3,r3,rfl,q3,q4⟩ :=h;exact⟨_,rfl,_,_,rfl,q1,_,_,rfl,q2,_,_,rfl,hk _ q3,q4⟩
theorem aLi {E:Emb}:∀v,VR E KV.nil.av v→VR E (KV.row []).av v:=fun v h=>by
 simp only [KV.av,VR]at h;simp only [KV.av,VR,List.map_nil];exact⟨[],VRs.nil _,fun _ hu=>by(cases hu),.inl ⟨rfl,none,0,h,fun _=>rfl,fun _=>rfl⟩⟩
theorem bFn {l:List ONode}{i:Nat}{y:ONode}(h:l[i]?=some y)(hk:y.kv= .nil) :VW (map ONode.av l) (map ONode.av (l.set i ⟨y.op,y.n,.row [],y.pats⟩)) :=fun E vs hvs=>by
 have h1: (map ONode.av l)[i]?=some y.av:=by rw [List.getElem?_map,h];rfl
 rw [map_set];exact aG6 (aIQ (by rw [hk];exact aLi)) h1 vs hvs
theorem bFo {l:List ONode}{i:Nat}{y:ONode}{u:Value}{ks:List Int}(h:l[i]?=some y)(hk:y.kv= .val u) :VQ u 1 (map aP ks) (map ONode.av l) (map ONode.av (l.set i ⟨y.op,y.n,.row ks,y.pats⟩)) :=fun E vs hu hvs=>by
 have h1: (map ONode.av l)[i]?=some y.av:=by rw [List.getElem?_map,h];rfl
 rw [map_set];refine aG6 (aIQ (fun v hv=>?_)) h1 vs hvs;rw [hk]at hv;simp only [KV.av,VR]at hv;subst hv;exact hu
theorem aPi {α:Type}{f:α→AV}{l:List α}{i:Nat}{y:α}(h:l[i]?=some y) :map f l≠ [] :=fun e=>by
 cases l with
 |nil=>simp at h
 |cons _ _=>cases e
def kwL :List aB:=[(strOf [98,111,111,108]),(strOf [99,101,108,108]),(strOf [99,104,97,110]),(strOf [101,108,115,101]),(strOf [102,97,108,115,101]),(strOf [102,117,110]),(strOf [103,101,116]),(strOf [105,102]),(strOf [105,110]),(strOf [105,110,112,117,116]),(strOf [105,110,116]),(strOf [106,111,105,110]),(strOf [108,101,116]),(strOf [109,97,116,99,104]),(strOf [109,111,100,117,108,101]),(strOf [111,117,116]),(strOf [112,97,117,115,101]),(strOf [112,117,116]),(strOf [114,101,115,101,116]),(strOf [115,101,110,100]),(strOf [115,104,105,102,116]),(strOf [115,112,97,119,110]),(strOf [116,97,107,101]),(strOf [116,97,115,107]),(strOf [116,104,101,110]),(strOf [116,114,117,101]),(strOf [116,121,112,101]),(strOf [117,110,105,116])]
def bDB:TS:=bQ PP 187 [] [] 0
def aVl:=(tT 0 (bDB)<|.i [rn 10,.toL 0 false [(.str 4 1819242338),(.str 4 1819043171),(.str 4 1851877475),(.str 4 1702063205),(.str 5 435728179558),(.str 3 7239014),(.str 3 7628135),(.str 2 26217),(.str 2 28265),(.str 5 500186508905),(.str 3 7630441),(.str 4 1852403562),(.str 3 7628140),(.str 5 448345170285),(.str 6 111516500389741),(.str 3 7632239),(.str 5 435728769392),(.str 3 7632240),(.str 5 499918267762),(.str 4 1684956531),(.str 5 499934390387),(.str 5 474449277043),(.str 4 1701536116),(.str 4 1802723700),(.str 4 1852139636),(.str 4 1702195828),(.str 4 1701869940),(.str 4 1953066613)]] [hr (some [(str 4 1819242338),(str 4 1819043171),(str 4 1851877475),(str 4 1702063205),(str 5 435728179558),(str 3 7239014),(str 3 7628135),(str 2 26217),(str 2 28265),(str 5 500186508905),(str 3 7630441),(str 4 1852403562),(str 3 7628140),(str 5 448345170285),(str 6 111516500389741),(str 3 7632239),(str 5 435728769392),(str 3 7632240),(str 5 499918267762),(str 4 1684956531),(str 5 499934390387),(str 5 474449277043),(str 4 1701536116),(str 4 1802723700),(str 4 1852139636),(str 4 1702195828),(str 4 1701869940),(str 4 1953066613)]),hr true]<|gu 0 0 (map aA kwL)<|gs 0 0 (.gl 0 1 0 kwL.length true)<|.i [.weak 0] []<|gz 0 0 0 1 aA kwL false<|gE 0 1 (iS kwL)) tv
def aPj (c:aB):=fun a b d e=>(tT 0 (start PP 119 [(aA c)])<|.y fun a:List aB=>gp 6 187 [] (iS a)<|dR 1 51 [(iS a),(aA c)]<|fun b=>gE 3 0 (bV b)) a d b e tv
def aMh(a:aB):=tT 0 (start PP 59 [(aA a)])<|gd 10 6 ((a.length:Int) ≥1) (gd 5 11 ((a.length:Int) ≤8) (dR 1 118 [(aA a)]<|fun b=>.b 2 15 b (dR 1 119 [(aA a)]<|fun c=>gE 5 0 (bV (!c)))<|gE 7 0 (bV false))<|gE 11 0 (bV false))<|gE 16 0 (bV false)
def aVm:=fun a b c d e f g i=>aMh a|>.t d|>.t e b f|>.t g c i tv
def aVn:=fun a b c d e f=>aMh a|>.t c|>.t d b e|>.f f tv
def aVo:=fun a b c=>aMh a|>.t b|>.f c tv
def aVp:=fun a b=>aMh a|>.f b tv
def bDC(a b c:Int):=tT 0 (start PP 60 [(nI a),(nI b),(nI c)])<|gd 10 10 (a≥b) (gE 7 0 (bV (decide (a≤c))))<|gE 7 0 (bV false)
def aPk:=fun a b c d=>bDC a b c|>.t d tv
def aPl:=fun a b c d=>bDC a b c|>.f d tv
def fV(a:aB):=tT 0 (start PP 176 [(aA a)])<|.b 16 4 (bA a.length (aD a) 4 1819242338) (gE 8 0 (bV true))<|.b 6 4 (bA a.length (aD a) 4 1819043171) (gE 8 0 (bV true))<|.b 6 4 (bA a.length (aD a) 4 1851877475) (gE 8 0 (bV true))<|.b 6 4 (bA a.length (aD a) 4 1702063205) (gE 8 0 (bV true))<|.b 6 4 (bA a.length (aD a) 5 435728179558) (gE 8 0 (bV true))<|.b 6 4 (bA a.length (aD a) 3 7239014) (gE 8 0 (bV true))<|.b 6 4 (bA a.length (aD a) 3 7628135) (gE 8 0 (bV true))<|.b 6 4 (bA a.length (aD a) 2 26217) (gE 8 0 (bV true))<|.b 6 4 (bA a.length (aD a) 2 28265) (gE 8 0 (bV true))<|.b 6 4 (bA a.length (aD a) 5 500186508905) (gE 8 0 (bV true))<|.b 6 4 (bA a.length (aD a) 3 7630441) (gE 8 0 (bV true))<|.b 6 4 (bA a.length (aD a) 4 1852403562) (gE 8 0 (bV true))<|.b 6 4 (bA a.length (aD a) 3 7628140) (gE 8 0 (bV true))<|.b 6 4 (bA a.length (aD a) 5 448345170285) (gE 8 0 (bV true))<|.b 6 4 (bA a.length (aD a) 6 111516500389741) (gE 8 0 (bV true))<|.b 6 4 (bA a.length (aD a) 3 7632239) (gE 8 0 (bV true))<|.b 6 4 (bA a.length (aD a) 5 435728769392) (gE 8 0 (bV true))<|.b 6 4 (bA a.length (aD a) 3 7632240) (gE 8 0 (bV true))<|.b 6 4 (bA a.length (aD a) 5 499918267762) (gE 8 0 (bV true))<|.b 6 4 (bA a.length (aD a) 4 1684956531) (gE 8 0 (bV true))<|.b 6 4 (bA a.length (aD a) 5 499934390387) (gE 8 0 (bV true))<|.b 6 4 (bA a.length (aD a) 5 474449277043) (gE 8 0 (bV true))<|.b 6 4 (bA a.length (aD a) 4 1701536116) (gE 8 0 (bV true))<|.b 6 4 (bA a.length (aD a) 4 1802723700) (gE 8 0 (bV true))<|.b 6 4 (bA a.length (aD a) 4 1852139636) (gE 8 0 (bV true))<|.b 6 4 (bA a.length (aD a) 4 1702195828) (gE 8 0 (bV true))<|.b 6 4 (bA a.length (aD a) 4 1701869940) (gE 8 0 (bV true))<|.b 5 4 (bA a.length (aD a) 4 1953066613) (gE 6 0 (bV true))<|gE 8 0 (bV false)
def aVq:=fun a b=>fV a|>.t b tv
def aVr:=fun a b c=>fV a|>.f b|>.t c tv
def aVs:=fun a b c d=>fV a|>.f b|>.f c|>.t d tv
def aVt:=fun a b c d e=>fV a|>.f b|>.f c|>.f d|>.t e tv
def aVu:=fun a b c d e f=>fV a|>.f b|>.f c|>.f d|>.f e|>.t f tv
def aVv:=fun a b c d e f g=>fV a|>.f b|>.f c|>.f d|>.f e|>.f f|>.t g tv
def aVw:=fun a b c d e f g i=>fV a|>.f b|>.f c|>.f d|>.f e|>.f f|>.f g|>.t i tv
def aVx:=fun a b c d e f g i j=>fV a|>.f b|>.f c|>.f d|>.f e|>.f f|>.f g|>.f i|>.t j tv
def aVy:=fun a b c d e f g i j k=>fV a|>.f b|>.f c|>.f d|>.f e|>.f f|>.f g|>.f i|>.f j|>.t k tv
def aVz:=fun a b c d e f g i j k l=>fV a|>.f b|>.f c|>.f d|>.f e|>.f f|>.f g|>.f i|>.f j|>.f k|>.t l tv
def aPm:=fun a b c d e f g i j k l m=>fV a|>.f b|>.f c|>.f d|>.f e|>.f f|>.f g|>.f i|>.f j|>.f k|>.f l|>.t m tv
def aPn:=fun a b c d e f g i j k l m n=>fV a|>.f b|>.f c|>.f d|>.f e|>.f f|>.f g|>.f i|>.f j|>.f k|>.f l|>.f m|>.t n tv
def aPo:=fun a b c d e f g i j k l m n o=>fV a|>.f b|>.f c|>.f d|>.f e|>.f f|>.f g|>.f i|>.f j|>.f k|>.f l|>.f m|>.f n|>.t o tv
def aPp:=fun a b c d e f g i j k l m n o p=>fV a|>.f b|>.f c|>.f d|>.f e|>.f f|>.f g|>.f i|>.f j|>.f k|>.f l|>.f m|>.f n|>.f o|>.t p tv
def aPq:=fun a b c d e f g i j k l m n o p q=>fV a|>.f b|>.f c|>.f d|>.f e|>.f f|>.f g|>.f i|>.f j|>.f k|>.f l|>.f m|>.f n|>.f o|>.f p|>.t q tv
def aPr:=fun a b c d e f g i j k l m n o p q r=>fV a|>.f b|>.f c|>.f d|>.f e|>.f f|>.f g|>.f i|>.f j|>.f k|>.f l|>.f m|>.f n|>.f o|>.f p|>.f q|>.t r tv
def aPs:=fun a b c d e f g i j k l m n o p q r s=>fV a|>.f b|>.f c|>.f d|>.f e|>.f f|>.f g|>.f i|>.f j|>.f k|>.f l|>.f m|>.f n|>.f o|>.f p|>.f q|>.f r|>.t s tv
def aPt:=fun a b c d e f g i j k l m n o p q r s t=>fV a|>.f b|>.f c|>.f d|>.f e|>.f f|>.f g|>.f i|>.f j|>.f k|>.f l|>.f m|>.f n|>.f o|>.f p|>.f q|>.f r|>.f s|>.t t tv
def aPu:=fun a b c d e f g i j k l m n o p q r s t u=>fV a|>.f b|>.f c|>.f d|>.f e|>.f f|>.f g|>.f i|>.f j|>.f k|>.f l|>.f m|>.f n|>.f o|>.f p|>.f q|>.f r|>.f s|>.f t|>.t u tv
def aPv:=fun a b c d e f g i j k l m n o p q r s t u v=>fV a|>.f b|>.f c|>.f d|>.f e|>.f f|>.f g|>.f i|>.f j|>.f k|>.f l|>.f m|>.f n|>.f o|>.f p|>.f q|>.f r|>.f s|>.f t|>.f u|>.t v tv
def aPw:=fun a b c d e f g i j k l m n o p q r s t u v w=>fV a|>.f b|>.f c|>.f d|>.f e|>.f f|>.f g|>.f i|>.f j|>.f k|>.f l|>.f m|>.f n|>.f o|>.f p|>.f q|>.f r|>.f s|>.f t|>.f u|>.f v|>.t w tv
def aPx:=fun a b c d e f g i j k l m n o p q r s t u v w x=>fV a|>.f b|>.f c|>.f d|>.f e|>.f f|>.f g|>.f i|>.f j|>.f k|>.f l|>.f m|>.f n|>.f o|>.f p|>.f q|>.f r|>.f s|>.f t|>.f u|>.f v|>.f w|>.t x tv
def aPy:=fun a b c d e f g i j k l m n o p q r s t u v w x y=>fV a|>.f b|>.f c|>.f d|>.f e|>.f f|>.f g|>.f i|>.f j|>.f k|>.f l|>.f m|>.f n|>.f o|>.f p|>.f q|>.f r|>.f s|>.f t|>.f u|>.f v|>.f w|>.f x|>.t y tv
def aPz:=fun a b c d e f g i j k l m n o p q r s t u v w x y z=>fV a|>.f b|>.f c|>.f d|>.f e|>.f f|>.f g|>.f i|>.f j|>.f k|>.f l|>.f m|>.f n|>.f o|>.f p|>.f q|>.f r|>.f s|>.f t|>.f u|>.f v|>.f w|>.f x|>.f y|>.t z tv
def aPA:=fun a b c d e f g i j k l m n o p q r s t u v w x y z A=>fV a|>.f b|>.f c|>.f d|>.f e|>.f f|>.f g|>.f i|>.f j|>.f k|>.f l|>.f m|>.f n|>.f o|>.f p|>.f q|>.f r|>.f s|>.f t|>.f u|>.f v|>.f w|>.f x|>.f y|>.f z|>.t A tv
def aPB:=fun a b c d e f g i j k l m n o p q r s t u v w x y z A B=>fV a|>.f b|>.f c|>.f d|>.f e|>.f f|>.f g|>.f i|>.f j|>.f k|>.f l|>.f m|>.f n|>.f o|>.f p|>.f q|>.f r|>.f s|>.f t|>.f u|>.f v|>.f w|>.f x|>.f y|>.f z|>.f A|>.t B tv
def aPC:=fun a b c d e f g i j k l m n o p q r s t u v w x y z A B C=>fV a|>.f b|>.f c|>.f d|>.f e|>.f f|>.f g|>.f i|>.f j|>.f k|>.f l|>.f m|>.f n|>.f o|>.f p|>.f q|>.f r|>.f s|>.f t|>.f u|>.f v|>.f w|>.f x|>.f y|>.f z|>.f A|>.f B|>.t C tv
def aPD:=fun a b c d e f g i j k l m n o p q r s t u v w x y z A B C D=>fV a|>.f b|>.f c|>.f d|>.f e|>.f f|>.f g|>.f i|>.f j|>.f k|>.f l|>.f m|>.f n|>.f o|>.f p|>.f q|>.f r|>.f s|>.f t|>.f u|>.f v|>.f w|>.f x|>.f y|>.f z|>.f A|>.f B|>.f C|>.t D tv
def aPE:=fun a b c d e f g i j k l m n o p q r s t u v w x y z A B C D=>fV a|>.f b|>.f c|>.f d|>.f e|>.f f|>.f g|>.f i|>.f j|>.f k|>.f l|>.f m|>.f n|>.f o|>.f p|>.f q|>.f r|>.f s|>.f t|>.f u|>.f v|>.f w|>.f x|>.f y|>.f z|>.f A|>.f B|>.f C|>.f D tv
def aMi(a:aB):=tT 0 (start PP 103 [(aA a)])<|.b 9 5 (!(bA a.length (aD a) 0 0)) (gd 5 10 ((a.length:Int) ≤8) (dR 1 175 [(aA a)]<|fun b=>.b 2 14 b (dR 1 176 [(aA a)]<|fun c=>gE 5 0 (bV (!c)))<|gE 7 0 (bV false))<|gE 11 0 (bV false))<|gE 16 0 (bV false)
def aVA:=fun a b c d e f g i=>aMi a|>.t d|>.t e b f|>.t g c i tv
def aVB:=fun a b c d e f=>aMi a|>.t c|>.t d b e|>.f f tv
def aVC:=fun a b c=>aMi a|>.t b|>.f c tv
def aVD:=fun a b=>aMi a|>.f b tv
mutual
def nJ :Pat→Int→Int
 | .mk _ _ _ ps,left=>if left<1 then -1 else jJ ps (left-1)
def jJ :List Pat→Int→Int
 | [],left=>left
 |p::ps,left=>if 0≤left then jJ ps (nJ p left)else left
end
mutual
theorem aIR :∀ (p:Pat) (left:Int),0≤left→ -1≤nJ p left∧nJ p left≤left-1
 | .mk _ _ _ ps,left,h=>by
  rw [nJ];split
  ·omega
  ·have:=aFI ps (left-1) (by omega);omega
theorem aFI :∀ (ps:List Pat) (left:Int),-1≤left→ -1≤jJ ps left∧jJ ps left≤left
 | [],left,h=>by rw [jJ];omega
 | p ::ps,left,h=>by
  rw [jJ];split
  · rename_i h0;have a:=aIR p left h0;have:=aFI ps (nJ p left) a.1;omega
  ·omega
end
theorem aCk (f n:Int)(s:aB)(ps:List Pat)(l0:Int)(ih:∀p∈ps,∀left:Int,0≤left→left≤1000→Pure PP 124 [Pat.av p,.int .i64 left] (.int .i64 (nJ p left))) :
  ∀ (t:List Pat) (i:Nat) (left:Int),ps.drop i=t→ -1≤left→ (i:Int) +left≤1000→Ends PP 0 (xB f n s ps l0 left (i:Int)).as (.ret (.int .i64 (jJ t left))) (aG [] 0)
 | [],i,left,h,h1,h2=>by
  have:=bL h;rw [jJ];exact aLh f n s ps l0 left i sd
 | .mk f' n' s' ps'::t,i,left,h,h1,h2=>by
  obtain⟨g1,g2,g3⟩ :=bH h;rw [jJ];split
  · rename_i h0;have w:=aIR (.mk f' n' s' ps') left h0;refine(aLf f n s ps l0 left i f' n' s' ps' _ sd sd sd sd (ih _ (List.mem_of_getElem? g1) left h0 (by omega)) sd).ends ?_;exact aCk f n s ps l0 ih t (i+1) _ g2 w.1 (by omega)
  ·exact aLg f n s ps l0 left i sd sd
mutual
theorem vW :∀ (p:Pat) (left:Int),-1≤left→left≤1000→Pure PP 124 [Pat.av p,.int .i64 left] (.int .i64 (nJ p left))
 | .mk f n s ps,left,h0,h1=>by
  refine bC (by kernel_rfl) (by simp [keylessL,kB,keyless]) rfl ?_;rw [nJ];split
  ·exact aLd f n s ps left sd
  · refine(aLe f n s ps left sd sd).ends ?_;exact aCk f n s ps left (fun p hp left h0 h1=>aDS ps p hp left h0 h1) ps 0 _ rfl (by omega) (by omega)
theorem aDS :∀ (ps:List Pat),∀p∈ps,∀left:Int,0≤left→left≤1000→Pure PP 124 [Pat.av p,.int .i64 left] (.int .i64 (nJ p left))
 | [],p,hp,_,_,_=>by cases hp
 | q::ps,p,hp,left,h0,h1=>by
  rcases List.mem_cons.1 hp with e|hp
  ·rw [e];exact vW q left (by omega) h1
  ·exact aDS ps p hp left h0 h1
end
mutual
def vX :Pat→Bool
 | .mk _ _ s ps=>aAQ ps&&decide (s.length≤30)
def aAQ :List Pat→Bool
 | [] =>true
 |p::ps=>vX p&&aAQ ps
end
mutual
def aV :Pat→Nat
 | .mk _ _ _ ps=>aM ps+1
def aM :List Pat→Nat
 | [] =>0
 |p::ps=>aV p+aM ps
end
theorem cP :∀ps:List Pat,ps.length≤aM ps
 | [] =>by simp [aM]
 | .mk _ _ _ qs::ps=>by have:=cP ps;simp only [aM,aV,List.length_cons];omega
mutual
theorem aDT :∀ (p:Pat) (left:Int),0≤nJ p left→nJ p left=left-aV p
 | .mk _ _ _ ps,left,h=>by
  rw [nJ]at h ⊢;split at h
  ·omega
  · rename_i h1;rw [if_neg h1];have:=aCl ps (left-1) h;simp only [aV];omega
theorem aCl :∀ (ps:List Pat) (left:Int),0≤jJ ps left→jJ ps left=left-aM ps
 | [],left,h=>by simp [jJ,aM]
 | p ::ps,left,h=>by
  rw [jJ]at h ⊢;split at h
  · rename_i h1;rw [if_pos h1];have a:=aCl ps _ h;have b:=aDT p left (by omega);simp only [aM];omega
  ·omega
end
mutual
theorem aDU :∀ (p:Pat) (left:Int),(aV p:Int) ≤left→nJ p left=left-aV p
 | .mk _ _ _ ps,left,h=>by
  simp only [aV]at h ⊢;rw [nJ,if_neg (by omega),aCm ps (left-1) (by omega)];omega
theorem aCm :∀ (ps:List Pat) (left:Int),(aM ps:Int) ≤left→jJ ps left=left-aM ps
 | [],left,h=>by simp [jJ,aM]
 | p::ps,left,h=>by
  simp only [aM]at h ⊢;rw [jJ,if_pos (by omega),aDU p left (by omega),aCm ps _ (by omega)];omega
end
theorem aBH (p:Pat)(left:Int) :0≤nJ p left↔ (aV p:Int) ≤left:=by
 constructor
 ·intro h;have:=aDT p left h;omega
 ·intro h;rw [aDU p left h];omega
theorem vY (f n:Int)(s:aB)(ps:List Pat)(hl:ps.length<1000000)(ih:∀p∈ps,Pure PP 125 [Pat.av p] (.bool (vX p))) :
  ∀ (t:List Pat) (i:Nat),ps.drop i=t→Ends PP 0 (oJ f n s ps (i:Int)).as (.ret (.bool (aAQ t&&decide (s.length≤30)))) (aG [] 0)
 | [],i,h=>by
  have:=bL h;have e:decide (((length s:Nat) :Int) ≤ (30:Int)) =decide (s.length≤30) :=by congr 1;simp;omega
  rw [aAQ,Bool.true_and,←e];exact aFd f n s ps i sd
 | .mk f' n' s' ps'::t,i,h=>by
  obtain⟨g1,g2,g3⟩ :=bH h;have ihp:=ih _ (List.mem_of_getElem? g1);rw [aAQ];cases hb:vX (.mk f' n' s' ps')with
  | false=>
   rw [hb]at ihp;exact aFb f n s ps i f' n' s' ps' false sd sd sd ihp rfl
  | true=>
   rw [hb]at ihp;refine(aFc f n s ps i f' n' s' ps' true sd sd sd ihp rfl sd).ends ?_;rw [Bool.true_and];exact vY f n s ps hl ih t (i+1) g2
mutual
theorem vZ :∀ (p:Pat),aV p<1000000→Pure PP 125 [Pat.av p] (.bool (vX p))
 | .mk f n s ps,h=>by
  refine bC (by kernel_rfl) (by simp [keylessL,kB]) rfl ?_;simp only [aV]at h;have:=cP ps;refine(aFa f n s ps).ends ?_;rw [vX];exact vY f n s ps (by omega) (yH ps (by omega)) ps 0 rfl
theorem yH :∀ (ps:List Pat),aM ps<1000000→∀p∈ps,Pure PP 125 [Pat.av p] (.bool (vX p))
 | [],_,p,hp=>by cases hp
 | q::ps,h,p,hp=>by
  simp only [aM]at h;rcases List.mem_cons.1 hp with e|hp
  ·rw [e];exact vZ q (by omega)
  ·exact yH ps (by omega) p hp
end
def nU (p:Pat) :Bool:=decide (aV p≤16) &&vX p
theorem aG7 (p:Pat) :Pure PP 64 [Pat.av p] (.bool (nU p)) :=by
 refine bC (by kernel_rfl) (by simp [keylessL,kB]) rfl ?_;obtain⟨f,n,s,ps⟩ :=p;have hw:=vW (.mk f n s ps) 16 (by omega) (by omega);by_cases h:aV (.mk f n s ps) ≤16
 · have e:nU (.mk f n s ps) =vX (.mk f n s ps) :=by simp [nU,h]
   rw [e];have hg:0≤nJ (.mk f n s ps) 16:= (aBH (.mk f n s ps) 16).2 (by omega);exact aIM f n s ps _ _ hw (decide_eq_true hg) (vZ (.mk f n s ps) (by omega))
 · have e:nU (.mk f n s ps) =false:=by simp [nU,h]
   rw [e];refine aIN f n s ps _ hw (decide_eq_false fun g=>h ?_);have:= (aBH (.mk f n s ps) 16).1 g;omega
def aN3 (l:List Con) :Bool:=l.all fun c=>decide (c.name.length≤40)
def aN4 (l:List Pat) :Bool:=l.all nU
def aBI (x:Node) :Bool:=decide (x.kids.length≤10) &&decide (x.pats.length≤10) &&aN4 x.pats
def mJ (p:Prog) :Bool:=decide (p.nodes.length≤320) &&decide (p.funs.length≤320) &&decide (p.cons.length≤25) &&aN3 p.cons&&p.nodes.all aBI
theorem Ends.eqv {P:Program}{m:Nat}{s:AS}{v v':AV}{h':Hp}(h:Ends P m s (.ret v) h')(e:v=v') :Ends P m s (.ret v') h':=e ▸ h
theorem inB_iff {n lo hi:Int}:cF n lo hi=true↔lo≤n∧n≤hi:=by simp [cF]
theorem aVE {n lo hi:Int}:cF n lo hi=false↔¬ (lo≤n∧n≤hi) :=by simp [cF]
theorem sdI {p:Prop}(h:p:=by first|assumption|rfl| (simp only [Int.toNat_natCast];assumption) | (simp only [decide_eq_true_eq,decide_eq_false_iff_not];omega) |omega| (apply wrap64<;>omega) | (simp_all;done) | (simp only [inB_iff,aVE,beq_iff_eq,decide_eq_true_eq,decide_eq_false_iff_not]at *;omega)) :p:=h
def aPF (op pats args:Int) :Int:=
 if op=1∨op=2∨op=3∨op=4∨op=21∨op=25∨op=28 then 0
 else if op=5∨op=27∨op=16∨op=17∨op=19∨op=20∨op=23∨op=26∨op=24 then 1
 else if op=6∨op=7∨op=9∨op=10∨op=11∨op=12∨op=13∨op=18∨op=22 then 2
 else if op=8 then 3 else if op=15 then 1+pats else if op=14 then args else -1
def aDV (cons:List Con)(n:Int) :Int:=match cons[n.toNat]? with
 |some c=>c.args
 |none=> -1
def aMj (cons:List Con)(f n:Int)(s:aB)(k:Nat) :Bool:=
 (if f=1∨f=2∨f=5 then decide (k=0) &&decide (n=0)
 else if f=3 then decide (k=0) &&cF n (-1000000000) 1000000000
 else if f=4 then decide (k=0) &&cF n 0 1
 else if f=6 then cF n 0 ((cons.length:Int) -1) &&decide ((k:Int) =aDV cons n)
 else false) &&decide (s= [])
mutual
def aFJ (cons:List Con) :Pat→Bool
 | .mk f n s ps=>aMj cons f n s ps.length&&zH cons ps
def zH (cons:List Con) :List Pat→Bool
 | [] =>true
 |p::ps=>aFJ cons p&&zH cons ps
end
def aMk (c:Con) :Bool:=cD c.name&&cF c.args 0 3
def aN5 (l:List Con) :List aB:=l.map Con.name
def aLj (l:List Con) :Bool:=l.all aMk&&decide (l.length≤20) &&fS (aN5 l)
def aBJ (p:Prog)(op n:Int) :Bool:=
 if op=1 then cF n (-1000000000) 1000000000
 else if op=2 then cF n 0 1
 else if op=4 then cF n (0- (p.funs.length:Int)) 29
 else if op=24 then cF n 0 3
 else if op=14 then cF n 0 ((p.cons.length:Int) -1)
 else decide (n=0)
def aIS (p:Prog)(x:Node) :Bool:=
 aBJ p x.op x.n&& (if x.op=15 then cF (x.pats.length:Int) 1 5 else decide (x.pats.length=0))
def aPG (p:Prog)(x:Node) :Int:=if x.op=14∧cF x.n 0 ((p.cons.length:Int) -1) =true then aDV p.cons x.n else 0
def aG8 (cons:List Con)(q:Pat) :Bool:=decide (aV q≤12) &&aFJ cons q
def tG (p:Prog)(x:Node) :Bool:=
 aIS p x&&x.pats.all (aG8 p.cons) &&decide ((x.kids.length:Int) =aPF x.op x.pats.length (aPG p x))
def marks (lo n:Int) :List Int→List Bool→Option (List Bool)
 | [],u=>some u
 |k::ks,u=>if cF k lo (n-1) =true∧u[k.toNat]?=some false then marks lo n ks (u.set k.toNat true)else none
theorem aBK {lo n:Int}:∀ {ks:List Int} {u v:List Bool},marks lo n ks u=some v→v.length=u.length
 | [],u,v,h=>by simp only [marks,Option.some.injEq]at h;rw [h]
 | k::ks,u,v,h=>by
  simp only [marks]at h;split at h
  ·have:=aBK h;simpa using this
  ·cases h
def jR (p:Prog) :Nat→List Node→List Bool→Option (List Bool)
 |_,[],u=>some u
 | i,x::t,u=>if tG p x=true then match marks ((i:Int) +1) (p.nodes.length:Int) x.kids u with
   |some v=>jR p (i+1) t v
   |none=>none
  else none
def allT :Option (List Bool) →Bool
 |some u=>u.all fun b=>b
 |none=>false
def aIT (p:Prog) :Bool:=decide (p.nodes.length≤300) &&cF (p.funs.length:Int) 1 (p.nodes.length:Int) &&cF p.main 0 ((p.funs.length:Int) -1)
def jH (p:Prog) :Bool:=
 aIT p&&aLj p.cons&& (match marks 0 (p.nodes.length:Int) p.funs (List.replicate p.nodes.length false)with
  |some u=>allT (jR p 0 p.nodes u)
  |none=>false)
def xE(a:aB)(b:Nat):TS:=⟨(tf 175 16 [(2,(bV false)),kp 6 0] [kc f175 52,kl f175 52,.inBlock 0,kc f175 7]),[],[(0,(.siter a.length (aD a) b),false)],1⟩
def aLk (a:aB):=(tT 0 (start PP 175 [(aA a)])<|.W 12 1 [0] (xE a 0)) tv
def aVF(a:aB)(b:Nat):=tT 0 (xE a b)<|.o (.y fun c:Nat=>.y fun d:Nat=>.i [rn 2,.nxt c d] [hA (b<a.length),hA (aKD a.length (aD a) b=some (c,d))]<|gd 16 12 ((c:Int) <97) (gE 10 1 (bV false))<|gd 4 15 ((c:Int) >122) (gE 6 1 (bV false))<|.W 4 1 [0] (xE a (Nat.add b d)))<|.i [rn 2,.nxtE] [hA (a.length≤b)]<|gE 10 1 (bV true)
def aLl:=fun a b c d e f g=>aVF a b|>.1 c d e f|>.t g tv
def aLm:=fun a b c d e f g i=>aVF a b|>.1 c d e f|>.f g|>.t i tv
def aLn:=fun a b c d e f g i=>aVF a b|>.1 c d e f|>.f g|>.f i tv
def aLo:=fun a b c=>aVF a b|>.2 c tv
def aPH(a:aB):=tT 0 (start PP 179 [(aA a)])<|.b 9 5 (!(bA a.length (aD a) 0 0)) (gd 5 10 ((a.length:Int) ≤8) (.y fun b:UInt8=>.i [rn 1,.ans (.ev (.int .u8 ((b.toNat:Nat) :Int)))] [.q (p:=0≤ (0:Int)) (by decide),.a ((a)[0]?=some b) (p':=(0:Int) < (a.length:Int)) (fun h=>(zE (k:= (0:Int)) (by decide) h)),.a ((a)[0]?=some b) (p':=int .u8 ((mod (div (aD a) (pow 256 (0:Int).toNat)) 256:Nat) :Int) = (.int .u8 ((b.toNat:Nat) :Int))) (fun h=>(zF (k:= (0:Int)) h))]<|gd 3 15 (((b.toNat:Nat) :Int) ≥65) (.i [rn 1,.ans (.ev (.int .u8 ((b.toNat:Nat) :Int)))] [.q (p:=0≤ (0:Int)) (by decide),.a ((a)[0]?=some b) (p':=(0:Int) < (a.length:Int)) (fun h=>(zE (k:= (0:Int)) (by decide) h)),.a ((a)[0]?=some b) (p':=int .u8 ((mod (div (aD a) (pow 256 (0:Int).toNat)) 256:Nat) :Int) = (.int .u8 ((b.toNat:Nat) :Int))) (fun h=>(zF (k:= (0:Int)) h))]<|gd 3 20 (((b.toNat:Nat) :Int) ≤90) (.i [rn 1,.ans (.ev (aA (drop 1 a)))] [.a (1≤length a) (p':=uB PP 9 (aA a) (some (nI 1)) none (aA (drop 1 a))) (fun h=>(aCg (k:= (1:Int)) (by kernel_rfl) (by decide) h))]<|dR 0 175 [(aA (drop 1 a))]<|fun c=>gE 4 0 (bV c))<|gE 7 0 (bV false))<|gE 12 0 (bV false))<|gE 17 0 (bV false))<|gE 22 0 (bV false)
def aLp:=fun b c d e f a g i j k=>aPH b|>.t e|>.t f c a a|>.t g a a|>.t i j d k tv
def aLq:=fun b c d e a f g=>aPH b|>.t d|>.t e c a a|>.t f a a|>.f g tv
def aLr:=fun b c d e a f=>aPH b|>.t d|>.t e c a a|>.f f tv
def aLs:=fun a b c=>aPH a|>.t b|>.f c tv
def aLt:=fun a b=>aPH a|>.f b tv
theorem aN6 (b:ByteArray)(i:Nat)(h:128≤ (b.get! i).toNat) :128≤ (Utf8.decode b i).1:=by
 unfold Utf8.decode Utf8.runeError;simp only [add_zero];rw [if_neg (show ¬ (b.get! i).toNat<0x80 by omega)]
 repeat' split
 all_goals first
  |assumption
  | (simp_all;done)
  | (rename_i q;simp only [Bool.and_eq_true,decide_eq_true_eq,ge_iff_le]at q;simp only;omega)
theorem aVG {s:aB}{i:Nat}{c:UInt8}(h:s[i]?=some c) :∃r d,aKD (length s) (aD s) i=some (r,d) ∧ (c.toNat<128→r=c.toNat∧d=1) ∧ (128≤c.toNat→128≤r) :=by
 have hi:= (List.getElem?_eq_some_iff.1 h).1;have hb:=byte_at h;unfold aKD;have e1:blt i (length s) =true:=by rw [cX];exact decide_eq_true hi
 have e2:mod (div (aD s) (pow 256 i)) 256=c.toNat:=hb;rw [e1,e2];simp only [cond];by_cases k:c.toNat<128
 · have e3:blt c.toNat 128=true:=by rw [cX];exact decide_eq_true k
   rw [e3];exact⟨_,_,rfl,fun _=> ⟨rfl,rfl⟩,fun g=>by omega⟩
 · have e3:blt c.toNat 128=false:=by rw [cX];exact decide_eq_false k
   rw [e3];refine⟨_,_,rfl,fun g=>by omega,fun _=>?_⟩;have hn:aW (length s) (aD s) =s:=dN s;rw [hn];have hg: ((⟨⟨s⟩⟩ :ByteArray).get! (i+0)).toNat=c.toNat:=by
    simp only [add_zero,ByteArray.get!];have: (⟨s⟩ :Array UInt8)[i]! =c:=by
     rw [Array.getElem!_eq_getD,Array.getD_eq_getD_getElem?,show(⟨s⟩ :Array UInt8) =s.toArray from rfl,List.getElem?_toArray,h];rfl
    rw [this]
   exact aN6 _ _ (by rw [add_zero]at hg;rw [hg];omega)
theorem aCn (s:aB) :∀ (t:aB) (i:Nat),s.drop i=t→Ends PP 0 (xE s i).as (.ret (.bool (eO t))) (aG [] 0)
 | [],i,h=>aLo s i (bL h)
 | c :: t,i,h=>by
  obtain⟨h1,h2,h3⟩ :=bH h;obtain⟨r,d,q1,q2,q3⟩ :=aVG h1;by_cases g1:c.toNat<97
  · have:= (q2 (by omega)).1;exact Ends.eqv (aLl s i r d h3 q1 sd) (by simp [eO,pH];omega)
  · by_cases g2:122<c.toNat
    · have hr:122<r:=by
       by_cases k:c.toNat<128
       ·have:= (q2 k).1;omega
       ·have:=q3 (by omega);omega
      exact Ends.eqv (aLm s i r d h3 q1 sd sd) (by simp [eO,pH];omega)
    · obtain⟨rfl,rfl⟩ :=q2 (by omega);refine(aLn s i _ _ h3 q1 sd sd).ends ?_;have e:pH c=true:=by simp [pH];omega
      exact Ends.eqv (aCn s t (i+1) h2) (by simp [eO,e])
theorem aCo (s:aB) :Pure PP 175 [aA s] (.bool (eO s)) :=
 bC (by kernel_rfl) rfl rfl ((aLk s).ends (aCn s s 0 rfl))
theorem hO (s:aB) :Pure PP 179 [aA s] (.bool (cD s)) :=by
 refine bC (by kernel_rfl) rfl rfl ?_
 match s with
 | [] =>exact aLt [] rfl
 | c ::t=>
  have h0: (!(bA (length (c::t)) (aD (c::t)) 0 0)) =true:=by rw [aE];rfl
  by_cases g0: (c::t).length≤8
  · have g0': (decide (((length (c::t) :Nat) :Int) ≤ (8:Int))) =true:=sd;by_cases g1:65≤c.toNat
    · by_cases g2:c.toNat≤90
      ·exact Ends.eqv (aLp (c::t) c _ h0 g0' rfl sd sd (by simp) (aCo t)) (by simp only [cD,decide_eq_true g0,decide_eq_true g1,decide_eq_true g2,Bool.true_and])
      ·exact Ends.eqv (aLq (c::t) c h0 g0' rfl sd sd) (by simp only [cD,decide_eq_false g2,Bool.and_false,Bool.false_and])
    ·exact Ends.eqv (aLr (c::t) c h0 g0' rfl sd) (by simp only [cD,decide_eq_false g1,Bool.and_false,Bool.false_and])
  ·exact Ends.eqv (aLs (c::t) h0 sd) (by simp only [cD,decide_eq_false g0,Bool.false_and])
end
end Go.Hb
