/- A machine on abstract values, its soundness, ways, plain laws. -/
import Derived.Test.YtfaikcecgpcimaaGreatHF
set_option linter.defProp false
set_option linter.unusedVariables false
set_option linter.unusedSimpArgs false
set_option linter.unusedSectionVars false
set_option maxRecDepth 100000
set_option maxHeartbeats 2000000
namespace Go.Hb
open AV (ilst int keyless keylessL str)
open List (all_nil drop length length_set map mem_of_getElem? replicate set)
open Nat (add_zero blt div mod pow)
open Go.Proofs Tryz
noncomputable section
section
variable {P :Program}
theorem throws_at {f : Nat} {args : List AV} {ch : List (AV×Bool)}(hb:iE P f=true)(hk:keylessL args=true)(hv:∀x∈ch,keyless x.1=true)(he:Ends P 0 (start P f args).as (.pan ch) (aF [] 0)) :aJO P f args ch:=fun h=>by
 unfold iE at hb;split at hb
 · rename_i fn hf;split at hb
   · rename_i c hc;have hg:dR P h (.enter f args) =some ⟨f,dD .leaf 0 args,max fn.ntmps args.length,[.code c],[],.run,.normal,none⟩ :=by simp [dR,cM,hf,hc]
     refine⟨_,hg,fun hm E fr ccs w fr' fs r cl base=>?_⟩;simp only at fs;rw [fs.nil_inv];have f1:FR E.p (start P f args).as.fr fr:=by
      have e1: (start P f args).as.fr= ⟨f,mkT ((List.range args.length).zip args),max fn.ntmps args.length,[.code c],[],.run,.normal,none⟩ :=by simp [start,hf,hc,TS.as,TF.fr]
      rw [e1];refine⟨fr'.fn,⟨fr'.tm.1,fun t a e=>?_⟩,?_,?_,fr'.mode,fr'.kind,?_⟩
      · have h1:=zR (tZ e);have hlt:= (List.getElem?_eq_some_iff.1 h1).1;have h2: (dD .leaf 0 args).at t=some a:=by
         unfold dD;rw [bX,if_pos hlt];exact h1
        obtain⟨cv,g1,g2⟩ :=fr'.tm.2 t a h2;exact⟨cv,g1,eP (keylessL_mem.1 hk a (mem_of_getElem? h1)) g2⟩
      · have:=fr'.todo;simpa [IRs,IR]using this
      · have:=fr'.defers;simpa [DRs]using this
      · have:=fr'.round;simpa [RR]using this
     have e2 : (start P f args).as.cs = [] := by unfold start;split; · split<;>rfl
                                                 ·rfl
     have e3 : (start P f args).as.h = ⟨.leaf, 0⟩ := by unfold start;split; · split<;>rfl
                                                        ·rfl
     obtain⟨cl',w',E',g1,⟨cv,rfl,g2⟩,g3,g4⟩ :=he (Nat.zero_le _) E.p fr [] w f1 (by rw [e2];rfl) (by rw [e3];exact aCJ r) cl base;rw [e3]at g4;obtain⟨q1,q2⟩ :=aCK r g3 g4;exact⟨_,w',_,g1,⟨cv,rfl,CR.of_p (E:= ⟨E.loc,E'.imm⟩) (show CR (Emb.p ⟨E.loc,E'.imm⟩) ch cv from aCN (E:=E') hv g2)⟩,q1,q2⟩
   ·cases hb
 ·cases hb
end
inductive Typ where
 |mk (sort n:Int) (text:aB) (parts:List Typ)
mutual
def Typ.av :Typ→AV
 | .mk f n t ps=>.agg [.int .i64 f,.int .i64 n,aD t,.ilst 4 (Typs.av ps) false]
def Typs.av :List Typ→List AV
 | [] =>[]
 |p::ps=>Typ.av p::Typs.av ps
end
inductive Term where
 |mk (op n:Int) (text:aB) (kids:List Term) (pats:List Pat)
mutual
def Term.av :Term→AV
 | .mk o n t ks ps=>.agg [.int .i64 o,.int .i64 n,aD t,.ilst 5 (Terms.av ks) false,.ilst 4 (Pats.av ps) false]
def Terms.av :List Term→List AV
 | [] =>[]
 |p::ps=>Term.av p::Terms.av ps
end
structure ConD where
 name:aB
 args:List Typ
def ConD.av (c:ConD) :AV:=.agg [aD c.name,.ilst 4 (Typs.av c.args) false]
structure DataD where
 name:aB
 cons:List ConD
def DataD.av (d:DataD) :AV:=.agg [aD d.name,.ilst 2 (map ConD.av d.cons) false]
inductive FunD where
 |mk (name param:aB) (frm to:Typ) (body:Term)
def FunD.av :FunD→AV
 | .mk n p (.mk f0 f1 f2 f3) (.mk g0 g1 g2 g3) (.mk b0 b1 b2 b3 b4) =>.agg [aD n,aD p,.int .i64 f0,.int .i64 f1,aD f2,.ilst 4 (Typs.av f3) false,.int .i64 g0,.int .i64 g1,aD g2,.ilst 4 (Typs.av g3) false,.int .i64 b0,.int .i64 b1,aD b2,.ilst 5 (Terms.av b3) false,.ilst 4 (Pats.av b4) false]
def FunDs.av (l:List FunD) :List AV:=map FunD.av l
structure Mod where
 name:aB
 datas:List DataD
 funs:List FunD
def Mod.av (m:Mod) :AV:=.agg [aD m.name,.ilst 2 (map DataD.av m.datas) false,.ilst 15 (FunDs.av m.funs) false]
inductive Part where
 |data (d:DataD)
 |fn (f:FunD)
def Part.av :Part→AV
 | .data d=>.iface 217 (DataD.av d)
 | .fn f=>.iface 219 (FunD.av f)
def Parts.av (l:List Part) :List AV:=map Part.av l
inductive KV where
 |row (l:List Int)
 |nil
 |val (u:Value)
def KV.av :KV→AV
 | .row l=>.ilst 1 (map bL l) false
 | .nil=>.nils
 | .val u=>.val u
structure ONode where
 op:Int
 n:Int
 kv:KV
 pats:List Pat
def ONode.av (x:ONode) :AV:=.agg [.int .i64 x.op,.int .i64 x.n,x.kv.av,.ilst 4 (Pats.av x.pats) false]
def Node.o (x:Node) :ONode:= ⟨x.op,x.n,.row x.kids,x.pats⟩
def kwL :List aB:=[(strOf [98,111,111,108]),(strOf [99,101,108,108]),(strOf [99,104,97,110]),(strOf [101,108,115,101]),(strOf [102,97,108,115,101]),(strOf [102,117,110]),(strOf [103,101,116]),(strOf [105,102]),(strOf [105,110]),(strOf [105,110,112,117,116]),(strOf [105,110,116]),(strOf [106,111,105,110]),(strOf [108,101,116]),(strOf [109,97,116,99,104]),(strOf [109,111,100,117,108,101]),(strOf [111,117,116]),(strOf [112,97,117,115,101]),(strOf [112,117,116]),(strOf [114,101,115,101,116]),(strOf [115,101,110,100]),(strOf [115,104,105,102,116]),(strOf [115,112,97,119,110]),(strOf [116,97,107,101]),(strOf [116,97,115,107]),(strOf [116,104,101,110]),(strOf [116,114,117,101]),(strOf [116,121,112,101]),(strOf [117,110,105,116])]
def aVk:TS:=dL PP 226 [] [] 0
def aSd:=(tT 0 (aVk)<|.i [rn 10,.toL 0 false [(.str 4 1819242338),(.str 4 1819043171),(.str 4 1851877475),(.str 4 1702063205),(.str 5 435728179558),(.str 3 7239014),(.str 3 7628135),(.str 2 26217),(.str 2 28265),(.str 5 500186508905),(.str 3 7630441),(.str 4 1852403562),(.str 3 7628140),(.str 5 448345170285),(.str 6 111516500389741),(.str 3 7632239),(.str 5 435728769392),(.str 3 7632240),(.str 5 499918267762),(.str 4 1684956531),(.str 5 499934390387),(.str 5 474449277043),(.str 4 1701536116),(.str 4 1802723700),(.str 4 1852139636),(.str 4 1702195828),(.str 4 1701869940),(.str 4 1953066613)]] [hr (some [(str 4 1819242338),(str 4 1819043171),(str 4 1851877475),(str 4 1702063205),(str 5 435728179558),(str 3 7239014),(str 3 7628135),(str 2 26217),(str 2 28265),(str 5 500186508905),(str 3 7630441),(str 4 1852403562),(str 3 7628140),(str 5 448345170285),(str 6 111516500389741),(str 3 7632239),(str 5 435728769392),(str 3 7632240),(str 5 499918267762),(str 4 1684956531),(str 5 499934390387),(str 5 474449277043),(str 4 1701536116),(str 4 1802723700),(str 4 1852139636),(str 4 1702195828),(str 4 1701869940),(str 4 1953066613)]),hr true]<|gu 0 0 (map aD kwL)<|gs 0 0 (.gl 0 1 0 kwL.length true)<|.i [.weak 0] []<|gz 0 0 0 1 aD kwL false<|gE 0 1 (iS kwL)) tv
def aPq (c:aB):=fun a b d e=>(tT 0 (start PP 167 [(aD c)])<|.y fun a:List aB=>gp 6 226 [] (iS a)<|eS 1 111 [(iS a),(aD c)]<|fun b=>gE 3 0 (bV b)) a d b e tv
def aLY(a:aB):=tT 0 (start PP 86 [(aD a)])<|gd 10 6 ((a.length:Int) ≥1) (gd 5 11 ((a.length:Int) ≤8) (eS 1 166 [(aD a)]<|fun b=>.b 2 15 b (eS 1 167 [(aD a)]<|fun c=>gE 5 0 (bV (!c)))<|gE 7 0 (bV false))<|gE 11 0 (bV false))<|gE 16 0 (bV false)
def aSe:=fun a b c d e f g i=>aLY a|>.t d|>.t e b f|>.t g c i tv
def aSf:=fun a b c d e f=>aLY a|>.t c|>.t d b e|>.f f tv
def aSg:=fun a b c=>aLY a|>.t b|>.f c tv
def aSh:=fun a b=>aLY a|>.f b tv
def eG(a:aB):=tT 0 (start PP 165 [(aD a)])<|.b 16 4 (bM a.length (aA a) 4 1819242338) (gE 8 0 (bV true))<|.b 6 4 (bM a.length (aA a) 4 1819043171) (gE 8 0 (bV true))<|.b 6 4 (bM a.length (aA a) 4 1851877475) (gE 8 0 (bV true))<|.b 6 4 (bM a.length (aA a) 4 1702063205) (gE 8 0 (bV true))<|.b 6 4 (bM a.length (aA a) 5 435728179558) (gE 8 0 (bV true))<|.b 6 4 (bM a.length (aA a) 3 7239014) (gE 8 0 (bV true))<|.b 6 4 (bM a.length (aA a) 3 7628135) (gE 8 0 (bV true))<|.b 6 4 (bM a.length (aA a) 2 26217) (gE 8 0 (bV true))<|.b 6 4 (bM a.length (aA a) 2 28265) (gE 8 0 (bV true))<|.b 6 4 (bM a.length (aA a) 5 500186508905) (gE 8 0 (bV true))<|.b 6 4 (bM a.length (aA a) 3 7630441) (gE 8 0 (bV true))<|.b 6 4 (bM a.length (aA a) 4 1852403562) (gE 8 0 (bV true))<|.b 6 4 (bM a.length (aA a) 3 7628140) (gE 8 0 (bV true))<|.b 6 4 (bM a.length (aA a) 5 448345170285) (gE 8 0 (bV true))<|.b 6 4 (bM a.length (aA a) 6 111516500389741) (gE 8 0 (bV true))<|.b 6 4 (bM a.length (aA a) 3 7632239) (gE 8 0 (bV true))<|.b 6 4 (bM a.length (aA a) 5 435728769392) (gE 8 0 (bV true))<|.b 6 4 (bM a.length (aA a) 3 7632240) (gE 8 0 (bV true))<|.b 6 4 (bM a.length (aA a) 5 499918267762) (gE 8 0 (bV true))<|.b 6 4 (bM a.length (aA a) 4 1684956531) (gE 8 0 (bV true))<|.b 6 4 (bM a.length (aA a) 5 499934390387) (gE 8 0 (bV true))<|.b 6 4 (bM a.length (aA a) 5 474449277043) (gE 8 0 (bV true))<|.b 6 4 (bM a.length (aA a) 4 1701536116) (gE 8 0 (bV true))<|.b 6 4 (bM a.length (aA a) 4 1802723700) (gE 8 0 (bV true))<|.b 6 4 (bM a.length (aA a) 4 1852139636) (gE 8 0 (bV true))<|.b 6 4 (bM a.length (aA a) 4 1702195828) (gE 8 0 (bV true))<|.b 6 4 (bM a.length (aA a) 4 1701869940) (gE 8 0 (bV true))<|.b 5 4 (bM a.length (aA a) 4 1953066613) (gE 6 0 (bV true))<|gE 8 0 (bV false)
def aSi:=fun a b=>eG a|>.t b tv
def aSj:=fun a b c=>eG a|>.f b|>.t c tv
def aSk:=fun a b c d=>eG a|>.f b|>.f c|>.t d tv
def aSl:=fun a b c d e=>eG a|>.f b|>.f c|>.f d|>.t e tv
def aSm:=fun a b c d e f=>eG a|>.f b|>.f c|>.f d|>.f e|>.t f tv
def aSn:=fun a b c d e f g=>eG a|>.f b|>.f c|>.f d|>.f e|>.f f|>.t g tv
def aSo:=fun a b c d e f g i=>eG a|>.f b|>.f c|>.f d|>.f e|>.f f|>.f g|>.t i tv
def aSp:=fun a b c d e f g i j=>eG a|>.f b|>.f c|>.f d|>.f e|>.f f|>.f g|>.f i|>.t j tv
def aSq:=fun a b c d e f g i j k=>eG a|>.f b|>.f c|>.f d|>.f e|>.f f|>.f g|>.f i|>.f j|>.t k tv
def aSr:=fun a b c d e f g i j k l=>eG a|>.f b|>.f c|>.f d|>.f e|>.f f|>.f g|>.f i|>.f j|>.f k|>.t l tv
def aPr:=fun a b c d e f g i j k l m=>eG a|>.f b|>.f c|>.f d|>.f e|>.f f|>.f g|>.f i|>.f j|>.f k|>.f l|>.t m tv
def aPs:=fun a b c d e f g i j k l m n=>eG a|>.f b|>.f c|>.f d|>.f e|>.f f|>.f g|>.f i|>.f j|>.f k|>.f l|>.f m|>.t n tv
def aPt:=fun a b c d e f g i j k l m n o=>eG a|>.f b|>.f c|>.f d|>.f e|>.f f|>.f g|>.f i|>.f j|>.f k|>.f l|>.f m|>.f n|>.t o tv
def aPu:=fun a b c d e f g i j k l m n o p=>eG a|>.f b|>.f c|>.f d|>.f e|>.f f|>.f g|>.f i|>.f j|>.f k|>.f l|>.f m|>.f n|>.f o|>.t p tv
def aPv:=fun a b c d e f g i j k l m n o p q=>eG a|>.f b|>.f c|>.f d|>.f e|>.f f|>.f g|>.f i|>.f j|>.f k|>.f l|>.f m|>.f n|>.f o|>.f p|>.t q tv
def aPw:=fun a b c d e f g i j k l m n o p q r=>eG a|>.f b|>.f c|>.f d|>.f e|>.f f|>.f g|>.f i|>.f j|>.f k|>.f l|>.f m|>.f n|>.f o|>.f p|>.f q|>.t r tv
def aPx:=fun a b c d e f g i j k l m n o p q r s=>eG a|>.f b|>.f c|>.f d|>.f e|>.f f|>.f g|>.f i|>.f j|>.f k|>.f l|>.f m|>.f n|>.f o|>.f p|>.f q|>.f r|>.t s tv
def aPy:=fun a b c d e f g i j k l m n o p q r s t=>eG a|>.f b|>.f c|>.f d|>.f e|>.f f|>.f g|>.f i|>.f j|>.f k|>.f l|>.f m|>.f n|>.f o|>.f p|>.f q|>.f r|>.f s|>.t t tv
def aPz:=fun a b c d e f g i j k l m n o p q r s t u=>eG a|>.f b|>.f c|>.f d|>.f e|>.f f|>.f g|>.f i|>.f j|>.f k|>.f l|>.f m|>.f n|>.f o|>.f p|>.f q|>.f r|>.f s|>.f t|>.t u tv
def aPA:=fun a b c d e f g i j k l m n o p q r s t u v=>eG a|>.f b|>.f c|>.f d|>.f e|>.f f|>.f g|>.f i|>.f j|>.f k|>.f l|>.f m|>.f n|>.f o|>.f p|>.f q|>.f r|>.f s|>.f t|>.f u|>.t v tv
def aPB:=fun a b c d e f g i j k l m n o p q r s t u v w=>eG a|>.f b|>.f c|>.f d|>.f e|>.f f|>.f g|>.f i|>.f j|>.f k|>.f l|>.f m|>.f n|>.f o|>.f p|>.f q|>.f r|>.f s|>.f t|>.f u|>.f v|>.t w tv
def aPC:=fun a b c d e f g i j k l m n o p q r s t u v w x=>eG a|>.f b|>.f c|>.f d|>.f e|>.f f|>.f g|>.f i|>.f j|>.f k|>.f l|>.f m|>.f n|>.f o|>.f p|>.f q|>.f r|>.f s|>.f t|>.f u|>.f v|>.f w|>.t x tv
def aPD:=fun a b c d e f g i j k l m n o p q r s t u v w x y=>eG a|>.f b|>.f c|>.f d|>.f e|>.f f|>.f g|>.f i|>.f j|>.f k|>.f l|>.f m|>.f n|>.f o|>.f p|>.f q|>.f r|>.f s|>.f t|>.f u|>.f v|>.f w|>.f x|>.t y tv
def aPE:=fun a b c d e f g i j k l m n o p q r s t u v w x y z=>eG a|>.f b|>.f c|>.f d|>.f e|>.f f|>.f g|>.f i|>.f j|>.f k|>.f l|>.f m|>.f n|>.f o|>.f p|>.f q|>.f r|>.f s|>.f t|>.f u|>.f v|>.f w|>.f x|>.f y|>.t z tv
def aPF:=fun a b c d e f g i j k l m n o p q r s t u v w x y z A=>eG a|>.f b|>.f c|>.f d|>.f e|>.f f|>.f g|>.f i|>.f j|>.f k|>.f l|>.f m|>.f n|>.f o|>.f p|>.f q|>.f r|>.f s|>.f t|>.f u|>.f v|>.f w|>.f x|>.f y|>.f z|>.t A tv
def aPG:=fun a b c d e f g i j k l m n o p q r s t u v w x y z A B=>eG a|>.f b|>.f c|>.f d|>.f e|>.f f|>.f g|>.f i|>.f j|>.f k|>.f l|>.f m|>.f n|>.f o|>.f p|>.f q|>.f r|>.f s|>.f t|>.f u|>.f v|>.f w|>.f x|>.f y|>.f z|>.f A|>.t B tv
def aPH:=fun a b c d e f g i j k l m n o p q r s t u v w x y z A B C=>eG a|>.f b|>.f c|>.f d|>.f e|>.f f|>.f g|>.f i|>.f j|>.f k|>.f l|>.f m|>.f n|>.f o|>.f p|>.f q|>.f r|>.f s|>.f t|>.f u|>.f v|>.f w|>.f x|>.f y|>.f z|>.f A|>.f B|>.t C tv
def aPI:=fun a b c d e f g i j k l m n o p q r s t u v w x y z A B C D=>eG a|>.f b|>.f c|>.f d|>.f e|>.f f|>.f g|>.f i|>.f j|>.f k|>.f l|>.f m|>.f n|>.f o|>.f p|>.f q|>.f r|>.f s|>.f t|>.f u|>.f v|>.f w|>.f x|>.f y|>.f z|>.f A|>.f B|>.f C|>.t D tv
def aPJ:=fun a b c d e f g i j k l m n o p q r s t u v w x y z A B C D=>eG a|>.f b|>.f c|>.f d|>.f e|>.f f|>.f g|>.f i|>.f j|>.f k|>.f l|>.f m|>.f n|>.f o|>.f p|>.f q|>.f r|>.f s|>.f t|>.f u|>.f v|>.f w|>.f x|>.f y|>.f z|>.f A|>.f B|>.f C|>.f D tv
def aLZ(a:aB):=tT 0 (start PP 85 [(aD a)])<|.b 9 5 (!(bM a.length (aA a) 0 0)) (gd 5 10 ((a.length:Int) ≤8) (eS 1 164 [(aD a)]<|fun b=>.b 2 14 b (eS 1 165 [(aD a)]<|fun c=>gE 5 0 (bV (!c)))<|gE 7 0 (bV false))<|gE 11 0 (bV false))<|gE 16 0 (bV false)
def aSs:=fun a b c d e f g i=>aLZ a|>.t d|>.t e b f|>.t g c i tv
def aSt:=fun a b c d e f=>aLZ a|>.t c|>.t d b e|>.f f tv
def aSu:=fun a b c=>aLZ a|>.t b|>.f c tv
def aSv:=fun a b=>aLZ a|>.f b tv
mutual
def jR :Pat→Int→Int
 | .mk _ _ _ ps,left=>if left<1 then -1 else hM ps (left-1)
def hM :List Pat→Int→Int
 | [],left=>left
 |p::ps,left=>if 0≤left then hM ps (jR p left)else left
end
mutual
theorem aHM :∀ (p:Pat) (left:Int),0≤left→ -1≤jR p left∧jR p left≤left-1
 | .mk _ _ _ ps,left,h=>by
  rw [jR];split
  ·omega
  ·have:=aEH ps (left-1) (by omega);omega
theorem aEH :∀ (ps:List Pat) (left:Int),-1≤left→ -1≤hM ps left∧hM ps left≤left
 | [],left,h=>by rw [hM];omega
 | p ::ps,left,h=>by
  rw [hM];split
  · rename_i h0;have a:=aHM p left h0;have:=aEH ps (jR p left) a.1;omega
  ·omega
end
theorem aBw (f n:Int)(s:aB)(ps:List Pat)(l0:Int)(ih:∀p∈ps,∀left:Int,0≤left→left≤1000→Pure PP 186 [Pat.av p,.int .i64 left] (.int .i64 (jR p left))) :
  ∀ (t:List Pat) (i:Nat) (left:Int),ps.drop i=t→ -1≤left→ (i:Int) +left≤1000→Ends PP 0 (vI f n s ps l0 left (i:Int)).as (.ret (.int .i64 (hM t left))) (aF [] 0)
 | [],i,left,h,h1,h2=>by
  have:=bE h;rw [hM];exact aKc f n s ps l0 left i sd
 | .mk f' n' s' ps'::t,i,left,h,h1,h2=>by
  obtain⟨g1,g2,g3⟩ :=bB h;rw [hM];split
  · rename_i h0;have w:=aHM (.mk f' n' s' ps') left h0;refine(aKa f n s ps l0 left i f' n' s' ps' _ sd sd sd sd (ih _ (mem_of_getElem? g1) left h0 (by omega)) sd).ends ?_;exact aBw f n s ps l0 ih t (i+1) _ g2 w.1 (by omega)
  ·exact aKb f n s ps l0 left i sd sd
mutual
theorem uG :∀ (p:Pat) (left:Int),-1≤left→left≤1000→Pure PP 186 [Pat.av p,.int .i64 left] (.int .i64 (jR p left))
 | .mk f n s ps,left,h0,h1=>by
  refine aV (by kernel_rfl) (by simp [keylessL,yB,keyless]) rfl ?_;rw [jR];split
  ·exact aJ8 f n s ps left sd
  · refine(aJ9 f n s ps left sd sd).ends ?_;exact aBw f n s ps left (fun p hp left h0 h1=>aC9 ps p hp left h0 h1) ps 0 _ rfl (by omega) (by omega)
theorem aC9 :∀ (ps:List Pat),∀p∈ps,∀left:Int,0≤left→left≤1000→Pure PP 186 [Pat.av p,.int .i64 left] (.int .i64 (jR p left))
 | [],p,hp,_,_,_=>by cases hp
 | q::ps,p,hp,left,h0,h1=>by
  rcases List.mem_cons.1 hp with e|hp
  ·rw [e];exact uG q left (by omega) h1
  ·exact aC9 ps p hp left h0 h1
end
mutual
def kZ :Pat→Bool
 | .mk _ _ s ps=>lM ps&&decide (s.length≤30)
def lM :List Pat→Bool
 | [] =>true
 |p::ps=>kZ p&&lM ps
end
mutual
def dM :Pat→Nat
 | .mk _ _ _ ps=>bQ ps+1
def bQ :List Pat→Nat
 | [] =>0
 |p::ps=>dM p+bQ ps
end
theorem rD :∀ps:List Pat,ps.length≤bQ ps
 | [] =>by simp [bQ]
 | .mk _ _ _ qs::ps=>by have:=rD ps;simp only [bQ,dM,List.length_cons];omega
mutual
theorem aDa :∀ (p:Pat) (left:Int),0≤jR p left→jR p left=left-dM p
 | .mk _ _ _ ps,left,h=>by
  rw [jR]at h ⊢;split at h
  ·omega
  · rename_i h1;rw [if_neg h1];have:=aBx ps (left-1) h;simp only [dM];omega
theorem aBx :∀ (ps:List Pat) (left:Int),0≤hM ps left→hM ps left=left-bQ ps
 | [],left,h=>by simp [hM,bQ]
 | p ::ps,left,h=>by
  rw [hM]at h ⊢;split at h
  · rename_i h1;rw [if_pos h1];have a:=aBx ps _ h;have b:=aDa p left (by omega);simp only [bQ];omega
  ·omega
end
mutual
theorem aDb :∀ (p:Pat) (left:Int),(dM p:Int) ≤left→jR p left=left-dM p
 | .mk _ _ _ ps,left,h=>by
  simp only [dM]at h ⊢;rw [jR,if_neg (by omega),aBy ps (left-1) (by omega)];omega
theorem aBy :∀ (ps:List Pat) (left:Int),(bQ ps:Int) ≤left→hM ps left=left-bQ ps
 | [],left,h=>by simp [hM,bQ]
 | p::ps,left,h=>by
  simp only [bQ]at h ⊢;rw [hM,if_pos (by omega),aDb p left (by omega),aBy ps _ (by omega)];omega
end
theorem vJ (p:Pat)(left:Int) :0≤jR p left↔ (dM p:Int) ≤left:=by
 constructor
 ·intro h;have:=aDa p left h;omega
 ·intro h;rw [aDb p left h];omega
theorem uH (f n:Int)(s:aB)(ps:List Pat)(hl:ps.length<1000000)(ih:∀p∈ps,Pure PP 199 [Pat.av p] (.bool (kZ p))) :
  ∀ (t:List Pat) (i:Nat),ps.drop i=t→Ends PP 0 (lL f n s ps (i:Int)).as (.ret (.bool (lM t&&decide (s.length≤30)))) (aF [] 0)
 | [],i,h=>by
  have:=bE h;have e:decide (((length s:Nat) :Int) ≤ (30:Int)) =decide (s.length≤30) :=by congr 1;simp;omega
  rw [lM,Bool.true_and,←e];exact aD6 f n s ps i sd
 | .mk f' n' s' ps'::t,i,h=>by
  obtain⟨g1,g2,g3⟩ :=bB h;have ihp:=ih _ (mem_of_getElem? g1);rw [lM];cases hb:kZ (.mk f' n' s' ps')with
  | false=>
   rw [hb]at ihp;exact aD4 f n s ps i f' n' s' ps' false sd sd sd ihp rfl
  | true=>
   rw [hb]at ihp;refine(aD5 f n s ps i f' n' s' ps' true sd sd sd ihp rfl sd).ends ?_;rw [Bool.true_and];exact uH f n s ps hl ih t (i+1) g2
mutual
theorem uI :∀ (p:Pat),dM p<1000000→Pure PP 199 [Pat.av p] (.bool (kZ p))
 | .mk f n s ps,h=>by
  refine aV (by kernel_rfl) (by simp [keylessL,yB]) rfl ?_;simp only [dM]at h;have:=rD ps;refine(aD3 f n s ps).ends ?_;rw [kZ];exact uH f n s ps (by omega) (xF ps (by omega)) ps 0 rfl
theorem xF :∀ (ps:List Pat),bQ ps<1000000→∀p∈ps,Pure PP 199 [Pat.av p] (.bool (kZ p))
 | [],_,p,hp=>by cases hp
 | q::ps,h,p,hp=>by
  simp only [bQ]at h;rcases List.mem_cons.1 hp with e|hp
  ·rw [e];exact uI q (by omega)
  ·exact xF ps (by omega) p hp
end
def uJ (p:Pat) :Bool:=decide (dM p≤16) &&kZ p
theorem aF4 (p:Pat) :Pure PP 136 [Pat.av p] (.bool (uJ p)) :=by
 refine aV (by kernel_rfl) (by simp [keylessL,yB]) rfl ?_;obtain⟨f,n,s,ps⟩ :=p;have hw:=uG (.mk f n s ps) 16 (by omega) (by omega);by_cases h:dM (.mk f n s ps) ≤16
 · have e:uJ (.mk f n s ps) =kZ (.mk f n s ps) :=by simp [uJ,h]
   rw [e];have hg:0≤jR (.mk f n s ps) 16:= (vJ (.mk f n s ps) 16).2 (by omega);exact aHH f n s ps _ _ hw (decide_eq_true hg) (uI (.mk f n s ps) (by omega))
 · have e:uJ (.mk f n s ps) =false:=by simp [uJ,h]
   rw [e];refine aHI f n s ps _ hw (decide_eq_false fun g=>h ?_);have:= (vJ (.mk f n s ps) 16).1 g;omega
def eY (l:List Con) :Bool:=l.all fun c=>decide (c.name.length≤40)
def gW (l:List Pat) :Bool:=l.all uJ
def aT (x:Node) :Bool:=decide (x.kids.length≤10) &&decide (x.pats.length≤10) &&gW x.pats
def aH (p:Prog) :Bool:=decide (p.nodes.length≤320) &&decide (p.funs.length≤320) &&decide (p.cons.length≤25) &&eY p.cons&&p.nodes.all aT
mutual
theorem aXg (p:Prog)(hn:p.nodes.length≤320) :∀ (t:List Node) (i:Nat),p.nodes.drop i=t→Ends PP 0 (kL p (i:Int)).as (.ret (.bool (t.all aT))) (aF [] 0)
 | [],i,h=>by
  have:=bE h;exact aC4 p i sd
 | x :: t,i,h=>by
  obtain⟨g1,g2,g3⟩ :=bB h;by_cases k1:x.kids.length≤10
  · by_cases k2:x.pats.length≤10
    · have e: (x::t).all aT= (gW (x.pats.drop 0) &&t.all aT) :=by simp [aT,k1,k2]
      rw [e];refine(aC3 p i x sd sd sd sd sd).ends ?_;have ih:=aXg p hn t (i+1) g2;clear e g1 g2 h
      suffices ∀ (u:List Pat) (k:Nat),x.pats.drop k=u→Ends PP 0 (kM p x.op x.n x.kids x.pats (k:Int) (i:Int)).as (.ret (.bool (gW u&&t.all aT))) (aF [] 0)from this _ 0 rfl
      intro u
      induction u with
      | nil=>
       intro k hk;have:=bE hk;refine(aC7 p x.op x.n x.kids x.pats k i sd sd).ends ?_;simp only [gW,all_nil,Bool.true_and];exact ih
      | cons q u ihu=>
       intro k hk;obtain⟨q1,q2,q3⟩ :=bB hk;obtain⟨f',n',s',ps'⟩ :=q;have hp:=aF4 (.mk f' n' s' ps');cases hb:uJ (.mk f' n' s' ps')with
       | false=>
        rw [hb]at hp;have e: (gW (.mk f' n' s' ps'::u) &&t.all aT) =false:=by simp [gW,hb]
        rw [e];exact aC5 p x.op x.n x.kids x.pats k i f' n' s' ps' false sd sd sd hp rfl
       | true=>
        rw [hb]at hp;have e: (gW (.mk f' n' s' ps'::u) &&t.all aT) = (gW u&&t.all aT) :=by simp [gW,hb]
        rw [e];refine(aC6 p x.op x.n x.kids x.pats k i f' n' s' ps' true sd sd sd hp rfl sd).ends ?_;exact ihu (k+1) q2
    · have e: (x::t).all aT=false:=by simp [aT,k2]
      rw [e];exact aC2 p i x sd sd sd sd sd
  · have e: (x::t).all aT=false:=by simp [aT,k1]
    rw [e];exact aC1 p i x sd sd sd sd
end
theorem aXh (p:Prog)(hc:p.cons.length≤25)(hn:p.nodes.length≤320) :∀ (t:List Con) (i:Nat),p.cons.drop i=t→Ends PP 0 (kK p (i:Int)).as (.ret (.bool (eY t&&p.nodes.all aT))) (aF [] 0)
 | [],i,h=>by
  have:=bE h;refine(aC0 p i sd).ends ?_;simp only [eY,all_nil,Bool.true_and];exact aXg p hn p.nodes 0 rfl
 | c ::t,i,h=>by
  obtain⟨g1,g2,g3⟩ :=bB h;by_cases k:c.name.length≤40
  · have e: (eY (c::t) &&p.nodes.all aT) = (eY t&&p.nodes.all aT) :=by simp [eY,k]
    rw [e];refine(aCZ p i c sd sd sd sd sd).ends ?_;exact aXh p hc hn t (i+1) g2
  · have e: (eY (c::t) &&p.nodes.all aT) =false:=by simp [eY,k]
    rw [e];exact aCY p i c sd sd sd sd
theorem aBO (p:Prog) :Pure PP 50 [Prog.av p] (.bool (aH p)) :=by
 refine aV (by kernel_rfl) rfl rfl ?_;by_cases h1:p.nodes.length≤320
 · by_cases h2:p.funs.length≤320
   · by_cases h3:p.cons.length≤25
     · have e:aH p= (eY p.cons&&p.nodes.all aT) :=by simp [aH,h1,h2,h3]
       rw [e];exact(aCX p sd sd sd).ends (aXh p h3 h1 p.cons 0 rfl)
     · have e:aH p=false:=by simp [aH,h3]
       rw [e];exact aCW p sd sd sd
   · have e:aH p=false:=by simp [aH,h2]
     rw [e];exact aCV p sd sd
 · have e:aH p=false:=by simp [aH,h1]
   rw [e];exact aCU p sd
def cX(b c:Int)(d:aB)(a:List Pat)(e:List Con)(f:Bool)(g:Int):TS:=⟨(tf 187 82 [(1,(iC e)),kp 2 0,(4,(bV false)),(5,(bV f)),(6,(nI (a.length:Int))),(7,(nI g))] [kc f187 1012,kl f187 1012,.inBlock 1,kc f187 127]),[],[oC 0 [(nI b),(nI c),(aD d),(iP a)]],1⟩
def rE(d b:Int)(a:aB)(c:List Pat)(e:List Con):=tT 0 (start PP 187 [(.agg [(nI d),(nI b),(aD a),(iP c)]),(iC e)])<|gm 13 aN c<|.b 15 13 (d==1) (.b 7 19 ((c.length:Int) ==0) (.b 11 61 (b==0) (.W 13 1 [0] (cX d b a c e (bM a.length (aA a) 0 0) 0))<|.W 13 1 [0] (cX d b a c e false 0))<|.W 24 1 [0] (cX d b a c e false 0))<|.b 6 13 (d==2) (.b 7 19 ((c.length:Int) ==0) (.b 11 61 (b==0) (.W 13 1 [0] (cX d b a c e (bM a.length (aA a) 0 0) 0))<|.W 13 1 [0] (cX d b a c e false 0))<|.W 24 1 [0] (cX d b a c e false 0))<|.b 5 13 (d==5) (.b 5 19 ((c.length:Int) ==0) (.b 11 61 (b==0) (.W 13 1 [0] (cX d b a c e (bM a.length (aA a) 0 0) 0))<|.W 13 1 [0] (cX d b a c e false 0))<|.W 24 1 [0] (cX d b a c e false 0))<|.b 6 24 (d==3) (.b 5 28 ((c.length:Int) ==0) (eS 2 117 [(nI b),(nI (-1000000000)),(nI 1000000000)]<|fun f=>.b 8 61 f (.W 13 1 [0] (cX d b a c e (bM a.length (aA a) 0 0) 0))<|.W 13 1 [0] (cX d b a c e false 0))<|.W 24 1 [0] (cX d b a c e false 0))<|.b 6 33 (d==4) (.b 5 37 ((c.length:Int) ==0) (eS 2 117 [(nI b),(nI 0),(nI 1)]<|fun f=>.b 8 61 f (.W 13 1 [0] (cX d b a c e (bM a.length (aA a) 0 0) 0))<|.W 13 1 [0] (cX d b a c e false 0))<|.W 24 1 [0] (cX d b a c e false 0))<|.b 6 42 (d==6) (gl 5 Con.av e<|gw 1 48 ((e.length:Int) -1)<|eS 0 117 [(nI b),(nI 0),(nI ((e.length:Int) -1))]<|fun f=>.b 1 50 f (gX Con.av 4 e b<|fun g=>.b 11 61 ((c.length:Int) ==g.args) (.W 13 1 [0] (cX d b a c e (bM a.length (aA a) 0 0) 0))<|.W 13 1 [0] (cX d b a c e false 0))<|.W 29 1 [0] (cX d b a c e false 0))<|.W 20 1 [0] (cX d b a c e false 0)
def aPK:=fun a b c d e f g i=>rE a b c d e|>.t f|>.t g|>.t i tv
def aPL:=fun a b c d e f g i=>rE a b c d e|>.t f|>.t g|>.f i tv
def aPM:=fun a b c d e f g=>rE a b c d e|>.t f|>.f g tv
def aPN:=fun a b c d e f g i j=>rE a b c d e|>.f f|>.t g|>.t i|>.t j tv
def aPO:=fun a b c d e f g i j=>rE a b c d e|>.f f|>.t g|>.t i|>.f j tv
def aPP:=fun a b c d e f g i=>rE a b c d e|>.f f|>.t g|>.f i tv
def aPQ:=fun a b c d e f g i j k=>rE a b c d e|>.f f|>.f g|>.t i|>.t j|>.t k tv
def aPR:=fun a b c d e f g i j k=>rE a b c d e|>.f f|>.f g|>.t i|>.t j|>.f k tv
def aPS:=fun a b c d e f g i j=>rE a b c d e|>.f f|>.f g|>.t i|>.f j tv
def aPT:=fun a b c d e f g i j k l m n=>rE a b c d e|>.f g|>.f i|>.f j|>.t k|>.t l f m|>.t n tv
def aMR:=fun a b c d e f g i j k l m n=>rE a b c d e|>.f g|>.f i|>.f j|>.t k|>.t l f m|>.f n tv
def aMS:=fun a b c d e f g i j k=>rE a b c d e|>.f f|>.f g|>.f i|>.t j|>.f k tv
def aMT:=fun a b c d e f g i j k l m n o=>rE a b c d e|>.f g|>.f i|>.f j|>.f k|>.t l|>.t m f n|>.t o tv
def aMU:=fun a b c d e f g i j k l m n o=>rE a b c d e|>.f g|>.f i|>.f j|>.f k|>.t l|>.t m f n|>.f o tv
def aMV:=fun a b c d e f g i j k l=>rE a b c d e|>.f f|>.f g|>.f i|>.f j|>.t k|>.f l tv
def aMW:=fun a b c d e f g i j k l m n o p q r s t=>rE a b c d e|>.f i|>.f j|>.f k|>.f l|>.f m|>.t n o f p|>.t q g r s|>.t t tv
def aMX:=fun a b c d e f g i j k l m n o p q r s t=>rE a b c d e|>.f i|>.f j|>.f k|>.f l|>.f m|>.t n o f p|>.t q g r s|>.f t tv
def aMY:=fun a b c d e f g i j k l m n o p=>rE a b c d e|>.f g|>.f i|>.f j|>.f k|>.f l|>.t m n f o|>.f p tv
def aMZ:=fun a b c d e f g i j k l=>rE a b c d e|>.f f|>.f g|>.f i|>.f j|>.f k|>.f l tv
def aWt(e f:Int)(g:aB)(b:List Pat)(d:List Con)(c:Bool)(a:Int):=tT 0 (cX e f g b d c a)<|gd 7 69 (a< (b.length:Int)) (.b 3 71 c (aJX 8 b a<|fun i j k l=>eS 2 187 [(.agg [(nI i),(nI j),(aD k),(iP l)]),(iC d)]<|fun m=>gw 6 73 (a+1)<|.W 3 1 [0] (cX e f g b d m (a+1)))<|gE 8 1 (bV c))<|gE 11 1 (bV c)
def aPU:=fun a b c d e f g i j k l m n o p q r s=>aWt a b c d e f g|>.t n|>.t o i j k l p q m r s tv
def aPV:=fun a b c d e f g i j=>aWt a b c d e f g|>.t i|>.f j tv
def aPW:=fun a b c d e f g i=>aWt a b c d e f g|>.f i tv
def jK(a b c:Int):=tT 0 (start PP 188 [(nI a),(nI b),(nI c)])<|.b 16 8 (a==1) (gE 8 0 (nI 0))<|.b 6 8 (a==2) (gE 8 0 (nI 0))<|.b 6 8 (a==3) (gE 8 0 (nI 0))<|.b 6 8 (a==4) (gE 8 0 (nI 0))<|.b 6 8 (a==21) (gE 8 0 (nI 0))<|.b 6 8 (a==25) (gE 8 0 (nI 0))<|.b 5 8 (a==28) (gE 6 0 (nI 0))<|.b 7 16 (a==5) (gE 8 0 (nI 1))<|.b 6 16 (a==27) (gE 8 0 (nI 1))<|.b 6 16 (a==16) (gE 8 0 (nI 1))<|.b 6 16 (a==17) (gE 8 0 (nI 1))<|.b 6 16 (a==19) (gE 8 0 (nI 1))<|.b 6 16 (a==20) (gE 8 0 (nI 1))<|.b 6 16 (a==23) (gE 8 0 (nI 1))<|.b 6 16 (a==26) (gE 8 0 (nI 1))<|.b 5 16 (a==24) (gE 6 0 (nI 1))<|.b 7 26 (a==6) (gE 8 0 (nI 2))<|.b 6 26 (a==7) (gE 8 0 (nI 2))<|.b 6 26 (a==9) (gE 8 0 (nI 2))<|.b 6 26 (a==10) (gE 8 0 (nI 2))<|.b 6 26 (a==11) (gE 8 0 (nI 2))<|.b 6 26 (a==12) (gE 8 0 (nI 2))<|.b 6 26 (a==13) (gE 8 0 (nI 2))<|.b 6 26 (a==18) (gE 8 0 (nI 2))<|.b 5 26 (a==22) (gE 6 0 (nI 2))<|.b 6 36 (a==8) (gE 6 0 (nI 3))<|.b 6 38 (a==15) (gw 5 41 (1+b)<|gE 3 0 (nI (1+b)))<|.b 6 42 (a==14) (gE 7 0 (nI c))<|gE 8 0 (nI (-1))
def aM0:=fun a b c d=>jK a b c|>.t d tv
def aM1:=fun a b c d e=>jK a b c|>.f d|>.t e tv
def aM2:=fun a b c d e f=>jK a b c|>.f d|>.f e|>.t f tv
def aM3:=fun a b c d e f g=>jK a b c|>.f d|>.f e|>.f f|>.t g tv
def aM4:=fun a b c d e f g i=>jK a b c|>.f d|>.f e|>.f f|>.f g|>.t i tv
def aM5:=fun a b c d e f g i j=>jK a b c|>.f d|>.f e|>.f f|>.f g|>.f i|>.t j tv
def aM6:=fun a b c d e f g i j k=>jK a b c|>.f d|>.f e|>.f f|>.f g|>.f i|>.f j|>.t k tv
def aM7:=fun a b c d e f g i j k l=>jK a b c|>.f d|>.f e|>.f f|>.f g|>.f i|>.f j|>.f k|>.t l tv
def aM8:=fun a b c d e f g i j k l m=>jK a b c|>.f d|>.f e|>.f f|>.f g|>.f i|>.f j|>.f k|>.f l|>.t m tv
def aM9:=fun a b c d e f g i j k l m n=>jK a b c|>.f d|>.f e|>.f f|>.f g|>.f i|>.f j|>.f k|>.f l|>.f m|>.t n tv
def aKd:=fun a b c d e f g i j k l m n o=>jK a b c|>.f d|>.f e|>.f f|>.f g|>.f i|>.f j|>.f k|>.f l|>.f m|>.f n|>.t o tv
def aKe:=fun a b c d e f g i j k l m n o p=>jK a b c|>.f d|>.f e|>.f f|>.f g|>.f i|>.f j|>.f k|>.f l|>.f m|>.f n|>.f o|>.t p tv
def aKf:=fun a b c d e f g i j k l m n o p q=>jK a b c|>.f d|>.f e|>.f f|>.f g|>.f i|>.f j|>.f k|>.f l|>.f m|>.f n|>.f o|>.f p|>.t q tv
def aKg:=fun a b c d e f g i j k l m n o p q r=>jK a b c|>.f d|>.f e|>.f f|>.f g|>.f i|>.f j|>.f k|>.f l|>.f m|>.f n|>.f o|>.f p|>.f q|>.t r tv
def aKh:=fun a b c d e f g i j k l m n o p q r s=>jK a b c|>.f d|>.f e|>.f f|>.f g|>.f i|>.f j|>.f k|>.f l|>.f m|>.f n|>.f o|>.f p|>.f q|>.f r|>.t s tv
def aKi:=fun a b c d e f g i j k l m n o p q r s t=>jK a b c|>.f d|>.f e|>.f f|>.f g|>.f i|>.f j|>.f k|>.f l|>.f m|>.f n|>.f o|>.f p|>.f q|>.f r|>.f s|>.t t tv
def aKj:=fun a b c d e f g i j k l m n o p q r s t u=>jK a b c|>.f d|>.f e|>.f f|>.f g|>.f i|>.f j|>.f k|>.f l|>.f m|>.f n|>.f o|>.f p|>.f q|>.f r|>.f s|>.f t|>.t u tv
def aKk:=fun a b c d e f g i j k l m n o p q r s t u v=>jK a b c|>.f d|>.f e|>.f f|>.f g|>.f i|>.f j|>.f k|>.f l|>.f m|>.f n|>.f o|>.f p|>.f q|>.f r|>.f s|>.f t|>.f u|>.t v tv
def aKl:=fun a b c d e f g i j k l m n o p q r s t u v w=>jK a b c|>.f d|>.f e|>.f f|>.f g|>.f i|>.f j|>.f k|>.f l|>.f m|>.f n|>.f o|>.f p|>.f q|>.f r|>.f s|>.f t|>.f u|>.f v|>.t w tv
def aKm:=fun a b c d e f g i j k l m n o p q r s t u v w x=>jK a b c|>.f d|>.f e|>.f f|>.f g|>.f i|>.f j|>.f k|>.f l|>.f m|>.f n|>.f o|>.f p|>.f q|>.f r|>.f s|>.f t|>.f u|>.f v|>.f w|>.t x tv
def aKn:=fun a b c d e f g i j k l m n o p q r s t u v w x y=>jK a b c|>.f d|>.f e|>.f f|>.f g|>.f i|>.f j|>.f k|>.f l|>.f m|>.f n|>.f o|>.f p|>.f q|>.f r|>.f s|>.f t|>.f u|>.f v|>.f w|>.f x|>.t y tv
def aKo:=fun a b c d e f g i j k l m n o p q r s t u v w x y z=>jK a b c|>.f d|>.f e|>.f f|>.f g|>.f i|>.f j|>.f k|>.f l|>.f m|>.f n|>.f o|>.f p|>.f q|>.f r|>.f s|>.f t|>.f u|>.f v|>.f w|>.f x|>.f y|>.t z tv
def aKp:=fun a b c d e f g i j k l m n o p q r s t u v w x y z A=>jK a b c|>.f d|>.f e|>.f f|>.f g|>.f i|>.f j|>.f k|>.f l|>.f m|>.f n|>.f o|>.f p|>.f q|>.f r|>.f s|>.f t|>.f u|>.f v|>.f w|>.f x|>.f y|>.f z|>.t A tv
def aKq:=fun a b c d e f g i j k l m n o p q r s t u v w x y z A B=>jK a b c|>.f d|>.f e|>.f f|>.f g|>.f i|>.f j|>.f k|>.f l|>.f m|>.f n|>.f o|>.f p|>.f q|>.f r|>.f s|>.f t|>.f u|>.f v|>.f w|>.f x|>.f y|>.f z|>.f A|>.t B tv
def aKr:=fun a b c d e f g i j k l m n o p q r s t u v w x y z A B C=>jK a b c|>.f d|>.f e|>.f f|>.f g|>.f i|>.f j|>.f k|>.f l|>.f m|>.f n|>.f o|>.f p|>.f q|>.f r|>.f s|>.f t|>.f u|>.f v|>.f w|>.f x|>.f y|>.f z|>.f A|>.f B|>.t C tv
def aKs:=fun a b c d e f g i j k l m n o p q r s t u v w x y z A B C D=>jK a b c|>.f d|>.f e|>.f f|>.f g|>.f i|>.f j|>.f k|>.f l|>.f m|>.f n|>.f o|>.f p|>.f q|>.f r|>.f s|>.f t|>.f u|>.f v|>.f w|>.f x|>.f y|>.f z|>.f A|>.f B|>.f C|>.t D tv
def aKt:=fun a b c d e f g i j k l m n o p q r s t u v w x y z A B C D F G=>jK a b c|>.f d|>.f e|>.f f|>.f g|>.f i|>.f j|>.f k|>.f l|>.f m|>.f n|>.f o|>.f p|>.f q|>.f r|>.f s|>.f t|>.f u|>.f v|>.f w|>.f x|>.f y|>.f z|>.f A|>.f B|>.f C|>.f D|>.t F G tv
def aKu:=fun a b c d e f g i j k l m n o p q r s t u v w x y z A B C D F G=>jK a b c|>.f d|>.f e|>.f f|>.f g|>.f i|>.f j|>.f k|>.f l|>.f m|>.f n|>.f o|>.f p|>.f q|>.f r|>.f s|>.f t|>.f u|>.f v|>.f w|>.f x|>.f y|>.f z|>.f A|>.f B|>.f C|>.f D|>.f F|>.t G tv
def aKv:=fun a b c d e f g i j k l m n o p q r s t u v w x y z A B C D F G=>jK a b c|>.f d|>.f e|>.f f|>.f g|>.f i|>.f j|>.f k|>.f l|>.f m|>.f n|>.f o|>.f p|>.f q|>.f r|>.f s|>.f t|>.f u|>.f v|>.f w|>.f x|>.f y|>.f z|>.f A|>.f B|>.f C|>.f D|>.f F|>.f G tv
theorem Ends.eqv {P:Program}{m:Nat}{s:AS}{v v':AV}{h':Hp}(h:Ends P m s (.ret v) h')(e:v=v') :Ends P m s (.ret v') h':=e ▸ h
theorem inB_iff {n lo hi:Int}:cS n lo hi=true↔lo≤n∧n≤hi:=by simp [cS]
theorem inB_not {n lo hi:Int}:cS n lo hi=false↔¬ (lo≤n∧n≤hi) :=by simp [cS]
theorem sdI {p:Prop}(h:p:=by first|assumption|rfl| (simp only [Int.toNat_natCast];assumption) | (simp only [decide_eq_true_eq,decide_eq_false_iff_not];omega) |omega| (apply wrap64<;>omega) | (simp_all;done) | (simp only [inB_iff,inB_not,beq_iff_eq,decide_eq_true_eq,decide_eq_false_iff_not]at *;omega)) :p:=h
theorem idT {p:Prop}(h:p:=by exact⟨_,List.getElem?_eq_getElem (by simp only [inB_iff,inB_not,beq_iff_eq,decide_eq_true_eq,decide_eq_false_iff_not]at *;omega)⟩) :p:=h
def cT (op pats args:Int) :Int:=
 if op=1∨op=2∨op=3∨op=4∨op=21∨op=25∨op=28 then 0
 else if op=5∨op=27∨op=16∨op=17∨op=19∨op=20∨op=23∨op=26∨op=24 then 1
 else if op=6∨op=7∨op=9∨op=10∨op=11∨op=12∨op=13∨op=18∨op=22 then 2
 else if op=8 then 3 else if op=15 then 1+pats else if op=14 then args else -1
theorem rKids_E (op pats args :Int)(hp:0≤pats)(hp2:pats≤1000) :Ends PP 0 (start PP 188 [.int .i64 op,.int .i64 pats,.int .i64 args]).as (.ret (.int .i64 (cT op pats args))) (aF [] 0) :=by
 cases hb1: (op== (1:Int))with
 | true=>
  exact Ends.eqv (aM0 op pats args   hb1) (by simp_all [cT])
 | false =>
  cases hb2: (op== (2:Int))with
  | true=>
   exact Ends.eqv (aM1 op pats args   hb1 hb2) (by simp_all [cT])
  | false =>
   cases hb3: (op== (3:Int))with
   | true=>
    exact Ends.eqv (aM2 op pats args   hb1 hb2 hb3) (by simp_all [cT])
   | false =>
    cases hb4: (op== (4:Int))with
    | true=>
     exact Ends.eqv (aM3 op pats args   hb1 hb2 hb3 hb4) (by simp_all [cT])
    | false =>
     cases hb5: (op== (21:Int))with
     | true=>
      exact Ends.eqv (aM4 op pats args   hb1 hb2 hb3 hb4 hb5) (by simp_all [cT])
     | false =>
      cases hb6: (op== (25:Int))with
      | true=>
       exact Ends.eqv (aM5 op pats args   hb1 hb2 hb3 hb4 hb5 hb6) (by simp_all [cT])
      | false =>
       cases hb7: (op== (28:Int))with
       | true=>
        exact Ends.eqv (aM6 op pats args   hb1 hb2 hb3 hb4 hb5 hb6 hb7) (by simp_all [cT])
       | false =>
        cases hb8: (op== (5:Int))with
        | true=>
         exact Ends.eqv (aM7 op pats args   hb1 hb2 hb3 hb4 hb5 hb6 hb7 hb8) (by simp_all [cT])
        | false =>
         cases hb9: (op== (27:Int))with
         | true=>
          exact Ends.eqv (aM8 op pats args   hb1 hb2 hb3 hb4 hb5 hb6 hb7 hb8 hb9) (by simp_all [cT])
         | false =>
          cases hb10: (op== (16:Int))with
          | true=>
           exact Ends.eqv (aM9 op pats args   hb1 hb2 hb3 hb4 hb5 hb6 hb7 hb8 hb9 hb10) (by simp_all [cT])
          | false =>
           cases hb11: (op== (17:Int))with
           | true=>
            exact Ends.eqv (aKd op pats args   hb1 hb2 hb3 hb4 hb5 hb6 hb7 hb8 hb9 hb10 hb11) (by simp_all [cT])
           | false =>
            cases hb12: (op== (19:Int))with
            | true=>
             exact Ends.eqv (aKe op pats args   hb1 hb2 hb3 hb4 hb5 hb6 hb7 hb8 hb9 hb10 hb11 hb12) (by simp_all [cT])
            | false =>
             cases hb13: (op== (20:Int))with
             | true=>
              exact Ends.eqv (aKf op pats args   hb1 hb2 hb3 hb4 hb5 hb6 hb7 hb8 hb9 hb10 hb11 hb12 hb13) (by simp_all [cT])
             | false =>
              cases hb14: (op== (23:Int))with
              | true=>
               exact Ends.eqv (aKg op pats args   hb1 hb2 hb3 hb4 hb5 hb6 hb7 hb8 hb9 hb10 hb11 hb12 hb13 hb14) (by simp_all [cT])
              | false =>
               cases hb15: (op== (26:Int))with
               | true=>
                exact Ends.eqv (aKh op pats args   hb1 hb2 hb3 hb4 hb5 hb6 hb7 hb8 hb9 hb10 hb11 hb12 hb13 hb14 hb15) (by simp_all [cT])
               | false =>
                cases hb16: (op== (24:Int))with
                | true=>
                 exact Ends.eqv (aKi op pats args   hb1 hb2 hb3 hb4 hb5 hb6 hb7 hb8 hb9 hb10 hb11 hb12 hb13 hb14 hb15 hb16) (by simp_all [cT])
                | false =>
                 cases hb17: (op== (6:Int))with
                 | true=>
                  exact Ends.eqv (aKj op pats args   hb1 hb2 hb3 hb4 hb5 hb6 hb7 hb8 hb9 hb10 hb11 hb12 hb13 hb14 hb15 hb16 hb17) (by simp_all [cT])
                 | false =>
                  cases hb18: (op== (7:Int))with
                  | true=>
                   exact Ends.eqv (aKk op pats args   hb1 hb2 hb3 hb4 hb5 hb6 hb7 hb8 hb9 hb10 hb11 hb12 hb13 hb14 hb15 hb16 hb17 hb18) (by simp_all [cT])
                  | false =>
                   cases hb19: (op== (9:Int))with
                   | true=>
                    exact Ends.eqv (aKl op pats args   hb1 hb2 hb3 hb4 hb5 hb6 hb7 hb8 hb9 hb10 hb11 hb12 hb13 hb14 hb15 hb16 hb17 hb18 hb19) (by simp_all [cT])
                   | false =>
                    cases hb20: (op== (10:Int))with
                    | true=>
                     exact Ends.eqv (aKm op pats args   hb1 hb2 hb3 hb4 hb5 hb6 hb7 hb8 hb9 hb10 hb11 hb12 hb13 hb14 hb15 hb16 hb17 hb18 hb19 hb20) (by simp_all [cT])
                    | false =>
                     cases hb21: (op== (11:Int))with
                     | true=>
                      exact Ends.eqv (aKn op pats args   hb1 hb2 hb3 hb4 hb5 hb6 hb7 hb8 hb9 hb10 hb11 hb12 hb13 hb14 hb15 hb16 hb17 hb18 hb19 hb20 hb21) (by simp_all [cT])
                     | false =>
                      cases hb22: (op== (12:Int))with
                      | true=>
                       exact Ends.eqv (aKo op pats args   hb1 hb2 hb3 hb4 hb5 hb6 hb7 hb8 hb9 hb10 hb11 hb12 hb13 hb14 hb15 hb16 hb17 hb18 hb19 hb20 hb21 hb22) (by simp_all [cT])
                      | false =>
                       cases hb23: (op== (13:Int))with
                       | true=>
                        exact Ends.eqv (aKp op pats args   hb1 hb2 hb3 hb4 hb5 hb6 hb7 hb8 hb9 hb10 hb11 hb12 hb13 hb14 hb15 hb16 hb17 hb18 hb19 hb20 hb21 hb22 hb23) (by simp_all [cT])
                       | false=>
                        cases hb24: (op== (18:Int))with
                        | true=>
                         exact Ends.eqv (aKq op pats args   hb1 hb2 hb3 hb4 hb5 hb6 hb7 hb8 hb9 hb10 hb11 hb12 hb13 hb14 hb15 hb16 hb17 hb18 hb19 hb20 hb21 hb22 hb23 hb24) (by simp_all [cT])
                        | false=>
                         cases hb25: (op== (22:Int))with
                         | true=>
                          exact Ends.eqv (aKr op pats args   hb1 hb2 hb3 hb4 hb5 hb6 hb7 hb8 hb9 hb10 hb11 hb12 hb13 hb14 hb15 hb16 hb17 hb18 hb19 hb20 hb21 hb22 hb23 hb24 hb25) (by simp_all [cT])
                         | false=>
                          cases hb26: (op== (8:Int))with
                          | true=>
                           exact Ends.eqv (aKs op pats args   hb1 hb2 hb3 hb4 hb5 hb6 hb7 hb8 hb9 hb10 hb11 hb12 hb13 hb14 hb15 hb16 hb17 hb18 hb19 hb20 hb21 hb22 hb23 hb24 hb25 hb26) (by simp_all [cT])
                          | false=>
                           cases hb27: (op== (15:Int))with
                           | true=>
                            exact Ends.eqv (aKt op pats args   hb1 hb2 hb3 hb4 hb5 hb6 hb7 hb8 hb9 hb10 hb11 hb12 hb13 hb14 hb15 hb16 hb17 hb18 hb19 hb20 hb21 hb22 hb23 hb24 hb25 hb26 hb27 sdI) (by simp_all [cT])
                           | false=>
                            cases hb28: (op== (14:Int))with
                            | true=>
                             exact Ends.eqv (aKu op pats args   hb1 hb2 hb3 hb4 hb5 hb6 hb7 hb8 hb9 hb10 hb11 hb12 hb13 hb14 hb15 hb16 hb17 hb18 hb19 hb20 hb21 hb22 hb23 hb24 hb25 hb26 hb27 hb28) (by simp_all [cT])
                            | false=>
                             exact Ends.eqv (aKv op pats args   hb1 hb2 hb3 hb4 hb5 hb6 hb7 hb8 hb9 hb10 hb11 hb12 hb13 hb14 hb15 hb16 hb17 hb18 hb19 hb20 hb21 hb22 hb23 hb24 hb25 hb26 hb27 hb28) (by simp_all [cT])
theorem aKw (op pats args:Int)(hp:0≤pats)(hp2:pats≤1000) :Pure PP 188 [.int .i64 op,.int .i64 pats,.int .i64 args] (.int .i64 (cT op pats args)) :=
 aV (by kernel_rfl) rfl rfl (rKids_E op pats args hp hp2)
def dW (cons:List Con)(n:Int) :Int:=match cons[n.toNat]? with
 |some c=>c.args
 |none=> -1
def dF (cons:List Con)(f n:Int)(s:aB)(k:Nat) :Bool:=
 (if f=1∨f=2∨f=5 then decide (k=0) &&decide (n=0)
 else if f=3 then decide (k=0) &&cS n (-1000000000) 1000000000
 else if f=4 then decide (k=0) &&cS n 0 1
 else if f=6 then cS n 0 ((cons.length:Int) -1) &&decide ((k:Int) =dW cons n)
 else false) &&decide (s= [])
mutual
def cY (cons:List Con) :Pat→Bool
 | .mk f n s ps=>dF cons f n s ps.length&&bY cons ps
def bY (cons:List Con) :List Pat→Bool
 | [] =>true
 |p::ps=>cY cons p&&bY cons ps
end
theorem ptT {p:Prop}(h:p:=by simp_all [dF,dW,cR]) :p:=h
theorem aWu (q_form q_n:Int)(q_text:aB)(q_parts:List Pat)(cons:List Con)(hc:cons.length≤1000)(b:Bool)(hk:∀i:Bool,i=dF cons q_form q_n q_text q_parts.length→Ends PP 0 (cX q_form q_n q_text q_parts cons i 0).as (.ret (.bool b)) (aF [] 0)) :
  Ends PP 0 (start PP 187 [Pat.av (.mk q_form q_n q_text q_parts),.ilst 2 (map Con.av cons) false]).as (.ret (.bool b)) (aF [] 0) :=by
 cases hb1: (q_form== (1:Int))with
 | true=>
  cases hb2: (((length q_parts:Nat) :Int) == (0:Int))with
  | true=>
   cases hb3: (q_n== (0:Int))with
   | true=>
    exact LeadsM.ends (aPK q_form q_n q_text q_parts cons   hb1 hb2 hb3) (hk _ (by clear hk;exact ptT))
   | false=>
    exact LeadsM.ends (aPL q_form q_n q_text q_parts cons   hb1 hb2 hb3) (hk _ (by clear hk;exact ptT))
  | false=>
   exact LeadsM.ends (aPM q_form q_n q_text q_parts cons   hb1 hb2) (hk _ (by clear hk;exact ptT))
 | false =>
  cases hb4: (q_form== (2:Int))with
  | true=>
   cases hb5: (((length q_parts:Nat) :Int) == (0:Int))with
   | true=>
    cases hb6: (q_n== (0:Int))with
    | true=>
     exact LeadsM.ends (aPN q_form q_n q_text q_parts cons   hb1 hb4 hb5 hb6) (hk _ (by clear hk;exact ptT))
    | false=>
     exact LeadsM.ends (aPO q_form q_n q_text q_parts cons   hb1 hb4 hb5 hb6) (hk _ (by clear hk;exact ptT))
   | false=>
    exact LeadsM.ends (aPP q_form q_n q_text q_parts cons   hb1 hb4 hb5) (hk _ (by clear hk;exact ptT))
  | false =>
   cases hb7: (q_form== (5:Int))with
   | true=>
    cases hb8: (((length q_parts:Nat) :Int) == (0:Int))with
    | true=>
     cases hb9: (q_n== (0:Int))with
     | true=>
      exact LeadsM.ends (aPQ q_form q_n q_text q_parts cons   hb1 hb4 hb7 hb8 hb9) (hk _ (by clear hk;exact ptT))
     | false=>
      exact LeadsM.ends (aPR q_form q_n q_text q_parts cons   hb1 hb4 hb7 hb8 hb9) (hk _ (by clear hk;exact ptT))
    | false=>
     exact LeadsM.ends (aPS q_form q_n q_text q_parts cons   hb1 hb4 hb7 hb8) (hk _ (by clear hk;exact ptT))
   | false=>
    cases hb10: (q_form== (3:Int))with
    | true=>
     cases hb11: (((length q_parts:Nat) :Int) == (0:Int))with
     | true=>
      cases hb12: (cS q_n (-1000000000) 1000000000)with
      | true=>
       exact LeadsM.ends (aPT q_form q_n q_text q_parts cons  (cS q_n (-1000000000) 1000000000) hb1 hb4 hb7 hb10 hb11 (aR q_n (-1000000000) 1000000000) hb12) (hk _ (by clear hk;exact ptT))
      | false=>
       exact LeadsM.ends (aMR q_form q_n q_text q_parts cons  (cS q_n (-1000000000) 1000000000) hb1 hb4 hb7 hb10 hb11 (aR q_n (-1000000000) 1000000000) hb12) (hk _ (by clear hk;exact ptT))
     | false=>
      exact LeadsM.ends (aMS q_form q_n q_text q_parts cons   hb1 hb4 hb7 hb10 hb11) (hk _ (by clear hk;exact ptT))
    | false=>
     cases hb13: (q_form== (4:Int))with
     | true=>
      cases hb14: (((length q_parts:Nat) :Int) == (0:Int))with
      | true=>
       cases hb15: (cS q_n 0 1)with
       | true=>
        exact LeadsM.ends (aMT q_form q_n q_text q_parts cons  (cS q_n 0 1) hb1 hb4 hb7 hb10 hb13 hb14 (aR q_n 0 1) hb15) (hk _ (by clear hk;exact ptT))
       | false=>
        exact LeadsM.ends (aMU q_form q_n q_text q_parts cons  (cS q_n 0 1) hb1 hb4 hb7 hb10 hb13 hb14 (aR q_n 0 1) hb15) (hk _ (by clear hk;exact ptT))
      | false=>
       exact LeadsM.ends (aMV q_form q_n q_text q_parts cons   hb1 hb4 hb7 hb10 hb13 hb14) (hk _ (by clear hk;exact ptT))
     | false=>
      cases hb16: (q_form== (6:Int))with
      | true=>
       cases hb17: (cS q_n 0 (((length cons:Nat) :Int) - (1:Int)))with
       | true=>
        obtain⟨y1,hx18⟩ :∃y,((cons)[q_n.toNat]?) =some y:=idT;cases hb19: (((length q_parts:Nat) :Int) ==y1.args)with
        | true=>
         exact LeadsM.ends (aMW q_form q_n q_text q_parts cons  (cS q_n 0 (((length cons:Nat) :Int) - (1:Int))) y1 hb1 hb4 hb7 hb10 hb13 hb16 sdI (aR q_n 0 (((length cons:Nat) :Int) - (1:Int))) hb17 sdI hx18 hb19) (hk _ (by clear hk;exact ptT))
        | false=>
         exact LeadsM.ends (aMX q_form q_n q_text q_parts cons  (cS q_n 0 (((length cons:Nat) :Int) - (1:Int))) y1 hb1 hb4 hb7 hb10 hb13 hb16 sdI (aR q_n 0 (((length cons:Nat) :Int) - (1:Int))) hb17 sdI hx18 hb19) (hk _ (by clear hk;exact ptT))
       | false=>
        exact LeadsM.ends (aMY q_form q_n q_text q_parts cons  (cS q_n 0 (((length cons:Nat) :Int) - (1:Int))) hb1 hb4 hb7 hb10 hb13 hb16 sdI (aR q_n 0 (((length cons:Nat) :Int) - (1:Int))) hb17) (hk _ (by clear hk;exact ptT))
      | false=>
       exact LeadsM.ends (aMZ q_form q_n q_text q_parts cons   hb1 hb4 hb7 hb10 hb13 hb16) (hk _ (by clear hk;exact ptT))
theorem aEI (f n:Int)(s:aB)(ps:List Pat)(cons:List Con)(hl:ps.length<1000000)(ih:∀p∈ps,Pure PP 187 [Pat.av p,.ilst 2 (map Con.av cons) false] (.bool (cY cons p))) :
  ∀ (t:List Pat) (i:Nat) (b:Bool),ps.drop i=t→Ends PP 0 (cX f n s ps cons b (i:Int)).as (.ret (.bool (b&&bY cons t))) (aF [] 0)
 | [],i,b,h=>by
  have:=bE h;exact Ends.eqv (aPW f n s ps cons b i sd) (by simp [bY])
 | .mk f' n' s' ps'::t,i,b,h=>by
  obtain⟨g1,g2,g3⟩ :=bB h;cases b with
  |false=>exact Ends.eqv (aPV f n s ps cons false i sd rfl) (by simp)
  | true=>
   refine(aPU f n s ps cons true i f' n' s' ps' _ sd rfl sd sd (ih (.mk f' n' s' ps') (mem_of_getElem? g1)) sd).ends ?_;exact Ends.eqv (aEI f n s ps cons hl ih t (i+1) _ g2) (by simp [bY])
mutual
theorem aEJ (cons:List Con)(hc:cons.length≤1000) :∀ (p:Pat),dM p<1000000→Pure PP 187 [Pat.av p,.ilst 2 (map Con.av cons) false] (.bool (cY cons p))
 | .mk f n s ps,h=>by
  refine aV (by kernel_rfl) (by simp [keylessL,yB,keyless]) rfl ?_;simp only [dM]at h;have:=rD ps;refine aWu f n s ps cons hc _ (fun i hi=>?_);subst hi;rw [cY];exact aEI f n s ps cons (by omega) (aHO cons hc ps (by omega)) ps 0 _ rfl
theorem aHO (cons:List Con)(hc:cons.length≤1000) :∀ (ps:List Pat),bQ ps<1000000→∀p∈ps,Pure PP 187 [Pat.av p,.ilst 2 (map Con.av cons) false] (.bool (cY cons p))
 | [],_,p,hp=>by cases hp
 | q::ps,h,p,hp=>by
  simp only [bQ]at h;rcases List.mem_cons.1 hp with e|hp
  ·rw [e];exact aEJ cons hc q (by omega)
  ·exact aHO cons hc ps (by omega) p hp
end
def bJ(a:Prog)(b:Node)(c:Bool)(d e:Int):TS:=⟨(tf 119 112 [kp 2 0,kp 3 1,(4,(bV false)),(5,(nI d)),(6,(bV c)),(7,(nI e))] [kc f119 1012,kl f119 1012,.inBlock 1,kc f119 127]),[],[oC 0 [(iN a.nodes),(iI a.funs),(nI a.main),(iC a.cons)],oC 1 [(nI b.op),(nI b.n),(iI b.kids),(iP b.pats)]],2⟩
def aAb(b:List Con)(c:Int)(a:List aB):TS:=⟨(tf 118 42 [(0,(iC b)),(2,(bV false)),(3,(.gl 0 1 0 a.length false)),(4,(nI c))] [kc f118 116,kl f118 116,.inBlock 0,kc f118 15]),[],[oL 0 1 (map aD a)],1⟩
def rF(a:Prog)(c:Int)(b:List Bool):TS:=⟨(tf 38 133 [kp 1 0,(2,(bV false)),(3,(nI (a.nodes.length:Int))),(4,(.gl 1 1 0 b.length true)),(5,(nI c))] [kc f38 500,kl f38 500,.inBlock 0,kc f38 63]),[],[oC 0 [(iN a.nodes),(iI a.funs),(nI a.main),(iC a.cons)],oL 1 1 (map fX b)],2⟩
def mK(a:Prog)(b:List Bool)(c:Int):TS:=⟨(tf 38 133 [kp 1 0,(2,(bV false)),(3,(nI (a.nodes.length:Int))),(4,(.gl 1 1 0 b.length true)),(6,(nI c))] [kc f38 1012,kl f38 1012,.inBlock 2,kc f38 127]),[],[oC 0 [(iN a.nodes),(iI a.funs),(nI a.main),(iC a.cons)],oL 1 1 (map fX b)],2⟩
def rG(a:Prog)(b:List Bool)(c d:Int):TS:=⟨(tf 38 133 [kp 1 0,(2,(bV false)),(3,(nI (a.nodes.length:Int))),(4,(.gl 1 1 0 b.length true)),(6,(nI d)),(7,(nI c))] [kc f38 129612,kl f38 129612,.inBlock 4,.inBlock 3,kc f38 4051,kl f38 1012,.inBlock 2,kc f38 127]),[],[oC 0 [(iN a.nodes),(iI a.funs),(nI a.main),(iC a.cons)],oL 1 1 (map fX b)],2⟩
def rH(b:Prog)(a:List Bool)(c:Int):TS:=⟨(tf 38 133 [(2,(bV false)),(3,(nI (b.nodes.length:Int))),(4,(.gl 0 1 0 a.length true)),(9,(nI c))] [kc f38 2036,kl f38 2036,.inBlock 6,kc f38 255]),[],[oL 0 1 (map fX a)],1⟩
def lN(b:Prog)(a:Node):=tT 0 (start PP 119 [(Prog.av b),(Node.av a)])<|.b 29 13 (a.op==1) (eS 4 117 [(nI a.n),(nI (-1000000000)),(nI 1000000000)]<|fun c=>.b 10 56 (a.op==15) (.b 4 58 c (gm 2 aN a.pats<|eS 0 117 [(nI (a.pats.length:Int)),(nI 1),(nI 5)]<|fun d=>.W 10 2 [0,1] (bJ b a d 0 0))<|.W 14 2 [0,1] (bJ b a false 0 0))<|.b 4 65 c (gm 2 aN a.pats<|.W 11 2 [0,1] (bJ b a ((a.pats.length:Int) ==0) 0 0))<|.W 14 2 [0,1] (bJ b a false 0 0))<|.b 6 18 (a.op==2) (eS 4 117 [(nI a.n),(nI 0),(nI 1)]<|fun c=>.b 10 56 (a.op==15) (.b 4 58 c (gm 2 aN a.pats<|eS 0 117 [(nI (a.pats.length:Int)),(nI 1),(nI 5)]<|fun d=>.W 10 2 [0,1] (bJ b a d 0 0))<|.W 14 2 [0,1] (bJ b a false 0 0))<|.b 4 65 c (gm 2 aN a.pats<|.W 11 2 [0,1] (bJ b a ((a.pats.length:Int) ==0) 0 0))<|.W 14 2 [0,1] (bJ b a false 0 0))<|.b 6 23 (a.op==4) (gl 6 bL b.funs<|gw 1 30 (0- (b.funs.length:Int))<|eS 0 117 [(nI a.n),(nI (0- (b.funs.length:Int))),(nI 29)]<|fun c=>.b 10 56 (a.op==15) (.b 4 58 c (gm 2 aN a.pats<|eS 0 117 [(nI (a.pats.length:Int)),(nI 1),(nI 5)]<|fun d=>.W 10 2 [0,1] (bJ b a d 0 0))<|.W 14 2 [0,1] (bJ b a false 0 0))<|.b 4 65 c (gm 2 aN a.pats<|.W 11 2 [0,1] (bJ b a ((a.pats.length:Int) ==0) 0 0))<|.W 14 2 [0,1] (bJ b a false 0 0))<|.b 6 32 (a.op==24) (eS 4 117 [(nI a.n),(nI 0),(nI 3)]<|fun c=>.b 10 56 (a.op==15) (.b 4 58 c (gm 2 aN a.pats<|eS 0 117 [(nI (a.pats.length:Int)),(nI 1),(nI 5)]<|fun d=>.W 10 2 [0,1] (bJ b a d 0 0))<|.W 14 2 [0,1] (bJ b a false 0 0))<|.b 4 65 c (gm 2 aN a.pats<|.W 11 2 [0,1] (bJ b a ((a.pats.length:Int) ==0) 0 0))<|.W 14 2 [0,1] (bJ b a false 0 0))<|.b 6 37 (a.op==14) (gl 7 Con.av b.cons<|gw 1 44 ((b.cons.length:Int) -1)<|eS 0 117 [(nI a.n),(nI 0),(nI ((b.cons.length:Int) -1))]<|fun c=>.b 6 46 c (gX Con.av 6 b.cons a.n<|fun d=>.b 12 56 (a.op==15) (.b 4 58 c (gm 2 aN a.pats<|eS 0 117 [(nI (a.pats.length:Int)),(nI 1),(nI 5)]<|fun e=>.W 10 2 [0,1] (bJ b a e d.args 0)) .x)<|.b 4 65 c (gm 2 aN a.pats<|.W 11 2 [0,1] (bJ b a ((a.pats.length:Int) ==0) d.args 0)) .x)<|.b 10 56 (a.op==15) (.b 4 58 c .x<|.W 14 2 [0,1] (bJ b a false 0 0))<|.b 4 65 c .x<|.W 14 2 [0,1] (bJ b a false 0 0))<|.b 10 56 (a.op==15) (.b 4 58 (a.n==0) (gm 2 aN a.pats<|eS 0 117 [(nI (a.pats.length:Int)),(nI 1),(nI 5)]<|fun c=>.W 10 2 [0,1] (bJ b a c 0 0))<|.W 14 2 [0,1] (bJ b a false 0 0))<|.b 4 65 (a.n==0) (gm 2 aN a.pats<|.W 11 2 [0,1] (bJ b a ((a.pats.length:Int) ==0) 0 0))<|.W 14 2 [0,1] (bJ b a false 0 0)
def aNa:=fun a b c d e f g i j=>lN a b|>.t e c f|>.t g|>.t i d j tv
def aNb:=fun a b c d e f g=>lN a b|>.t d c e|>.t f|>.f g tv
def aNc:=fun a b c d e f g=>lN a b|>.t d c e|>.f f|>.t g tv
def aNd:=fun a b c d e f g=>lN a b|>.t d c e|>.f f|>.f g tv
def aNe:=fun a b c d e f g i j k=>lN a b|>.f e|>.t f c g|>.t i|>.t j d k tv
def aNf:=fun a b c d e f g i=>lN a b|>.f d|>.t e c f|>.t g|>.f i tv
def aNg:=fun a b c d e f g i=>lN a b|>.f d|>.t e c f|>.f g|>.t i tv
def aNh:=fun a b c d e f g i=>lN a b|>.f d|>.t e c f|>.f g|>.f i tv
def aNi:=fun a b c d e f g i j k l m=>lN a b|>.f e|>.f f|>.t g i c j|>.t k|>.t l d m tv
def aNj:=fun a b c d e f g i j k=>lN a b|>.f d|>.f e|>.t f g c i|>.t j|>.f k tv
def aKx:=fun a b c d e f g i j k=>lN a b|>.f d|>.f e|>.t f g c i|>.f j|>.t k tv
def aKy:=fun a b c d e f g i j k=>lN a b|>.f d|>.f e|>.t f g c i|>.f j|>.f k tv
def aKz:=fun a b c d e f g i j k l m=>lN a b|>.f e|>.f f|>.f g|>.t i c j|>.t k|>.t l d m tv
def aKA:=fun a b c d e f g i j k=>lN a b|>.f d|>.f e|>.f f|>.t g c i|>.t j|>.f k tv
def aKB:=fun a b c d e f g i j k=>lN a b|>.f d|>.f e|>.f f|>.t g c i|>.f j|>.t k tv
def aKC:=fun a b c d e f g i j k=>lN a b|>.f d|>.f e|>.f f|>.t g c i|>.f j|>.f k tv
def aKD:=fun b c d e f g i j k l m n a o p q r=>lN b c|>.f g|>.f i|>.f j|>.f k|>.t l m d n|>.t a e o p|>.t q|>.t a f r tv
def aKE:=fun b c d e f g i j k l m a n o p=>lN b c|>.f f|>.f g|>.f i|>.f j|>.t k l d m|>.t a e n o|>.f p|>.t a tv
def aKF:=fun b c d e f g i j k l a m=>lN b c|>.f e|>.f f|>.f g|>.f i|>.t j k d l|>.f a|>.t m|>.f a tv
def aKG:=fun b c d e f g i j k l a m=>lN b c|>.f e|>.f f|>.f g|>.f i|>.t j k d l|>.f a|>.f m|>.f a tv
def aKH:=fun a b c d e f g i j k l=>lN a b|>.f d|>.f e|>.f f|>.f g|>.f i|>.t j|>.t k c l tv
def aKI:=fun a b c d e f g i j=>lN a b|>.f c|>.f d|>.f e|>.f f|>.f g|>.t i|>.f j tv
def aKJ:=fun a b c d e f g i j=>lN a b|>.f c|>.f d|>.f e|>.f f|>.f g|>.f i|>.t j tv
def aKK:=fun a b c d e f g i j=>lN a b|>.f c|>.f d|>.f e|>.f f|>.f g|>.f i|>.f j tv
def aPX(j:Prog)(a:Node)(i:Bool)(k b:Int):=tT 0 (bJ j a i k b)<|gm 6 aN a.pats<|gd 2 76 (b< (a.pats.length:Int)) (.b 3 78 i (.o (.y fun c:Int=>.y fun d:Int=>.y fun e:aB=>.y fun f:List Pat=>.y fun g:Int=>.y fun l:Bool=>.i [rn 4,.reg (rd 3 (.ans (.idx (Pat.av (Pat.mk c d e f)))::.d::.pure (nI g)::.d::.d::.b 88 true::rd 3 (.ans (.idx (Pat.av (Pat.mk c d e f)))::rd 3 [.pure (bV l),.d,.d])))] [hA (0≤b),.a (((a.pats)[b.toNat]?) =some (Pat.mk c d e f)) (zW aN),hA (Pure PP 186 [(.agg [(nI c),(nI d),(aD e),(iP f)]),(nI 12)] (nI g)),hA (decide (g≥0) =true),hA (0≤b),.a (((a.pats)[b.toNat]?) =some (Pat.mk c d e f)) (zW aN),hA (Pure PP 187 [(.agg [(nI c),(nI d),(aD e),(iP f)]),(iC j.cons)] (bV l))]<|gw 4 80 (b+1)<|.W 3 2 [0,1] (bJ j a l k (b+1)))<|.y fun c:Int=>.y fun d:Int=>.y fun e:aB=>.y fun f:List Pat=>.y fun g:Int=>.i [rn 4,.reg (rd 3 (.ans (.idx (Pat.av (Pat.mk c d e f)))::.d::.pure (nI g)::.d::.d::.b 88 false::rd 10 []))] [hA (0≤b),.a (((a.pats)[b.toNat]?) =some (Pat.mk c d e f)) (zW aN),hA (Pure PP 186 [(.agg [(nI c),(nI d),(aD e),(iP f)]),(nI 12)] (nI g)),hA (decide (g≥0) =false)]<|gw 4 80 (b+1)<|.W 3 2 [0,1] (bJ j a false k (b+1)))<|.i [rn 3,.reg (.d::.d::.b 99 false::rd 13 [])] [hA (i=false)]<|gE 1 2 (bV false))<|.o (.y fun m:Int=>.i [rn 6,.reg (.d::.d::.b 99 true::.d::.d::.ans (.len (a.kids.length:Int))::rd 4 (.ans (.len (a.pats.length:Int))::.d::.pure (nI m)::rd 3 []))] [hA (i=true),hl bL a.kids,hm aN a.pats,hA (Pure PP 188 [(nI a.op),(nI (a.pats.length:Int)),(nI k)] (nI m)),.q (p:=(nI ((jI a.kids).length:Int)) = (nI (a.kids.length:Int))) (congrArg (int .i64) (aLS _ _)),.q (p:=(nI ((jI a.kids).length:Int)) = (nI (a.kids.length:Int))) (congrArg (int .i64) (aLS _ _)),hr (ilst 1 (jI a.kids) false),hr (ilst 1 (jI a.kids) false)]<|gE 1 2 (bV ((a.kids.length:Int) ==m)))<|.i [rn 6,.reg (.d::.d::.b 99 false::rd 13 [])] [hA (i=false)]<|gE 1 2 (bV false)
def aNk:=fun c d e f g i j k l m n o p a b q r s t=>aPX c d e f g|>.t o|>.t p|>.1 i j k l m n a b q r a b s t tv
def aNl:=fun a b c d e f g i j k l m n o p q r=>aPX a b c d e|>.t l|>.t m|>.2 f g i j k n o p q r tv
def aNm:=fun b c d e f g a=>aPX b c d e f|>.t g|>.f a a tv
def aNn:=fun a b c d e f g i j=>aPX a b c d e|>.f g|>.1 f i j tv
def aNo:=fun a b c d e f g=>aPX a b c d e|>.f f|>.2 g tv
def aNp (a:List Con):=(tT 0 (start PP 118 [(iC a)])<|.i [rn 15,.nilL 3 1] []<|gu 0 0 (map aD ([] :List aB))<|gs 0 3 (.gl 0 1 0 ([] :List aB).length false)<|.W 0 1 [0] (aAb a 0 ([] :List aB))) ⟨kk,trivial⟩
def aPY(a:List Con)(c:Int)(d:List aB):=tT 0 (aAb a c d)<|gl 5 Con.av a<|gd 2 8 (c< (a.length:Int)) (gX Con.av 9 a c<|fun b=>eS 2 172 [(aD b.name)]<|fun e=>.b 2 18 (!e) (gE 15 1 (bV false))<|gi Con.av 2 a c b<|eS 2 117 [(nI b.args),(nI 0),(nI 3)]<|fun f=>.b 3 26 (!f) (gE 6 1 (bV false))<|gi Con.av 6 a c b<|ga 3 aD d [b.name]<|gw 6 10 (c+1)<|.W 3 3 [2] (aAb a (c+1) (d++ [b.name])))<|gl 5 Con.av a<|gd 2 38 ((a.length:Int) ≤20) (gz 1 39 0 1 aD d false<|eS 0 71 [(iS d)]<|fun b=>gE 4 1 (bV b))<|gE 6 1 (bV false)
def aNq:=fun a b c d e f g i j k=>aPY a b c|>.t f d g i e j|>.t k tv
def aNr:=fun c d e f g i j a b k l m n=>aPY c d e|>.t j f a b g k|>.f l a b i m|>.t n tv
def aNs:=fun c d e f g i j a b k l m n o p=>aPY c d e|>.t j f a b g k|>.f l a b i m|>.f n a b o p ⟨kk,trivial⟩
def aNt:=fun a b c d e f g=>aPY a b c|>.f e|>.t f d g tv
def aNu:=fun a b c d e=>aPY a b c|>.f d|>.f e tv
def aPZ(a:Prog):=tT 0 (start PP 38 [(Prog.av a)])<|gl 9 Node.av a.nodes<|gd 8 15 ((a.nodes.length:Int) >300) (gE 30 1 (bV false))<|gl 2 bL a.funs<|eS 1 117 [(nI (a.funs.length:Int)),(nI 1),(nI (a.nodes.length:Int))]<|fun b=>.b 3 23 (!b) (gE 22 1 (bV false))<|gl 4 bL a.funs<|gw 1 29 ((a.funs.length:Int) -1)<|eS 0 117 [(nI a.main),(nI 0),(nI ((a.funs.length:Int) -1))]<|fun c=>.b 3 33 (!c) (gE 12 1 (bV false))<|eS 2 118 [(iC a.cons)]<|fun d=>.b 3 38 (!d) (gE 6 1 (bV false))<|.i [rn 5,.mk a.nodes.length] [hr (a.nodes.length:Int),hr (a.nodes.length:Int),hA (a.nodes.length<100000)]<|.i [.lset 1 (map fX (replicate a.nodes.length false))] [.q (p:=replicate a.nodes.length (fX false) = (map fX (replicate a.nodes.length false))) (aF1 _ _ _)]<|.i [.set 40 (.gl 1 1 0 (replicate a.nodes.length false).length true)] [.q (p:=(AV.gl 1 1 0 a.nodes.length true) = (.gl 1 1 0 (replicate a.nodes.length false).length true)) (dB (List.length_replicate ..).symm)]<|.W 9 2 [0,1] (rF a 0 (replicate a.nodes.length false))
def aHP:=fun a b=>aPZ a|>.t b tv
def aHQ:=fun a b c d e=>aPZ a|>.f c b d|>.t e tv
def aHR:=fun a b c d e f g i j=>aPZ a|>.f d b e|>.f f g c i|>.t j tv
def aHS:=fun a b c d e f g i j k l m=>aPZ a|>.f e b f|>.f g i c j|>.f k d l|>.t m tv
def aHT:=fun a b c d e f g i j k l m n=>aPZ a|>.f e b f|>.f g i c j|>.f k d l|>.f m n ⟨kk,trivial⟩
def aSw(c:Prog)(d:Int)(a:List Bool):=tT 0 (rF c d a)<|gl 6 bL c.funs<|gd 2 45 (d< (c.funs.length:Int)) (gX bL 10 c.funs d<|fun b=>gw 3 54 ((c.nodes.length:Int) -1)<|eS 0 117 [(nI b),(nI 0),(nI ((c.nodes.length:Int) -1))]<|fun f=>.b 2 57 (!f) (gE 16 2 (bV false))<|gi bL 4 c.funs d b<|.i [rn 1,.ans (.ix)] [hA (0≤b),hA (b< (a.length:Int))]<|.y fun e:Bool=>gj fX 0 a b.toNat e<|.b 2 66 e (gE 6 2 (bV false))<|gi bL 7 c.funs d b<|.i [rn 1,.ans (.ix)] [hA (0≤b),hA (b< (a.length:Int))]<|.i [.st (fX e) (fX true)] [.a (((a)[b.toNat]?) =some e) (jJ (f:=fX)),hr (some (fX true))]<|.i [.lset 1 (map fX (set a b.toNat true))] [.q (p:=(map fX a).set (0+b.toNat) (fX true) = (map fX (set a b.toNat true))) (kQ _ _ _ _)]<|.i [.set 4 (.gl 1 1 0 (set a b.toNat true).length true)] [.q (p:=(AV.gl 1 1 0 a.length true) = (.gl 1 1 0 (set a b.toNat true).length true)) (dB (length_set ..).symm)]<|.i [.set 58 (.gl 1 1 0 (set a b.toNat true).length true)] [.q (p:=(AV.gl 1 1 0 a.length true) = (.gl 1 1 0 (set a b.toNat true).length true)) (dB (length_set ..).symm)]<|.i [.set 67 (.gl 1 1 0 (set a b.toNat true).length true)] [.q (p:=(AV.gl 1 1 0 a.length true) = (.gl 1 1 0 (set a b.toNat true).length true)) (dB (length_set ..).symm)]<|gw 5 47 (d+1)<|.W 3 2 [0,1] (rF c (d+1) (set a b.toNat true)))<|.W 9 2 [0,1] (mK c a 0)
def aHU:=fun a b c d e f g i j k l=>aSw a b c|>.t f d g i j e k|>.t l tv
def aHV:=fun c d e f g i j a b k l m n o p q=>aSw c d e|>.t j f a b k g l|>.f m a b n o i p|>.t q tv
def aHW:=fun f g i j k l m a b n o p c d e q r=>aSw f g i|>.t m j a b n k o|>.f p a b c d l e|>.f q a b c d e r ⟨kk,trivial⟩
def aHX:=fun a b c d=>aSw a b c|>.f d ⟨kk,trivial⟩
def aWv(a:Prog)(c:List Bool)(b:Int):=tT 0 (mK a c b)<|gd 7 76 (b< (a.nodes.length:Int)) (.y fun d:Node=>.y fun e:Bool=>.i [rn 6,.reg (rd 4 [.ans (.idx (Node.av d)),.d,.pure (bV e),.d])] [hA (0≤b),.a (((a.nodes)[b.toNat]?) =some d) (cV (f:=Node.av)),hA (Pure PP 119 [(Prog.av a),(Node.av d)] (bV e))]<|.b 0 86 (!e) (gE 6 2 (bV false))<|.W 8 2 [0,1] (rG a c 0 b))<|.W 9 2 [1] (rH a c 0)
def aHY:=fun a b c d e f g i j k=>aWv a b c|>.t f d e g i j|>.t k tv
def aHZ:=fun a b c d e f g i j k=>aWv a b c|>.t f d e g i j|>.f k ⟨kk,trivial⟩
def aH0:=fun a b c d=>aWv a b c|>.f d ⟨kk,trivial⟩
def aSx(d:Prog)(a:List Bool)(e c:Int):=tT 0 (rG d a e c)<|gX Node.av 7 d.nodes c<|fun f=>gl 2 bL f.kids<|gd 2 95 (e< (f.kids.length:Int)) (gi Node.av 9 d.nodes c f<|gX bL 3 f.kids e<|fun b=>gw 9 109 (c+1)<|gw 2 111 ((d.nodes.length:Int) -1)<|eS 0 117 [(nI b),(nI (c+1)),(nI ((d.nodes.length:Int) -1))]<|fun i=>.b 2 114 (!i) (gE 12 2 (bV false))<|.i [rn 2,.ans (.ix)] [hA (0≤b),hA (b< (a.length:Int))]<|.y fun g:Bool=>gj fX 0 a b.toNat g<|.b 2 119 g (gE 6 2 (bV false))<|.i [rn 5,.ans (.ix)] [hA (0≤b),hA (b< (a.length:Int))]<|.i [.st (fX g) (fX true)] [.a (((a)[b.toNat]?) =some g) (jJ (f:=fX)),hr (some (fX true))]<|.i [.lset 1 (map fX (set a b.toNat true))] [.q (p:=(map fX a).set (0+b.toNat) (fX true) = (map fX (set a b.toNat true))) (kQ _ _ _ _)]<|.i [.set 4 (.gl 1 1 0 (set a b.toNat true).length true)] [.q (p:=(AV.gl 1 1 0 a.length true) = (.gl 1 1 0 (set a b.toNat true).length true)) (dB (length_set ..).symm)]<|.i [.set 115 (.gl 1 1 0 (set a b.toNat true).length true)] [.q (p:=(AV.gl 1 1 0 a.length true) = (.gl 1 1 0 (set a b.toNat true).length true)) (dB (length_set ..).symm)]<|.i [.set 120 (.gl 1 1 0 (set a b.toNat true).length true)] [.q (p:=(AV.gl 1 1 0 a.length true) = (.gl 1 1 0 (set a b.toNat true).length true)) (dB (length_set ..).symm)]<|gw 5 97 (e+1)<|.W 3 2 [0,1] (rG d (set a b.toNat true) (e+1) c))<|gw 6 78 (c+1)<|.W 3 2 [0,1] (mK d a (c+1))
def aH1:=fun c d e f g i j a b k l m n o p q=>aSx c d e f g a b|>.t k a b i l m n o j p|>.t q tv
def aH2:=fun c d e f g i j k a b l m n o p q r s t u v=>aSx c d e f g a b|>.t l a b i m n o p j q|>.f r s t k u|>.t v tv
def aH3:=fun f g i j k l m n a b o p q r s t u c d e v w=>aSx f g i j k a b|>.t o a b l p q r s m t|>.f u c d n e|>.f v c d e w ⟨kk,trivial⟩
def aH4:=fun a b c d e f g i j=>aSx a b c d e f g|>.f i j ⟨kk,trivial⟩
def aWw(c:Prog)(b:List Bool)(a:Int):=tT 0 (rH c b a)<|gd 7 125 (a< (c.nodes.length:Int)) (.i [rn 8,.ans (.ix)] [hA (0≤a),hA (a< (b.length:Int))]<|.y fun d:Bool=>gj fX 0 b a.toNat d<|.b 2 132 (!d) (gE 6 1 (bV false))<|gw 6 127 (a+1)<|.W 3 1 [0] (rH c b (a+1)))<|gE 7 1 (bV true)
def aH5:=fun a b c d e f g i j=>aWw a b c|>.t e f g d i|>.t j tv
def aH6:=fun a b c d e f g i j k=>aWw a b c|>.t e f g d i|>.f j k ⟨kk,trivial⟩
def aH7:=fun a b c d=>aWw a b c|>.f d tv
def eH (c:Con) :Bool:=gA c.name&&cS c.args 0 3
def aY (l:List Con) :List aB:=l.map Con.name
def uK (l:List Con) :Bool:=l.all eH&&decide (l.length≤20) &&bU (aY l)
def bW (p:Prog)(op n:Int) :Bool:=
 if op=1 then cS n (-1000000000) 1000000000
 else if op=2 then cS n 0 1
 else if op=4 then cS n (0- (p.funs.length:Int)) 29
 else if op=24 then cS n 0 3
 else if op=14 then cS n 0 ((p.cons.length:Int) -1)
 else decide (n=0)
def hX (p:Prog)(x:Node) :Bool:=
 bW p x.op x.n&& (if x.op=15 then cS (x.pats.length:Int) 1 5 else decide (x.pats.length=0))
def eI (p:Prog)(x:Node) :Int:=if x.op=14∧cS x.n 0 ((p.cons.length:Int) -1) =true then dW p.cons x.n else 0
def fJ (cons:List Con)(q:Pat) :Bool:=decide (dM q≤12) &&cY cons q
def bD (p:Prog)(x:Node) :Bool:=
 hX p x&&x.pats.all (fJ p.cons) &&decide ((x.kids.length:Int) =cT x.op x.pats.length (eI p x))
theorem eU {α:Type}(l:List α) : ((l.length:Int) ==0) =decide (l= []) :=by cases l<;>simp;omega
theorem lT {p:Prop}(h:p:=by simp_all [hX,bW,eI,dW,eU]) :p:=h
theorem aSy (p:Prog)(x:Node)(hc:p.cons.length≤1000)(hf:p.funs.length≤1000)(b:Bool)(hk:∀ (i:Bool) (a:Int),i=hX p x→a=eI p x→Ends PP 0 (bJ p x i a 0).as (.ret (.bool b)) (aF [] 0)) :
  Ends PP 0 (start PP 119 [Prog.av p,Node.av x]).as (.ret (.bool b)) (aF [] 0) :=by
 cases hb1: (x.op== (1:Int))with
 | true=>
  cases hb2: (x.op== (15:Int))with
  | true=>
   cases hb3: (cS (x.n) (-1000000000) 1000000000)with
   | true=>
    exact LeadsM.ends (aNa p x  (cS (x.n) (-1000000000) 1000000000) (cS ((length x.pats:Nat) :Int) 1 5) hb1 (aR (x.n) (-1000000000) 1000000000) hb2 hb3 (aR ((length x.pats:Nat) :Int) 1 5)) (hk _ _ (by clear hk;exact lT) (by clear hk;exact lT))
   | false=>
    exact LeadsM.ends (aNb p x  (cS (x.n) (-1000000000) 1000000000) hb1 (aR (x.n) (-1000000000) 1000000000) hb2 hb3) (hk _ _ (by clear hk;exact lT) (by clear hk;exact lT))
  | false=>
   cases hb4: (cS (x.n) (-1000000000) 1000000000)with
   | true=>
    exact LeadsM.ends (aNc p x  (cS (x.n) (-1000000000) 1000000000) hb1 (aR (x.n) (-1000000000) 1000000000) hb2 hb4) (hk _ _ (by clear hk;exact lT) (by clear hk;exact lT))
   | false=>
    exact LeadsM.ends (aNd p x  (cS (x.n) (-1000000000) 1000000000) hb1 (aR (x.n) (-1000000000) 1000000000) hb2 hb4) (hk _ _ (by clear hk;exact lT) (by clear hk;exact lT))
 | false =>
  cases hb5: (x.op== (2:Int))with
  | true=>
   cases hb6: (x.op== (15:Int))with
   | true=>
    cases hb7: (cS (x.n) 0 1)with
    | true=>
     exact LeadsM.ends (aNe p x  (cS (x.n) 0 1) (cS ((length x.pats:Nat) :Int) 1 5) hb1 hb5 (aR (x.n) 0 1) hb6 hb7 (aR ((length x.pats:Nat) :Int) 1 5)) (hk _ _ (by clear hk;exact lT) (by clear hk;exact lT))
    | false=>
     exact LeadsM.ends (aNf p x  (cS (x.n) 0 1) hb1 hb5 (aR (x.n) 0 1) hb6 hb7) (hk _ _ (by clear hk;exact lT) (by clear hk;exact lT))
   | false=>
    cases hb8: (cS (x.n) 0 1)with
    | true=>
     exact LeadsM.ends (aNg p x  (cS (x.n) 0 1) hb1 hb5 (aR (x.n) 0 1) hb6 hb8) (hk _ _ (by clear hk;exact lT) (by clear hk;exact lT))
    | false=>
     exact LeadsM.ends (aNh p x  (cS (x.n) 0 1) hb1 hb5 (aR (x.n) 0 1) hb6 hb8) (hk _ _ (by clear hk;exact lT) (by clear hk;exact lT))
  | false=>
   cases hb9: (x.op== (4:Int))with
   | true=>
    cases hb10: (x.op== (15:Int))with
    | true=>
     cases hb11: (cS (x.n) (0- ((length p.funs:Nat) :Int)) 29)with
     | true=>
      exact LeadsM.ends (aNi p x  (cS (x.n) (0- ((length p.funs:Nat) :Int)) 29) (cS ((length x.pats:Nat) :Int) 1 5) hb1 hb5 hb9 sdI (aR (x.n) (0- ((length p.funs:Nat) :Int)) 29) hb10 hb11 (aR ((length x.pats:Nat) :Int) 1 5)) (hk _ _ (by clear hk;exact lT) (by clear hk;exact lT))
     | false=>
      exact LeadsM.ends (aNj p x  (cS (x.n) (0- ((length p.funs:Nat) :Int)) 29) hb1 hb5 hb9 sdI (aR (x.n) (0- ((length p.funs:Nat) :Int)) 29) hb10 hb11) (hk _ _ (by clear hk;exact lT) (by clear hk;exact lT))
    | false=>
     cases hb12: (cS (x.n) (0- ((length p.funs:Nat) :Int)) 29)with
     | true=>
      exact LeadsM.ends (aKx p x  (cS (x.n) (0- ((length p.funs:Nat) :Int)) 29) hb1 hb5 hb9 sdI (aR (x.n) (0- ((length p.funs:Nat) :Int)) 29) hb10 hb12) (hk _ _ (by clear hk;exact lT) (by clear hk;exact lT))
     | false=>
      exact LeadsM.ends (aKy p x  (cS (x.n) (0- ((length p.funs:Nat) :Int)) 29) hb1 hb5 hb9 sdI (aR (x.n) (0- ((length p.funs:Nat) :Int)) 29) hb10 hb12) (hk _ _ (by clear hk;exact lT) (by clear hk;exact lT))
   | false=>
    cases hb13: (x.op== (24:Int))with
    | true=>
     cases hb14: (x.op== (15:Int))with
     | true=>
      cases hb15: (cS (x.n) 0 3)with
      | true=>
       exact LeadsM.ends (aKz p x  (cS (x.n) 0 3) (cS ((length x.pats:Nat) :Int) 1 5) hb1 hb5 hb9 hb13 (aR (x.n) 0 3) hb14 hb15 (aR ((length x.pats:Nat) :Int) 1 5)) (hk _ _ (by clear hk;exact lT) (by clear hk;exact lT))
      | false=>
       exact LeadsM.ends (aKA p x  (cS (x.n) 0 3) hb1 hb5 hb9 hb13 (aR (x.n) 0 3) hb14 hb15) (hk _ _ (by clear hk;exact lT) (by clear hk;exact lT))
     | false=>
      cases hb16: (cS (x.n) 0 3)with
      | true=>
       exact LeadsM.ends (aKB p x  (cS (x.n) 0 3) hb1 hb5 hb9 hb13 (aR (x.n) 0 3) hb14 hb16) (hk _ _ (by clear hk;exact lT) (by clear hk;exact lT))
      | false=>
       exact LeadsM.ends (aKC p x  (cS (x.n) 0 3) hb1 hb5 hb9 hb13 (aR (x.n) 0 3) hb14 hb16) (hk _ _ (by clear hk;exact lT) (by clear hk;exact lT))
    | false=>
     cases hb17: (x.op== (14:Int))with
     | true=>
      cases hb18: (cS (x.n) 0 (((length p.cons:Nat) :Int) - (1:Int)))with
      | true=>
       obtain⟨y1,hx19⟩ :∃y,((p.cons)[x.n.toNat]?) =some y:=idT;cases hb20: (x.op== (15:Int))with
       | true=>
        exact LeadsM.ends (aKD p x  (cS (x.n) 0 (((length p.cons:Nat) :Int) - (1:Int))) y1 (cS ((length x.pats:Nat) :Int) 1 5) hb1 hb5 hb9 hb13 hb17 sdI (aR (x.n) 0 (((length p.cons:Nat) :Int) - (1:Int))) hb18 sdI hx19 hb20 (aR ((length x.pats:Nat) :Int) 1 5)) (hk _ _ (by clear hk;exact lT) (by clear hk;exact lT))
       | false=>
        exact LeadsM.ends (aKE p x  (cS (x.n) 0 (((length p.cons:Nat) :Int) - (1:Int))) y1 hb1 hb5 hb9 hb13 hb17 sdI (aR (x.n) 0 (((length p.cons:Nat) :Int) - (1:Int))) hb18 sdI hx19 hb20) (hk _ _ (by clear hk;exact lT) (by clear hk;exact lT))
      | false=>
       cases hb21: (x.op== (15:Int))with
       | true=>
        exact LeadsM.ends (aKF p x  (cS (x.n) 0 (((length p.cons:Nat) :Int) - (1:Int))) hb1 hb5 hb9 hb13 hb17 sdI (aR (x.n) 0 (((length p.cons:Nat) :Int) - (1:Int))) hb18 hb21) (hk _ _ (by clear hk;exact lT) (by clear hk;exact lT))
       | false=>
        exact LeadsM.ends (aKG p x  (cS (x.n) 0 (((length p.cons:Nat) :Int) - (1:Int))) hb1 hb5 hb9 hb13 hb17 sdI (aR (x.n) 0 (((length p.cons:Nat) :Int) - (1:Int))) hb18 hb21) (hk _ _ (by clear hk;exact lT) (by clear hk;exact lT))
     | false=>
      cases hb22: (x.op== (15:Int))with
      | true=>
       cases hb23: (x.n== (0:Int))with
       | true=>
        exact LeadsM.ends (aKH p x  (cS ((length x.pats:Nat) :Int) 1 5) hb1 hb5 hb9 hb13 hb17 hb22 hb23 (aR ((length x.pats:Nat) :Int) 1 5)) (hk _ _ (by clear hk;exact lT) (by clear hk;exact lT))
       | false=>
        exact LeadsM.ends (aKI p x   hb1 hb5 hb9 hb13 hb17 hb22 hb23) (hk _ _ (by clear hk;exact lT) (by clear hk;exact lT))
      | false=>
       cases hb24: (x.n== (0:Int))with
       | true=>
        exact LeadsM.ends (aKJ p x   hb1 hb5 hb9 hb13 hb17 hb22 hb24) (hk _ _ (by clear hk;exact lT) (by clear hk;exact lT))
       | false=>
        exact LeadsM.ends (aKK p x   hb1 hb5 hb9 hb13 hb17 hb22 hb24) (hk _ _ (by clear hk;exact lT) (by clear hk;exact lT))
theorem yC (p:Prog)(x:Node)(hc:p.cons.length≤1000)(hl:x.pats.length≤10)(a:Int) :
  ∀ (t:List Pat) (i:Nat) (b:Bool),x.pats.drop i=t→Ends PP 0 (bJ p x b a (i:Int)).as (.ret (.bool (b&&t.all (fJ p.cons) &&decide ((x.kids.length:Int) =cT x.op x.pats.length a)))) (aF [] 0)
 | [],i,b,h=>by
  have:=bE h;cases b with
  |false=>exact Ends.eqv (aNo p x false a i sd rfl) (by simp)
  | true=>
   refine Ends.eqv (aNn p x true a i _ sd rfl (aKw x.op x.pats.length a (by omega) (by omega))) ?_;simp only [all_nil,Bool.true_and,AV.bool.injEq];rfl
 | .mk f' n' s' ps'::t,i,b,h=>by
  obtain⟨g1,g2,g3⟩ :=bB h;cases b with
  |false=>exact Ends.eqv (aNm p x false a i sd rfl) (by simp)
  | true=>
   have hw:=uG (.mk f' n' s' ps') 12 (by omega) (by omega);by_cases k:dM (.mk f' n' s' ps') ≤12
   · have hg:0≤jR (.mk f' n' s' ps') 12:= (vJ (.mk f' n' s' ps') 12).2 (by omega);refine(aNk p x true a i f' n' s' ps' _ _ sd rfl sd sd hw (decide_eq_true hg) (aEJ p.cons hc (.mk f' n' s' ps') (by omega)) sd).ends ?_;exact Ends.eqv (yC p x hc hl a t (i+1) _ g2) (by simp [fJ,k])
   · have hg:¬jR (.mk f' n' s' ps') 12≥0:=fun g=>k (by have:= (vJ (.mk f' n' s' ps') 12).1 g;omega);refine(aNl p x true a i f' n' s' ps' _ sd rfl sd sd hw (decide_eq_false hg) sd).ends ?_;exact Ends.eqv (yC p x hc hl a t (i+1) _ g2) (by simp [fJ,k])
theorem aKL (p:Prog)(x:Node)(hc:p.cons.length≤1000)(hf:p.funs.length≤1000)(hl:x.pats.length≤10) :Pure PP 119 [Prog.av p,Node.av x] (.bool (bD p x)) :=by
 refine aV (by kernel_rfl) rfl rfl (aSy p x hc hf _ fun i a hi ha=>?_);subst hi ha;exact yC p x hc hl _ x.pats 0 _ rfl
theorem aDc (l:List Con)(hl:l.length≤1000) :∀ (t:List Con) (i:Nat),l.drop i=t→Ends PP 0 (aAb l (i:Int) (aY (l.take i))).as (.ret (.bool (t.all eH&&decide (l.length≤20) &&bU (aY l)))) (aF [] 0)
 | [],i,h=>by
  have hi:=bE h;have e:aY (l.take i) =aY l:=by rw [List.take_of_length_le hi]
  rw [e];by_cases k:l.length≤20
  ·exact Ends.eqv (aNt l i _ _ sd sd (rC (aY l) (by simp [aY];omega))) (by simp [k])
  ·exact Ends.eqv (aNu l i _ sd sd) (by simp [k])
 | c ::t,i,h=>by
  obtain⟨g1,g2,g3⟩ :=bB h;have hg:=aHJ c.name;cases k1:gA c.name with
  | false=>
   rw [k1]at hg;exact Ends.eqv (aNq l i _ c false sd sd sd hg rfl) (by simp [eH,k1])
  | true=>
   rw [k1]at hg;have hi:=aR c.args 0 3;cases k2:cS c.args 0 3 with
   | false=>
    rw [k2]at hi;exact Ends.eqv (aNr l i _ c true false sd sd sd hg rfl hi rfl) (by simp [eH,k1,k2])
   | true=>
    rw [k2]at hi;have e:aY (l.take i) ++ [c.name] =aY (l.take (i+1)) :=by
     rw [List.take_add_one,g1];simp [aY]
    refine(aNs l i (aY (l.take i)) c true true sd sd sd hg rfl hi rfl (by simp [aY];omega) sd).ends ?_;rw [e];exact Ends.eqv (aDc l hl t (i+1) g2) (by simp [eH,k1,k2])
theorem aKM (l:List Con)(hl:l.length≤1000) :Pure PP 118 [.ilst 2 (map Con.av l) false] (.bool (uK l)) :=
 aV (by kernel_rfl) rfl rfl ((aNp l).ends (aDc l hl l 0 rfl))
def marks (lo n:Int) :List Int→List Bool→Option (List Bool)
 | [],u=>some u
 |k::ks,u=>if cS k lo (n-1) =true∧u[k.toNat]?=some false then marks lo n ks (u.set k.toNat true)else none
theorem jZ {lo n:Int}:∀ {ks:List Int} {u v:List Bool},marks lo n ks u=some v→v.length=u.length
 | [],u,v,h=>by simp only [marks,Option.some.injEq]at h;rw [h]
 | k::ks,u,v,h=>by
  simp only [marks]at h;split at h
  ·have:=jZ h;simpa using this
  ·cases h
def cI (p:Prog) :Nat→List Node→List Bool→Option (List Bool)
 |_,[],u=>some u
 | i,x::t,u=>if bD p x=true then match marks ((i:Int) +1) (p.nodes.length:Int) x.kids u with
   |some v=>cI p (i+1) t v
   |none=>none
  else none
def allT :Option (List Bool) →Bool
 |some u=>u.all fun b=>b
 |none=>false
def dN (p:Prog) :Bool:=decide (p.nodes.length≤300) &&cS (p.funs.length:Int) 1 (p.nodes.length:Int) &&cS p.main 0 ((p.funs.length:Int) -1)
def aO (p:Prog) :Bool:=
 dN p&&uK p.cons&& (match marks 0 (p.nodes.length:Int) p.funs (replicate p.nodes.length false)with
  |some u=>allT (cI p 0 p.nodes u)
  |none=>false)
theorem rF3 (p:Prog)(u:List Bool)(hn:p.nodes.length≤1000)(hu:u.length=p.nodes.length) :∀ (t:List Bool) (i:Nat),u.drop i=t→Ends PP 0 (rH p u (i:Int)).as (.ret (.bool (t.all fun b=>b))) (aF [] 0)
 | [],i,h=>by
  have:=bE h;exact aH7 p u i sd
 | b::t,i,h=>by
  obtain⟨g1,g2,g3⟩ :=bB h;cases b with
  |false=>exact Ends.eqv (aH5 p u i false sd sd sd sd rfl) (by simp)
  | true=>
   refine(aH6 p u i true sd sd sd sd rfl sd).ends ?_;exact Ends.eqv (rF3 p u hn hu t (i+1) g2) (by simp)
theorem aXi (p:Prog)(x:Node)(i:Nat)(hx:p.nodes[i]?=some x)(hn:p.nodes.length≤1000)(hk:x.kids.length≤1000)(K:List Bool→Bool)
  (hb:∀v:List Bool,v.length=p.nodes.length→Ends PP 0 (mK p v ((i:Int) +1)).as (.ret (.bool (K v))) (aF [] 0)) :
  ∀ (t:List Int) (k:Nat) (u:List Bool),u.length=p.nodes.length→x.kids.drop k=t→Ends PP 0 (rG p u (k:Int) (i:Int)).as (.ret (.bool (match marks ((i:Int) +1) p.nodes.length t u with|some v=>K v|none=>false))) (aF [] 0)
 | [],k,u,hu,h=>by
  have:=bE h;have hi:= (List.getElem?_eq_some_iff.1 hx).1;refine(aH4 p u k i x sd sd sd sd).ends ?_;exact hb u hu
 | y ::t,k,u,hu,h=>by
  obtain⟨g1,g2,g3⟩ :=bB h;have hi:= (List.getElem?_eq_some_iff.1 hx).1;have hin:=aR y ((i:Int) +1) ((p.nodes.length:Int) -1);cases k1:cS y ((i:Int) +1) ((p.nodes.length:Int) -1)with
  | false=>
   rw [k1]at hin;exact Ends.eqv (aH1 p u k i x y false sd sd sd sd sd sd sd hin rfl) (by simp [marks,k1])
  | true=>
   rw [k1]at hin;have hy:=inB_iff.1 k1;obtain⟨z,hz⟩ :∃z,u[y.toNat]?=some z:= ⟨_,List.getElem?_eq_getElem (by omega)⟩;cases z with
   | true=>
    exact Ends.eqv (aH2 p u k i x y true true sd sd sd sd sd sd sd hin rfl (by omega) (by omega) hz rfl) (by simp [marks,hz])
   | false=>
    refine(aH3 p u k i x y true false sd sd sd sd sd sd sd hin rfl (by omega) (by omega) hz rfl sd).ends ?_;exact Ends.eqv (aXi p x i hx hn hk K hb t (k+1) (u.set y.toNat true) (by simpa using hu) g2) (by simp [marks,k1,hz])
theorem rF1 (p:Prog)(hp:aH p=true)(hn:p.nodes.length≤1000)(hc:p.cons.length≤1000)(hf:p.funs.length≤1000) :∀ (t:List Node) (i:Nat) (u:List Bool),u.length=p.nodes.length→p.nodes.drop i=t →
  Ends PP 0 (mK p u (i:Int)).as (.ret (.bool (allT (cI p i t u)))) (aF [] 0)
 | [],i,u,hu,h=>by
  have:=bE h;refine(aH0 p u i sd).ends ?_;exact rF3 p u hn hu u 0 rfl
 | x::t,i,u,hu,h=>by
  obtain⟨g1,g2,g3⟩ :=bB h;have hx:aT x=true:=by
   simp only [aH,Bool.and_eq_true]at hp;exact List.all_eq_true.1 hp.2 x (mem_of_getElem? g1)
  simp only [aT,Bool.and_eq_true,decide_eq_true_eq]at hx;have ho:=aKL p x hc hf hx.1.2;cases k:bD p x with
  | false=>
   rw [k]at ho;exact Ends.eqv (aHY p u i x false sd sd sd ho rfl) (by simp [cI,k,allT])
  | true=>
   rw [k]at ho;refine(aHZ p u i x true sd sd sd ho rfl).ends ?_;refine Ends.eqv (aXi p x i g1 hn (by omega) (fun v=>allT (cI p (i+1) t v)) (fun v hv=>rF1 p hp hn hc hf t (i+1) v hv g2) x.kids 0 u hu rfl) ?_;simp only [cI,k,if_true];cases marks ((i:Int) +1) (p.nodes.length:Int) x.kids u<;>rfl
theorem rF0 (p:Prog)(hp:aH p=true)(hn:p.nodes.length≤1000)(hc:p.cons.length≤1000)(hf:p.funs.length≤1000) :∀ (t:List Int) (i:Nat) (u:List Bool),u.length=p.nodes.length→p.funs.drop i=t →
  Ends PP 0 (rF p (i:Int) u).as (.ret (.bool (match marks 0 p.nodes.length t u with|some v=>allT (cI p 0 p.nodes v) |none=>false))) (aF [] 0)
 | [],i,u,hu,h=>by
  have:=bE h;refine(aHX p i u sd).ends ?_;exact rF1 p hp hn hc hf p.nodes 0 u hu rfl
 | y ::t,i,u,hu,h=>by
  obtain⟨g1,g2,g3⟩ :=bB h;have hin:=aR y 0 ((p.nodes.length:Int) -1);cases k1:cS y 0 ((p.nodes.length:Int) -1)with
  | false=>
   rw [k1]at hin;exact Ends.eqv (aHU p i u y false sd sd sd sd hin rfl) (by simp [marks,k1])
  | true=>
   rw [k1]at hin;have hy:=inB_iff.1 k1;obtain⟨z,hz⟩ :∃z,u[y.toNat]?=some z:= ⟨_,List.getElem?_eq_getElem (by omega)⟩;cases z with
   | true=>
    exact Ends.eqv (aHV p i u y true true sd sd sd sd hin rfl (by omega) (by omega) hz rfl) (by simp [marks,hz])
   | false=>
    refine(aHW p i u y true false sd sd sd sd hin rfl (by omega) (by omega) hz rfl sd).ends ?_;exact Ends.eqv (rF0 p hp hn hc hf t (i+1) (u.set y.toNat true) (by simpa using hu) g2) (by simp [marks,k1,hz])
theorem aAc (p:Prog)(hp:aH p=true) :Pure PP 38 [Prog.av p] (.bool (aO p)) :=by
 refine aV (by kernel_rfl) rfl rfl ?_;have hs:=hp;simp only [aH,Bool.and_eq_true,decide_eq_true_eq]at hs;obtain⟨⟨⟨⟨s1,s2⟩,s3⟩,_⟩,_⟩ :=hs;by_cases k0:p.nodes.length≤300
 · have hi1:=aR (p.funs.length:Int) 1 (p.nodes.length:Int);cases k1:cS (p.funs.length:Int) 1 (p.nodes.length:Int)with
   | false=>
    rw [k1]at hi1;exact Ends.eqv (aHQ p false sd hi1 rfl) (by simp [aO,dN,k1])
   | true=>
    rw [k1]at hi1;have hi2:=aR p.main 0 ((p.funs.length:Int) -1);cases k2:cS p.main 0 ((p.funs.length:Int) -1)with
    | false=>
     rw [k2]at hi2;exact Ends.eqv (aHR p true false sd hi1 rfl sd hi2 rfl) (by simp [aO,dN,k2])
    | true=>
     rw [k2]at hi2;have hco:=aKM p.cons (by omega);cases k3:uK p.cons with
     | false=>
      rw [k3]at hco;exact Ends.eqv (aHS p true true false sd hi1 rfl sd hi2 rfl hco rfl) (by simp [aO,k3])
     | true=>
      rw [k3]at hco;refine(aHT p true true true sd hi1 rfl sd hi2 rfl hco rfl (by omega)).ends ?_;refine Ends.eqv (rF0 p hp (by omega) (by omega) (by omega) p.funs 0 _ (by simp) rfl) ?_;have e:dN p=true:=by simp [dN,k0,k1,k2]
      simp only [aO,e,k3,Bool.true_and]
 ·exact Ends.eqv (aHP p sd) (by simp [aO,dN,k0])
def checkN (b:Bool) :Int:=if b=true then 0 else 2
def vK(a:aB)(b:Nat):TS:=⟨(tf 164 16 [(2,(bV false)),kp 6 0] [kc f164 52,kl f164 52,.inBlock 0,kc f164 7]),[],[(0,(.siter a.length (aA a) b),false)],1⟩
def aAd(e f:Int)(g:aB)(a:List Pat)(b c d:Int):TS:=⟨(tf 281 27 [(1,(nI b)),(4,(nI 0)),(5,(nI c)),(9,(iP a)),(10,(nI (a.length:Int))),(11,(nI d))] [kc f281 116,kl f281 116,.inBlock 0,kc f281 15]),[],[],0⟩
def aXj(a b c:Int):=tT 0 (start PP 241 [(nI a),(nI b),(nI c)])<|gd 10 10 (a≥b) (gE 7 0 (bV (decide (a≤c))))<|gE 7 0 (bV false)
def aSz:=fun a b c d=>aXj a b c|>.t d tv
def aSA:=fun a b c d=>aXj a b c|>.f d tv
def aP0 (b:Int):=fun a c=>(tT 0 (start PP 301 [(nI b)])<|eS 7 241 [(nI b),(nI (-1000000000)),(nI 1000000000)]<|fun a=>gE 3 0 (bV a)) a c tv
def aKN (a:aB):=(tT 0 (start PP 164 [(aD a)])<|.W 12 1 [0] (vK a 0)) tv
def aSB(a:aB)(b:Nat):=tT 0 (vK a b)<|.o (.y fun c:Nat=>.y fun d:Nat=>.i [rn 2,.nxt c d] [hA (b<a.length),hA (aJv a.length (aA a) b=some (c,d))]<|gd 16 12 (((c:Nat) :Int) <97) (gE 10 1 (bV false))<|gd 4 15 (((c:Nat) :Int) >122) (gE 6 1 (bV false))<|.W 4 1 [0] (vK a (Nat.add b d)))<|.i [rn 2,.nxtE] [hA (a.length≤b)]<|gE 10 1 (bV true)
def aKO:=fun a b c d e f g=>aSB a b|>.1 c d e f|>.t g tv
def aKP:=fun a b c d e f g i=>aSB a b|>.1 c d e f|>.f g|>.t i tv
def aKQ:=fun a b c d e f g i=>aSB a b|>.1 c d e f|>.f g|>.f i tv
def aKR:=fun a b c=>aSB a b|>.2 c tv
def aP1(a:aB):=tT 0 (start PP 231 [(aD a)])<|.b 9 5 (!(bM a.length (aA a) 0 0)) (gd 5 10 ((a.length:Int) ≤8) (.y fun b:UInt8=>.i [rn 1,.ans (.ev (.int .u8 ((b.toNat:Nat) :Int)))] [.q (p:=0≤ (0:Int)) (by decide),.a ((a)[0]?=some b) (p':=(0:Int) < (a.length:Int)) (fun h=>(aAP (k:= (0:Int)) (by decide) h)),.a ((a)[0]?=some b) (p':=int .u8 ((mod (div (aA a) (pow 256 (0:Int).toNat)) 256:Nat) :Int) = (.int .u8 ((b.toNat:Nat) :Int))) (fun h=>(aAQ (k:= (0:Int)) h))]<|gd 3 15 (((b.toNat:Nat) :Int) ≥65) (.i [rn 1,.ans (.ev (.int .u8 ((b.toNat:Nat) :Int)))] [.q (p:=0≤ (0:Int)) (by decide),.a ((a)[0]?=some b) (p':=(0:Int) < (a.length:Int)) (fun h=>(aAP (k:= (0:Int)) (by decide) h)),.a ((a)[0]?=some b) (p':=int .u8 ((mod (div (aA a) (pow 256 (0:Int).toNat)) 256:Nat) :Int) = (.int .u8 ((b.toNat:Nat) :Int))) (fun h=>(aAQ (k:= (0:Int)) h))]<|gd 3 20 (((b.toNat:Nat) :Int) ≤90) (.i [rn 1,.ans (.ev (aD (drop 1 a)))] [.a (1≤length a) (p':=vT PP 9 (aD a) (some (nI 1)) none (aD (drop 1 a))) (fun h=>(aBs (k:= (1:Int)) (by kernel_rfl) (by decide) h))]<|eS 0 164 [(aD (drop 1 a))]<|fun c=>gE 4 0 (bV c))<|gE 7 0 (bV false))<|gE 12 0 (bV false))<|gE 17 0 (bV false))<|gE 22 0 (bV false)
def aKS:=fun b c d e f a g i j k=>aP1 b|>.t e|>.t f c a a|>.t g a a|>.t i j d k tv
def aKT:=fun b c d e a f g=>aP1 b|>.t d|>.t e c a a|>.t f a a|>.f g tv
def aKU:=fun b c d e a f=>aP1 b|>.t d|>.t e c a a|>.f f tv
def aKV:=fun a b c=>aP1 a|>.t b|>.f c tv
def aKW:=fun a b=>aP1 a|>.f b tv
def aXk(a:Con):=tT 0 (start PP 243 [(.agg [(aD a.name),(nI a.args)])])<|eS 9 231 [(aD a.name)]<|fun b=>.b 1 6 b (eS 2 241 [(nI a.args),(nI 0),(nI 3)]<|fun c=>gE 4 1 (bV c))<|gE 7 1 (bV false)
def aP2:=fun a b c d e f=>aXk a b d|>.t e c f tv
def aP3:=fun a b c d=>aXk a b c|>.f d tv
def aNv(c:Prog)(a:Node):=tT 0 (start PP 283 [(Prog.av c),(Node.av a)])<|.b 18 7 (a.op==1) (eS 5 301 [(nI a.n)]<|fun b=>gE 3 2 (bV b))<|.b 6 12 (a.op==2) (eS 5 241 [(nI a.n),(nI 0),(nI 1)]<|fun b=>gE 3 2 (bV b))<|.b 6 17 (a.op==24) (eS 5 241 [(nI a.n),(nI 0),(nI 3)]<|fun b=>gE 3 2 (bV b))<|.b 6 22 (a.op==4) (gl 8 bL c.funs<|gw 1 30 (0- (c.funs.length:Int))<|eS 0 241 [(nI a.n),(nI (0- (c.funs.length:Int))),(nI 29)]<|fun b=>gE 3 2 (bV b))<|.b 6 32 (a.op==14) (gE 6 2 (bV true))<|gE 11 2 (bV (a.n==0))
def aH8:=fun a b c d e=>aNv a b|>.t d c e tv
def aH9:=fun a b c d e f=>aNv a b|>.f d|>.t e c f tv
def aIa:=fun a b c d e f g=>aNv a b|>.f d|>.f e|>.t f c g tv
def aIb:=fun a b c d e f g i j=>aNv a b|>.f d|>.f e|>.f f|>.t g i c j tv
def aIc:=fun a b c d e f g=>aNv a b|>.f c|>.f d|>.f e|>.f f|>.t g tv
def aId:=fun a b c d e f g=>aNv a b|>.f c|>.f d|>.f e|>.f f|>.f g tv
def aNw (b c:Int)(d:aB)(a:List Pat)(e:Int):=(tT 0 (start PP 281 [(.agg [(nI b),(nI c),(aD d),(iP a)]),(nI e)])<|gm 14 aN a<|.W 4 1 [] (aAd b c d a e 1 0)) tv
def aWx(e f:Int)(g:aB)(d:List Pat)(b a c:Int):=tT 0 (aAd e f g d b a c)<|gd 5 12 (c< (d.length:Int)) (aJX 6 d c<|fun j k l m=>gd 11 17 (a>b) (gE 8 1 (nI a))<|gw 8 22 (b-a)<|gpI 0 281 [(.agg [(nI j),(nI k),(aD l),(iP m)]),(nI (b-a))]<|fun i=>gw 1 24 (a+i)<|gw 5 25 (c+1)<|.W 3 1 [] (aAd e f g d b (a+i) (c+1)))<|gE 8 0 (nI a)
def aNx:=fun a b c d e f g i j k l m n o p=>aWx a b c d e f g|>.t m i j k l n o|>.t p tv
def aNy:=fun a b c d e f g i j k l m n o p q r s t u=>aWx a b c d e f g|>.t n i j k l o p|>.f q r m s t u tv
def aNz:=fun a b c d e f g i=>aWx a b c d e f g|>.f i tv
def yD(d:Prog)(e c:Int)(f:aB)(a:List Pat):=tT 0 (start PP 282 [(Prog.av d),(.agg [(nI e),(nI c),(aD f),(iP a)])])<|.b 13 8 (!(bM f.length (aA f) 0 0)) (gE 14 2 (bV false))<|eS 4 284 [(iP a),(.func 282 [(Prog.av d)] [])]<|fun i=>.b 3 15 (!i) (gE 6 2 (bV false))<|.b 15 18 (e==1) (.b 9 25 (c==0) (gm 2 aN a<|gE 5 2 (bV ((a.length:Int) ==0)))<|gE 8 2 (bV false))<|.b 6 18 (e==2) (.b 9 25 (c==0) (gm 2 aN a<|gE 5 2 (bV ((a.length:Int) ==0)))<|gE 8 2 (bV false))<|.b 5 18 (e==5) (.b 7 25 (c==0) (gm 2 aN a<|gE 5 2 (bV ((a.length:Int) ==0)))<|gE 8 2 (bV false))<|.b 6 31 (e==3) (eS 5 301 [(nI c)]<|fun b=>.b 1 36 b (gm 2 aN a<|gE 5 2 (bV ((a.length:Int) ==0)))<|gE 8 2 (bV false))<|.b 6 42 (e==4) (eS 5 241 [(nI c),(nI 0),(nI 1)]<|fun b=>.b 1 47 b (gm 2 aN a<|gE 5 2 (bV ((a.length:Int) ==0)))<|gE 8 2 (bV false))<|.b 6 53 (e==6) (.o (.y fun b:Bool=>.y fun g:Con=>.i [rn 2,.reg (rd 5 (.ans (.len (d.cons.length:Int))::.d::.pure (bV b)::.d::.b 63 true::.d::.d::.ans (.len (a.length:Int))::rd 5 (.ans (.idx (Con.av g))::rd 5 [])))] [hl Con.av d.cons,hA (Pure PP 241 [(nI c),(nI 0),(nI (IntKind.i64.wrap ((d.cons.length:Int) -1)))] (bV b)),hA (b=true),hm aN a,hA (0≤c),.a (((d.cons)[c.toNat]?) =some g) (cV (f:=Con.av))]<|gE 1 2 (bV ((a.length:Int) ==g.args)))<|.y fun b:Bool=>.i [rn 2,.reg (rd 5 (.ans (.len (d.cons.length:Int))::.d::.pure (bV b)::.d::.b 63 false::rd 14 []))] [hl Con.av d.cons,hA (Pure PP 241 [(nI c),(nI 0),(nI (IntKind.i64.wrap ((d.cons.length:Int) -1)))] (bV b)),hA (b=false)]<|gE 1 2 (bV false))<|gE 8 2 (bV false)
def aP4:=fun a b c d e f=>yD a b c d e|>.t f tv
def aP5:=fun a b c d e f g i j=>yD a b c d e|>.f g f i|>.t j tv
def aP6:=fun a b c d e f g i j k l=>yD a b c d e|>.f g f i|>.f j|>.t k|>.t l tv
def aP7:=fun a b c d e f g i j k l=>yD a b c d e|>.f g f i|>.f j|>.t k|>.f l tv
def aP8:=fun a b c d e f g i j k l m=>yD a b c d e|>.f g f i|>.f j|>.f k|>.t l|>.t m tv
def aP9:=fun a b c d e f g i j k l m=>yD a b c d e|>.f g f i|>.f j|>.f k|>.t l|>.f m tv
def aQa:=fun a b c d e f g i j k l m n=>yD a b c d e|>.f g f i|>.f j|>.f k|>.f l|>.t m|>.t n tv
def aQb:=fun a b c d e f g i j k l m n=>yD a b c d e|>.f g f i|>.f j|>.f k|>.f l|>.t m|>.f n tv
def aQc:=fun a b c d e f g i j k l m n o p q=>yD a b c d e|>.f i f j|>.f k|>.f l|>.f m|>.f n|>.t o g p|>.t q tv
def aQd:=fun a b c d e f g i j k l m n o p q=>yD a b c d e|>.f i f j|>.f k|>.f l|>.f m|>.f n|>.t o g p|>.f q tv
def aNA:=fun a b c d e f g i j k l m n o p q r=>yD a b c d e|>.f i f j|>.f k|>.f l|>.f m|>.f n|>.f o|>.t p g q|>.t r tv
def aNB:=fun a b c d e f g i j k l m n o p q r=>yD a b c d e|>.f i f j|>.f k|>.f l|>.f m|>.f n|>.f o|>.t p g q|>.f r tv
def aNC:=fun a b c d e f g i j k l m n o p q r s t u v=>yD a b c d e|>.f j f k|>.f l|>.f m|>.f n|>.f o|>.f p|>.f q|>.t r|>.1 g i s t u v tv
def aND:=fun a b c d e f g i j k l m n o p q r s=>yD a b c d e|>.f i f j|>.f k|>.f l|>.f m|>.f n|>.f o|>.f p|>.t q|>.2 g r s tv
def aNE:=fun a b c d e f g i j k l m n o p=>yD a b c d e|>.f g f i|>.f j|>.f k|>.f l|>.f m|>.f n|>.f o|>.f p tv
def jL(a:Int):=tT 0 (start PP 279 [(nI a)])<|.b 16 4 (a==1) (gE 9 0 (.iface 334 (nI 0)))<|.b 6 4 (a==2) (gE 9 0 (.iface 334 (nI 0)))<|.b 6 4 (a==3) (gE 9 0 (.iface 334 (nI 0)))<|.b 6 4 (a==4) (gE 9 0 (.iface 334 (nI 0)))<|.b 6 4 (a==21) (gE 9 0 (.iface 334 (nI 0)))<|.b 6 4 (a==25) (gE 9 0 (.iface 334 (nI 0)))<|.b 5 4 (a==28) (gE 7 0 (.iface 334 (nI 0)))<|.b 7 13 (a==5) (gE 9 0 (.iface 334 (nI 1)))<|.b 6 13 (a==27) (gE 9 0 (.iface 334 (nI 1)))<|.b 6 13 (a==16) (gE 9 0 (.iface 334 (nI 1)))<|.b 6 13 (a==17) (gE 9 0 (.iface 334 (nI 1)))<|.b 6 13 (a==19) (gE 9 0 (.iface 334 (nI 1)))<|.b 6 13 (a==20) (gE 9 0 (.iface 334 (nI 1)))<|.b 6 13 (a==23) (gE 9 0 (.iface 334 (nI 1)))<|.b 6 13 (a==24) (gE 9 0 (.iface 334 (nI 1)))<|.b 5 13 (a==26) (gE 7 0 (.iface 334 (nI 1)))<|.b 7 24 (a==6) (gE 9 0 (.iface 334 (nI 2)))<|.b 6 24 (a==7) (gE 9 0 (.iface 334 (nI 2)))<|.b 6 24 (a==9) (gE 9 0 (.iface 334 (nI 2)))<|.b 6 24 (a==10) (gE 9 0 (.iface 334 (nI 2)))<|.b 6 24 (a==11) (gE 9 0 (.iface 334 (nI 2)))<|.b 6 24 (a==12) (gE 9 0 (.iface 334 (nI 2)))<|.b 6 24 (a==13) (gE 9 0 (.iface 334 (nI 2)))<|.b 6 24 (a==18) (gE 9 0 (.iface 334 (nI 2)))<|.b 5 24 (a==22) (gE 7 0 (.iface 334 (nI 2)))<|.b 6 35 (a==8) (gE 7 0 (.iface 334 (nI 3)))<|.b 6 38 (a==14) (gE 8 0 (.iface 335 (.agg [])))<|.b 6 42 (a==15) (gE 8 0 (.iface 317 (.agg [])))<|gE 8 0 .nili
def aIe:=fun a b=>jL a|>.t b tv
def aIf:=fun a b c=>jL a|>.f b|>.t c tv
def aIg:=fun a b c d=>jL a|>.f b|>.f c|>.t d tv
def aIh:=fun a b c d e=>jL a|>.f b|>.f c|>.f d|>.t e tv
def aIi:=fun a b c d e f=>jL a|>.f b|>.f c|>.f d|>.f e|>.t f tv
def aIj:=fun a b c d e f g=>jL a|>.f b|>.f c|>.f d|>.f e|>.f f|>.t g tv
def aIk:=fun a b c d e f g i=>jL a|>.f b|>.f c|>.f d|>.f e|>.f f|>.f g|>.t i tv
def aIl:=fun a b c d e f g i j=>jL a|>.f b|>.f c|>.f d|>.f e|>.f f|>.f g|>.f i|>.t j tv
def aIm:=fun a b c d e f g i j k=>jL a|>.f b|>.f c|>.f d|>.f e|>.f f|>.f g|>.f i|>.f j|>.t k tv
def aIn:=fun a b c d e f g i j k l=>jL a|>.f b|>.f c|>.f d|>.f e|>.f f|>.f g|>.f i|>.f j|>.f k|>.t l tv
def aF6:=fun a b c d e f g i j k l m=>jL a|>.f b|>.f c|>.f d|>.f e|>.f f|>.f g|>.f i|>.f j|>.f k|>.f l|>.t m tv
def aF7:=fun a b c d e f g i j k l m n=>jL a|>.f b|>.f c|>.f d|>.f e|>.f f|>.f g|>.f i|>.f j|>.f k|>.f l|>.f m|>.t n tv
def aF8:=fun a b c d e f g i j k l m n o=>jL a|>.f b|>.f c|>.f d|>.f e|>.f f|>.f g|>.f i|>.f j|>.f k|>.f l|>.f m|>.f n|>.t o tv
def aF9:=fun a b c d e f g i j k l m n o p=>jL a|>.f b|>.f c|>.f d|>.f e|>.f f|>.f g|>.f i|>.f j|>.f k|>.f l|>.f m|>.f n|>.f o|>.t p tv
def aGa:=fun a b c d e f g i j k l m n o p q=>jL a|>.f b|>.f c|>.f d|>.f e|>.f f|>.f g|>.f i|>.f j|>.f k|>.f l|>.f m|>.f n|>.f o|>.f p|>.t q tv
def aGb:=fun a b c d e f g i j k l m n o p q r=>jL a|>.f b|>.f c|>.f d|>.f e|>.f f|>.f g|>.f i|>.f j|>.f k|>.f l|>.f m|>.f n|>.f o|>.f p|>.f q|>.t r tv
def aGc:=fun a b c d e f g i j k l m n o p q r s=>jL a|>.f b|>.f c|>.f d|>.f e|>.f f|>.f g|>.f i|>.f j|>.f k|>.f l|>.f m|>.f n|>.f o|>.f p|>.f q|>.f r|>.t s tv
def aGd:=fun a b c d e f g i j k l m n o p q r s t=>jL a|>.f b|>.f c|>.f d|>.f e|>.f f|>.f g|>.f i|>.f j|>.f k|>.f l|>.f m|>.f n|>.f o|>.f p|>.f q|>.f r|>.f s|>.t t tv
def aGe:=fun a b c d e f g i j k l m n o p q r s t u=>jL a|>.f b|>.f c|>.f d|>.f e|>.f f|>.f g|>.f i|>.f j|>.f k|>.f l|>.f m|>.f n|>.f o|>.f p|>.f q|>.f r|>.f s|>.f t|>.t u tv
def aGf:=fun a b c d e f g i j k l m n o p q r s t u v=>jL a|>.f b|>.f c|>.f d|>.f e|>.f f|>.f g|>.f i|>.f j|>.f k|>.f l|>.f m|>.f n|>.f o|>.f p|>.f q|>.f r|>.f s|>.f t|>.f u|>.t v tv
def aGg:=fun a b c d e f g i j k l m n o p q r s t u v w=>jL a|>.f b|>.f c|>.f d|>.f e|>.f f|>.f g|>.f i|>.f j|>.f k|>.f l|>.f m|>.f n|>.f o|>.f p|>.f q|>.f r|>.f s|>.f t|>.f u|>.f v|>.t w tv
def aGh:=fun a b c d e f g i j k l m n o p q r s t u v w x=>jL a|>.f b|>.f c|>.f d|>.f e|>.f f|>.f g|>.f i|>.f j|>.f k|>.f l|>.f m|>.f n|>.f o|>.f p|>.f q|>.f r|>.f s|>.f t|>.f u|>.f v|>.f w|>.t x tv
def aGi:=fun a b c d e f g i j k l m n o p q r s t u v w x y=>jL a|>.f b|>.f c|>.f d|>.f e|>.f f|>.f g|>.f i|>.f j|>.f k|>.f l|>.f m|>.f n|>.f o|>.f p|>.f q|>.f r|>.f s|>.f t|>.f u|>.f v|>.f w|>.f x|>.t y tv
def aGj:=fun a b c d e f g i j k l m n o p q r s t u v w x y z=>jL a|>.f b|>.f c|>.f d|>.f e|>.f f|>.f g|>.f i|>.f j|>.f k|>.f l|>.f m|>.f n|>.f o|>.f p|>.f q|>.f r|>.f s|>.f t|>.f u|>.f v|>.f w|>.f x|>.f y|>.t z tv
def aGk:=fun a b c d e f g i j k l m n o p q r s t u v w x y z A=>jL a|>.f b|>.f c|>.f d|>.f e|>.f f|>.f g|>.f i|>.f j|>.f k|>.f l|>.f m|>.f n|>.f o|>.f p|>.f q|>.f r|>.f s|>.f t|>.f u|>.f v|>.f w|>.f x|>.f y|>.f z|>.t A tv
def aGl:=fun a b c d e f g i j k l m n o p q r s t u v w x y z A B=>jL a|>.f b|>.f c|>.f d|>.f e|>.f f|>.f g|>.f i|>.f j|>.f k|>.f l|>.f m|>.f n|>.f o|>.f p|>.f q|>.f r|>.f s|>.f t|>.f u|>.f v|>.f w|>.f x|>.f y|>.f z|>.f A|>.t B tv
def aGm:=fun a b c d e f g i j k l m n o p q r s t u v w x y z A B C=>jL a|>.f b|>.f c|>.f d|>.f e|>.f f|>.f g|>.f i|>.f j|>.f k|>.f l|>.f m|>.f n|>.f o|>.f p|>.f q|>.f r|>.f s|>.f t|>.f u|>.f v|>.f w|>.f x|>.f y|>.f z|>.f A|>.f B|>.t C tv
def aGn:=fun a b c d e f g i j k l m n o p q r s t u v w x y z A B C D=>jL a|>.f b|>.f c|>.f d|>.f e|>.f f|>.f g|>.f i|>.f j|>.f k|>.f l|>.f m|>.f n|>.f o|>.f p|>.f q|>.f r|>.f s|>.f t|>.f u|>.f v|>.f w|>.f x|>.f y|>.f z|>.f A|>.f B|>.f C|>.t D tv
def aGo:=fun a b c d e f g i j k l m n o p q r s t u v w x y z A B C D=>jL a|>.f b|>.f c|>.f d|>.f e|>.f f|>.f g|>.f i|>.f j|>.f k|>.f l|>.f m|>.f n|>.f o|>.f p|>.f q|>.f r|>.f s|>.f t|>.f u|>.f v|>.f w|>.f x|>.f y|>.f z|>.f A|>.f B|>.f C|>.f D tv
def aB1(a:List Pat)(b:Prog)(c:Int):TS:=⟨(tf 316 19 [(0,(iP a)),(1,(.func 303 [] [(.ptr 0 0)])),(4,(nI 0)),(7,(nI (a.length:Int))),(8,(nI c))] [kc f316 52,kl f316 52,.inBlock 0,kc f316 7]),[(tf 302 9 [(4,(bV false)),(5,(iP a)),(6,(.func 303 [] [(.ptr 0 0)]))] [ko f302 6 2,kc f302 7]),(tf 284 9 [(4,(bV false)),(5,(iP a)),(6,(.func 303 [] [(.ptr 0 0)]))] [ko f284 6 2,kc f284 7])],[oC 0 [(.func 282 [(Prog.av b)] [])]],1⟩
def oZ(b:Prog)(a:Node)(c:Int):TS:=⟨(tf 316 19 [(0,(iP a.pats)),(1,(.func 303 [] [(.ptr 0 0)])),(4,(nI 0)),(7,(nI (a.pats.length:Int))),(8,(nI c))] [kc f316 52,kl f316 52,.inBlock 0,kc f316 7]),[(tf 302 9 [(4,(bV false)),(5,(iP a.pats)),(6,(.func 303 [] [(.ptr 0 0)]))] [ko f302 6 2,kc f302 7]),(tf 284 9 [(4,(bV false)),(5,(iP a.pats)),(6,(.func 303 [] [(.ptr 0 0)]))] [ko f284 6 2,kc f284 7]),(tf 248 35 [(4,(bV false)),(29,(bV true)),(31,(iP a.pats)),(32,(.func 280 [] [(.ptr 1 0)]))] [ko f248 62 13,kc f248 63])],[oC 0 [(.func 280 [] [(.ptr 1 0)])],oC 1 [(iN b.nodes),(iI b.funs),(nI b.main),(iC b.cons)]],2⟩
def rI(a:List aB)(c:Int)(b:List (aB×Bool)):TS:=⟨(tf 244 21 [(0,(iS a)),(2,(bV false)),(3,(.map 0)),(7,(iS a)),(8,(nI (a.length:Int))),(9,(nI c))] [kc f244 116,kl f244 116,.inBlock 0,kc f244 15]),[],[(0,(.map (aJ aD fX 0 b) b.length),true)],1⟩
def aQe (a:List Pat)(b:Prog):=(tT 0 (start PP 284 [(iP a),(.func 282 [(Prog.av b)] [])])<|gm 27 aN a<|.W 4 1 [0] (aB1 a b 0)) tv
def aWy(b:List Pat)(c:Prog)(a:Int):=tT 0 (aB1 b c a)<|gd 5 9 (a< (b.length:Int)) (aJX 14 b a<|fun d e f g=>eS 11 282 [(Prog.av c),(.agg [(nI d),(nI e),(aD f),(iP g)])]<|fun i=>.b 6 16 (!i) (gE 17 2 (bV (!(decide (a≥0)))))<|gw 5 18 (a+1)<|.W 3 2 [0] (aB1 b c (a+1)))<|gE 17 1 (bV true)
def aQf:=fun a b c d e f g i j k l m n=>aWy a b c|>.t j d e f g k l i m|>.t n tv
def aQg:=fun a b c d e f g i j k l m n o=>aWy a b c|>.t j d e f g k l i m|>.f n o tv
def aQh:=fun a b c d=>aWy a b c|>.f d tv
def aAR(b:Prog)(a:Node):=tT 0 (start PP 248 [(Prog.av b),(Node.av a)])<|.o (gp 10 279 [(nI a.op)] (.iface 317 (.agg []))<|gm 44 aN a.pats<|eS 0 241 [(nI (a.pats.length:Int)),(nI 1),(nI 5)]<|fun c=>.b 1 11 c (gl 2 bL a.kids<|gm 2 aN a.pats<|gw 1 18 (1+ (a.pats.length:Int))<|.b 7 24 ((a.kids.length:Int) == (1+ (a.pats.length:Int))) (eS 2 283 [(Prog.av b),(Node.av a)]<|fun d=>.b 2 29 d (gm 31 aN a.pats<|.W 4 6 [5,0] (oZ b a 0))<|gE 8 5 (bV false))<|gE 13 5 (bV false))<|gE 27 5 (bV false))<|.o (gp 10 279 [(nI a.op)] (.iface 335 (.agg []))<|gm 24 aN a.pats<|gd 2 14 ((a.pats.length:Int) >0) (gE 6 2 (bV false))<|.o (.y fun c:Bool=>.y fun d:Con=>.i [rn 22,.reg (rd 5 (.ans (.len (b.cons.length:Int))::.d::.pure (bV c)::.d::.b 15 true::.d::.d::.ans (.len (a.kids.length:Int))::rd 5 (.ans (.idx (Con.av d))::rd 5 [])))] [hl Con.av b.cons,hA (Pure PP 241 [(nI a.n),(nI 0),(nI (IntKind.i64.wrap ((b.cons.length:Int) -1)))] (bV c)),hA (c=true),hl bL a.kids,hA (0≤a.n),.a (((b.cons)[a.n.toNat]?) =some d) (cV (f:=Con.av))]<|.b 3 24 ((a.kids.length:Int) ==d.args) (eS 2 283 [(Prog.av b),(Node.av a)]<|fun f=>.b 2 29 f (gm 31 aN a.pats<|.W 4 6 [5,0] (oZ b a 0)) .x)<|gE 13 5 (bV false))<|.y fun c:Bool=>.i [rn 22,.reg (rd 5 (.ans (.len (b.cons.length:Int))::.d::.pure (bV c)::.d::.b 15 false::rd 14 []))] [hl Con.av b.cons,hA (Pure PP 241 [(nI a.n),(nI 0),(nI (IntKind.i64.wrap ((b.cons.length:Int) -1)))] (bV c)),hA (c=false)]<|gE 16 5 (bV false))<|.o (.y fun e:Int=>gp 10 279 [(nI a.op)] (.iface 334 (nI e))<|gm 24 aN a.pats<|gd 2 14 ((a.pats.length:Int) >0) (gE 6 2 (bV false))<|gl 24 bL a.kids<|.b 7 24 ((a.kids.length:Int) ==e) (eS 2 283 [(Prog.av b),(Node.av a)]<|fun d=>.b 2 29 d (gm 31 aN a.pats<|.W 4 5 [4,0] (oZ b a 0))<|gE 8 4 (bV false))<|gE 13 4 (bV false))<|gp 10 279 [(nI a.op)] (.nili)<|gE 18 2 (bV false)
def aNF:=fun a b c d e f g i j k l=>aAR a b|>.1 e c f|>.t g i|>.t j d k|>.t l tv
def aNG:=fun a b c d e f g i j k l=>aAR a b|>.1 e c f|>.t g i|>.t j d k|>.f l tv
def aNH:=fun a b c d e f g i=>aAR a b|>.1 d c e|>.t f g|>.f i tv
def aNI:=fun a b c d e f=>aAR a b|>.1 d c e|>.f f tv
def aNJ:=fun a b c d=>aAR a b|>.2|>.1 c|>.t d tv
def aNK:=fun a b c d e f g i j k l m n o=>aAR a b|>.2|>.1 f|>.f g|>.1 c d i j k l|>.t m e n|>.t o tv
def aNL:=fun a b c d e f g i j k l=>aAR a b|>.2|>.1 e|>.f f|>.1 c d g i j k|>.f l tv
def aNM:=fun a b c d e f g=>aAR a b|>.2|>.1 d|>.f e|>.2 c f g tv
def aNN:=fun a b c d e=>aAR a b|>.2|>.2|>.1 c d|>.t e tv
def aKX:=fun a b c d e f g i j=>aAR a b|>.2|>.2|>.1 c e|>.f f|>.t g d i|>.t j tv
def aKY:=fun a b c d e f g i j=>aAR a b|>.2|>.2|>.1 c e|>.f f|>.t g d i|>.f j tv
def aKZ:=fun a b c d e f=>aAR a b|>.2|>.2|>.1 c d|>.f e|>.f f tv
def aK0:=fun a b c=>aAR a b|>.2|>.2|>.2 c tv
def aSC(c:Prog)(b:Node)(a:Int):=tT 0 (oZ c b a)<|gd 5 9 (a< (b.pats.length:Int)) (aJX 14 b.pats a<|fun d e f g=>gpI 20 281 [(.agg [(nI d),(nI e),(aD f),(iP g)]),(nI 12)]<|fun i=>gd 2 7 (i≤12) (eS 2 282 [(Prog.av c),(.agg [(nI d),(nI e),(aD f),(iP g)])]<|fun j=>.b 11 16 (!j) (gE 22 4 (bV (!(decide (a≥0)))))<|gw 5 18 (a+1)<|.W 3 4 [0,1] (oZ c b (a+1)))<|gE 36 4 (bV (!(decide (a≥0)))))<|gE 22 2 (bV true)
def aNO:=fun a b c d e f g i j k l m n o p q=>aSC a b c|>.t k d e f g l m i n|>.t o j p|>.t q tv
def aNP:=fun a b c d e f g i j k l m n o p q r=>aSC a b c|>.t k d e f g l m i n|>.t o j p|>.f q r tv
def aNQ:=fun a b c d e f g i j k l m n=>aSC a b c|>.t j d e f g k l i m|>.f n tv
def aNR:=fun a b c d=>aSC a b c|>.f d tv
def aIo (a:List aB):=(tT 0 (start PP 244 [(iS a)])<|.i [rn 7,.mset 0 (aJ aD fX 0 ([] :List (aB×Bool))) ([] :List (aB×Bool)).length] [hr (aJ aD fX 0 ([] :List (aB×Bool))),hr (length ([] :List (aB×Bool)))]<|gl 6 aD a<|.W 4 1 [0] (rI a 0 ([] :List (aB×Bool)))) ⟨bA (fun _=>rfl) (fun _=>rfl) _ _ _,trivial⟩
def aXl(b:List aB)(d:Int)(a:List (aB×Bool)):=tT 0 (rI b d a)<|gd 5 10 (d< (b.length:Int)) (gX aD 6 b d<|fun c=>.i [rn 6,.mput (aJ aD fX 0 (bK c true a)) (bK c true a).length] [.q (p:=qS (aJ aD fX 0 a) a.length (aD c) (fX true) =some ((aJ aD fX 0 (bK c true a)),length (bK c true a))) (aF2 fG _ _ _)]<|gw 4 15 (d+1)<|.W 3 1 [0] (rI b (d+1) (bK c true a)))<|.i [rn 6,sI 17 (a.length:Int)] [.q (p:=(nI ((aJ aD fX 0 a).length:Int)) = (nI (a.length:Int))) (aPb _ _ _)]<|gl 1 aD b<|gE 4 1 (bV ((a.length:Int) == (b.length:Int)))
def aIp:=fun a b c d e f g i=>aXl a b c|>.t e d f g i ⟨bA (fun _=>rfl) (fun _=>rfl) _ _ _,trivial⟩
def aIq:=fun a b c d=>aXl a b c|>.f d tv
def aB2(a:List Node)(b:Prog)(c:Int):TS:=⟨(tf 194 19 [(0,(iN a)),(1,(.func 278 [] [(.ptr 0 0)])),(4,(nI 0)),(7,(nI (a.length:Int))),(8,(nI c))] [kc f194 52,kl f194 52,.inBlock 0,kc f194 7]),[(tf 124 9 [(4,(bV false)),(5,(iN a)),(6,(.func 278 [] [(.ptr 0 0)]))] [ko f124 6 2,kc f124 7]),(tf 247 9 [(4,(bV false)),(5,(iN a)),(6,(.func 278 [] [(.ptr 0 0)]))] [ko f247 6 2,kc f247 7])],[oC 0 [(.func 248 [(Prog.av b)] [])]],1⟩
def aB3(a:List Con)(b:Int):TS:=⟨(tf 223 19 [(0,(iC a)),(1,(.func 277 [] [(.ptr 0 0)])),(4,(nI 0)),(7,(nI (a.length:Int))),(8,(nI b))] [kc f223 52,kl f223 52,.inBlock 0,kc f223 7]),[(tf 276 9 [(4,(bV false)),(5,(iC a)),(6,(.func 277 [] [(.ptr 0 0)]))] [ko f276 6 2,kc f276 7]),(tf 242 9 [(4,(bV false)),(5,(iC a)),(6,(.func 277 [] [(.ptr 0 0)]))] [ko f242 6 2,kc f242 7])],[oC 0 [(.func 243 [] [])]],1⟩
def aB4(a:List Int)(b:Int):TS:=⟨(tf 304 19 [(0,(.ilst 1 (jI a) true)),(1,(.func 286 [] [(.ptr 0 0)])),(4,(nI 0)),(7,(nI (a.length:Int))),(8,(nI b))] [kc f304 52,kl f304 52,.inBlock 0,kc f304 7]),[(tf 285 9 [(4,(bV false)),(5,(.ilst 1 (jI a) true)),(6,(.func 286 [] [(.ptr 0 0)]))] [ko f285 6 2,kc f285 7]),(tf 249 9 [(4,(bV false)),(5,(.ilst 1 (jI a) true)),(6,(.func 286 [] [(.ptr 0 0)]))] [ko f249 6 2,kc f249 7])],[oC 0 [(.func 250 [] [])]],1⟩
def aB5(a:List Con)(c:Int)(b:List aB):TS:=⟨(tf 245 22 [(1,(.func 246 [] [])),(4,.nils),(5,(.gl 0 1 0 b.length false)),(8,(iC a)),(9,(nI (a.length:Int))),(10,(nI c))] [kc f245 116,kl f245 116,.inBlock 0,kc f245 15]),[],[oL 0 1 (map aD b)],1⟩
def rJ(a:Prog)(c:Int)(b:List Int):TS:=⟨(tf 200 128 [kp 1 0,(2,(bV false)),(3,(nI (a.nodes.length:Int))),(4,(.gl 1 1 0 b.length true)),(77,(iI a.funs)),(78,(nI (a.funs.length:Int))),(79,(nI c))] [kc f200 1012,kl f200 1012,.inBlock 0,kc f200 127]),[],[oC 0 [(iN a.nodes),(iI a.funs),(nI a.main),(iC a.cons)],oL 1 1 (jI b)],2⟩
def mL(a:Prog)(b:List Int)(c:Int):TS:=⟨(tf 200 128 [(2,(bV false)),(3,(nI (a.nodes.length:Int))),(4,(.gl 0 1 0 b.length true)),(97,(iN a.nodes)),(98,(nI (a.nodes.length:Int))),(99,(nI c))] [kc f200 2036,kl f200 2036,.inBlock 2,kc f200 255]),[],[oL 0 1 (jI b)],1⟩
def rK(a:Prog)(c:List Int)(d:Int)(b:List Int)(e f g:Int):TS:=⟨(tf 200 128 [(2,(bV false)),(3,(nI (a.nodes.length:Int))),(4,(.gl 0 1 0 b.length true)),(7,(nI f)),(97,(iN a.nodes)),(98,(nI (a.nodes.length:Int))),(99,(nI g)),(105,(iI c)),(106,(nI d)),(107,(nI e))] [kc f200 521420,kl f200 521420,.inBlock 4,.inBlock 3,kc f200 16295,kl f200 2036,.inBlock 2,kc f200 255]),[],[oL 0 1 (jI b)],1⟩
def aQi (a:List Node)(b:Prog):=(tT 0 (start PP 247 [(iN a),(.func 248 [(Prog.av b)] [])])<|gl 27 Node.av a<|.W 4 1 [0] (aB2 a b 0)) tv
def aWz(b:List Node)(c:Prog)(a:Int):=tT 0 (aB2 b c a)<|gd 5 9 (a< (b.length:Int)) (gX Node.av 14 b a<|fun d=>eS 11 248 [(Prog.av c),(Node.av d)]<|fun e=>.b 6 16 (!e) (gE 17 2 (bV (!(decide (a≥0)))))<|gw 5 18 (a+1)<|.W 3 2 [0] (aB2 b c (a+1)))<|gE 17 1 (bV true)
def aQj:=fun a b c d e f g i j k=>aWz a b c|>.t f d g i e j|>.t k tv
def aQk:=fun a b c d e f g i j k l=>aWz a b c|>.t f d g i e j|>.f k l tv
def aQl:=fun a b c d=>aWz a b c|>.f d tv
def aQm (a:List Con):=(tT 0 (start PP 242 [(iC a),(.func 243 [] [])])<|gl 27 Con.av a<|.W 4 1 [0] (aB3 a 0)) tv
def aWA(b:List Con)(a:Int):=tT 0 (aB3 b a)<|gd 5 9 (a< (b.length:Int)) (gX Con.av 14 b a<|fun c=>eS 11 243 [(.agg [(aD c.name),(nI c.args)])]<|fun d=>.b 6 16 (!d) (gE 17 2 (bV (!(decide (a≥0)))))<|gw 5 18 (a+1)<|.W 3 2 [0] (aB3 b (a+1)))<|gE 17 1 (bV true)
def aQn:=fun a b c d e f g i j=>aWA a b|>.t e c f g d i|>.t j tv
def aQo:=fun a b c d e f g i j k=>aWA a b|>.t e c f g d i|>.f j k tv
def aQp:=fun a b c=>aWA a b|>.f c tv
def aQq (a:List Int):=(tT 0 (start PP 249 [(.ilst 1 (jI a) true),(.func 250 [] [])])<|gl 27 bL a<|.W 4 1 [0] (aB4 a 0)) tv
def aWB(b:List Int)(a:Int):=tT 0 (aB4 b a)<|gd 5 9 (a< (b.length:Int)) (gX bL 14 b a<|fun c=>.b 29 16 (!(c==1)) (gE 17 1 (bV (!(decide (a≥0)))))<|gw 5 18 (a+1)<|.W 3 1 [0] (aB4 b (a+1)))<|gE 17 1 (bV true)
def aQr:=fun a b c d e f g=>aWB a b|>.t d c e f|>.t g tv
def aQs:=fun a b c d e f g i=>aWB a b|>.t d c e f|>.f g i tv
def aQt:=fun a b c=>aWB a b|>.f c tv
def aQu (a:List Con):=(tT 0 (start PP 245 [(iC a),(.func 246 [] [])])<|gl 12 Con.av a<|.i [rn 4,.nilL 5 1] []<|gu 0 0 (map aD ([] :List aB))<|gs 0 5 (.gl 0 1 0 ([] :List aB).length false)<|.W 0 1 [0] (aB5 a 0 ([] :List aB))) ⟨kk,trivial⟩
def aXm(c:List Con)(a:Int)(b:List aB):=tT 0 (aB5 c a b)<|gd 5 11 (a< (c.length:Int)) (gX Con.av 6 c a<|fun d=>ga 23 aD b [d.name]<|gw 5 20 (a+1)<|.W 3 5 [4] (aB5 c (a+1) (b++ [d.name])))<|gz 8 4 0 1 aD b false<|gE 0 1 (iS b)
def aQv:=fun a b c d e f g i j=>aXm a b c|>.t e d f g i j ⟨kk,trivial⟩
def aQw:=fun a b c d=>aXm a b c|>.f d tv
def aGp(a:Prog):=tT 0 (start PP 200 [(Prog.av a)])<|gl 10 Node.av a.nodes<|gd 8 17 ((a.nodes.length:Int) >300) (gE 40 1 (bV false))<|gl 3 bL a.funs<|gd 3 24 ((a.funs.length:Int) <1) (gE 33 1 (bV false))<|gl 3 bL a.funs<|gd 4 32 ((a.funs.length:Int) > (a.nodes.length:Int)) (gE 25 1 (bV false))<|gl 3 Con.av a.cons<|gd 3 39 ((a.cons.length:Int) >20) (gE 18 1 (bV false))<|gl 6 bL a.funs<|gw 1 47 ((a.funs.length:Int) - (1:Int))<|eS 0 241 [(nI a.main),(nI 0),(nI ((a.funs.length:Int) - (1:Int)))]<|fun c=>.b 3 50 (!c) (gE 6 1 (bV false))<|eS 8 242 [(iC a.cons),(.func 243 [] [])]<|fun d=>.b 2 56 (!d) (gE 23 1 (bV false))<|.y fun b:List aB=>gp 3 245 [(iC a.cons),(.func 246 [] [])] (iS b)<|eS 0 244 [(iS b)]<|fun e=>.b 3 64 (!e) (gE 15 1 (bV false))<|eS 5 247 [(iN a.nodes),(.func 248 [(Prog.av a)] [])]<|fun f=>.b 3 72 (!f) (gE 6 1 (bV false))<|.i [rn 5,.mk a.nodes.length] [hr ((a.nodes.length:Nat) :Int),hr ((a.nodes.length:Nat) :Int),hA (a.nodes.length<100000)]<|.i [.lset 1 (jI (replicate a.nodes.length (0:Int)))] [.q (p:=replicate a.nodes.length (bL (0:Int)) = (jI (replicate a.nodes.length (0:Int)))) (aF1 _ _ _)]<|.i [.set 74 (.gl 1 1 0 (replicate a.nodes.length (0:Int)).length true)] [.q (p:=(AV.gl 1 1 0 a.nodes.length true) = (.gl 1 1 0 (replicate a.nodes.length (0:Int)).length true)) (dB (List.length_replicate ..).symm)]<|gl 8 bL a.funs<|.W 4 2 [0,1] (rJ a 0 (replicate a.nodes.length (0:Int)))
def aIr:=fun a b=>aGp a|>.t b tv
def aIs:=fun a b c=>aGp a|>.f b|>.t c tv
def aIt:=fun a b c d=>aGp a|>.f b|>.f c|>.t d tv
def aIu:=fun a b c d e=>aGp a|>.f b|>.f c|>.f d|>.t e tv
def aIv:=fun a b c d e f g i j=>aGp a|>.f c|>.f d|>.f e|>.f f g b i|>.t j tv
def aIw:=fun a b c d e f g i j k l m=>aGp a|>.f d|>.f e|>.f f|>.f g i b j|>.f k c l|>.t m tv
def aIx:=fun a b c d e f g i j k l m n o p q r=>aGp a|>.f f|>.f g|>.f i|>.f j k b l|>.f m c n|>.f o d p e q|>.t r tv
def aIy:=fun a b c d e f g i j k l m n o p q r s t u=>aGp a|>.f g|>.f i|>.f j|>.f k l b m|>.f n c o|>.f p d q e r|>.f s f t|>.t u tv
def aIz:=fun a b c d e f g i j k l m n o p q r s t u v=>aGp a|>.f g|>.f i|>.f j|>.f k l b m|>.f n c o|>.f p d q e r|>.f s f t|>.f u v ⟨kk,trivial⟩
def aWC(d:Prog)(e:Int)(a:List Int):=tT 0 (rJ d e a)<|gd 5 80 (e< (d.funs.length:Int)) (gX bL 6 d.funs e<|fun b=>gw 9 85 ((d.nodes.length:Int) -1)<|eS 0 241 [(nI b),(nI 0),(nI ((d.nodes.length:Int) -1))]<|fun f=>.b 2 87 (!f) (gE 6 2 (bV false))<|.i [rn 5,.ans (.ix)] [hA (0≤b),hA (b< (a.length:Int))]<|.y fun c:Int=>gj bL 0 a b.toNat c<|gw 1 92 (c+1)<|.i [.ans (.ix)] [hA (0≤b),hA (b< (a.length:Int))]<|.i [.st (bL c) (bL (c+1))] [.a (((a)[b.toNat]?) =some c) (jJ (f:=bL)),hr (some (bL (c+1)))]<|.i [.lset 1 (jI (set a b.toNat (c+1)))] [.q (p:=(jI a).set (0+b.toNat) (bL (c+1)) = (jI (set a b.toNat (c+1)))) (kQ _ _ _ _)]<|.i [.set 4 (.gl 1 1 0 (set a b.toNat (c+1)).length true)] [.q (p:=(AV.gl 1 1 0 a.length true) = (.gl 1 1 0 (set a b.toNat (c+1)).length true)) (dB (length_set ..).symm)]<|.i [.set 88 (.gl 1 1 0 (set a b.toNat (c+1)).length true)] [.q (p:=(AV.gl 1 1 0 a.length true) = (.gl 1 1 0 (set a b.toNat (c+1)).length true)) (dB (length_set ..).symm)]<|gw 4 94 (e+1)<|.W 3 2 [0,1] (rJ d (e+1) (set a b.toNat (c+1))))<|gl 8 Node.av d.nodes<|.W 4 2 [1] (mL d a 0)
def aIA:=fun a b c d e f g i j k l=>aWC a b c|>.t f d g i j e k|>.t l tv
def aIB:=fun d e f g i j k l m n o p a b c q r=>aWC d e f|>.t k g l m n i o|>.f p a b j c q a b c r ⟨kk,trivial⟩
def aIC:=fun a b c d=>aWC a b c|>.f d ⟨kk,trivial⟩
def aXn(c:Prog)(d:List Int)(a:Int):=tT 0 (mL c d a)<|gd 5 100 (a< (c.nodes.length:Int)) (gX Node.av 7 c.nodes a<|fun b=>gl 9 bL b.kids<|.W 4 2 [0] (rK c b.kids (b.kids.length:Int) d 0 a a))<|gz 5 126 0 1 bL d true<|eS 0 249 [(.ilst 1 (jI d) true),(.func 250 [] [])]<|fun b=>gE 3 1 (bV b)
def aID:=fun a b c d e f g=>aXn a b c|>.t e d f g ⟨kk,trivial⟩
def aIE:=fun a b c d e f=>aXn a b c|>.f e d f tv
def aWD(d:Prog)(i:List Int)(j:Int)(a:List Int)(e f g:Int):=tT 0 (rK d i j a e f g)<|gd 5 108 (e<j) (gX bL 6 i e<|fun b=>gw 9 113 (f+1)<|gw 2 115 ((d.nodes.length:Int) -1)<|eS 0 241 [(nI b),(nI (f+1)),(nI ((d.nodes.length:Int) -1))]<|fun k=>.b 2 117 (!k) (gE 6 1 (bV false))<|.i [rn 5,.ans (.ix)] [hA (0≤b),hA (b< (a.length:Int))]<|.y fun c:Int=>gj bL 0 a b.toNat c<|gw 1 122 (c+1)<|.i [.ans (.ix)] [hA (0≤b),hA (b< (a.length:Int))]<|.i [.st (bL c) (bL (c+1))] [.a (((a)[b.toNat]?) =some c) (jJ (f:=bL)),hr (some (bL (c+1)))]<|.i [.lset 0 (jI (set a b.toNat (c+1)))] [.q (p:=(jI a).set (0+b.toNat) (bL (c+1)) = (jI (set a b.toNat (c+1)))) (kQ _ _ _ _)]<|.i [.set 4 (.gl 0 1 0 (set a b.toNat (c+1)).length true)] [.q (p:=(AV.gl 0 1 0 a.length true) = (.gl 0 1 0 (set a b.toNat (c+1)).length true)) (dB (length_set ..).symm)]<|.i [.set 118 (.gl 0 1 0 (set a b.toNat (c+1)).length true)] [.q (p:=(AV.gl 0 1 0 a.length true) = (.gl 0 1 0 (set a b.toNat (c+1)).length true)) (dB (length_set ..).symm)]<|gw 4 124 (e+1)<|.W 3 1 [0] (rK d i j (set a b.toNat (c+1)) (e+1) f g))<|gw 5 125 (g+1)<|.W 3 1 [0] (mL d a (g+1))
def aIF:=fun a b c d e f g i j k l m n o p q=>aWD a b c d e f g|>.t k i l m n o j p|>.t q tv
def aIG:=fun d e f g i j k l m n o p q r s t u a b c v w=>aWD d e f g i j k|>.t o l p q r s m t|>.f u a b n c v a b c w ⟨kk,trivial⟩
def aIH:=fun a b c d e f g i j=>aWD a b c d e f g|>.f i j ⟨kk,trivial⟩
def aXo(a:Prog):=tT 0 (start PP 138 [(Prog.av a)])<|eS 10 200 [(Prog.av a)]<|fun b=>.b 2 6 (!b) (gE 6 1 (nI 2))<|gE 7 1 (nI 0)
def aK1:=fun a b c d=>aXo a b c|>.t d tv
def aK2:=fun a b c d=>aXo a b c|>.f d tv
theorem eJ (n lo hi:Int) :Pure PP 241 [.int .i64 n,.int .i64 lo,.int .i64 hi] (.bool (cS n lo hi)) :=by
 refine aV (by kernel_rfl) rfl rfl ?_;by_cases h:n≥lo
 · have e:cS n lo hi=decide (n≤hi) :=by unfold cS;rw [decide_eq_true (show lo≤n from h),Bool.true_and]
   rw [e];exact aSz n lo hi (decide_eq_true h)
 · have e:cS n lo hi=false:=by unfold cS;rw [decide_eq_false (show ¬lo≤n from h),Bool.false_and]
   rw [e];exact aSA n lo hi (decide_eq_false h)
theorem aAS (n:Int) :Pure PP 301 [.int .i64 n] (.bool (cS n (-1000000000) 1000000000)) :=
 aV (by kernel_rfl) rfl rfl (aP0 n _ (eJ n _ _))
theorem aNS (b:ByteArray)(i:Nat)(h:128≤ (b.get! i).toNat) :128≤ (Utf8.decode b i).1:=by
 unfold Utf8.decode Utf8.runeError;simp only [add_zero];rw [if_neg (show ¬ (b.get! i).toNat<0x80 by omega)]
 repeat' split
 all_goals first
  |assumption
  | (simp_all;done)
  | (rename_i q;simp only [Bool.and_eq_true,decide_eq_true_eq,ge_iff_le]at q;simp only;omega)
theorem aSD {s:aB}{i:Nat}{c:UInt8}(h:s[i]?=some c) :∃r d,aJv (length s) (aA s) i=some (r,d) ∧ (c.toNat<128→r=c.toNat∧d=1) ∧ (128≤c.toNat→128≤r) :=by
 have hi:= (List.getElem?_eq_some_iff.1 h).1;have hb:=byte_at h;unfold aJv;have e1:blt i (length s) =true:=by rw [cO];exact decide_eq_true hi
 have e2:mod (div (aA s) (pow 256 i)) 256=c.toNat:=hb;rw [e1,e2];simp only [cond];by_cases k:c.toNat<128
 · have e3:blt c.toNat 128=true:=by rw [cO];exact decide_eq_true k
   rw [e3];exact⟨_,_,rfl,fun _=> ⟨rfl,rfl⟩,fun g=>by omega⟩
 · have e3:blt c.toNat 128=false:=by rw [cO];exact decide_eq_false k
   rw [e3];refine⟨_,_,rfl,fun g=>by omega,fun _=>?_⟩;have hn:aK (length s) (aA s) =s:=bZ s;rw [hn];have hg: ((⟨⟨s⟩⟩ :ByteArray).get! (i+0)).toNat=c.toNat:=by
    simp only [add_zero,ByteArray.get!];have: (⟨s⟩ :Array UInt8)[i]! =c:=by
     rw [Array.getElem!_eq_getD,Array.getD_eq_getD_getElem?,show(⟨s⟩ :Array UInt8) =s.toArray from rfl,List.getElem?_toArray,h];rfl
    rw [this]
   exact aNS _ _ (by rw [add_zero]at hg;rw [hg];omega)
theorem aBz (s:aB) :∀ (t:aB) (i:Nat),s.drop i=t→Ends PP 0 (vK s i).as (.ret (.bool (fH t))) (aF [] 0)
 | [],i,h=>aKR s i (bE h)
 | c :: t,i,h=>by
  obtain⟨h1,h2,h3⟩ :=bB h;obtain⟨r,d,q1,q2,q3⟩ :=aSD h1;by_cases g1:c.toNat<97
  · have:= (q2 (by omega)).1;exact Ends.eqv (aKO s i r d h3 q1 sd) (by simp [fH,rB];omega)
  · by_cases g2:122<c.toNat
    · have hr:122<r:=by
       by_cases k:c.toNat<128
       ·have:= (q2 k).1;omega
       ·have:=q3 (by omega);omega
      exact Ends.eqv (aKP s i r d h3 q1 sd sd) (by simp [fH,rB];omega)
    · obtain⟨rfl,rfl⟩ :=q2 (by omega);refine(aKQ s i _ _ h3 q1 sd sd).ends ?_;have e:rB c=true:=by simp [rB];omega
      exact Ends.eqv (aBz s t (i+1) h2) (by simp [fH,e])
theorem aBA (s:aB) :Pure PP 164 [aD s] (.bool (fH s)) :=
 aV (by kernel_rfl) rfl rfl ((aKN s).ends (aBz s s 0 rfl))
theorem aII (s:aB) :Pure PP 231 [aD s] (.bool (gA s)) :=by
 refine aV (by kernel_rfl) rfl rfl ?_
 match s with
 | [] =>exact aKW [] rfl
 | c ::t=>
  have h0: (!(bM (length (c::t)) (aA (c::t)) 0 0)) =true:=by rw [cR];rfl
  by_cases g0: (c::t).length≤8
  · have g0': (decide (((length (c::t) :Nat) :Int) ≤ (8:Int))) =true:=sd;by_cases g1:65≤c.toNat
    · by_cases g2:c.toNat≤90
      ·exact Ends.eqv (aKS (c::t) c _ h0 g0' rfl sd sd (by simp) (aBA t)) (by simp only [gA,decide_eq_true g0,decide_eq_true g1,decide_eq_true g2,Bool.true_and])
      ·exact Ends.eqv (aKT (c::t) c h0 g0' rfl sd sd) (by simp only [gA,decide_eq_false g2,Bool.and_false,Bool.false_and])
    ·exact Ends.eqv (aKU (c::t) c h0 g0' rfl sd) (by simp only [gA,decide_eq_false g1,Bool.and_false,Bool.false_and])
  ·exact Ends.eqv (aKV (c::t) h0 sd) (by simp only [gA,decide_eq_false g0,Bool.false_and])
theorem aNT (c:Con) :Pure PP 243 [Con.av c] (.bool (eH c)) :=by
 refine aV (by kernel_rfl) rfl rfl ?_;have hg:=aII c.name;cases k:gA c.name with
 |false=>rw [k]at hg;exact Ends.eqv (aP3 c false hg rfl) (by simp [eH,k])
 |true=>rw [k]at hg;exact Ends.eqv (aP2 c true _ hg rfl (eJ _ _ _)) (by simp [eH,k])
def lH (p:Prog)(x:Node) :Bool:=if x.op=14 then true else bW p x.op x.n
theorem aNU (p:Prog)(x:Node)(hf:p.funs.length≤1000) :Ends PP 0 (start PP 283 [Prog.av p,Node.av x]).as (.ret (.bool (lH p x))) (aF [] 0) :=by
 cases hb1: (x.op== (1:Int))with
 | true=>
  exact Ends.eqv (aH8 p x  (cS (x.n) (-1000000000) 1000000000) hb1 (aAS (x.n))) (by simp_all [lH,bW] <;>rfl)
 | false=>
  cases hb2: (x.op== (2:Int))with
  | true=>
   exact Ends.eqv (aH9 p x  (cS (x.n) 0 1) hb1 hb2 (eJ (x.n) 0 1)) (by simp_all [lH,bW] <;>rfl)
  | false=>
   cases hb3: (x.op== (24:Int))with
   | true=>
    exact Ends.eqv (aIa p x  (cS (x.n) 0 3) hb1 hb2 hb3 (eJ (x.n) 0 3)) (by simp_all [lH,bW] <;>rfl)
   | false=>
    cases hb4: (x.op== (4:Int))with
    | true=>
     exact Ends.eqv (aIb p x  (cS (x.n) (0- ((length p.funs:Nat) :Int)) 29) hb1 hb2 hb3 hb4 sdI (eJ (x.n) (0- ((length p.funs:Nat) :Int)) 29)) (by simp_all [lH,bW] <;>rfl)
    | false=>
     cases hb5: (x.op== (14:Int))with
     | true=>
      exact Ends.eqv (aIc p x   hb1 hb2 hb3 hb4 hb5) (by simp_all [lH,bW] <;>rfl)
     | false=>
      exact Ends.eqv (aId p x   hb1 hb2 hb3 hb4 hb5) (by simp_all [lH,bW] <;>rfl)
theorem aGq (p:Prog)(x:Node)(hf:p.funs.length≤1000) :Pure PP 283 [Prog.av p,Node.av x] (.bool (lH p x)) :=
 aV (by kernel_rfl) rfl rfl (aNU p x hf)
mutual
def mM :Pat→Int→Int
 | .mk _ _ _ ps,most=>kA ps most 1
def kA :List Pat→Int→Int→Int
 | [],_,n=>n
 |p::ps,most,n=>if n>most then n else kA ps most (n+mM p (most-n))
end
mutual
theorem aDd :∀ (p:Pat) (m:Int),0≤m→1≤mM p m∧mM p m≤m+1
 | .mk _ _ _ ps,m,h=>by rw [mM];exact aEK ps m 1 (by omega) (by omega)
theorem aEK :∀ (ps:List Pat) (m n:Int),1≤n→n≤m+1→1≤kA ps m n∧kA ps m n≤m+1
 | [],m,n,h1,h2=>by rw [kA];omega
 | p ::ps,m,n,h1,h2=>by
  rw [kA];split
  ·omega
  · have a:=aDd p (m-n) (by omega);exact aEK ps m _ (by omega) (by omega)
end
mutual
theorem aIJ :∀ (p:Pat) (m:Int),0≤m→ ((dM p:Int) ≤m→mM p m=dM p) ∧ (m<dM p→m<mM p m)
 | .mk _ _ _ ps,m,h=>by
  have:=aEL ps m 1 (by omega);simp only [mM,dM];constructor
  ·intro g;have:=this.1 (by omega);omega
  ·intro g;exact this.2 (by omega)
theorem aEL :∀ (ps:List Pat) (m n:Int),n≤m+1→ (n+bQ ps≤m→kA ps m n=n+bQ ps) ∧ (m<n+bQ ps→m<kA ps m n)
 | [],m,n,h=>by simp only [kA,bQ];omega
 | p ::ps,m,n,h=>by
  simp only [kA,bQ];split
  ·omega
  · rename_i k;have a:=aIJ p (m-n) (by omega);have l:=aDd p (m-n) (by omega);have b:=aEL ps m (n+mM p (m-n)) (by omega);constructor
    · intro g;have:=a.1 (by omega);have:=b.1 (by omega);omega
    · intro g;refine b.2 ?_;by_cases q: (dM p:Int) ≤m-n
      ·have:=a.1 q;omega
      ·have:=a.2 (by omega);omega
end
theorem aEM (p:Pat)(m:Int)(h:0≤m) :mM p m≤m↔ (dM p:Int) ≤m:=by
 have:=aIJ p m h;constructor
 · intro g;by_cases k: (dM p:Int) ≤m
   ·exact k
   ·have:=this.2 (by omega);omega
 ·intro g;have:=this.1 g;omega
theorem aDe (f n:Int)(s:aB)(ps:List Pat)(m:Int)(hm:m≤1000)(ih:∀p∈ps,∀m:Int,0≤m→m≤1000→Pure PP 281 [Pat.av p,.int .i64 m] (.int .i64 (mM p m))) :
  ∀ (t:List Pat) (i:Nat) (k:Int),ps.drop i=t→ (i:Int) +1≤k→k≤m+1→Ends PP 0 (aAd f n s ps m k (i:Int)).as (.ret (.int .i64 (kA t m k))) (aF [] 0)
 | [],i,k,h,h1,h2=>by
  have:=bE h;rw [kA];exact aNz f n s ps m k i sd
 | .mk f' n' s' ps'::t,i,k,h,h1,h2=>by
  obtain⟨g1,g2,g3⟩ :=bB h;rw [kA];split
  ·exact aNx f n s ps m k i f' n' s' ps' sd sd sd sd
  · rename_i hk;have l:=aDd (.mk f' n' s' ps') (m-k) (by omega);refine(aNy f n s ps m k i f' n' s' ps' _ sd sd sd sd sd (ih (.mk f' n' s' ps') (mem_of_getElem? g1) (m-k) (by omega) (by omega)) sd sd).ends ?_;exact aDe f n s ps m hm ih t (i+1) _ g2 (by omega) (by omega)
mutual
theorem aDf :∀ (p:Pat) (m:Int),0≤m→m≤1000→Pure PP 281 [Pat.av p,.int .i64 m] (.int .i64 (mM p m))
 | .mk f n s ps,m,h0,h1=>by
  refine aV (by kernel_rfl) (by simp [keylessL,yB,keyless]) rfl ?_;rw [mM];refine(aNw f n s ps m).ends ?_;exact aDe f n s ps m h1 (aEN ps) ps 0 1 rfl (by omega) (by omega)
theorem aEN :∀ (ps:List Pat),∀p∈ps,∀m:Int,0≤m→m≤1000→Pure PP 281 [Pat.av p,.int .i64 m] (.int .i64 (mM p m))
 | [],p,hp,_,_,_=>by cases hp
 | q::ps,p,hp,m,h0,h1=>by
  rcases List.mem_cons.1 hp with e|hp
  ·rw [e];exact aDf q m h0 h1
  ·exact aEN ps p hp m h0 h1
end
end
end Go.Hb
