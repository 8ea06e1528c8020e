/- A machine on abstract values, its soundness, ways, plain laws. -/
import Derived.Test.YtfaikcecgpcimaaGreatHF
set_option linter.defProp false
set_option linter.unusedVariables false
set_option linter.unusedSimpArgs false
set_option linter.unusedSectionVars false
set_option maxRecDepth 100000
set_option maxHeartbeats 2000000
namespace Go.Hb
open AV (ilst int keyless keylessL str)
open List (all_nil drop length length_set map map_set mem_of_getElem? replicate set)
open Nat (add_zero blt div mod pow)
open Go.Proofs Tryz
noncomputable section
section
variable {P :Program}
theorem throws_at {f : Nat} {args : List AV} {ch : List (AV×Bool)}(hb:jW P f=true)(hk:keylessL args=true)(hv:∀x∈ch,keyless x.1=true)(he:Ends P 0 (start P f args).as (.pan ch) (aD [] 0)) :aIw P f args ch:=fun h=>by
 unfold jW at hb;split at hb
 · rename_i fn hf;split at hb
   · rename_i c hc;have hg:dP P h (.enter f args) =some ⟨f,dA .leaf 0 args,max fn.ntmps args.length,[.code c],[],.run,.normal,none⟩ :=by simp [dP,cK,hf,hc]
     refine⟨_,hg,fun hm E fr ccs w fr' fs r cl base=>?_⟩;simp only at fs;rw [fs.nil_inv];have f1:FR E.p (start P f args).as.fr fr:=by
      have e1: (start P f args).as.fr= ⟨f,mkT ((List.range args.length).zip args),max fn.ntmps args.length,[.code c],[],.run,.normal,none⟩ :=by simp [start,hf,hc,TS.as,TF.fr]
      rw [e1];refine⟨fr'.fn,⟨fr'.tm.1,fun t a e=>?_⟩,?_,?_,fr'.mode,fr'.kind,?_⟩
      · have h1:=aBD (wZ e);have hlt:= (List.getElem?_eq_some_iff.1 h1).1;have h2: (dA .leaf 0 args).at t=some a:=by
         unfold dA;rw [bX,if_pos hlt];exact h1
        obtain⟨cv,g1,g2⟩ :=fr'.tm.2 t a h2;exact⟨cv,g1,eY (keylessL_mem.1 hk a (mem_of_getElem? h1)) g2⟩
      · have:=fr'.todo;simpa [IRs,IR]using this
      · have:=fr'.defers;simpa [DRs]using this
      · have:=fr'.round;simpa [RR]using this
     have e2 : (start P f args).as.cs = [] := by unfold start;split; · split<;>rfl
                                                 ·rfl
     have e3 : (start P f args).as.h = ⟨.leaf, 0⟩ := by unfold start;split; · split<;>rfl
                                                        ·rfl
     obtain⟨cl',w',E',g1,⟨cv,rfl,g2⟩,g3,g4⟩ :=he (Nat.zero_le _) E.p fr [] w f1 (by rw [e2];rfl) (by rw [e3];exact aER r) cl base;rw [e3]at g4;obtain⟨q1,q2⟩ :=aES r g3 g4;exact⟨_,w',_,g1,⟨cv,rfl,CR.of_p (E:= ⟨E.loc,E'.imm⟩) (show CR (Emb.p ⟨E.loc,E'.imm⟩) ch cv from aAQ (E:=E') hv g2)⟩,q1,q2⟩
   ·cases hb
 ·cases hb
end
inductive Typ where
 |mk (sort n:Int) (text:aB) (parts:List Typ)
mutual
def Typ.av :Typ→AV
 | .mk f n t ps=>.agg [.int .i64 f,.int .i64 n,aA t,.ilst 4 (Typs.av ps) false]
def Typs.av :List Typ→List AV
 | [] =>[]
 |p::ps=>Typ.av p::Typs.av ps
end
inductive Term where
 |mk (op n:Int) (text:aB) (kids:List Term) (pats:List Pat)
mutual
def Term.av :Term→AV
 | .mk o n t ks ps=>.agg [.int .i64 o,.int .i64 n,aA t,.ilst 5 (Terms.av ks) false,.ilst 4 (Pats.av ps) false]
def Terms.av :List Term→List AV
 | [] =>[]
 |p::ps=>Term.av p::Terms.av ps
end
structure ConD where
 name:aB
 args:List Typ
def ConD.av (c:ConD) :AV:=.agg [aA c.name,.ilst 4 (Typs.av c.args) false]
structure DataD where
 name:aB
 cons:List ConD
def DataD.av (d:DataD) :AV:=.agg [aA d.name,.ilst 2 (map ConD.av d.cons) false]
inductive FunD where
 |mk (name param:aB) (frm to:Typ) (body:Term)
def FunD.av :FunD→AV
 | .mk n p (.mk f0 f1 f2 f3) (.mk g0 g1 g2 g3) (.mk b0 b1 b2 b3 b4) =>.agg [aA n,aA p,.int .i64 f0,.int .i64 f1,aA f2,.ilst 4 (Typs.av f3) false,.int .i64 g0,.int .i64 g1,aA g2,.ilst 4 (Typs.av g3) false,.int .i64 b0,.int .i64 b1,aA b2,.ilst 5 (Terms.av b3) false,.ilst 4 (Pats.av b4) false]
def FunDs.av (l:List FunD) :List AV:=map FunD.av l
structure Mod where
 name:aB
 datas:List DataD
 funs:List FunD
def Mod.av (m:Mod) :AV:=.agg [aA m.name,.ilst 2 (map DataD.av m.datas) false,.ilst 15 (FunDs.av m.funs) false]
inductive Part where
 |data (d:DataD)
 |fn (f:FunD)
def Part.av :Part→AV
 | .data d=>.iface 217 (DataD.av d)
 | .fn f=>.iface 219 (FunD.av f)
def Parts.av (l:List Part) :List AV:=map Part.av l
inductive KV where
 |row (l:List Int)
 |nil
 |val (u:Value)
def KV.av :KV→AV
 | .row l=>.ilst 1 (map aP l) false
 | .nil=>.nils
 | .val u=>.val u
structure ONode where
 op:Int
 n:Int
 kv:KV
 pats:List Pat
def ONode.av (x:ONode) :AV:=.agg [.int .i64 x.op,.int .i64 x.n,x.kv.av,.ilst 4 (Pats.av x.pats) false]
def Node.o (x:Node) :ONode:= ⟨x.op,x.n,.row x.kids,x.pats⟩
theorem aIU (l:List Node) :map ONode.av (map Node.o l) =map Node.av l:=by
 rw [List.map_map];rfl
theorem bD0 :∀k:KV,keyless k.av=true
 | .row l=>by simp only [KV.av,keyless]
 | .nil=>rfl
 | .val u=>rfl
theorem aQ (x:ONode) :keyless x.av=true:=by
 simp only [ONode.av,keyless,keylessL,bD0,aBJ,Bool.and_true]
theorem aIV {E:Emb}{x y:AV}(hv:∀v,VR E x v→VR E y v) :∀ {xs:List AV} {i:Nat},xs[i]?=some x→∀vs,VRs E xs vs→VRs E (xs.set i y) vs
 | [],i,h,vs,hvs=>by simp at h
 | a::xs,0,h,vs,hvs=>by
  simp only [VRs]at hvs;obtain⟨u,us,rfl,h1,h2⟩ :=hvs;simp at h;subst h;simp only [List.set_cons_zero,VRs];exact⟨u,us,rfl,hv u h1,h2⟩
 | a::xs,i+1,h,vs,hvs=>by
  simp only [VRs]at hvs;obtain⟨u,us,rfl,h1,h2⟩ :=hvs;simp only [List.getElem?_cons_succ]at h;simp only [List.set_cons_succ,VRs];exact⟨u,us,rfl,h1,aIV hv h us h2⟩
theorem aKV {E:Emb}{x:ONode}{k:KV}(hk:∀v,VR E x.kv.av v→VR E k.av v) :∀v,VR E x.av v→VR E (ONode.av ⟨x.op,x.n,k,x.pats⟩) v:=fun v h=>by
 simp only [ONode.av,VR,VRs]at h ⊢;obtain⟨us,rfl,u1,r1,rfl,q1,u2,r2,rfl,q2,u3,r3,rfl,q3,q4⟩ :=h;exact⟨_,rfl,_,_,rfl,q1,_,_,rfl,q2,_,_,rfl,hk _ q3,q4⟩
theorem aNN {E:Emb}:∀v,VR E KV.nil.av v→VR E (KV.row []).av v:=fun v h=>by
 simp only [KV.av,VR]at h;simp only [KV.av,VR,List.map_nil];exact⟨[],VRs.nil _,fun _ hu=>by(cases hu),.inl ⟨rfl,none,0,h,fun _=>rfl,fun _=>rfl⟩⟩
theorem aTs {l:List ONode}{i:Nat}{y:ONode}(h:l[i]?=some y)(hk:y.kv= .nil) :VW (map ONode.av l) (map ONode.av (l.set i ⟨y.op,y.n,.row [],y.pats⟩)) :=fun E vs hvs=>by
 have h1: (map ONode.av l)[i]?=some y.av:=by rw [List.getElem?_map,h];rfl
 rw [map_set];exact aIV (aKV (by rw [hk];exact aNN)) h1 vs hvs
theorem aTt {l:List ONode}{i:Nat}{y:ONode}{u:Value}{ks:List Int}(h:l[i]?=some y)(hk:y.kv= .val u) :VQ u 1 (map aP ks) (map ONode.av l) (map ONode.av (l.set i ⟨y.op,y.n,.row ks,y.pats⟩)) :=fun E vs hu hvs=>by
 have h1: (map ONode.av l)[i]?=some y.av:=by rw [List.getElem?_map,h];rfl
 rw [map_set];refine aIV (aKV (fun v hv=>?_)) h1 vs hvs;rw [hk]at hv;simp only [KV.av,VR]at hv;subst hv;exact hu
theorem aIW {α:Type}{f:α→AV}{l:List α}{i:Nat}{y:α}(h:l[i]?=some y) :map f l≠ [] :=fun e=>by
 cases l with
 |nil=>simp at h
 |cons _ _=>cases e
def kwL :List aB:=[(strOf [98,111,111,108]),(strOf [99,101,108,108]),(strOf [99,104,97,110]),(strOf [101,108,115,101]),(strOf [102,97,108,115,101]),(strOf [102,117,110]),(strOf [103,101,116]),(strOf [105,102]),(strOf [105,110]),(strOf [105,110,112,117,116]),(strOf [105,110,116]),(strOf [106,111,105,110]),(strOf [108,101,116]),(strOf [109,97,116,99,104]),(strOf [109,111,100,117,108,101]),(strOf [111,117,116]),(strOf [112,97,117,115,101]),(strOf [112,117,116]),(strOf [114,101,115,101,116]),(strOf [115,101,110,100]),(strOf [115,104,105,102,116]),(strOf [115,112,97,119,110]),(strOf [116,97,107,101]),(strOf [116,97,115,107]),(strOf [116,104,101,110]),(strOf [116,114,117,101]),(strOf [116,121,112,101]),(strOf [117,110,105,116])]
def bBV:TS:=cI PP 226 [] [] 0
def aXm:=(tT 0 (bBV)<|.i [rn 10,.toL 0 false [(.str 4 1819242338),(.str 4 1819043171),(.str 4 1851877475),(.str 4 1702063205),(.str 5 435728179558),(.str 3 7239014),(.str 3 7628135),(.str 2 26217),(.str 2 28265),(.str 5 500186508905),(.str 3 7630441),(.str 4 1852403562),(.str 3 7628140),(.str 5 448345170285),(.str 6 111516500389741),(.str 3 7632239),(.str 5 435728769392),(.str 3 7632240),(.str 5 499918267762),(.str 4 1684956531),(.str 5 499934390387),(.str 5 474449277043),(.str 4 1701536116),(.str 4 1802723700),(.str 4 1852139636),(.str 4 1702195828),(.str 4 1701869940),(.str 4 1953066613)]] [hr (some [(str 4 1819242338),(str 4 1819043171),(str 4 1851877475),(str 4 1702063205),(str 5 435728179558),(str 3 7239014),(str 3 7628135),(str 2 26217),(str 2 28265),(str 5 500186508905),(str 3 7630441),(str 4 1852403562),(str 3 7628140),(str 5 448345170285),(str 6 111516500389741),(str 3 7632239),(str 5 435728769392),(str 3 7632240),(str 5 499918267762),(str 4 1684956531),(str 5 499934390387),(str 5 474449277043),(str 4 1701536116),(str 4 1802723700),(str 4 1852139636),(str 4 1702195828),(str 4 1701869940),(str 4 1953066613)]),hr true]<|gu 0 0 (map aA kwL)<|gs 0 0 (.gl 0 1 0 kwL.length true)<|.i [.weak 0] []<|gz 0 0 0 1 aA kwL false<|gE 0 1 (iS kwL)) tv
def aTu (c:aB):=fun a b d e=>(tT 0 (start PP 167 [(aA c)])<|.y fun a:List aB=>gp 6 226 [] (iS a)<|gG 1 111 [(iS a),(aA c)]<|fun b=>gE 3 0 (bV b)) a d b e tv
def aPT(a:aB):=tT 0 (start PP 86 [(aA a)])<|gd 10 6 ((a.length:Int) ≥1) (gd 5 11 ((a.length:Int) ≤8) (gG 1 166 [(aA a)]<|fun b=>.b 2 15 b (gG 1 167 [(aA a)]<|fun c=>gE 5 0 (bV (!c)))<|gE 7 0 (bV false))<|gE 11 0 (bV false))<|gE 16 0 (bV false)
def aXn:=fun a b c d e f g i=>aPT a|>.t d|>.t e b f|>.t g c i tv
def aXo:=fun a b c d e f=>aPT a|>.t c|>.t d b e|>.f f tv
def aXp:=fun a b c=>aPT a|>.t b|>.f c tv
def aXq:=fun a b=>aPT a|>.f b tv
def fV(a:aB):=tT 0 (start PP 165 [(aA a)])<|.b 16 4 (bL a.length (aC a) 4 1819242338) (gE 8 0 (bV true))<|.b 6 4 (bL a.length (aC a) 4 1819043171) (gE 8 0 (bV true))<|.b 6 4 (bL a.length (aC a) 4 1851877475) (gE 8 0 (bV true))<|.b 6 4 (bL a.length (aC a) 4 1702063205) (gE 8 0 (bV true))<|.b 6 4 (bL a.length (aC a) 5 435728179558) (gE 8 0 (bV true))<|.b 6 4 (bL a.length (aC a) 3 7239014) (gE 8 0 (bV true))<|.b 6 4 (bL a.length (aC a) 3 7628135) (gE 8 0 (bV true))<|.b 6 4 (bL a.length (aC a) 2 26217) (gE 8 0 (bV true))<|.b 6 4 (bL a.length (aC a) 2 28265) (gE 8 0 (bV true))<|.b 6 4 (bL a.length (aC a) 5 500186508905) (gE 8 0 (bV true))<|.b 6 4 (bL a.length (aC a) 3 7630441) (gE 8 0 (bV true))<|.b 6 4 (bL a.length (aC a) 4 1852403562) (gE 8 0 (bV true))<|.b 6 4 (bL a.length (aC a) 3 7628140) (gE 8 0 (bV true))<|.b 6 4 (bL a.length (aC a) 5 448345170285) (gE 8 0 (bV true))<|.b 6 4 (bL a.length (aC a) 6 111516500389741) (gE 8 0 (bV true))<|.b 6 4 (bL a.length (aC a) 3 7632239) (gE 8 0 (bV true))<|.b 6 4 (bL a.length (aC a) 5 435728769392) (gE 8 0 (bV true))<|.b 6 4 (bL a.length (aC a) 3 7632240) (gE 8 0 (bV true))<|.b 6 4 (bL a.length (aC a) 5 499918267762) (gE 8 0 (bV true))<|.b 6 4 (bL a.length (aC a) 4 1684956531) (gE 8 0 (bV true))<|.b 6 4 (bL a.length (aC a) 5 499934390387) (gE 8 0 (bV true))<|.b 6 4 (bL a.length (aC a) 5 474449277043) (gE 8 0 (bV true))<|.b 6 4 (bL a.length (aC a) 4 1701536116) (gE 8 0 (bV true))<|.b 6 4 (bL a.length (aC a) 4 1802723700) (gE 8 0 (bV true))<|.b 6 4 (bL a.length (aC a) 4 1852139636) (gE 8 0 (bV true))<|.b 6 4 (bL a.length (aC a) 4 1702195828) (gE 8 0 (bV true))<|.b 6 4 (bL a.length (aC a) 4 1701869940) (gE 8 0 (bV true))<|.b 5 4 (bL a.length (aC a) 4 1953066613) (gE 6 0 (bV true))<|gE 8 0 (bV false)
def aXr:=fun a b=>fV a|>.t b tv
def aXs:=fun a b c=>fV a|>.f b|>.t c tv
def aXt:=fun a b c d=>fV a|>.f b|>.f c|>.t d tv
def aXu:=fun a b c d e=>fV a|>.f b|>.f c|>.f d|>.t e tv
def aXv:=fun a b c d e f=>fV a|>.f b|>.f c|>.f d|>.f e|>.t f tv
def aXw:=fun a b c d e f g=>fV a|>.f b|>.f c|>.f d|>.f e|>.f f|>.t g tv
def aXx:=fun a b c d e f g i=>fV a|>.f b|>.f c|>.f d|>.f e|>.f f|>.f g|>.t i tv
def aXy:=fun a b c d e f g i j=>fV a|>.f b|>.f c|>.f d|>.f e|>.f f|>.f g|>.f i|>.t j tv
def aXz:=fun a b c d e f g i j k=>fV a|>.f b|>.f c|>.f d|>.f e|>.f f|>.f g|>.f i|>.f j|>.t k tv
def aXA:=fun a b c d e f g i j k l=>fV a|>.f b|>.f c|>.f d|>.f e|>.f f|>.f g|>.f i|>.f j|>.f k|>.t l tv
def aTv:=fun a b c d e f g i j k l m=>fV a|>.f b|>.f c|>.f d|>.f e|>.f f|>.f g|>.f i|>.f j|>.f k|>.f l|>.t m tv
def aTw:=fun a b c d e f g i j k l m n=>fV a|>.f b|>.f c|>.f d|>.f e|>.f f|>.f g|>.f i|>.f j|>.f k|>.f l|>.f m|>.t n tv
def aTx:=fun a b c d e f g i j k l m n o=>fV a|>.f b|>.f c|>.f d|>.f e|>.f f|>.f g|>.f i|>.f j|>.f k|>.f l|>.f m|>.f n|>.t o tv
def aTy:=fun a b c d e f g i j k l m n o p=>fV a|>.f b|>.f c|>.f d|>.f e|>.f f|>.f g|>.f i|>.f j|>.f k|>.f l|>.f m|>.f n|>.f o|>.t p tv
def aTz:=fun a b c d e f g i j k l m n o p q=>fV a|>.f b|>.f c|>.f d|>.f e|>.f f|>.f g|>.f i|>.f j|>.f k|>.f l|>.f m|>.f n|>.f o|>.f p|>.t q tv
def aTA:=fun a b c d e f g i j k l m n o p q r=>fV a|>.f b|>.f c|>.f d|>.f e|>.f f|>.f g|>.f i|>.f j|>.f k|>.f l|>.f m|>.f n|>.f o|>.f p|>.f q|>.t r tv
def aTB:=fun a b c d e f g i j k l m n o p q r s=>fV a|>.f b|>.f c|>.f d|>.f e|>.f f|>.f g|>.f i|>.f j|>.f k|>.f l|>.f m|>.f n|>.f o|>.f p|>.f q|>.f r|>.t s tv
def aTC:=fun a b c d e f g i j k l m n o p q r s t=>fV a|>.f b|>.f c|>.f d|>.f e|>.f f|>.f g|>.f i|>.f j|>.f k|>.f l|>.f m|>.f n|>.f o|>.f p|>.f q|>.f r|>.f s|>.t t tv
def aTD:=fun a b c d e f g i j k l m n o p q r s t u=>fV a|>.f b|>.f c|>.f d|>.f e|>.f f|>.f g|>.f i|>.f j|>.f k|>.f l|>.f m|>.f n|>.f o|>.f p|>.f q|>.f r|>.f s|>.f t|>.t u tv
def aTE:=fun a b c d e f g i j k l m n o p q r s t u v=>fV a|>.f b|>.f c|>.f d|>.f e|>.f f|>.f g|>.f i|>.f j|>.f k|>.f l|>.f m|>.f n|>.f o|>.f p|>.f q|>.f r|>.f s|>.f t|>.f u|>.t v tv
def aTF:=fun a b c d e f g i j k l m n o p q r s t u v w=>fV a|>.f b|>.f c|>.f d|>.f e|>.f f|>.f g|>.f i|>.f j|>.f k|>.f l|>.f m|>.f n|>.f o|>.f p|>.f q|>.f r|>.f s|>.f t|>.f u|>.f v|>.t w tv
def aTG:=fun a b c d e f g i j k l m n o p q r s t u v w x=>fV a|>.f b|>.f c|>.f d|>.f e|>.f f|>.f g|>.f i|>.f j|>.f k|>.f l|>.f m|>.f n|>.f o|>.f p|>.f q|>.f r|>.f s|>.f t|>.f u|>.f v|>.f w|>.t x tv
def aTH:=fun a b c d e f g i j k l m n o p q r s t u v w x y=>fV a|>.f b|>.f c|>.f d|>.f e|>.f f|>.f g|>.f i|>.f j|>.f k|>.f l|>.f m|>.f n|>.f o|>.f p|>.f q|>.f r|>.f s|>.f t|>.f u|>.f v|>.f w|>.f x|>.t y tv
def aTI:=fun a b c d e f g i j k l m n o p q r s t u v w x y z=>fV a|>.f b|>.f c|>.f d|>.f e|>.f f|>.f g|>.f i|>.f j|>.f k|>.f l|>.f m|>.f n|>.f o|>.f p|>.f q|>.f r|>.f s|>.f t|>.f u|>.f v|>.f w|>.f x|>.f y|>.t z tv
def aTJ:=fun a b c d e f g i j k l m n o p q r s t u v w x y z A=>fV a|>.f b|>.f c|>.f d|>.f e|>.f f|>.f g|>.f i|>.f j|>.f k|>.f l|>.f m|>.f n|>.f o|>.f p|>.f q|>.f r|>.f s|>.f t|>.f u|>.f v|>.f w|>.f x|>.f y|>.f z|>.t A tv
def aTK:=fun a b c d e f g i j k l m n o p q r s t u v w x y z A B=>fV a|>.f b|>.f c|>.f d|>.f e|>.f f|>.f g|>.f i|>.f j|>.f k|>.f l|>.f m|>.f n|>.f o|>.f p|>.f q|>.f r|>.f s|>.f t|>.f u|>.f v|>.f w|>.f x|>.f y|>.f z|>.f A|>.t B tv
def aTL:=fun a b c d e f g i j k l m n o p q r s t u v w x y z A B C=>fV a|>.f b|>.f c|>.f d|>.f e|>.f f|>.f g|>.f i|>.f j|>.f k|>.f l|>.f m|>.f n|>.f o|>.f p|>.f q|>.f r|>.f s|>.f t|>.f u|>.f v|>.f w|>.f x|>.f y|>.f z|>.f A|>.f B|>.t C tv
def aTM:=fun a b c d e f g i j k l m n o p q r s t u v w x y z A B C D=>fV a|>.f b|>.f c|>.f d|>.f e|>.f f|>.f g|>.f i|>.f j|>.f k|>.f l|>.f m|>.f n|>.f o|>.f p|>.f q|>.f r|>.f s|>.f t|>.f u|>.f v|>.f w|>.f x|>.f y|>.f z|>.f A|>.f B|>.f C|>.t D tv
def aTN:=fun a b c d e f g i j k l m n o p q r s t u v w x y z A B C D=>fV a|>.f b|>.f c|>.f d|>.f e|>.f f|>.f g|>.f i|>.f j|>.f k|>.f l|>.f m|>.f n|>.f o|>.f p|>.f q|>.f r|>.f s|>.f t|>.f u|>.f v|>.f w|>.f x|>.f y|>.f z|>.f A|>.f B|>.f C|>.f D tv
def aPU(a:aB):=tT 0 (start PP 85 [(aA a)])<|.b 9 5 (!(bL a.length (aC a) 0 0)) (gd 5 10 ((a.length:Int) ≤8) (gG 1 164 [(aA a)]<|fun b=>.b 2 14 b (gG 1 165 [(aA a)]<|fun c=>gE 5 0 (bV (!c)))<|gE 7 0 (bV false))<|gE 11 0 (bV false))<|gE 16 0 (bV false)
def aXB:=fun a b c d e f g i=>aPU a|>.t d|>.t e b f|>.t g c i tv
def aXC:=fun a b c d e f=>aPU a|>.t c|>.t d b e|>.f f tv
def aXD:=fun a b c=>aPU a|>.t b|>.f c tv
def aXE:=fun a b=>aPU a|>.f b tv
mutual
def lP :Pat→Int→Int
 | .mk _ _ _ ps,left=>if left<1 then -1 else jO ps (left-1)
def jO :List Pat→Int→Int
 | [],left=>left
 |p::ps,left=>if 0≤left then jO ps (lP p left)else left
end
mutual
theorem aKW :∀ (p:Pat) (left:Int),0≤left→ -1≤lP p left∧lP p left≤left-1
 | .mk _ _ _ ps,left,h=>by
  rw [lP];split
  ·omega
  ·have:=aHa ps (left-1) (by omega);omega
theorem aHa :∀ (ps:List Pat) (left:Int),-1≤left→ -1≤jO ps left∧jO ps left≤left
 | [],left,h=>by rw [jO];omega
 | p ::ps,left,h=>by
  rw [jO];split
  · rename_i h0;have a:=aKW p left h0;have:=aHa ps (lP p left) a.1;omega
  ·omega
end
theorem aDy (f n:Int)(s:aB)(ps:List Pat)(l0:Int)(ih:∀p∈ps,∀left:Int,0≤left→left≤1000→Pure PP 186 [Pat.av p,.int .i64 left] (.int .i64 (lP p left))) :
  ∀ (t:List Pat) (i:Nat) (left:Int),ps.drop i=t→ -1≤left→ (i:Int) +left≤1000→Ends PP 0 (yU f n s ps l0 left (i:Int)).as (.ret (.int .i64 (jO t left))) (aD [] 0)
 | [],i,left,h,h1,h2=>by
  have:=bA h;rw [jO];exact aNM f n s ps l0 left i sd
 | .mk f' n' s' ps'::t,i,left,h,h1,h2=>by
  obtain⟨g1,g2,g3⟩ :=aY h;rw [jO];split
  · rename_i h0;have w:=aKW (.mk f' n' s' ps') left h0;refine(aNK f n s ps l0 left i f' n' s' ps' _ sd sd sd sd (ih _ (mem_of_getElem? g1) left h0 (by omega)) sd).ends ?_;exact aDy f n s ps l0 ih t (i+1) _ g2 w.1 (by omega)
  ·exact aNL f n s ps l0 left i sd sd
mutual
theorem xF :∀ (p:Pat) (left:Int),-1≤left→left≤1000→Pure PP 186 [Pat.av p,.int .i64 left] (.int .i64 (lP p left))
 | .mk f n s ps,left,h0,h1=>by
  refine aU (by kernel_rfl) (by simp [keylessL,pD,keyless]) rfl ?_;rw [lP];split
  ·exact aNI f n s ps left sd
  · refine(aNJ f n s ps left sd sd).ends ?_;exact aDy f n s ps left (fun p hp left h0 h1=>aFf ps p hp left h0 h1) ps 0 _ rfl (by omega) (by omega)
theorem aFf :∀ (ps:List Pat),∀p∈ps,∀left:Int,0≤left→left≤1000→Pure PP 186 [Pat.av p,.int .i64 left] (.int .i64 (lP p left))
 | [],p,hp,_,_,_=>by cases hp
 | q::ps,p,hp,left,h0,h1=>by
  rcases List.mem_cons.1 hp with e|hp
  ·rw [e];exact xF q left (by omega) h1
  ·exact aFf ps p hp left h0 h1
end
mutual
def nG :Pat→Bool
 | .mk _ _ s ps=>nU ps&&decide (s.length≤30)
def nU :List Pat→Bool
 | [] =>true
 |p::ps=>nG p&&nU ps
end
mutual
def cU :Pat→Nat
 | .mk _ _ _ ps=>bE ps+1
def bE :List Pat→Nat
 | [] =>0
 |p::ps=>cU p+bE ps
end
theorem gC :∀ps:List Pat,ps.length≤bE ps
 | [] =>by simp [bE]
 | .mk _ _ _ qs::ps=>by have:=gC ps;simp only [bE,cU,List.length_cons];omega
mutual
theorem aFg :∀ (p:Pat) (left:Int),0≤lP p left→lP p left=left-cU p
 | .mk _ _ _ ps,left,h=>by
  rw [lP]at h ⊢;split at h
  ·omega
  · rename_i h1;rw [if_neg h1];have:=aDz ps (left-1) h;simp only [cU];omega
theorem aDz :∀ (ps:List Pat) (left:Int),0≤jO ps left→jO ps left=left-bE ps
 | [],left,h=>by simp [jO,bE]
 | p ::ps,left,h=>by
  rw [jO]at h ⊢;split at h
  · rename_i h1;rw [if_pos h1];have a:=aDz ps _ h;have b:=aFg p left (by omega);simp only [bE];omega
  ·omega
end
mutual
theorem aFh :∀ (p:Pat) (left:Int),(cU p:Int) ≤left→lP p left=left-cU p
 | .mk _ _ _ ps,left,h=>by
  simp only [cU]at h ⊢;rw [lP,if_neg (by omega),aDA ps (left-1) (by omega)];omega
theorem aDA :∀ (ps:List Pat) (left:Int),(bE ps:Int) ≤left→jO ps left=left-bE ps
 | [],left,h=>by simp [jO,bE]
 | p::ps,left,h=>by
  simp only [bE]at h ⊢;rw [jO,if_pos (by omega),aFh p left (by omega),aDA ps _ (by omega)];omega
end
theorem yV (p:Pat)(left:Int) :0≤lP p left↔ (cU p:Int) ≤left:=by
 constructor
 ·intro h;have:=aFg p left h;omega
 ·intro h;rw [aFh p left h];omega
theorem xG (f n:Int)(s:aB)(ps:List Pat)(hl:ps.length<1000000)(ih:∀p∈ps,Pure PP 199 [Pat.av p] (.bool (nG p))) :
  ∀ (t:List Pat) (i:Nat),ps.drop i=t→Ends PP 0 (nT f n s ps (i:Int)).as (.ret (.bool (nU t&&decide (s.length≤30)))) (aD [] 0)
 | [],i,h=>by
  have:=bA h;have e:decide (((length s:Nat) :Int) ≤ (30:Int)) =decide (s.length≤30) :=by congr 1;simp;omega
  rw [nU,Bool.true_and,←e];exact aGC f n s ps i sd
 | .mk f' n' s' ps'::t,i,h=>by
  obtain⟨g1,g2,g3⟩ :=aY h;have ihp:=ih _ (mem_of_getElem? g1);rw [nU];cases hb:nG (.mk f' n' s' ps')with
  | false=>
   rw [hb]at ihp;exact aGA f n s ps i f' n' s' ps' false sd sd sd ihp rfl
  | true=>
   rw [hb]at ihp;refine(aGB f n s ps i f' n' s' ps' true sd sd sd ihp rfl sd).ends ?_;rw [Bool.true_and];exact xG f n s ps hl ih t (i+1) g2
mutual
theorem xH :∀ (p:Pat),cU p<1000000→Pure PP 199 [Pat.av p] (.bool (nG p))
 | .mk f n s ps,h=>by
  refine aU (by kernel_rfl) (by simp [keylessL,pD]) rfl ?_;simp only [cU]at h;have:=gC ps;refine(aGz f n s ps).ends ?_;rw [nG];exact xG f n s ps (by omega) (aAq ps (by omega)) ps 0 rfl
theorem aAq :∀ (ps:List Pat),bE ps<1000000→∀p∈ps,Pure PP 199 [Pat.av p] (.bool (nG p))
 | [],_,p,hp=>by cases hp
 | q::ps,h,p,hp=>by
  simp only [bE]at h;rcases List.mem_cons.1 hp with e|hp
  ·rw [e];exact xH q (by omega)
  ·exact aAq ps (by omega) p hp
end
def xI (p:Pat) :Bool:=decide (cU p≤16) &&nG p
theorem aIX (p:Pat) :Pure PP 136 [Pat.av p] (.bool (xI p)) :=by
 refine aU (by kernel_rfl) (by simp [keylessL,pD]) rfl ?_;obtain⟨f,n,s,ps⟩ :=p;have hw:=xF (.mk f n s ps) 16 (by omega) (by omega);by_cases h:cU (.mk f n s ps) ≤16
 · have e:xI (.mk f n s ps) =nG (.mk f n s ps) :=by simp [xI,h]
   rw [e];have hg:0≤lP (.mk f n s ps) 16:= (yV (.mk f n s ps) 16).2 (by omega);exact aKP f n s ps _ _ hw (decide_eq_true hg) (xH (.mk f n s ps) (by omega))
 · have e:xI (.mk f n s ps) =false:=by simp [xI,h]
   rw [e];refine aKQ f n s ps _ hw (decide_eq_false fun g=>h ?_);have:= (yV (.mk f n s ps) 16).1 g;omega
def eU (l:List Con) :Bool:=l.all fun c=>decide (c.name.length≤40)
def jH (l:List Pat) :Bool:=l.all xI
def aX (x:Node) :Bool:=decide (x.kids.length≤10) &&decide (x.pats.length≤10) &&jH x.pats
def aJ (p:Prog) :Bool:=decide (p.nodes.length≤320) &&decide (p.funs.length≤320) &&decide (p.cons.length≤25) &&eU p.cons&&p.nodes.all aX
mutual
theorem bD1 (p:Prog)(hn:p.nodes.length≤320) :∀ (t:List Node) (i:Nat),p.nodes.drop i=t→Ends PP 0 (mP p (i:Int)).as (.ret (.bool (t.all aX))) (aD [] 0)
 | [],i,h=>by
  have:=bA h;exact aFa p i sd
 | x :: t,i,h=>by
  obtain⟨g1,g2,g3⟩ :=aY h;by_cases k1:x.kids.length≤10
  · by_cases k2:x.pats.length≤10
    · have e: (x::t).all aX= (jH (x.pats.drop 0) &&t.all aX) :=by simp [aX,k1,k2]
      rw [e];refine(aE9 p i x sd sd sd sd sd).ends ?_;have ih:=bD1 p hn t (i+1) g2;clear e g1 g2 h
      suffices ∀ (u:List Pat) (k:Nat),x.pats.drop k=u→Ends PP 0 (mQ p x.op x.n x.kids x.pats (k:Int) (i:Int)).as (.ret (.bool (jH u&&t.all aX))) (aD [] 0)from this _ 0 rfl
      intro u
      induction u with
      | nil=>
       intro k hk;have:=bA hk;refine(aFd p x.op x.n x.kids x.pats k i sd sd).ends ?_;simp only [jH,all_nil,Bool.true_and];exact ih
      | cons q u ihu=>
       intro k hk;obtain⟨q1,q2,q3⟩ :=aY hk;obtain⟨f',n',s',ps'⟩ :=q;have hp:=aIX (.mk f' n' s' ps');cases hb:xI (.mk f' n' s' ps')with
       | false=>
        rw [hb]at hp;have e: (jH (.mk f' n' s' ps'::u) &&t.all aX) =false:=by simp [jH,hb]
        rw [e];exact aFb p x.op x.n x.kids x.pats k i f' n' s' ps' false sd sd sd hp rfl
       | true=>
        rw [hb]at hp;have e: (jH (.mk f' n' s' ps'::u) &&t.all aX) = (jH u&&t.all aX) :=by simp [jH,hb]
        rw [e];refine(aFc p x.op x.n x.kids x.pats k i f' n' s' ps' true sd sd sd hp rfl sd).ends ?_;exact ihu (k+1) q2
    · have e: (x::t).all aX=false:=by simp [aX,k2]
      rw [e];exact aE8 p i x sd sd sd sd sd
  · have e: (x::t).all aX=false:=by simp [aX,k1]
    rw [e];exact aE7 p i x sd sd sd sd
end
theorem bD2 (p:Prog)(hc:p.cons.length≤25)(hn:p.nodes.length≤320) :∀ (t:List Con) (i:Nat),p.cons.drop i=t→Ends PP 0 (mO p (i:Int)).as (.ret (.bool (eU t&&p.nodes.all aX))) (aD [] 0)
 | [],i,h=>by
  have:=bA h;refine(aE6 p i sd).ends ?_;simp only [eU,all_nil,Bool.true_and];exact bD1 p hn p.nodes 0 rfl
 | c ::t,i,h=>by
  obtain⟨g1,g2,g3⟩ :=aY h;by_cases k:c.name.length≤40
  · have e: (eU (c::t) &&p.nodes.all aX) = (eU t&&p.nodes.all aX) :=by simp [eU,k]
    rw [e];refine(aE5 p i c sd sd sd sd sd).ends ?_;exact bD2 p hc hn t (i+1) g2
  · have e: (eU (c::t) &&p.nodes.all aX) =false:=by simp [eU,k]
    rw [e];exact aE4 p i c sd sd sd sd
theorem vM (p:Prog) :Pure PP 50 [Prog.av p] (.bool (aJ p)) :=by
 refine aU (by kernel_rfl) rfl rfl ?_;by_cases h1:p.nodes.length≤320
 · by_cases h2:p.funs.length≤320
   · by_cases h3:p.cons.length≤25
     · have e:aJ p= (eU p.cons&&p.nodes.all aX) :=by simp [aJ,h1,h2,h3]
       rw [e];exact(aE3 p sd sd sd).ends (bD2 p h3 h1 p.cons 0 rfl)
     · have e:aJ p=false:=by simp [aJ,h3]
       rw [e];exact aE2 p sd sd sd
   · have e:aJ p=false:=by simp [aJ,h2]
     rw [e];exact aE1 p sd sd
 · have e:aJ p=false:=by simp [aJ,h1]
   rw [e];exact aE0 p sd
def dS(b c:Int)(d:aB)(a:List Pat)(e:List Con)(f:Bool)(g:Int):TS:=⟨(tf 187 82 [(1,(iC e)),kp 2 0,(4,(bV false)),(5,(bV f)),(6,(nI (a.length:Int))),(7,(nI g))] [kc f187 1012,kl f187 1012,.inBlock 1,kc f187 127]),[],[oC 0 [(nI b),(nI c),(aA d),(iP a)]],1⟩
def tU(d b:Int)(a:aB)(c:List Pat)(e:List Con):=tT 0 (start PP 187 [(.agg [(nI d),(nI b),(aA a),(iP c)]),(iC e)])<|gm 13 aK c<|.b 15 13 (d==1) (.b 7 19 ((c.length:Int) ==0) (.b 11 61 (b==0) (.W 13 1 [0] (dS d b a c e (bL a.length (aC a) 0 0) 0))<|.W 13 1 [0] (dS d b a c e false 0))<|.W 24 1 [0] (dS d b a c e false 0))<|.b 6 13 (d==2) (.b 7 19 ((c.length:Int) ==0) (.b 11 61 (b==0) (.W 13 1 [0] (dS d b a c e (bL a.length (aC a) 0 0) 0))<|.W 13 1 [0] (dS d b a c e false 0))<|.W 24 1 [0] (dS d b a c e false 0))<|.b 5 13 (d==5) (.b 5 19 ((c.length:Int) ==0) (.b 11 61 (b==0) (.W 13 1 [0] (dS d b a c e (bL a.length (aC a) 0 0) 0))<|.W 13 1 [0] (dS d b a c e false 0))<|.W 24 1 [0] (dS d b a c e false 0))<|.b 6 24 (d==3) (.b 5 28 ((c.length:Int) ==0) (gG 2 117 [(nI b),(nI (-1000000000)),(nI 1000000000)]<|fun f=>.b 8 61 f (.W 13 1 [0] (dS d b a c e (bL a.length (aC a) 0 0) 0))<|.W 13 1 [0] (dS d b a c e false 0))<|.W 24 1 [0] (dS d b a c e false 0))<|.b 6 33 (d==4) (.b 5 37 ((c.length:Int) ==0) (gG 2 117 [(nI b),(nI 0),(nI 1)]<|fun f=>.b 8 61 f (.W 13 1 [0] (dS d b a c e (bL a.length (aC a) 0 0) 0))<|.W 13 1 [0] (dS d b a c e false 0))<|.W 24 1 [0] (dS d b a c e false 0))<|.b 6 42 (d==6) (gl 5 Con.av e<|gw 1 48 ((e.length:Int) -1)<|gG 0 117 [(nI b),(nI 0),(nI ((e.length:Int) -1))]<|fun f=>.b 1 50 f (gX Con.av 4 e b<|fun g=>.b 11 61 ((c.length:Int) ==g.args) (.W 13 1 [0] (dS d b a c e (bL a.length (aC a) 0 0) 0))<|.W 13 1 [0] (dS d b a c e false 0))<|.W 29 1 [0] (dS d b a c e false 0))<|.W 20 1 [0] (dS d b a c e false 0)
def aTO:=fun a b c d e f g i=>tU a b c d e|>.t f|>.t g|>.t i tv
def aTP:=fun a b c d e f g i=>tU a b c d e|>.t f|>.t g|>.f i tv
def aTQ:=fun a b c d e f g=>tU a b c d e|>.t f|>.f g tv
def aTR:=fun a b c d e f g i j=>tU a b c d e|>.f f|>.t g|>.t i|>.t j tv
def aTS:=fun a b c d e f g i j=>tU a b c d e|>.f f|>.t g|>.t i|>.f j tv
def aTT:=fun a b c d e f g i=>tU a b c d e|>.f f|>.t g|>.f i tv
def aTU:=fun a b c d e f g i j k=>tU a b c d e|>.f f|>.f g|>.t i|>.t j|>.t k tv
def aTV:=fun a b c d e f g i j k=>tU a b c d e|>.f f|>.f g|>.t i|>.t j|>.f k tv
def aTW:=fun a b c d e f g i j=>tU a b c d e|>.f f|>.f g|>.t i|>.f j tv
def aTX:=fun a b c d e f g i j k l m n=>tU a b c d e|>.f g|>.f i|>.f j|>.t k|>.t l f m|>.t n tv
def aQQ:=fun a b c d e f g i j k l m n=>tU a b c d e|>.f g|>.f i|>.f j|>.t k|>.t l f m|>.f n tv
def aQR:=fun a b c d e f g i j k=>tU a b c d e|>.f f|>.f g|>.f i|>.t j|>.f k tv
def aQS:=fun a b c d e f g i j k l m n o=>tU a b c d e|>.f g|>.f i|>.f j|>.f k|>.t l|>.t m f n|>.t o tv
def aQT:=fun a b c d e f g i j k l m n o=>tU a b c d e|>.f g|>.f i|>.f j|>.f k|>.t l|>.t m f n|>.f o tv
def aQU:=fun a b c d e f g i j k l=>tU a b c d e|>.f f|>.f g|>.f i|>.f j|>.t k|>.f l tv
def aQV:=fun a b c d e f g i j k l m n o p q r s t=>tU a b c d e|>.f i|>.f j|>.f k|>.f l|>.f m|>.t n o f p|>.t q g r s|>.t t tv
def aQW:=fun a b c d e f g i j k l m n o p q r s t=>tU a b c d e|>.f i|>.f j|>.f k|>.f l|>.f m|>.t n o f p|>.t q g r s|>.f t tv
def aQX:=fun a b c d e f g i j k l m n o p=>tU a b c d e|>.f g|>.f i|>.f j|>.f k|>.f l|>.t m n f o|>.f p tv
def aQY:=fun a b c d e f g i j k l=>tU a b c d e|>.f f|>.f g|>.f i|>.f j|>.f k|>.f l tv
def bC7(e f:Int)(g:aB)(b:List Pat)(d:List Con)(c:Bool)(a:Int):=tT 0 (dS e f g b d c a)<|gd 7 69 (a< (b.length:Int)) (.b 3 71 c (aEZ 8 b a<|fun i j k l=>gG 2 187 [(.agg [(nI i),(nI j),(aA k),(iP l)]),(iC d)]<|fun m=>gw 6 73 (a+1)<|.W 3 1 [0] (dS e f g b d m (a+1)))<|gE 8 1 (bV c))<|gE 11 1 (bV c)
def aTY:=fun a b c d e f g i j k l m n o p q r s=>bC7 a b c d e f g|>.t n|>.t o i j k l p q m r s tv
def aTZ:=fun a b c d e f g i j=>bC7 a b c d e f g|>.t i|>.f j tv
def aT0:=fun a b c d e f g i=>bC7 a b c d e f g|>.f i tv
def lC(a b c:Int):=tT 0 (start PP 188 [(nI a),(nI b),(nI c)])<|.b 16 8 (a==1) (gE 8 0 (nI 0))<|.b 6 8 (a==2) (gE 8 0 (nI 0))<|.b 6 8 (a==3) (gE 8 0 (nI 0))<|.b 6 8 (a==4) (gE 8 0 (nI 0))<|.b 6 8 (a==21) (gE 8 0 (nI 0))<|.b 6 8 (a==25) (gE 8 0 (nI 0))<|.b 5 8 (a==28) (gE 6 0 (nI 0))<|.b 7 16 (a==5) (gE 8 0 (nI 1))<|.b 6 16 (a==27) (gE 8 0 (nI 1))<|.b 6 16 (a==16) (gE 8 0 (nI 1))<|.b 6 16 (a==17) (gE 8 0 (nI 1))<|.b 6 16 (a==19) (gE 8 0 (nI 1))<|.b 6 16 (a==20) (gE 8 0 (nI 1))<|.b 6 16 (a==23) (gE 8 0 (nI 1))<|.b 6 16 (a==26) (gE 8 0 (nI 1))<|.b 5 16 (a==24) (gE 6 0 (nI 1))<|.b 7 26 (a==6) (gE 8 0 (nI 2))<|.b 6 26 (a==7) (gE 8 0 (nI 2))<|.b 6 26 (a==9) (gE 8 0 (nI 2))<|.b 6 26 (a==10) (gE 8 0 (nI 2))<|.b 6 26 (a==11) (gE 8 0 (nI 2))<|.b 6 26 (a==12) (gE 8 0 (nI 2))<|.b 6 26 (a==13) (gE 8 0 (nI 2))<|.b 6 26 (a==18) (gE 8 0 (nI 2))<|.b 5 26 (a==22) (gE 6 0 (nI 2))<|.b 6 36 (a==8) (gE 6 0 (nI 3))<|.b 6 38 (a==15) (gw 5 41 (1+b)<|gE 3 0 (nI (1+b)))<|.b 6 42 (a==14) (gE 7 0 (nI c))<|gE 8 0 (nI (-1))
def aQZ:=fun a b c d=>lC a b c|>.t d tv
def aQ0:=fun a b c d e=>lC a b c|>.f d|>.t e tv
def aQ1:=fun a b c d e f=>lC a b c|>.f d|>.f e|>.t f tv
def aQ2:=fun a b c d e f g=>lC a b c|>.f d|>.f e|>.f f|>.t g tv
def aQ3:=fun a b c d e f g i=>lC a b c|>.f d|>.f e|>.f f|>.f g|>.t i tv
def aQ4:=fun a b c d e f g i j=>lC a b c|>.f d|>.f e|>.f f|>.f g|>.f i|>.t j tv
def aQ5:=fun a b c d e f g i j k=>lC a b c|>.f d|>.f e|>.f f|>.f g|>.f i|>.f j|>.t k tv
def aQ6:=fun a b c d e f g i j k l=>lC a b c|>.f d|>.f e|>.f f|>.f g|>.f i|>.f j|>.f k|>.t l tv
def aQ7:=fun a b c d e f g i j k l m=>lC a b c|>.f d|>.f e|>.f f|>.f g|>.f i|>.f j|>.f k|>.f l|>.t m tv
def aQ8:=fun a b c d e f g i j k l m n=>lC a b c|>.f d|>.f e|>.f f|>.f g|>.f i|>.f j|>.f k|>.f l|>.f m|>.t n tv
def aNO:=fun a b c d e f g i j k l m n o=>lC a b c|>.f d|>.f e|>.f f|>.f g|>.f i|>.f j|>.f k|>.f l|>.f m|>.f n|>.t o tv
def aNP:=fun a b c d e f g i j k l m n o p=>lC a b c|>.f d|>.f e|>.f f|>.f g|>.f i|>.f j|>.f k|>.f l|>.f m|>.f n|>.f o|>.t p tv
def aNQ:=fun a b c d e f g i j k l m n o p q=>lC a b c|>.f d|>.f e|>.f f|>.f g|>.f i|>.f j|>.f k|>.f l|>.f m|>.f n|>.f o|>.f p|>.t q tv
def aNR:=fun a b c d e f g i j k l m n o p q r=>lC a b c|>.f d|>.f e|>.f f|>.f g|>.f i|>.f j|>.f k|>.f l|>.f m|>.f n|>.f o|>.f p|>.f q|>.t r tv
def aNS:=fun a b c d e f g i j k l m n o p q r s=>lC a b c|>.f d|>.f e|>.f f|>.f g|>.f i|>.f j|>.f k|>.f l|>.f m|>.f n|>.f o|>.f p|>.f q|>.f r|>.t s tv
def aNT:=fun a b c d e f g i j k l m n o p q r s t=>lC a b c|>.f d|>.f e|>.f f|>.f g|>.f i|>.f j|>.f k|>.f l|>.f m|>.f n|>.f o|>.f p|>.f q|>.f r|>.f s|>.t t tv
def aNU:=fun a b c d e f g i j k l m n o p q r s t u=>lC a b c|>.f d|>.f e|>.f f|>.f g|>.f i|>.f j|>.f k|>.f l|>.f m|>.f n|>.f o|>.f p|>.f q|>.f r|>.f s|>.f t|>.t u tv
def aNV:=fun a b c d e f g i j k l m n o p q r s t u v=>lC a b c|>.f d|>.f e|>.f f|>.f g|>.f i|>.f j|>.f k|>.f l|>.f m|>.f n|>.f o|>.f p|>.f q|>.f r|>.f s|>.f t|>.f u|>.t v tv
def aNW:=fun a b c d e f g i j k l m n o p q r s t u v w=>lC a b c|>.f d|>.f e|>.f f|>.f g|>.f i|>.f j|>.f k|>.f l|>.f m|>.f n|>.f o|>.f p|>.f q|>.f r|>.f s|>.f t|>.f u|>.f v|>.t w tv
def aNX:=fun a b c d e f g i j k l m n o p q r s t u v w x=>lC a b c|>.f d|>.f e|>.f f|>.f g|>.f i|>.f j|>.f k|>.f l|>.f m|>.f n|>.f o|>.f p|>.f q|>.f r|>.f s|>.f t|>.f u|>.f v|>.f w|>.t x tv
def aNY:=fun a b c d e f g i j k l m n o p q r s t u v w x y=>lC a b c|>.f d|>.f e|>.f f|>.f g|>.f i|>.f j|>.f k|>.f l|>.f m|>.f n|>.f o|>.f p|>.f q|>.f r|>.f s|>.f t|>.f u|>.f v|>.f w|>.f x|>.t y tv
def aNZ:=fun a b c d e f g i j k l m n o p q r s t u v w x y z=>lC a b c|>.f d|>.f e|>.f f|>.f g|>.f i|>.f j|>.f k|>.f l|>.f m|>.f n|>.f o|>.f p|>.f q|>.f r|>.f s|>.f t|>.f u|>.f v|>.f w|>.f x|>.f y|>.t z tv
def aN0:=fun a b c d e f g i j k l m n o p q r s t u v w x y z A=>lC a b c|>.f d|>.f e|>.f f|>.f g|>.f i|>.f j|>.f k|>.f l|>.f m|>.f n|>.f o|>.f p|>.f q|>.f r|>.f s|>.f t|>.f u|>.f v|>.f w|>.f x|>.f y|>.f z|>.t A tv
def aN1:=fun a b c d e f g i j k l m n o p q r s t u v w x y z A B=>lC a b c|>.f d|>.f e|>.f f|>.f g|>.f i|>.f j|>.f k|>.f l|>.f m|>.f n|>.f o|>.f p|>.f q|>.f r|>.f s|>.f t|>.f u|>.f v|>.f w|>.f x|>.f y|>.f z|>.f A|>.t B tv
def aN2:=fun a b c d e f g i j k l m n o p q r s t u v w x y z A B C=>lC a b c|>.f d|>.f e|>.f f|>.f g|>.f i|>.f j|>.f k|>.f l|>.f m|>.f n|>.f o|>.f p|>.f q|>.f r|>.f s|>.f t|>.f u|>.f v|>.f w|>.f x|>.f y|>.f z|>.f A|>.f B|>.t C tv
def aN3:=fun a b c d e f g i j k l m n o p q r s t u v w x y z A B C D=>lC a b c|>.f d|>.f e|>.f f|>.f g|>.f i|>.f j|>.f k|>.f l|>.f m|>.f n|>.f o|>.f p|>.f q|>.f r|>.f s|>.f t|>.f u|>.f v|>.f w|>.f x|>.f y|>.f z|>.f A|>.f B|>.f C|>.t D tv
def aN4:=fun a b c d e f g i j k l m n o p q r s t u v w x y z A B C D F G=>lC a b c|>.f d|>.f e|>.f f|>.f g|>.f i|>.f j|>.f k|>.f l|>.f m|>.f n|>.f o|>.f p|>.f q|>.f r|>.f s|>.f t|>.f u|>.f v|>.f w|>.f x|>.f y|>.f z|>.f A|>.f B|>.f C|>.f D|>.t F G tv
def aN5:=fun a b c d e f g i j k l m n o p q r s t u v w x y z A B C D F G=>lC a b c|>.f d|>.f e|>.f f|>.f g|>.f i|>.f j|>.f k|>.f l|>.f m|>.f n|>.f o|>.f p|>.f q|>.f r|>.f s|>.f t|>.f u|>.f v|>.f w|>.f x|>.f y|>.f z|>.f A|>.f B|>.f C|>.f D|>.f F|>.t G tv
def aN6:=fun a b c d e f g i j k l m n o p q r s t u v w x y z A B C D F G=>lC a b c|>.f d|>.f e|>.f f|>.f g|>.f i|>.f j|>.f k|>.f l|>.f m|>.f n|>.f o|>.f p|>.f q|>.f r|>.f s|>.f t|>.f u|>.f v|>.f w|>.f x|>.f y|>.f z|>.f A|>.f B|>.f C|>.f D|>.f F|>.f G tv
theorem Ends.eqv {P:Program}{m:Nat}{s:AS}{v v':AV}{h':Hp}(h:Ends P m s (.ret v) h')(e:v=v') :Ends P m s (.ret v') h':=e ▸ h
theorem inB_iff {n lo hi:Int}:cT n lo hi=true↔lo≤n∧n≤hi:=by simp [cT]
theorem inB_not {n lo hi:Int}:cT n lo hi=false↔¬ (lo≤n∧n≤hi) :=by simp [cT]
theorem sdI {p:Prop}(h:p:=by first|assumption|rfl| (simp only [Int.toNat_natCast];assumption) | (simp only [decide_eq_true_eq,decide_eq_false_iff_not];omega) |omega| (apply wrap64<;>omega) | (simp_all;done) | (simp only [inB_iff,inB_not,beq_iff_eq,decide_eq_true_eq,decide_eq_false_iff_not]at *;omega)) :p:=h
theorem idT {p:Prop}(h:p:=by exact⟨_,List.getElem?_eq_getElem (by simp only [inB_iff,inB_not,beq_iff_eq,decide_eq_true_eq,decide_eq_false_iff_not]at *;omega)⟩) :p:=h
def dO (op pats args:Int) :Int:=
 if op=1∨op=2∨op=3∨op=4∨op=21∨op=25∨op=28 then 0
 else if op=5∨op=27∨op=16∨op=17∨op=19∨op=20∨op=23∨op=26∨op=24 then 1
 else if op=6∨op=7∨op=9∨op=10∨op=11∨op=12∨op=13∨op=18∨op=22 then 2
 else if op=8 then 3 else if op=15 then 1+pats else if op=14 then args else -1
theorem rKids_E (op pats args :Int)(hp:0≤pats)(hp2:pats≤1000) :Ends PP 0 (start PP 188 [.int .i64 op,.int .i64 pats,.int .i64 args]).as (.ret (.int .i64 (dO op pats args))) (aD [] 0) :=by
 cases hb1: (op== (1:Int))with
 | true=>
  exact Ends.eqv (aQZ op pats args   hb1) (by simp_all [dO])
 | false =>
  cases hb2: (op== (2:Int))with
  | true=>
   exact Ends.eqv (aQ0 op pats args   hb1 hb2) (by simp_all [dO])
  | false =>
   cases hb3: (op== (3:Int))with
   | true=>
    exact Ends.eqv (aQ1 op pats args   hb1 hb2 hb3) (by simp_all [dO])
   | false =>
    cases hb4: (op== (4:Int))with
    | true=>
     exact Ends.eqv (aQ2 op pats args   hb1 hb2 hb3 hb4) (by simp_all [dO])
    | false =>
     cases hb5: (op== (21:Int))with
     | true=>
      exact Ends.eqv (aQ3 op pats args   hb1 hb2 hb3 hb4 hb5) (by simp_all [dO])
     | false =>
      cases hb6: (op== (25:Int))with
      | true=>
       exact Ends.eqv (aQ4 op pats args   hb1 hb2 hb3 hb4 hb5 hb6) (by simp_all [dO])
      | false =>
       cases hb7: (op== (28:Int))with
       | true=>
        exact Ends.eqv (aQ5 op pats args   hb1 hb2 hb3 hb4 hb5 hb6 hb7) (by simp_all [dO])
       | false =>
        cases hb8: (op== (5:Int))with
        | true=>
         exact Ends.eqv (aQ6 op pats args   hb1 hb2 hb3 hb4 hb5 hb6 hb7 hb8) (by simp_all [dO])
        | false =>
         cases hb9: (op== (27:Int))with
         | true=>
          exact Ends.eqv (aQ7 op pats args   hb1 hb2 hb3 hb4 hb5 hb6 hb7 hb8 hb9) (by simp_all [dO])
         | false =>
          cases hb10: (op== (16:Int))with
          | true=>
           exact Ends.eqv (aQ8 op pats args   hb1 hb2 hb3 hb4 hb5 hb6 hb7 hb8 hb9 hb10) (by simp_all [dO])
          | false =>
           cases hb11: (op== (17:Int))with
           | true=>
            exact Ends.eqv (aNO op pats args   hb1 hb2 hb3 hb4 hb5 hb6 hb7 hb8 hb9 hb10 hb11) (by simp_all [dO])
           | false =>
            cases hb12: (op== (19:Int))with
            | true=>
             exact Ends.eqv (aNP op pats args   hb1 hb2 hb3 hb4 hb5 hb6 hb7 hb8 hb9 hb10 hb11 hb12) (by simp_all [dO])
            | false =>
             cases hb13: (op== (20:Int))with
             | true=>
              exact Ends.eqv (aNQ op pats args   hb1 hb2 hb3 hb4 hb5 hb6 hb7 hb8 hb9 hb10 hb11 hb12 hb13) (by simp_all [dO])
             | false =>
              cases hb14: (op== (23:Int))with
              | true=>
               exact Ends.eqv (aNR op pats args   hb1 hb2 hb3 hb4 hb5 hb6 hb7 hb8 hb9 hb10 hb11 hb12 hb13 hb14) (by simp_all [dO])
              | false =>
               cases hb15: (op== (26:Int))with
               | true=>
                exact Ends.eqv (aNS op pats args   hb1 hb2 hb3 hb4 hb5 hb6 hb7 hb8 hb9 hb10 hb11 hb12 hb13 hb14 hb15) (by simp_all [dO])
               | false =>
                cases hb16: (op== (24:Int))with
                | true=>
                 exact Ends.eqv (aNT op pats args   hb1 hb2 hb3 hb4 hb5 hb6 hb7 hb8 hb9 hb10 hb11 hb12 hb13 hb14 hb15 hb16) (by simp_all [dO])
                | false =>
                 cases hb17: (op== (6:Int))with
                 | true=>
                  exact Ends.eqv (aNU op pats args   hb1 hb2 hb3 hb4 hb5 hb6 hb7 hb8 hb9 hb10 hb11 hb12 hb13 hb14 hb15 hb16 hb17) (by simp_all [dO])
                 | false =>
                  cases hb18: (op== (7:Int))with
                  | true=>
                   exact Ends.eqv (aNV op pats args   hb1 hb2 hb3 hb4 hb5 hb6 hb7 hb8 hb9 hb10 hb11 hb12 hb13 hb14 hb15 hb16 hb17 hb18) (by simp_all [dO])
                  | false =>
                   cases hb19: (op== (9:Int))with
                   | true=>
                    exact Ends.eqv (aNW op pats args   hb1 hb2 hb3 hb4 hb5 hb6 hb7 hb8 hb9 hb10 hb11 hb12 hb13 hb14 hb15 hb16 hb17 hb18 hb19) (by simp_all [dO])
                   | false =>
                    cases hb20: (op== (10:Int))with
                    | true=>
                     exact Ends.eqv (aNX op pats args   hb1 hb2 hb3 hb4 hb5 hb6 hb7 hb8 hb9 hb10 hb11 hb12 hb13 hb14 hb15 hb16 hb17 hb18 hb19 hb20) (by simp_all [dO])
                    | false =>
                     cases hb21: (op== (11:Int))with
                     | true=>
                      exact Ends.eqv (aNY op pats args   hb1 hb2 hb3 hb4 hb5 hb6 hb7 hb8 hb9 hb10 hb11 hb12 hb13 hb14 hb15 hb16 hb17 hb18 hb19 hb20 hb21) (by simp_all [dO])
                     | false =>
                      cases hb22: (op== (12:Int))with
                      | true=>
                       exact Ends.eqv (aNZ op pats args   hb1 hb2 hb3 hb4 hb5 hb6 hb7 hb8 hb9 hb10 hb11 hb12 hb13 hb14 hb15 hb16 hb17 hb18 hb19 hb20 hb21 hb22) (by simp_all [dO])
                      | false =>
                       cases hb23: (op== (13:Int))with
                       | true=>
                        exact Ends.eqv (aN0 op pats args   hb1 hb2 hb3 hb4 hb5 hb6 hb7 hb8 hb9 hb10 hb11 hb12 hb13 hb14 hb15 hb16 hb17 hb18 hb19 hb20 hb21 hb22 hb23) (by simp_all [dO])
                       | false=>
                        cases hb24: (op== (18:Int))with
                        | true=>
                         exact Ends.eqv (aN1 op pats args   hb1 hb2 hb3 hb4 hb5 hb6 hb7 hb8 hb9 hb10 hb11 hb12 hb13 hb14 hb15 hb16 hb17 hb18 hb19 hb20 hb21 hb22 hb23 hb24) (by simp_all [dO])
                        | false=>
                         cases hb25: (op== (22:Int))with
                         | true=>
                          exact Ends.eqv (aN2 op pats args   hb1 hb2 hb3 hb4 hb5 hb6 hb7 hb8 hb9 hb10 hb11 hb12 hb13 hb14 hb15 hb16 hb17 hb18 hb19 hb20 hb21 hb22 hb23 hb24 hb25) (by simp_all [dO])
                         | false=>
                          cases hb26: (op== (8:Int))with
                          | true=>
                           exact Ends.eqv (aN3 op pats args   hb1 hb2 hb3 hb4 hb5 hb6 hb7 hb8 hb9 hb10 hb11 hb12 hb13 hb14 hb15 hb16 hb17 hb18 hb19 hb20 hb21 hb22 hb23 hb24 hb25 hb26) (by simp_all [dO])
                          | false=>
                           cases hb27: (op== (15:Int))with
                           | true=>
                            exact Ends.eqv (aN4 op pats args   hb1 hb2 hb3 hb4 hb5 hb6 hb7 hb8 hb9 hb10 hb11 hb12 hb13 hb14 hb15 hb16 hb17 hb18 hb19 hb20 hb21 hb22 hb23 hb24 hb25 hb26 hb27 sdI) (by simp_all [dO])
                           | false=>
                            cases hb28: (op== (14:Int))with
                            | true=>
                             exact Ends.eqv (aN5 op pats args   hb1 hb2 hb3 hb4 hb5 hb6 hb7 hb8 hb9 hb10 hb11 hb12 hb13 hb14 hb15 hb16 hb17 hb18 hb19 hb20 hb21 hb22 hb23 hb24 hb25 hb26 hb27 hb28) (by simp_all [dO])
                            | false=>
                             exact Ends.eqv (aN6 op pats args   hb1 hb2 hb3 hb4 hb5 hb6 hb7 hb8 hb9 hb10 hb11 hb12 hb13 hb14 hb15 hb16 hb17 hb18 hb19 hb20 hb21 hb22 hb23 hb24 hb25 hb26 hb27 hb28) (by simp_all [dO])
theorem aN7 (op pats args:Int)(hp:0≤pats)(hp2:pats≤1000) :Pure PP 188 [.int .i64 op,.int .i64 pats,.int .i64 args] (.int .i64 (dO op pats args)) :=
 aU (by kernel_rfl) rfl rfl (rKids_E op pats args hp hp2)
def fA (cons:List Con)(n:Int) :Int:=match cons[n.toNat]? with
 |some c=>c.args
 |none=> -1
def dH (cons:List Con)(f n:Int)(s:aB)(k:Nat) :Bool:=
 (if f=1∨f=2∨f=5 then decide (k=0) &&decide (n=0)
 else if f=3 then decide (k=0) &&cT n (-1000000000) 1000000000
 else if f=4 then decide (k=0) &&cT n 0 1
 else if f=6 then cT n 0 ((cons.length:Int) -1) &&decide ((k:Int) =fA cons n)
 else false) &&decide (s= [])
mutual
def dE (cons:List Con) :Pat→Bool
 | .mk f n s ps=>dH cons f n s ps.length&&bW cons ps
def bW (cons:List Con) :List Pat→Bool
 | [] =>true
 |p::ps=>dE cons p&&bW cons ps
end
theorem ptT {p:Prop}(h:p:=by simp_all [dH,fA,dM]) :p:=h
theorem bC8 (q_form q_n:Int)(q_text:aB)(q_parts:List Pat)(cons:List Con)(hc:cons.length≤1000)(b:Bool)(hk:∀i:Bool,i=dH cons q_form q_n q_text q_parts.length→Ends PP 0 (dS q_form q_n q_text q_parts cons i 0).as (.ret (.bool b)) (aD [] 0)) :
  Ends PP 0 (start PP 187 [Pat.av (.mk q_form q_n q_text q_parts),.ilst 2 (map Con.av cons) false]).as (.ret (.bool b)) (aD [] 0) :=by
 cases hb1: (q_form== (1:Int))with
 | true=>
  cases hb2: (((length q_parts:Nat) :Int) == (0:Int))with
  | true=>
   cases hb3: (q_n== (0:Int))with
   | true=>
    exact LeadsM.ends (aTO q_form q_n q_text q_parts cons   hb1 hb2 hb3) (hk _ (by clear hk;exact ptT))
   | false=>
    exact LeadsM.ends (aTP q_form q_n q_text q_parts cons   hb1 hb2 hb3) (hk _ (by clear hk;exact ptT))
  | false=>
   exact LeadsM.ends (aTQ q_form q_n q_text q_parts cons   hb1 hb2) (hk _ (by clear hk;exact ptT))
 | false =>
  cases hb4: (q_form== (2:Int))with
  | true=>
   cases hb5: (((length q_parts:Nat) :Int) == (0:Int))with
   | true=>
    cases hb6: (q_n== (0:Int))with
    | true=>
     exact LeadsM.ends (aTR q_form q_n q_text q_parts cons   hb1 hb4 hb5 hb6) (hk _ (by clear hk;exact ptT))
    | false=>
     exact LeadsM.ends (aTS q_form q_n q_text q_parts cons   hb1 hb4 hb5 hb6) (hk _ (by clear hk;exact ptT))
   | false=>
    exact LeadsM.ends (aTT q_form q_n q_text q_parts cons   hb1 hb4 hb5) (hk _ (by clear hk;exact ptT))
  | false =>
   cases hb7: (q_form== (5:Int))with
   | true=>
    cases hb8: (((length q_parts:Nat) :Int) == (0:Int))with
    | true=>
     cases hb9: (q_n== (0:Int))with
     | true=>
      exact LeadsM.ends (aTU q_form q_n q_text q_parts cons   hb1 hb4 hb7 hb8 hb9) (hk _ (by clear hk;exact ptT))
     | false=>
      exact LeadsM.ends (aTV q_form q_n q_text q_parts cons   hb1 hb4 hb7 hb8 hb9) (hk _ (by clear hk;exact ptT))
    | false=>
     exact LeadsM.ends (aTW q_form q_n q_text q_parts cons   hb1 hb4 hb7 hb8) (hk _ (by clear hk;exact ptT))
   | false=>
    cases hb10: (q_form== (3:Int))with
    | true=>
     cases hb11: (((length q_parts:Nat) :Int) == (0:Int))with
     | true=>
      cases hb12: (cT q_n (-1000000000) 1000000000)with
      | true=>
       exact LeadsM.ends (aTX q_form q_n q_text q_parts cons  (cT q_n (-1000000000) 1000000000) hb1 hb4 hb7 hb10 hb11 (bB q_n (-1000000000) 1000000000) hb12) (hk _ (by clear hk;exact ptT))
      | false=>
       exact LeadsM.ends (aQQ q_form q_n q_text q_parts cons  (cT q_n (-1000000000) 1000000000) hb1 hb4 hb7 hb10 hb11 (bB q_n (-1000000000) 1000000000) hb12) (hk _ (by clear hk;exact ptT))
     | false=>
      exact LeadsM.ends (aQR q_form q_n q_text q_parts cons   hb1 hb4 hb7 hb10 hb11) (hk _ (by clear hk;exact ptT))
    | false=>
     cases hb13: (q_form== (4:Int))with
     | true=>
      cases hb14: (((length q_parts:Nat) :Int) == (0:Int))with
      | true=>
       cases hb15: (cT q_n 0 1)with
       | true=>
        exact LeadsM.ends (aQS q_form q_n q_text q_parts cons  (cT q_n 0 1) hb1 hb4 hb7 hb10 hb13 hb14 (bB q_n 0 1) hb15) (hk _ (by clear hk;exact ptT))
       | false=>
        exact LeadsM.ends (aQT q_form q_n q_text q_parts cons  (cT q_n 0 1) hb1 hb4 hb7 hb10 hb13 hb14 (bB q_n 0 1) hb15) (hk _ (by clear hk;exact ptT))
      | false=>
       exact LeadsM.ends (aQU q_form q_n q_text q_parts cons   hb1 hb4 hb7 hb10 hb13 hb14) (hk _ (by clear hk;exact ptT))
     | false=>
      cases hb16: (q_form== (6:Int))with
      | true=>
       cases hb17: (cT q_n 0 (((length cons:Nat) :Int) - (1:Int)))with
       | true=>
        obtain⟨y1,hx18⟩ :∃y,((cons)[q_n.toNat]?) =some y:=idT;cases hb19: (((length q_parts:Nat) :Int) ==y1.args)with
        | true=>
         exact LeadsM.ends (aQV q_form q_n q_text q_parts cons  (cT q_n 0 (((length cons:Nat) :Int) - (1:Int))) y1 hb1 hb4 hb7 hb10 hb13 hb16 sdI (bB q_n 0 (((length cons:Nat) :Int) - (1:Int))) hb17 sdI hx18 hb19) (hk _ (by clear hk;exact ptT))
        | false=>
         exact LeadsM.ends (aQW q_form q_n q_text q_parts cons  (cT q_n 0 (((length cons:Nat) :Int) - (1:Int))) y1 hb1 hb4 hb7 hb10 hb13 hb16 sdI (bB q_n 0 (((length cons:Nat) :Int) - (1:Int))) hb17 sdI hx18 hb19) (hk _ (by clear hk;exact ptT))
       | false=>
        exact LeadsM.ends (aQX q_form q_n q_text q_parts cons  (cT q_n 0 (((length cons:Nat) :Int) - (1:Int))) hb1 hb4 hb7 hb10 hb13 hb16 sdI (bB q_n 0 (((length cons:Nat) :Int) - (1:Int))) hb17) (hk _ (by clear hk;exact ptT))
      | false=>
       exact LeadsM.ends (aQY q_form q_n q_text q_parts cons   hb1 hb4 hb7 hb10 hb13 hb16) (hk _ (by clear hk;exact ptT))
theorem aHb (f n:Int)(s:aB)(ps:List Pat)(cons:List Con)(hl:ps.length<1000000)(ih:∀p∈ps,Pure PP 187 [Pat.av p,.ilst 2 (map Con.av cons) false] (.bool (dE cons p))) :
  ∀ (t:List Pat) (i:Nat) (b:Bool),ps.drop i=t→Ends PP 0 (dS f n s ps cons b (i:Int)).as (.ret (.bool (b&&bW cons t))) (aD [] 0)
 | [],i,b,h=>by
  have:=bA h;exact Ends.eqv (aT0 f n s ps cons b i sd) (by simp [bW])
 | .mk f' n' s' ps'::t,i,b,h=>by
  obtain⟨g1,g2,g3⟩ :=aY h;cases b with
  |false=>exact Ends.eqv (aTZ f n s ps cons false i sd rfl) (by simp)
  | true=>
   refine(aTY f n s ps cons true i f' n' s' ps' _ sd rfl sd sd (ih (.mk f' n' s' ps') (mem_of_getElem? g1)) sd).ends ?_;exact Ends.eqv (aHb f n s ps cons hl ih t (i+1) _ g2) (by simp [bW])
mutual
theorem aHc (cons:List Con)(hc:cons.length≤1000) :∀ (p:Pat),cU p<1000000→Pure PP 187 [Pat.av p,.ilst 2 (map Con.av cons) false] (.bool (dE cons p))
 | .mk f n s ps,h=>by
  refine aU (by kernel_rfl) (by simp [keylessL,pD,keyless]) rfl ?_;simp only [cU]at h;have:=gC ps;refine bC8 f n s ps cons hc _ (fun i hi=>?_);subst hi;rw [dE];exact aHb f n s ps cons (by omega) (aKY cons hc ps (by omega)) ps 0 _ rfl
theorem aKY (cons:List Con)(hc:cons.length≤1000) :∀ (ps:List Pat),bE ps<1000000→∀p∈ps,Pure PP 187 [Pat.av p,.ilst 2 (map Con.av cons) false] (.bool (dE cons p))
 | [],_,p,hp=>by cases hp
 | q::ps,h,p,hp=>by
  simp only [bE]at h;rcases List.mem_cons.1 hp with e|hp
  ·rw [e];exact aHc cons hc q (by omega)
  ·exact aKY cons hc ps (by omega) p hp
end
def bU(a:Prog)(b:Node)(c:Bool)(d e:Int):TS:=⟨(tf 119 112 [kp 2 0,kp 3 1,(4,(bV false)),(5,(nI d)),(6,(bV c)),(7,(nI e))] [kc f119 1012,kl f119 1012,.inBlock 1,kc f119 127]),[],[oC 0 [(iN a.nodes),(iI a.funs),(nI a.main),(iC a.cons)],oC 1 [(nI b.op),(nI b.n),(iI b.kids),(iP b.pats)]],2⟩
def aBO(b:List Con)(c:Int)(a:List aB):TS:=⟨(tf 118 42 [(0,(iC b)),(2,(bV false)),(3,(.gl 0 1 0 a.length false)),(4,(nI c))] [kc f118 116,kl f118 116,.inBlock 0,kc f118 15]),[],[oL 0 1 (map aA a)],1⟩
def tV(a:Prog)(c:Int)(b:List Bool):TS:=⟨(tf 38 133 [kp 1 0,(2,(bV false)),(3,(nI (a.nodes.length:Int))),(4,(.gl 1 1 0 b.length true)),(5,(nI c))] [kc f38 500,kl f38 500,.inBlock 0,kc f38 63]),[],[oC 0 [(iN a.nodes),(iI a.funs),(nI a.main),(iC a.cons)],oL 1 1 (map nF b)],2⟩
def pG(a:Prog)(b:List Bool)(c:Int):TS:=⟨(tf 38 133 [kp 1 0,(2,(bV false)),(3,(nI (a.nodes.length:Int))),(4,(.gl 1 1 0 b.length true)),(6,(nI c))] [kc f38 1012,kl f38 1012,.inBlock 2,kc f38 127]),[],[oC 0 [(iN a.nodes),(iI a.funs),(nI a.main),(iC a.cons)],oL 1 1 (map nF b)],2⟩
def tW(a:Prog)(b:List Bool)(c d:Int):TS:=⟨(tf 38 133 [kp 1 0,(2,(bV false)),(3,(nI (a.nodes.length:Int))),(4,(.gl 1 1 0 b.length true)),(6,(nI d)),(7,(nI c))] [kc f38 129612,kl f38 129612,.inBlock 4,.inBlock 3,kc f38 4051,kl f38 1012,.inBlock 2,kc f38 127]),[],[oC 0 [(iN a.nodes),(iI a.funs),(nI a.main),(iC a.cons)],oL 1 1 (map nF b)],2⟩
def tX(b:Prog)(a:List Bool)(c:Int):TS:=⟨(tf 38 133 [(2,(bV false)),(3,(nI (b.nodes.length:Int))),(4,(.gl 0 1 0 a.length true)),(9,(nI c))] [kc f38 2036,kl f38 2036,.inBlock 6,kc f38 255]),[],[oL 0 1 (map nF a)],1⟩
def nV(b:Prog)(a:Node):=tT 0 (start PP 119 [(Prog.av b),(Node.av a)])<|.b 29 13 (a.op==1) (gG 4 117 [(nI a.n),(nI (-1000000000)),(nI 1000000000)]<|fun c=>.b 10 56 (a.op==15) (.b 4 58 c (gm 2 aK a.pats<|gG 0 117 [(nI (a.pats.length:Int)),(nI 1),(nI 5)]<|fun d=>.W 10 2 [0,1] (bU b a d 0 0))<|.W 14 2 [0,1] (bU b a false 0 0))<|.b 4 65 c (gm 2 aK a.pats<|.W 11 2 [0,1] (bU b a ((a.pats.length:Int) ==0) 0 0))<|.W 14 2 [0,1] (bU b a false 0 0))<|.b 6 18 (a.op==2) (gG 4 117 [(nI a.n),(nI 0),(nI 1)]<|fun c=>.b 10 56 (a.op==15) (.b 4 58 c (gm 2 aK a.pats<|gG 0 117 [(nI (a.pats.length:Int)),(nI 1),(nI 5)]<|fun d=>.W 10 2 [0,1] (bU b a d 0 0))<|.W 14 2 [0,1] (bU b a false 0 0))<|.b 4 65 c (gm 2 aK a.pats<|.W 11 2 [0,1] (bU b a ((a.pats.length:Int) ==0) 0 0))<|.W 14 2 [0,1] (bU b a false 0 0))<|.b 6 23 (a.op==4) (gl 6 aP b.funs<|gw 1 30 (0- (b.funs.length:Int))<|gG 0 117 [(nI a.n),(nI (0- (b.funs.length:Int))),(nI 29)]<|fun c=>.b 10 56 (a.op==15) (.b 4 58 c (gm 2 aK a.pats<|gG 0 117 [(nI (a.pats.length:Int)),(nI 1),(nI 5)]<|fun d=>.W 10 2 [0,1] (bU b a d 0 0))<|.W 14 2 [0,1] (bU b a false 0 0))<|.b 4 65 c (gm 2 aK a.pats<|.W 11 2 [0,1] (bU b a ((a.pats.length:Int) ==0) 0 0))<|.W 14 2 [0,1] (bU b a false 0 0))<|.b 6 32 (a.op==24) (gG 4 117 [(nI a.n),(nI 0),(nI 3)]<|fun c=>.b 10 56 (a.op==15) (.b 4 58 c (gm 2 aK a.pats<|gG 0 117 [(nI (a.pats.length:Int)),(nI 1),(nI 5)]<|fun d=>.W 10 2 [0,1] (bU b a d 0 0))<|.W 14 2 [0,1] (bU b a false 0 0))<|.b 4 65 c (gm 2 aK a.pats<|.W 11 2 [0,1] (bU b a ((a.pats.length:Int) ==0) 0 0))<|.W 14 2 [0,1] (bU b a false 0 0))<|.b 6 37 (a.op==14) (gl 7 Con.av b.cons<|gw 1 44 ((b.cons.length:Int) -1)<|gG 0 117 [(nI a.n),(nI 0),(nI ((b.cons.length:Int) -1))]<|fun c=>.b 6 46 c (gX Con.av 6 b.cons a.n<|fun d=>.b 12 56 (a.op==15) (.b 4 58 c (gm 2 aK a.pats<|gG 0 117 [(nI (a.pats.length:Int)),(nI 1),(nI 5)]<|fun e=>.W 10 2 [0,1] (bU b a e d.args 0)) .x)<|.b 4 65 c (gm 2 aK a.pats<|.W 11 2 [0,1] (bU b a ((a.pats.length:Int) ==0) d.args 0)) .x)<|.b 10 56 (a.op==15) (.b 4 58 c .x<|.W 14 2 [0,1] (bU b a false 0 0))<|.b 4 65 c .x<|.W 14 2 [0,1] (bU b a false 0 0))<|.b 10 56 (a.op==15) (.b 4 58 (a.n==0) (gm 2 aK a.pats<|gG 0 117 [(nI (a.pats.length:Int)),(nI 1),(nI 5)]<|fun c=>.W 10 2 [0,1] (bU b a c 0 0))<|.W 14 2 [0,1] (bU b a false 0 0))<|.b 4 65 (a.n==0) (gm 2 aK a.pats<|.W 11 2 [0,1] (bU b a ((a.pats.length:Int) ==0) 0 0))<|.W 14 2 [0,1] (bU b a false 0 0)
def aQ9:=fun a b c d e f g i j=>nV a b|>.t e c f|>.t g|>.t i d j tv
def aRa:=fun a b c d e f g=>nV a b|>.t d c e|>.t f|>.f g tv
def aRb:=fun a b c d e f g=>nV a b|>.t d c e|>.f f|>.t g tv
def aRc:=fun a b c d e f g=>nV a b|>.t d c e|>.f f|>.f g tv
def aRd:=fun a b c d e f g i j k=>nV a b|>.f e|>.t f c g|>.t i|>.t j d k tv
def aRe:=fun a b c d e f g i=>nV a b|>.f d|>.t e c f|>.t g|>.f i tv
def aRf:=fun a b c d e f g i=>nV a b|>.f d|>.t e c f|>.f g|>.t i tv
def aRg:=fun a b c d e f g i=>nV a b|>.f d|>.t e c f|>.f g|>.f i tv
def aRh:=fun a b c d e f g i j k l m=>nV a b|>.f e|>.f f|>.t g i c j|>.t k|>.t l d m tv
def aRi:=fun a b c d e f g i j k=>nV a b|>.f d|>.f e|>.t f g c i|>.t j|>.f k tv
def aN8:=fun a b c d e f g i j k=>nV a b|>.f d|>.f e|>.t f g c i|>.f j|>.t k tv
def aN9:=fun a b c d e f g i j k=>nV a b|>.f d|>.f e|>.t f g c i|>.f j|>.f k tv
def aOa:=fun a b c d e f g i j k l m=>nV a b|>.f e|>.f f|>.f g|>.t i c j|>.t k|>.t l d m tv
def aOb:=fun a b c d e f g i j k=>nV a b|>.f d|>.f e|>.f f|>.t g c i|>.t j|>.f k tv
def aOc:=fun a b c d e f g i j k=>nV a b|>.f d|>.f e|>.f f|>.t g c i|>.f j|>.t k tv
def aOd:=fun a b c d e f g i j k=>nV a b|>.f d|>.f e|>.f f|>.t g c i|>.f j|>.f k tv
def aOe:=fun b c d e f g i j k l m n a o p q r=>nV b c|>.f g|>.f i|>.f j|>.f k|>.t l m d n|>.t a e o p|>.t q|>.t a f r tv
def aOf:=fun b c d e f g i j k l m a n o p=>nV b c|>.f f|>.f g|>.f i|>.f j|>.t k l d m|>.t a e n o|>.f p|>.t a tv
def aOg:=fun b c d e f g i j k l a m=>nV b c|>.f e|>.f f|>.f g|>.f i|>.t j k d l|>.f a|>.t m|>.f a tv
def aOh:=fun b c d e f g i j k l a m=>nV b c|>.f e|>.f f|>.f g|>.f i|>.t j k d l|>.f a|>.f m|>.f a tv
def aOi:=fun a b c d e f g i j k l=>nV a b|>.f d|>.f e|>.f f|>.f g|>.f i|>.t j|>.t k c l tv
def aOj:=fun a b c d e f g i j=>nV a b|>.f c|>.f d|>.f e|>.f f|>.f g|>.t i|>.f j tv
def aOk:=fun a b c d e f g i j=>nV a b|>.f c|>.f d|>.f e|>.f f|>.f g|>.f i|>.t j tv
def aOl:=fun a b c d e f g i j=>nV a b|>.f c|>.f d|>.f e|>.f f|>.f g|>.f i|>.f j tv
def aT1(j:Prog)(a:Node)(i:Bool)(k b:Int):=tT 0 (bU j a i k b)<|gm 6 aK a.pats<|gd 2 76 (b< (a.pats.length:Int)) (.b 3 78 i (.o (.y fun c:Int=>.y fun d:Int=>.y fun e:aB=>.y fun f:List Pat=>.y fun g:Int=>.y fun l:Bool=>.i [rn 4,.reg (rd 3 (.ans (.idx (Pat.av (Pat.mk c d e f)))::.d::.pure (nI g)::.d::.d::.b 88 true::rd 3 (.ans (.idx (Pat.av (Pat.mk c d e f)))::rd 3 [.pure (bV l),.d,.d])))] [hA (0≤b),.a (((a.pats)[b.toNat]?) =some (Pat.mk c d e f)) (mW aK),hA (Pure PP 186 [(.agg [(nI c),(nI d),(aA e),(iP f)]),(nI 12)] (nI g)),hA (decide (g≥0) =true),hA (0≤b),.a (((a.pats)[b.toNat]?) =some (Pat.mk c d e f)) (mW aK),hA (Pure PP 187 [(.agg [(nI c),(nI d),(aA e),(iP f)]),(iC j.cons)] (bV l))]<|gw 4 80 (b+1)<|.W 3 2 [0,1] (bU j a l k (b+1)))<|.y fun c:Int=>.y fun d:Int=>.y fun e:aB=>.y fun f:List Pat=>.y fun g:Int=>.i [rn 4,.reg (rd 3 (.ans (.idx (Pat.av (Pat.mk c d e f)))::.d::.pure (nI g)::.d::.d::.b 88 false::rd 10 []))] [hA (0≤b),.a (((a.pats)[b.toNat]?) =some (Pat.mk c d e f)) (mW aK),hA (Pure PP 186 [(.agg [(nI c),(nI d),(aA e),(iP f)]),(nI 12)] (nI g)),hA (decide (g≥0) =false)]<|gw 4 80 (b+1)<|.W 3 2 [0,1] (bU j a false k (b+1)))<|.i [rn 3,.reg (.d::.d::.b 99 false::rd 13 [])] [hA (i=false)]<|gE 1 2 (bV false))<|.o (.y fun m:Int=>.i [rn 6,.reg (.d::.d::.b 99 true::.d::.d::.ans (.len (a.kids.length:Int))::rd 4 (.ans (.len (a.pats.length:Int))::.d::.pure (nI m)::rd 3 []))] [hA (i=true),hl aP a.kids,hm aK a.pats,hA (Pure PP 188 [(nI a.op),(nI (a.pats.length:Int)),(nI k)] (nI m)),.q (p:=(nI ((jI a.kids).length:Int)) = (nI (a.kids.length:Int))) (congrArg (int .i64) (aG6 _ _)),.q (p:=(nI ((jI a.kids).length:Int)) = (nI (a.kids.length:Int))) (congrArg (int .i64) (aG6 _ _)),hr (ilst 1 (jI a.kids) false),hr (ilst 1 (jI a.kids) false)]<|gE 1 2 (bV ((a.kids.length:Int) ==m)))<|.i [rn 6,.reg (.d::.d::.b 99 false::rd 13 [])] [hA (i=false)]<|gE 1 2 (bV false)
def aRj:=fun c d e f g i j k l m n o p a b q r s t=>aT1 c d e f g|>.t o|>.t p|>.1 i j k l m n a b q r a b s t tv
def aRk:=fun a b c d e f g i j k l m n o p q r=>aT1 a b c d e|>.t l|>.t m|>.2 f g i j k n o p q r tv
def aRl:=fun b c d e f g a=>aT1 b c d e f|>.t g|>.f a a tv
def aRm:=fun a b c d e f g i j=>aT1 a b c d e|>.f g|>.1 f i j tv
def aRn:=fun a b c d e f g=>aT1 a b c d e|>.f f|>.2 g tv
def aRo (a:List Con):=(tT 0 (start PP 118 [(iC a)])<|.i [rn 15,.nilL 3 1] []<|gu 0 0 (map aA ([] :List aB))<|gs 0 3 (.gl 0 1 0 ([] :List aB).length false)<|.W 0 1 [0] (aBO a 0 ([] :List aB))) ⟨kk,trivial⟩
def aT2(a:List Con)(c:Int)(d:List aB):=tT 0 (aBO a c d)<|gl 5 Con.av a<|gd 2 8 (c< (a.length:Int)) (gX Con.av 9 a c<|fun b=>gG 2 172 [(aA b.name)]<|fun e=>.b 2 18 (!e) (gE 15 1 (bV false))<|gi Con.av 2 a c b<|gG 2 117 [(nI b.args),(nI 0),(nI 3)]<|fun f=>.b 3 26 (!f) (gE 6 1 (bV false))<|gi Con.av 6 a c b<|ga 3 aA d [b.name]<|gw 6 10 (c+1)<|.W 3 3 [2] (aBO a (c+1) (d++ [b.name])))<|gl 5 Con.av a<|gd 2 38 ((a.length:Int) ≤20) (gz 1 39 0 1 aA d false<|gG 0 71 [(iS d)]<|fun b=>gE 4 1 (bV b))<|gE 6 1 (bV false)
def aRp:=fun a b c d e f g i j k=>aT2 a b c|>.t f d g i e j|>.t k tv
def aRq:=fun c d e f g i j a b k l m n=>aT2 c d e|>.t j f a b g k|>.f l a b i m|>.t n tv
def aRr:=fun c d e f g i j a b k l m n o p=>aT2 c d e|>.t j f a b g k|>.f l a b i m|>.f n a b o p ⟨kk,trivial⟩
def aRs:=fun a b c d e f g=>aT2 a b c|>.f e|>.t f d g tv
def aRt:=fun a b c d e=>aT2 a b c|>.f d|>.f e tv
def aT3(a:Prog):=tT 0 (start PP 38 [(Prog.av a)])<|gl 9 Node.av a.nodes<|gd 8 15 ((a.nodes.length:Int) >300) (gE 30 1 (bV false))<|gl 2 aP a.funs<|gG 1 117 [(nI (a.funs.length:Int)),(nI 1),(nI (a.nodes.length:Int))]<|fun b=>.b 3 23 (!b) (gE 22 1 (bV false))<|gl 4 aP a.funs<|gw 1 29 ((a.funs.length:Int) -1)<|gG 0 117 [(nI a.main),(nI 0),(nI ((a.funs.length:Int) -1))]<|fun c=>.b 3 33 (!c) (gE 12 1 (bV false))<|gG 2 118 [(iC a.cons)]<|fun d=>.b 3 38 (!d) (gE 6 1 (bV false))<|.i [rn 5,.mk a.nodes.length] [hr (a.nodes.length:Int),hr (a.nodes.length:Int),hA (a.nodes.length<100000)]<|.i [.lset 1 (map nF (replicate a.nodes.length false))] [.q (p:=replicate a.nodes.length (nF false) = (map nF (replicate a.nodes.length false))) (aPO _ _ _)]<|.i [.set 40 (.gl 1 1 0 (replicate a.nodes.length false).length true)] [.q (p:=(AV.gl 1 1 0 a.nodes.length true) = (.gl 1 1 0 (replicate a.nodes.length false).length true)) (cB (List.length_replicate ..).symm)]<|.W 9 2 [0,1] (tV a 0 (replicate a.nodes.length false))
def aKZ:=fun a b=>aT3 a|>.t b tv
def aK0:=fun a b c d e=>aT3 a|>.f c b d|>.t e tv
def aK1:=fun a b c d e f g i j=>aT3 a|>.f d b e|>.f f g c i|>.t j tv
def aK2:=fun a b c d e f g i j k l m=>aT3 a|>.f e b f|>.f g i c j|>.f k d l|>.t m tv
def aK3:=fun a b c d e f g i j k l m n=>aT3 a|>.f e b f|>.f g i c j|>.f k d l|>.f m n ⟨kk,trivial⟩
def aXF(c:Prog)(d:Int)(a:List Bool):=tT 0 (tV c d a)<|gl 6 aP c.funs<|gd 2 45 (d< (c.funs.length:Int)) (gX aP 10 c.funs d<|fun b=>gw 3 54 ((c.nodes.length:Int) -1)<|gG 0 117 [(nI b),(nI 0),(nI ((c.nodes.length:Int) -1))]<|fun f=>.b 2 57 (!f) (gE 16 2 (bV false))<|gi aP 4 c.funs d b<|.i [rn 1,.ans (.ix)] [hA (0≤b),hA (b< (a.length:Int))]<|.y fun e:Bool=>gj nF 0 a b.toNat e<|.b 2 66 e (gE 6 2 (bV false))<|gi aP 7 c.funs d b<|.i [rn 1,.ans (.ix)] [hA (0≤b),hA (b< (a.length:Int))]<|.i [.st (nF e) (nF true)] [.a (((a)[b.toNat]?) =some e) (iL (f:=nF)),hr (some (nF true))]<|.i [.lset 1 (map nF (set a b.toNat true))] [.q (p:=(map nF a).set (0+b.toNat) (nF true) = (map nF (set a b.toNat true))) (mV _ _ _ _)]<|.i [.set 4 (.gl 1 1 0 (set a b.toNat true).length true)] [.q (p:=(AV.gl 1 1 0 a.length true) = (.gl 1 1 0 (set a b.toNat true).length true)) (cB (length_set ..).symm)]<|.i [.set 58 (.gl 1 1 0 (set a b.toNat true).length true)] [.q (p:=(AV.gl 1 1 0 a.length true) = (.gl 1 1 0 (set a b.toNat true).length true)) (cB (length_set ..).symm)]<|.i [.set 67 (.gl 1 1 0 (set a b.toNat true).length true)] [.q (p:=(AV.gl 1 1 0 a.length true) = (.gl 1 1 0 (set a b.toNat true).length true)) (cB (length_set ..).symm)]<|gw 5 47 (d+1)<|.W 3 2 [0,1] (tV c (d+1) (set a b.toNat true)))<|.W 9 2 [0,1] (pG c a 0)
def aK4:=fun a b c d e f g i j k l=>aXF a b c|>.t f d g i j e k|>.t l tv
def aK5:=fun c d e f g i j a b k l m n o p q=>aXF c d e|>.t j f a b k g l|>.f m a b n o i p|>.t q tv
def aK6:=fun f g i j k l m a b n o p c d e q r=>aXF f g i|>.t m j a b n k o|>.f p a b c d l e|>.f q a b c d e r ⟨kk,trivial⟩
def aK7:=fun a b c d=>aXF a b c|>.f d ⟨kk,trivial⟩
def bC9(a:Prog)(c:List Bool)(b:Int):=tT 0 (pG a c b)<|gd 7 76 (b< (a.nodes.length:Int)) (.y fun d:Node=>.y fun e:Bool=>.i [rn 6,.reg (rd 4 [.ans (.idx (Node.av d)),.d,.pure (bV e),.d])] [hA (0≤b),.a (((a.nodes)[b.toNat]?) =some d) (bF (f:=Node.av)),hA (Pure PP 119 [(Prog.av a),(Node.av d)] (bV e))]<|.b 0 86 (!e) (gE 6 2 (bV false))<|.W 8 2 [0,1] (tW a c 0 b))<|.W 9 2 [1] (tX a c 0)
def aK8:=fun a b c d e f g i j k=>bC9 a b c|>.t f d e g i j|>.t k tv
def aK9:=fun a b c d e f g i j k=>bC9 a b c|>.t f d e g i j|>.f k ⟨kk,trivial⟩
def aLa:=fun a b c d=>bC9 a b c|>.f d ⟨kk,trivial⟩
def aXG(d:Prog)(a:List Bool)(e c:Int):=tT 0 (tW d a e c)<|gX Node.av 7 d.nodes c<|fun f=>gl 2 aP f.kids<|gd 2 95 (e< (f.kids.length:Int)) (gi Node.av 9 d.nodes c f<|gX aP 3 f.kids e<|fun b=>gw 9 109 (c+1)<|gw 2 111 ((d.nodes.length:Int) -1)<|gG 0 117 [(nI b),(nI (c+1)),(nI ((d.nodes.length:Int) -1))]<|fun i=>.b 2 114 (!i) (gE 12 2 (bV false))<|.i [rn 2,.ans (.ix)] [hA (0≤b),hA (b< (a.length:Int))]<|.y fun g:Bool=>gj nF 0 a b.toNat g<|.b 2 119 g (gE 6 2 (bV false))<|.i [rn 5,.ans (.ix)] [hA (0≤b),hA (b< (a.length:Int))]<|.i [.st (nF g) (nF true)] [.a (((a)[b.toNat]?) =some g) (iL (f:=nF)),hr (some (nF true))]<|.i [.lset 1 (map nF (set a b.toNat true))] [.q (p:=(map nF a).set (0+b.toNat) (nF true) = (map nF (set a b.toNat true))) (mV _ _ _ _)]<|.i [.set 4 (.gl 1 1 0 (set a b.toNat true).length true)] [.q (p:=(AV.gl 1 1 0 a.length true) = (.gl 1 1 0 (set a b.toNat true).length true)) (cB (length_set ..).symm)]<|.i [.set 115 (.gl 1 1 0 (set a b.toNat true).length true)] [.q (p:=(AV.gl 1 1 0 a.length true) = (.gl 1 1 0 (set a b.toNat true).length true)) (cB (length_set ..).symm)]<|.i [.set 120 (.gl 1 1 0 (set a b.toNat true).length true)] [.q (p:=(AV.gl 1 1 0 a.length true) = (.gl 1 1 0 (set a b.toNat true).length true)) (cB (length_set ..).symm)]<|gw 5 97 (e+1)<|.W 3 2 [0,1] (tW d (set a b.toNat true) (e+1) c))<|gw 6 78 (c+1)<|.W 3 2 [0,1] (pG d a (c+1))
def aLb:=fun c d e f g i j a b k l m n o p q=>aXG c d e f g a b|>.t k a b i l m n o j p|>.t q tv
def aLc:=fun c d e f g i j k a b l m n o p q r s t u v=>aXG c d e f g a b|>.t l a b i m n o p j q|>.f r s t k u|>.t v tv
def aLd:=fun f g i j k l m n a b o p q r s t u c d e v w=>aXG f g i j k a b|>.t o a b l p q r s m t|>.f u c d n e|>.f v c d e w ⟨kk,trivial⟩
def aLe:=fun a b c d e f g i j=>aXG a b c d e f g|>.f i j ⟨kk,trivial⟩
def bDa(c:Prog)(b:List Bool)(a:Int):=tT 0 (tX c b a)<|gd 7 125 (a< (c.nodes.length:Int)) (.i [rn 8,.ans (.ix)] [hA (0≤a),hA (a< (b.length:Int))]<|.y fun d:Bool=>gj nF 0 b a.toNat d<|.b 2 132 (!d) (gE 6 1 (bV false))<|gw 6 127 (a+1)<|.W 3 1 [0] (tX c b (a+1)))<|gE 7 1 (bV true)
def aLf:=fun a b c d e f g i j=>bDa a b c|>.t e f g d i|>.t j tv
def aLg:=fun a b c d e f g i j k=>bDa a b c|>.t e f g d i|>.f j k ⟨kk,trivial⟩
def aLh:=fun a b c d=>bDa a b c|>.f d tv
def fW (c:Con) :Bool:=jA c.name&&cT c.args 0 3
def bG (l:List Con) :List aB:=l.map Con.name
def xJ (l:List Con) :Bool:=l.all fW&&decide (l.length≤20) &&cA (bG l)
def bI (p:Prog)(op n:Int) :Bool:=
 if op=1 then cT n (-1000000000) 1000000000
 else if op=2 then cT n 0 1
 else if op=4 then cT n (0- (p.funs.length:Int)) 29
 else if op=24 then cT n 0 3
 else if op=14 then cT n 0 ((p.cons.length:Int) -1)
 else decide (n=0)
def eP (p:Prog)(x:Node) :Bool:=
 bI p x.op x.n&& (if x.op=15 then cT (x.pats.length:Int) 1 5 else decide (x.pats.length=0))
def fX (p:Prog)(x:Node) :Int:=if x.op=14∧cT x.n 0 ((p.cons.length:Int) -1) =true then fA p.cons x.n else 0
def iD (cons:List Con)(q:Pat) :Bool:=decide (cU q≤12) &&dE cons q
def bH (p:Prog)(x:Node) :Bool:=
 eP p x&&x.pats.all (iD p.cons) &&decide ((x.kids.length:Int) =dO x.op x.pats.length (fX p x))
theorem gJ {α:Type}(l:List α) : ((l.length:Int) ==0) =decide (l= []) :=by cases l<;>simp;omega
theorem oH {p:Prop}(h:p:=by simp_all [eP,bI,fX,fA,gJ]) :p:=h
theorem aXH (p:Prog)(x:Node)(hc:p.cons.length≤1000)(hf:p.funs.length≤1000)(b:Bool)(hk:∀ (i:Bool) (a:Int),i=eP p x→a=fX p x→Ends PP 0 (bU p x i a 0).as (.ret (.bool b)) (aD [] 0)) :
  Ends PP 0 (start PP 119 [Prog.av p,Node.av x]).as (.ret (.bool b)) (aD [] 0) :=by
 cases hb1: (x.op== (1:Int))with
 | true=>
  cases hb2: (x.op== (15:Int))with
  | true=>
   cases hb3: (cT (x.n) (-1000000000) 1000000000)with
   | true=>
    exact LeadsM.ends (aQ9 p x  (cT (x.n) (-1000000000) 1000000000) (cT ((length x.pats:Nat) :Int) 1 5) hb1 (bB (x.n) (-1000000000) 1000000000) hb2 hb3 (bB ((length x.pats:Nat) :Int) 1 5)) (hk _ _ (by clear hk;exact oH) (by clear hk;exact oH))
   | false=>
    exact LeadsM.ends (aRa p x  (cT (x.n) (-1000000000) 1000000000) hb1 (bB (x.n) (-1000000000) 1000000000) hb2 hb3) (hk _ _ (by clear hk;exact oH) (by clear hk;exact oH))
  | false=>
   cases hb4: (cT (x.n) (-1000000000) 1000000000)with
   | true=>
    exact LeadsM.ends (aRb p x  (cT (x.n) (-1000000000) 1000000000) hb1 (bB (x.n) (-1000000000) 1000000000) hb2 hb4) (hk _ _ (by clear hk;exact oH) (by clear hk;exact oH))
   | false=>
    exact LeadsM.ends (aRc p x  (cT (x.n) (-1000000000) 1000000000) hb1 (bB (x.n) (-1000000000) 1000000000) hb2 hb4) (hk _ _ (by clear hk;exact oH) (by clear hk;exact oH))
 | false =>
  cases hb5: (x.op== (2:Int))with
  | true=>
   cases hb6: (x.op== (15:Int))with
   | true=>
    cases hb7: (cT (x.n) 0 1)with
    | true=>
     exact LeadsM.ends (aRd p x  (cT (x.n) 0 1) (cT ((length x.pats:Nat) :Int) 1 5) hb1 hb5 (bB (x.n) 0 1) hb6 hb7 (bB ((length x.pats:Nat) :Int) 1 5)) (hk _ _ (by clear hk;exact oH) (by clear hk;exact oH))
    | false=>
     exact LeadsM.ends (aRe p x  (cT (x.n) 0 1) hb1 hb5 (bB (x.n) 0 1) hb6 hb7) (hk _ _ (by clear hk;exact oH) (by clear hk;exact oH))
   | false=>
    cases hb8: (cT (x.n) 0 1)with
    | true=>
     exact LeadsM.ends (aRf p x  (cT (x.n) 0 1) hb1 hb5 (bB (x.n) 0 1) hb6 hb8) (hk _ _ (by clear hk;exact oH) (by clear hk;exact oH))
    | false=>
     exact LeadsM.ends (aRg p x  (cT (x.n) 0 1) hb1 hb5 (bB (x.n) 0 1) hb6 hb8) (hk _ _ (by clear hk;exact oH) (by clear hk;exact oH))
  | false=>
   cases hb9: (x.op== (4:Int))with
   | true=>
    cases hb10: (x.op== (15:Int))with
    | true=>
     cases hb11: (cT (x.n) (0- ((length p.funs:Nat) :Int)) 29)with
     | true=>
      exact LeadsM.ends (aRh p x  (cT (x.n) (0- ((length p.funs:Nat) :Int)) 29) (cT ((length x.pats:Nat) :Int) 1 5) hb1 hb5 hb9 sdI (bB (x.n) (0- ((length p.funs:Nat) :Int)) 29) hb10 hb11 (bB ((length x.pats:Nat) :Int) 1 5)) (hk _ _ (by clear hk;exact oH) (by clear hk;exact oH))
     | false=>
      exact LeadsM.ends (aRi p x  (cT (x.n) (0- ((length p.funs:Nat) :Int)) 29) hb1 hb5 hb9 sdI (bB (x.n) (0- ((length p.funs:Nat) :Int)) 29) hb10 hb11) (hk _ _ (by clear hk;exact oH) (by clear hk;exact oH))
    | false=>
     cases hb12: (cT (x.n) (0- ((length p.funs:Nat) :Int)) 29)with
     | true=>
      exact LeadsM.ends (aN8 p x  (cT (x.n) (0- ((length p.funs:Nat) :Int)) 29) hb1 hb5 hb9 sdI (bB (x.n) (0- ((length p.funs:Nat) :Int)) 29) hb10 hb12) (hk _ _ (by clear hk;exact oH) (by clear hk;exact oH))
     | false=>
      exact LeadsM.ends (aN9 p x  (cT (x.n) (0- ((length p.funs:Nat) :Int)) 29) hb1 hb5 hb9 sdI (bB (x.n) (0- ((length p.funs:Nat) :Int)) 29) hb10 hb12) (hk _ _ (by clear hk;exact oH) (by clear hk;exact oH))
   | false=>
    cases hb13: (x.op== (24:Int))with
    | true=>
     cases hb14: (x.op== (15:Int))with
     | true=>
      cases hb15: (cT (x.n) 0 3)with
      | true=>
       exact LeadsM.ends (aOa p x  (cT (x.n) 0 3) (cT ((length x.pats:Nat) :Int) 1 5) hb1 hb5 hb9 hb13 (bB (x.n) 0 3) hb14 hb15 (bB ((length x.pats:Nat) :Int) 1 5)) (hk _ _ (by clear hk;exact oH) (by clear hk;exact oH))
      | false=>
       exact LeadsM.ends (aOb p x  (cT (x.n) 0 3) hb1 hb5 hb9 hb13 (bB (x.n) 0 3) hb14 hb15) (hk _ _ (by clear hk;exact oH) (by clear hk;exact oH))
     | false=>
      cases hb16: (cT (x.n) 0 3)with
      | true=>
       exact LeadsM.ends (aOc p x  (cT (x.n) 0 3) hb1 hb5 hb9 hb13 (bB (x.n) 0 3) hb14 hb16) (hk _ _ (by clear hk;exact oH) (by clear hk;exact oH))
      | false=>
       exact LeadsM.ends (aOd p x  (cT (x.n) 0 3) hb1 hb5 hb9 hb13 (bB (x.n) 0 3) hb14 hb16) (hk _ _ (by clear hk;exact oH) (by clear hk;exact oH))
    | false=>
     cases hb17: (x.op== (14:Int))with
     | true=>
      cases hb18: (cT (x.n) 0 (((length p.cons:Nat) :Int) - (1:Int)))with
      | true=>
       obtain⟨y1,hx19⟩ :∃y,((p.cons)[x.n.toNat]?) =some y:=idT;cases hb20: (x.op== (15:Int))with
       | true=>
        exact LeadsM.ends (aOe p x  (cT (x.n) 0 (((length p.cons:Nat) :Int) - (1:Int))) y1 (cT ((length x.pats:Nat) :Int) 1 5) hb1 hb5 hb9 hb13 hb17 sdI (bB (x.n) 0 (((length p.cons:Nat) :Int) - (1:Int))) hb18 sdI hx19 hb20 (bB ((length x.pats:Nat) :Int) 1 5)) (hk _ _ (by clear hk;exact oH) (by clear hk;exact oH))
       | false=>
        exact LeadsM.ends (aOf p x  (cT (x.n) 0 (((length p.cons:Nat) :Int) - (1:Int))) y1 hb1 hb5 hb9 hb13 hb17 sdI (bB (x.n) 0 (((length p.cons:Nat) :Int) - (1:Int))) hb18 sdI hx19 hb20) (hk _ _ (by clear hk;exact oH) (by clear hk;exact oH))
      | false=>
       cases hb21: (x.op== (15:Int))with
       | true=>
        exact LeadsM.ends (aOg p x  (cT (x.n) 0 (((length p.cons:Nat) :Int) - (1:Int))) hb1 hb5 hb9 hb13 hb17 sdI (bB (x.n) 0 (((length p.cons:Nat) :Int) - (1:Int))) hb18 hb21) (hk _ _ (by clear hk;exact oH) (by clear hk;exact oH))
       | false=>
        exact LeadsM.ends (aOh p x  (cT (x.n) 0 (((length p.cons:Nat) :Int) - (1:Int))) hb1 hb5 hb9 hb13 hb17 sdI (bB (x.n) 0 (((length p.cons:Nat) :Int) - (1:Int))) hb18 hb21) (hk _ _ (by clear hk;exact oH) (by clear hk;exact oH))
     | false=>
      cases hb22: (x.op== (15:Int))with
      | true=>
       cases hb23: (x.n== (0:Int))with
       | true=>
        exact LeadsM.ends (aOi p x  (cT ((length x.pats:Nat) :Int) 1 5) hb1 hb5 hb9 hb13 hb17 hb22 hb23 (bB ((length x.pats:Nat) :Int) 1 5)) (hk _ _ (by clear hk;exact oH) (by clear hk;exact oH))
       | false=>
        exact LeadsM.ends (aOj p x   hb1 hb5 hb9 hb13 hb17 hb22 hb23) (hk _ _ (by clear hk;exact oH) (by clear hk;exact oH))
      | false=>
       cases hb24: (x.n== (0:Int))with
       | true=>
        exact LeadsM.ends (aOk p x   hb1 hb5 hb9 hb13 hb17 hb22 hb24) (hk _ _ (by clear hk;exact oH) (by clear hk;exact oH))
       | false=>
        exact LeadsM.ends (aOl p x   hb1 hb5 hb9 hb13 hb17 hb22 hb24) (hk _ _ (by clear hk;exact oH) (by clear hk;exact oH))
theorem aAS (p:Prog)(x:Node)(hc:p.cons.length≤1000)(hl:x.pats.length≤10)(a:Int) :
  ∀ (t:List Pat) (i:Nat) (b:Bool),x.pats.drop i=t→Ends PP 0 (bU p x b a (i:Int)).as (.ret (.bool (b&&t.all (iD p.cons) &&decide ((x.kids.length:Int) =dO x.op x.pats.length a)))) (aD [] 0)
 | [],i,b,h=>by
  have:=bA h;cases b with
  |false=>exact Ends.eqv (aRn p x false a i sd rfl) (by simp)
  | true=>
   refine Ends.eqv (aRm p x true a i _ sd rfl (aN7 x.op x.pats.length a (by omega) (by omega))) ?_;simp only [all_nil,Bool.true_and,AV.bool.injEq];rfl
 | .mk f' n' s' ps'::t,i,b,h=>by
  obtain⟨g1,g2,g3⟩ :=aY h;cases b with
  |false=>exact Ends.eqv (aRl p x false a i sd rfl) (by simp)
  | true=>
   have hw:=xF (.mk f' n' s' ps') 12 (by omega) (by omega);by_cases k:cU (.mk f' n' s' ps') ≤12
   · have hg:0≤lP (.mk f' n' s' ps') 12:= (yV (.mk f' n' s' ps') 12).2 (by omega);refine(aRj p x true a i f' n' s' ps' _ _ sd rfl sd sd hw (decide_eq_true hg) (aHc p.cons hc (.mk f' n' s' ps') (by omega)) sd).ends ?_;exact Ends.eqv (aAS p x hc hl a t (i+1) _ g2) (by simp [iD,k])
   · have hg:¬lP (.mk f' n' s' ps') 12≥0:=fun g=>k (by have:= (yV (.mk f' n' s' ps') 12).1 g;omega);refine(aRk p x true a i f' n' s' ps' _ sd rfl sd sd hw (decide_eq_false hg) sd).ends ?_;exact Ends.eqv (aAS p x hc hl a t (i+1) _ g2) (by simp [iD,k])
theorem aOm (p:Prog)(x:Node)(hc:p.cons.length≤1000)(hf:p.funs.length≤1000)(hl:x.pats.length≤10) :Pure PP 119 [Prog.av p,Node.av x] (.bool (bH p x)) :=by
 refine aU (by kernel_rfl) rfl rfl (aXH p x hc hf _ fun i a hi ha=>?_);subst hi ha;exact aAS p x hc hl _ x.pats 0 _ rfl
theorem aFi (l:List Con)(hl:l.length≤1000) :∀ (t:List Con) (i:Nat),l.drop i=t→Ends PP 0 (aBO l (i:Int) (bG (l.take i))).as (.ret (.bool (t.all fW&&decide (l.length≤20) &&cA (bG l)))) (aD [] 0)
 | [],i,h=>by
  have hi:=bA h;have e:bG (l.take i) =bG l:=by rw [List.take_of_length_le hi]
  rw [e];by_cases k:l.length≤20
  ·exact Ends.eqv (aRs l i _ _ sd sd (aBN (bG l) (by simp [bG];omega))) (by simp [k])
  ·exact Ends.eqv (aRt l i _ sd sd) (by simp [k])
 | c ::t,i,h=>by
  obtain⟨g1,g2,g3⟩ :=aY h;have hg:=aKR c.name;cases k1:jA c.name with
  | false=>
   rw [k1]at hg;exact Ends.eqv (aRp l i _ c false sd sd sd hg rfl) (by simp [fW,k1])
  | true=>
   rw [k1]at hg;have hi:=bB c.args 0 3;cases k2:cT c.args 0 3 with
   | false=>
    rw [k2]at hi;exact Ends.eqv (aRq l i _ c true false sd sd sd hg rfl hi rfl) (by simp [fW,k1,k2])
   | true=>
    rw [k2]at hi;have e:bG (l.take i) ++ [c.name] =bG (l.take (i+1)) :=by
     rw [List.take_add_one,g1];simp [bG]
    refine(aRr l i (bG (l.take i)) c true true sd sd sd hg rfl hi rfl (by simp [bG];omega) sd).ends ?_;rw [e];exact Ends.eqv (aFi l hl t (i+1) g2) (by simp [fW,k1,k2])
theorem aOn (l:List Con)(hl:l.length≤1000) :Pure PP 118 [.ilst 2 (map Con.av l) false] (.bool (xJ l)) :=
 aU (by kernel_rfl) rfl rfl ((aRo l).ends (aFi l hl l 0 rfl))
def marks (lo n:Int) :List Int→List Bool→Option (List Bool)
 | [],u=>some u
 |k::ks,u=>if cT k lo (n-1) =true∧u[k.toNat]?=some false then marks lo n ks (u.set k.toNat true)else none
theorem lZ {lo n:Int}:∀ {ks:List Int} {u v:List Bool},marks lo n ks u=some v→v.length=u.length
 | [],u,v,h=>by simp only [marks,Option.some.injEq]at h;rw [h]
 | k::ks,u,v,h=>by
  simp only [marks]at h;split at h
  ·have:=lZ h;simpa using this
  ·cases h
def cY (p:Prog) :Nat→List Node→List Bool→Option (List Bool)
 |_,[],u=>some u
 | i,x::t,u=>if bH p x=true then match marks ((i:Int) +1) (p.nodes.length:Int) x.kids u with
   |some v=>cY p (i+1) t v
   |none=>none
  else none
def allT :Option (List Bool) →Bool
 |some u=>u.all fun b=>b
 |none=>false
def eB (p:Prog) :Bool:=decide (p.nodes.length≤300) &&cT (p.funs.length:Int) 1 (p.nodes.length:Int) &&cT p.main 0 ((p.funs.length:Int) -1)
def aR (p:Prog) :Bool:=
 eB p&&xJ p.cons&& (match marks 0 (p.nodes.length:Int) p.funs (replicate p.nodes.length false)with
  |some u=>allT (cY p 0 p.nodes u)
  |none=>false)
theorem rF3 (p:Prog)(u:List Bool)(hn:p.nodes.length≤1000)(hu:u.length=p.nodes.length) :∀ (t:List Bool) (i:Nat),u.drop i=t→Ends PP 0 (tX p u (i:Int)).as (.ret (.bool (t.all fun b=>b))) (aD [] 0)
 | [],i,h=>by
  have:=bA h;exact aLh p u i sd
 | b::t,i,h=>by
  obtain⟨g1,g2,g3⟩ :=aY h;cases b with
  |false=>exact Ends.eqv (aLf p u i false sd sd sd sd rfl) (by simp)
  | true=>
   refine(aLg p u i true sd sd sd sd rfl sd).ends ?_;exact Ends.eqv (rF3 p u hn hu t (i+1) g2) (by simp)
theorem bD3 (p:Prog)(x:Node)(i:Nat)(hx:p.nodes[i]?=some x)(hn:p.nodes.length≤1000)(hk:x.kids.length≤1000)(K:List Bool→Bool)
  (hb:∀v:List Bool,v.length=p.nodes.length→Ends PP 0 (pG p v ((i:Int) +1)).as (.ret (.bool (K v))) (aD [] 0)) :
  ∀ (t:List Int) (k:Nat) (u:List Bool),u.length=p.nodes.length→x.kids.drop k=t→Ends PP 0 (tW p u (k:Int) (i:Int)).as (.ret (.bool (match marks ((i:Int) +1) p.nodes.length t u with|some v=>K v|none=>false))) (aD [] 0)
 | [],k,u,hu,h=>by
  have:=bA h;have hi:= (List.getElem?_eq_some_iff.1 hx).1;refine(aLe p u k i x sd sd sd sd).ends ?_;exact hb u hu
 | y ::t,k,u,hu,h=>by
  obtain⟨g1,g2,g3⟩ :=aY h;have hi:= (List.getElem?_eq_some_iff.1 hx).1;have hin:=bB y ((i:Int) +1) ((p.nodes.length:Int) -1);cases k1:cT y ((i:Int) +1) ((p.nodes.length:Int) -1)with
  | false=>
   rw [k1]at hin;exact Ends.eqv (aLb p u k i x y false sd sd sd sd sd sd sd hin rfl) (by simp [marks,k1])
  | true=>
   rw [k1]at hin;have hy:=inB_iff.1 k1;obtain⟨z,hz⟩ :∃z,u[y.toNat]?=some z:= ⟨_,List.getElem?_eq_getElem (by omega)⟩;cases z with
   | true=>
    exact Ends.eqv (aLc p u k i x y true true sd sd sd sd sd sd sd hin rfl (by omega) (by omega) hz rfl) (by simp [marks,hz])
   | false=>
    refine(aLd p u k i x y true false sd sd sd sd sd sd sd hin rfl (by omega) (by omega) hz rfl sd).ends ?_;exact Ends.eqv (bD3 p x i hx hn hk K hb t (k+1) (u.set y.toNat true) (by simpa using hu) g2) (by simp [marks,k1,hz])
theorem rF1 (p:Prog)(hp:aJ p=true)(hn:p.nodes.length≤1000)(hc:p.cons.length≤1000)(hf:p.funs.length≤1000) :∀ (t:List Node) (i:Nat) (u:List Bool),u.length=p.nodes.length→p.nodes.drop i=t →
  Ends PP 0 (pG p u (i:Int)).as (.ret (.bool (allT (cY p i t u)))) (aD [] 0)
 | [],i,u,hu,h=>by
  have:=bA h;refine(aLa p u i sd).ends ?_;exact rF3 p u hn hu u 0 rfl
 | x::t,i,u,hu,h=>by
  obtain⟨g1,g2,g3⟩ :=aY h;have hx:aX x=true:=by
   simp only [aJ,Bool.and_eq_true]at hp;exact List.all_eq_true.1 hp.2 x (mem_of_getElem? g1)
  simp only [aX,Bool.and_eq_true,decide_eq_true_eq]at hx;have ho:=aOm p x hc hf hx.1.2;cases k:bH p x with
  | false=>
   rw [k]at ho;exact Ends.eqv (aK8 p u i x false sd sd sd ho rfl) (by simp [cY,k,allT])
  | true=>
   rw [k]at ho;refine(aK9 p u i x true sd sd sd ho rfl).ends ?_;refine Ends.eqv (bD3 p x i g1 hn (by omega) (fun v=>allT (cY p (i+1) t v)) (fun v hv=>rF1 p hp hn hc hf t (i+1) v hv g2) x.kids 0 u hu rfl) ?_;simp only [cY,k,if_true];cases marks ((i:Int) +1) (p.nodes.length:Int) x.kids u<;>rfl
theorem rF0 (p:Prog)(hp:aJ p=true)(hn:p.nodes.length≤1000)(hc:p.cons.length≤1000)(hf:p.funs.length≤1000) :∀ (t:List Int) (i:Nat) (u:List Bool),u.length=p.nodes.length→p.funs.drop i=t →
  Ends PP 0 (tV p (i:Int) u).as (.ret (.bool (match marks 0 p.nodes.length t u with|some v=>allT (cY p 0 p.nodes v) |none=>false))) (aD [] 0)
 | [],i,u,hu,h=>by
  have:=bA h;refine(aK7 p i u sd).ends ?_;exact rF1 p hp hn hc hf p.nodes 0 u hu rfl
 | y ::t,i,u,hu,h=>by
  obtain⟨g1,g2,g3⟩ :=aY h;have hin:=bB y 0 ((p.nodes.length:Int) -1);cases k1:cT y 0 ((p.nodes.length:Int) -1)with
  | false=>
   rw [k1]at hin;exact Ends.eqv (aK4 p i u y false sd sd sd sd hin rfl) (by simp [marks,k1])
  | true=>
   rw [k1]at hin;have hy:=inB_iff.1 k1;obtain⟨z,hz⟩ :∃z,u[y.toNat]?=some z:= ⟨_,List.getElem?_eq_getElem (by omega)⟩;cases z with
   | true=>
    exact Ends.eqv (aK5 p i u y true true sd sd sd sd hin rfl (by omega) (by omega) hz rfl) (by simp [marks,hz])
   | false=>
    refine(aK6 p i u y true false sd sd sd sd hin rfl (by omega) (by omega) hz rfl sd).ends ?_;exact Ends.eqv (rF0 p hp hn hc hf t (i+1) (u.set y.toNat true) (by simpa using hu) g2) (by simp [marks,k1,hz])
theorem tY (p:Prog)(hp:aJ p=true) :Pure PP 38 [Prog.av p] (.bool (aR p)) :=by
 refine aU (by kernel_rfl) rfl rfl ?_;have hs:=hp;simp only [aJ,Bool.and_eq_true,decide_eq_true_eq]at hs;obtain⟨⟨⟨⟨s1,s2⟩,s3⟩,_⟩,_⟩ :=hs;by_cases k0:p.nodes.length≤300
 · have hi1:=bB (p.funs.length:Int) 1 (p.nodes.length:Int);cases k1:cT (p.funs.length:Int) 1 (p.nodes.length:Int)with
   | false=>
    rw [k1]at hi1;exact Ends.eqv (aK0 p false sd hi1 rfl) (by simp [aR,eB,k1])
   | true=>
    rw [k1]at hi1;have hi2:=bB p.main 0 ((p.funs.length:Int) -1);cases k2:cT p.main 0 ((p.funs.length:Int) -1)with
    | false=>
     rw [k2]at hi2;exact Ends.eqv (aK1 p true false sd hi1 rfl sd hi2 rfl) (by simp [aR,eB,k2])
    | true=>
     rw [k2]at hi2;have hco:=aOn p.cons (by omega);cases k3:xJ p.cons with
     | false=>
      rw [k3]at hco;exact Ends.eqv (aK2 p true true false sd hi1 rfl sd hi2 rfl hco rfl) (by simp [aR,k3])
     | true=>
      rw [k3]at hco;refine(aK3 p true true true sd hi1 rfl sd hi2 rfl hco rfl (by omega)).ends ?_;refine Ends.eqv (rF0 p hp (by omega) (by omega) (by omega) p.funs 0 _ (by simp) rfl) ?_;have e:eB p=true:=by simp [eB,k0,k1,k2]
      simp only [aR,e,k3,Bool.true_and]
 ·exact Ends.eqv (aKZ p sd) (by simp [aR,eB,k0])
def checkN (b:Bool) :Int:=if b=true then 0 else 2
def yW(a:aB)(b:Nat):TS:=⟨(tf 164 16 [(2,(bV false)),kp 6 0] [kc f164 52,kl f164 52,.inBlock 0,kc f164 7]),[],[(0,(.siter a.length (aC a) b),false)],1⟩
def aBP(e f:Int)(g:aB)(a:List Pat)(b c d:Int):TS:=⟨(tf 281 27 [(1,(nI b)),(4,(nI 0)),(5,(nI c)),(9,(iP a)),(10,(nI (a.length:Int))),(11,(nI d))] [kc f281 116,kl f281 116,.inBlock 0,kc f281 15]),[],[],0⟩
def bD4(a b c:Int):=tT 0 (start PP 241 [(nI a),(nI b),(nI c)])<|gd 10 10 (a≥b) (gE 7 0 (bV (decide (a≤c))))<|gE 7 0 (bV false)
def aXI:=fun a b c d=>bD4 a b c|>.t d tv
def aXJ:=fun a b c d=>bD4 a b c|>.f d tv
def aT4 (b:Int):=fun a c=>(tT 0 (start PP 301 [(nI b)])<|gG 7 241 [(nI b),(nI (-1000000000)),(nI 1000000000)]<|fun a=>gE 3 0 (bV a)) a c tv
def aOo (a:aB):=(tT 0 (start PP 164 [(aA a)])<|.W 12 1 [0] (yW a 0)) tv
def aXK(a:aB)(b:Nat):=tT 0 (yW a b)<|.o (.y fun c:Nat=>.y fun d:Nat=>.i [rn 2,.nxt c d] [hA (b<a.length),hA (aM7 a.length (aC a) b=some (c,d))]<|gd 16 12 (((c:Nat) :Int) <97) (gE 10 1 (bV false))<|gd 4 15 (((c:Nat) :Int) >122) (gE 6 1 (bV false))<|.W 4 1 [0] (yW a (Nat.add b d)))<|.i [rn 2,.nxtE] [hA (a.length≤b)]<|gE 10 1 (bV true)
def aOp:=fun a b c d e f g=>aXK a b|>.1 c d e f|>.t g tv
def aOq:=fun a b c d e f g i=>aXK a b|>.1 c d e f|>.f g|>.t i tv
def aOr:=fun a b c d e f g i=>aXK a b|>.1 c d e f|>.f g|>.f i tv
def aOs:=fun a b c=>aXK a b|>.2 c tv
def aT5(a:aB):=tT 0 (start PP 231 [(aA a)])<|.b 9 5 (!(bL a.length (aC a) 0 0)) (gd 5 10 ((a.length:Int) ≤8) (.y fun b:UInt8=>.i [rn 1,.ans (.ev (.int .u8 ((b.toNat:Nat) :Int)))] [.q (p:=0≤ (0:Int)) (by decide),.a ((a)[0]?=some b) (p':=(0:Int) < (a.length:Int)) (fun h=>(aCG (k:= (0:Int)) (by decide) h)),.a ((a)[0]?=some b) (p':=int .u8 ((mod (div (aC a) (pow 256 (0:Int).toNat)) 256:Nat) :Int) = (.int .u8 ((b.toNat:Nat) :Int))) (fun h=>(aCH (k:= (0:Int)) h))]<|gd 3 15 (((b.toNat:Nat) :Int) ≥65) (.i [rn 1,.ans (.ev (.int .u8 ((b.toNat:Nat) :Int)))] [.q (p:=0≤ (0:Int)) (by decide),.a ((a)[0]?=some b) (p':=(0:Int) < (a.length:Int)) (fun h=>(aCG (k:= (0:Int)) (by decide) h)),.a ((a)[0]?=some b) (p':=int .u8 ((mod (div (aC a) (pow 256 (0:Int).toNat)) 256:Nat) :Int) = (.int .u8 ((b.toNat:Nat) :Int))) (fun h=>(aCH (k:= (0:Int)) h))]<|gd 3 20 (((b.toNat:Nat) :Int) ≤90) (.i [rn 1,.ans (.ev (aA (drop 1 a)))] [.a (1≤length a) (p':=aCI PP 9 (aA a) (some (nI 1)) none (aA (drop 1 a))) (fun h=>(aDu (k:= (1:Int)) (by kernel_rfl) (by decide) h))]<|gG 0 164 [(aA (drop 1 a))]<|fun c=>gE 4 0 (bV c))<|gE 7 0 (bV false))<|gE 12 0 (bV false))<|gE 17 0 (bV false))<|gE 22 0 (bV false)
def aOt:=fun b c d e f a g i j k=>aT5 b|>.t e|>.t f c a a|>.t g a a|>.t i j d k tv
def aOu:=fun b c d e a f g=>aT5 b|>.t d|>.t e c a a|>.t f a a|>.f g tv
def aOv:=fun b c d e a f=>aT5 b|>.t d|>.t e c a a|>.f f tv
def aOw:=fun a b c=>aT5 a|>.t b|>.f c tv
def aOx:=fun a b=>aT5 a|>.f b tv
def bD5(a:Con):=tT 0 (start PP 243 [(.agg [(aA a.name),(nI a.args)])])<|gG 9 231 [(aA a.name)]<|fun b=>.b 1 6 b (gG 2 241 [(nI a.args),(nI 0),(nI 3)]<|fun c=>gE 4 1 (bV c))<|gE 7 1 (bV false)
def aT6:=fun a b c d e f=>bD5 a b d|>.t e c f tv
def aT7:=fun a b c d=>bD5 a b c|>.f d tv
def aRu(c:Prog)(a:Node):=tT 0 (start PP 283 [(Prog.av c),(Node.av a)])<|.b 18 7 (a.op==1) (gG 5 301 [(nI a.n)]<|fun b=>gE 3 2 (bV b))<|.b 6 12 (a.op==2) (gG 5 241 [(nI a.n),(nI 0),(nI 1)]<|fun b=>gE 3 2 (bV b))<|.b 6 17 (a.op==24) (gG 5 241 [(nI a.n),(nI 0),(nI 3)]<|fun b=>gE 3 2 (bV b))<|.b 6 22 (a.op==4) (gl 8 aP c.funs<|gw 1 30 (0- (c.funs.length:Int))<|gG 0 241 [(nI a.n),(nI (0- (c.funs.length:Int))),(nI 29)]<|fun b=>gE 3 2 (bV b))<|.b 6 32 (a.op==14) (gE 6 2 (bV true))<|gE 11 2 (bV (a.n==0))
def aLi:=fun a b c d e=>aRu a b|>.t d c e tv
def aLj:=fun a b c d e f=>aRu a b|>.f d|>.t e c f tv
def aLk:=fun a b c d e f g=>aRu a b|>.f d|>.f e|>.t f c g tv
def aLl:=fun a b c d e f g i j=>aRu a b|>.f d|>.f e|>.f f|>.t g i c j tv
def aLm:=fun a b c d e f g=>aRu a b|>.f c|>.f d|>.f e|>.f f|>.t g tv
def aLn:=fun a b c d e f g=>aRu a b|>.f c|>.f d|>.f e|>.f f|>.f g tv
def aRv (b c:Int)(d:aB)(a:List Pat)(e:Int):=(tT 0 (start PP 281 [(.agg [(nI b),(nI c),(aA d),(iP a)]),(nI e)])<|gm 14 aK a<|.W 4 1 [] (aBP b c d a e 1 0)) tv
def bDb(e f:Int)(g:aB)(d:List Pat)(b a c:Int):=tT 0 (aBP e f g d b a c)<|gd 5 12 (c< (d.length:Int)) (aEZ 6 d c<|fun j k l m=>gd 11 17 (a>b) (gE 8 1 (nI a))<|gw 8 22 (b-a)<|gpI 0 281 [(.agg [(nI j),(nI k),(aA l),(iP m)]),(nI (b-a))]<|fun i=>gw 1 24 (a+i)<|gw 5 25 (c+1)<|.W 3 1 [] (aBP e f g d b (a+i) (c+1)))<|gE 8 0 (nI a)
def aRw:=fun a b c d e f g i j k l m n o p=>bDb a b c d e f g|>.t m i j k l n o|>.t p tv
def aRx:=fun a b c d e f g i j k l m n o p q r s t u=>bDb a b c d e f g|>.t n i j k l o p|>.f q r m s t u tv
def aRy:=fun a b c d e f g i=>bDb a b c d e f g|>.f i tv
def aAT(d:Prog)(e c:Int)(f:aB)(a:List Pat):=tT 0 (start PP 282 [(Prog.av d),(.agg [(nI e),(nI c),(aA f),(iP a)])])<|.b 13 8 (!(bL f.length (aC f) 0 0)) (gE 14 2 (bV false))<|gG 4 284 [(iP a),(.func 282 [(Prog.av d)] [])]<|fun i=>.b 3 15 (!i) (gE 6 2 (bV false))<|.b 15 18 (e==1) (.b 9 25 (c==0) (gm 2 aK a<|gE 5 2 (bV ((a.length:Int) ==0)))<|gE 8 2 (bV false))<|.b 6 18 (e==2) (.b 9 25 (c==0) (gm 2 aK a<|gE 5 2 (bV ((a.length:Int) ==0)))<|gE 8 2 (bV false))<|.b 5 18 (e==5) (.b 7 25 (c==0) (gm 2 aK a<|gE 5 2 (bV ((a.length:Int) ==0)))<|gE 8 2 (bV false))<|.b 6 31 (e==3) (gG 5 301 [(nI c)]<|fun b=>.b 1 36 b (gm 2 aK a<|gE 5 2 (bV ((a.length:Int) ==0)))<|gE 8 2 (bV false))<|.b 6 42 (e==4) (gG 5 241 [(nI c),(nI 0),(nI 1)]<|fun b=>.b 1 47 b (gm 2 aK a<|gE 5 2 (bV ((a.length:Int) ==0)))<|gE 8 2 (bV false))<|.b 6 53 (e==6) (.o (.y fun b:Bool=>.y fun g:Con=>.i [rn 2,.reg (rd 5 (.ans (.len (d.cons.length:Int))::.d::.pure (bV b)::.d::.b 63 true::.d::.d::.ans (.len (a.length:Int))::rd 5 (.ans (.idx (Con.av g))::rd 5 [])))] [hl Con.av d.cons,hA (Pure PP 241 [(nI c),(nI 0),(nI (IntKind.i64.wrap ((d.cons.length:Int) -1)))] (bV b)),hA (b=true),hm aK a,hA (0≤c),.a (((d.cons)[c.toNat]?) =some g) (bF (f:=Con.av))]<|gE 1 2 (bV ((a.length:Int) ==g.args)))<|.y fun b:Bool=>.i [rn 2,.reg (rd 5 (.ans (.len (d.cons.length:Int))::.d::.pure (bV b)::.d::.b 63 false::rd 14 []))] [hl Con.av d.cons,hA (Pure PP 241 [(nI c),(nI 0),(nI (IntKind.i64.wrap ((d.cons.length:Int) -1)))] (bV b)),hA (b=false)]<|gE 1 2 (bV false))<|gE 8 2 (bV false)
def aT8:=fun a b c d e f=>aAT a b c d e|>.t f tv
def aT9:=fun a b c d e f g i j=>aAT a b c d e|>.f g f i|>.t j tv
def aUa:=fun a b c d e f g i j k l=>aAT a b c d e|>.f g f i|>.f j|>.t k|>.t l tv
def aUb:=fun a b c d e f g i j k l=>aAT a b c d e|>.f g f i|>.f j|>.t k|>.f l tv
def aUc:=fun a b c d e f g i j k l m=>aAT a b c d e|>.f g f i|>.f j|>.f k|>.t l|>.t m tv
def aUd:=fun a b c d e f g i j k l m=>aAT a b c d e|>.f g f i|>.f j|>.f k|>.t l|>.f m tv
def aUe:=fun a b c d e f g i j k l m n=>aAT a b c d e|>.f g f i|>.f j|>.f k|>.f l|>.t m|>.t n tv
def aUf:=fun a b c d e f g i j k l m n=>aAT a b c d e|>.f g f i|>.f j|>.f k|>.f l|>.t m|>.f n tv
def aUg:=fun a b c d e f g i j k l m n o p q=>aAT a b c d e|>.f i f j|>.f k|>.f l|>.f m|>.f n|>.t o g p|>.t q tv
def aUh:=fun a b c d e f g i j k l m n o p q=>aAT a b c d e|>.f i f j|>.f k|>.f l|>.f m|>.f n|>.t o g p|>.f q tv
def aRz:=fun a b c d e f g i j k l m n o p q r=>aAT a b c d e|>.f i f j|>.f k|>.f l|>.f m|>.f n|>.f o|>.t p g q|>.t r tv
def aRA:=fun a b c d e f g i j k l m n o p q r=>aAT a b c d e|>.f i f j|>.f k|>.f l|>.f m|>.f n|>.f o|>.t p g q|>.f r tv
def aRB:=fun a b c d e f g i j k l m n o p q r s t u v=>aAT a b c d e|>.f j f k|>.f l|>.f m|>.f n|>.f o|>.f p|>.f q|>.t r|>.1 g i s t u v tv
def aRC:=fun a b c d e f g i j k l m n o p q r s=>aAT a b c d e|>.f i f j|>.f k|>.f l|>.f m|>.f n|>.f o|>.f p|>.t q|>.2 g r s tv
def aRD:=fun a b c d e f g i j k l m n o p=>aAT a b c d e|>.f g f i|>.f j|>.f k|>.f l|>.f m|>.f n|>.f o|>.f p tv
def lD(a:Int):=tT 0 (start PP 279 [(nI a)])<|.b 16 4 (a==1) (gE 9 0 (.iface 334 (nI 0)))<|.b 6 4 (a==2) (gE 9 0 (.iface 334 (nI 0)))<|.b 6 4 (a==3) (gE 9 0 (.iface 334 (nI 0)))<|.b 6 4 (a==4) (gE 9 0 (.iface 334 (nI 0)))<|.b 6 4 (a==21) (gE 9 0 (.iface 334 (nI 0)))<|.b 6 4 (a==25) (gE 9 0 (.iface 334 (nI 0)))<|.b 5 4 (a==28) (gE 7 0 (.iface 334 (nI 0)))<|.b 7 13 (a==5) (gE 9 0 (.iface 334 (nI 1)))<|.b 6 13 (a==27) (gE 9 0 (.iface 334 (nI 1)))<|.b 6 13 (a==16) (gE 9 0 (.iface 334 (nI 1)))<|.b 6 13 (a==17) (gE 9 0 (.iface 334 (nI 1)))<|.b 6 13 (a==19) (gE 9 0 (.iface 334 (nI 1)))<|.b 6 13 (a==20) (gE 9 0 (.iface 334 (nI 1)))<|.b 6 13 (a==23) (gE 9 0 (.iface 334 (nI 1)))<|.b 6 13 (a==24) (gE 9 0 (.iface 334 (nI 1)))<|.b 5 13 (a==26) (gE 7 0 (.iface 334 (nI 1)))<|.b 7 24 (a==6) (gE 9 0 (.iface 334 (nI 2)))<|.b 6 24 (a==7) (gE 9 0 (.iface 334 (nI 2)))<|.b 6 24 (a==9) (gE 9 0 (.iface 334 (nI 2)))<|.b 6 24 (a==10) (gE 9 0 (.iface 334 (nI 2)))<|.b 6 24 (a==11) (gE 9 0 (.iface 334 (nI 2)))<|.b 6 24 (a==12) (gE 9 0 (.iface 334 (nI 2)))<|.b 6 24 (a==13) (gE 9 0 (.iface 334 (nI 2)))<|.b 6 24 (a==18) (gE 9 0 (.iface 334 (nI 2)))<|.b 5 24 (a==22) (gE 7 0 (.iface 334 (nI 2)))<|.b 6 35 (a==8) (gE 7 0 (.iface 334 (nI 3)))<|.b 6 38 (a==14) (gE 8 0 (.iface 335 (.agg [])))<|.b 6 42 (a==15) (gE 8 0 (.iface 317 (.agg [])))<|gE 8 0 .nili
def aLo:=fun a b=>lD a|>.t b tv
def aLp:=fun a b c=>lD a|>.f b|>.t c tv
def aLq:=fun a b c d=>lD a|>.f b|>.f c|>.t d tv
def aLr:=fun a b c d e=>lD a|>.f b|>.f c|>.f d|>.t e tv
def aLs:=fun a b c d e f=>lD a|>.f b|>.f c|>.f d|>.f e|>.t f tv
def aLt:=fun a b c d e f g=>lD a|>.f b|>.f c|>.f d|>.f e|>.f f|>.t g tv
def aLu:=fun a b c d e f g i=>lD a|>.f b|>.f c|>.f d|>.f e|>.f f|>.f g|>.t i tv
def aLv:=fun a b c d e f g i j=>lD a|>.f b|>.f c|>.f d|>.f e|>.f f|>.f g|>.f i|>.t j tv
def aLw:=fun a b c d e f g i j k=>lD a|>.f b|>.f c|>.f d|>.f e|>.f f|>.f g|>.f i|>.f j|>.t k tv
def aLx:=fun a b c d e f g i j k l=>lD a|>.f b|>.f c|>.f d|>.f e|>.f f|>.f g|>.f i|>.f j|>.f k|>.t l tv
def aIZ:=fun a b c d e f g i j k l m=>lD a|>.f b|>.f c|>.f d|>.f e|>.f f|>.f g|>.f i|>.f j|>.f k|>.f l|>.t m tv
def aI0:=fun a b c d e f g i j k l m n=>lD a|>.f b|>.f c|>.f d|>.f e|>.f f|>.f g|>.f i|>.f j|>.f k|>.f l|>.f m|>.t n tv
def aI1:=fun a b c d e f g i j k l m n o=>lD a|>.f b|>.f c|>.f d|>.f e|>.f f|>.f g|>.f i|>.f j|>.f k|>.f l|>.f m|>.f n|>.t o tv
def aI2:=fun a b c d e f g i j k l m n o p=>lD a|>.f b|>.f c|>.f d|>.f e|>.f f|>.f g|>.f i|>.f j|>.f k|>.f l|>.f m|>.f n|>.f o|>.t p tv
def aI3:=fun a b c d e f g i j k l m n o p q=>lD a|>.f b|>.f c|>.f d|>.f e|>.f f|>.f g|>.f i|>.f j|>.f k|>.f l|>.f m|>.f n|>.f o|>.f p|>.t q tv
def aI4:=fun a b c d e f g i j k l m n o p q r=>lD a|>.f b|>.f c|>.f d|>.f e|>.f f|>.f g|>.f i|>.f j|>.f k|>.f l|>.f m|>.f n|>.f o|>.f p|>.f q|>.t r tv
def aI5:=fun a b c d e f g i j k l m n o p q r s=>lD a|>.f b|>.f c|>.f d|>.f e|>.f f|>.f g|>.f i|>.f j|>.f k|>.f l|>.f m|>.f n|>.f o|>.f p|>.f q|>.f r|>.t s tv
def aI6:=fun a b c d e f g i j k l m n o p q r s t=>lD a|>.f b|>.f c|>.f d|>.f e|>.f f|>.f g|>.f i|>.f j|>.f k|>.f l|>.f m|>.f n|>.f o|>.f p|>.f q|>.f r|>.f s|>.t t tv
def aI7:=fun a b c d e f g i j k l m n o p q r s t u=>lD a|>.f b|>.f c|>.f d|>.f e|>.f f|>.f g|>.f i|>.f j|>.f k|>.f l|>.f m|>.f n|>.f o|>.f p|>.f q|>.f r|>.f s|>.f t|>.t u tv
def aI8:=fun a b c d e f g i j k l m n o p q r s t u v=>lD a|>.f b|>.f c|>.f d|>.f e|>.f f|>.f g|>.f i|>.f j|>.f k|>.f l|>.f m|>.f n|>.f o|>.f p|>.f q|>.f r|>.f s|>.f t|>.f u|>.t v tv
def aI9:=fun a b c d e f g i j k l m n o p q r s t u v w=>lD a|>.f b|>.f c|>.f d|>.f e|>.f f|>.f g|>.f i|>.f j|>.f k|>.f l|>.f m|>.f n|>.f o|>.f p|>.f q|>.f r|>.f s|>.f t|>.f u|>.f v|>.t w tv
def aJa:=fun a b c d e f g i j k l m n o p q r s t u v w x=>lD a|>.f b|>.f c|>.f d|>.f e|>.f f|>.f g|>.f i|>.f j|>.f k|>.f l|>.f m|>.f n|>.f o|>.f p|>.f q|>.f r|>.f s|>.f t|>.f u|>.f v|>.f w|>.t x tv
def aJb:=fun a b c d e f g i j k l m n o p q r s t u v w x y=>lD a|>.f b|>.f c|>.f d|>.f e|>.f f|>.f g|>.f i|>.f j|>.f k|>.f l|>.f m|>.f n|>.f o|>.f p|>.f q|>.f r|>.f s|>.f t|>.f u|>.f v|>.f w|>.f x|>.t y tv
def aJc:=fun a b c d e f g i j k l m n o p q r s t u v w x y z=>lD a|>.f b|>.f c|>.f d|>.f e|>.f f|>.f g|>.f i|>.f j|>.f k|>.f l|>.f m|>.f n|>.f o|>.f p|>.f q|>.f r|>.f s|>.f t|>.f u|>.f v|>.f w|>.f x|>.f y|>.t z tv
def aJd:=fun a b c d e f g i j k l m n o p q r s t u v w x y z A=>lD a|>.f b|>.f c|>.f d|>.f e|>.f f|>.f g|>.f i|>.f j|>.f k|>.f l|>.f m|>.f n|>.f o|>.f p|>.f q|>.f r|>.f s|>.f t|>.f u|>.f v|>.f w|>.f x|>.f y|>.f z|>.t A tv
def aJe:=fun a b c d e f g i j k l m n o p q r s t u v w x y z A B=>lD a|>.f b|>.f c|>.f d|>.f e|>.f f|>.f g|>.f i|>.f j|>.f k|>.f l|>.f m|>.f n|>.f o|>.f p|>.f q|>.f r|>.f s|>.f t|>.f u|>.f v|>.f w|>.f x|>.f y|>.f z|>.f A|>.t B tv
def aJf:=fun a b c d e f g i j k l m n o p q r s t u v w x y z A B C=>lD a|>.f b|>.f c|>.f d|>.f e|>.f f|>.f g|>.f i|>.f j|>.f k|>.f l|>.f m|>.f n|>.f o|>.f p|>.f q|>.f r|>.f s|>.f t|>.f u|>.f v|>.f w|>.f x|>.f y|>.f z|>.f A|>.f B|>.t C tv
def aJg:=fun a b c d e f g i j k l m n o p q r s t u v w x y z A B C D=>lD a|>.f b|>.f c|>.f d|>.f e|>.f f|>.f g|>.f i|>.f j|>.f k|>.f l|>.f m|>.f n|>.f o|>.f p|>.f q|>.f r|>.f s|>.f t|>.f u|>.f v|>.f w|>.f x|>.f y|>.f z|>.f A|>.f B|>.f C|>.t D tv
def aJh:=fun a b c d e f g i j k l m n o p q r s t u v w x y z A B C D=>lD a|>.f b|>.f c|>.f d|>.f e|>.f f|>.f g|>.f i|>.f j|>.f k|>.f l|>.f m|>.f n|>.f o|>.f p|>.f q|>.f r|>.f s|>.f t|>.f u|>.f v|>.f w|>.f x|>.f y|>.f z|>.f A|>.f B|>.f C|>.f D tv
def aD6(a:List Pat)(b:Prog)(c:Int):TS:=⟨(tf 316 19 [(0,(iP a)),(1,(.func 303 [] [(.ptr 0 0)])),(4,(nI 0)),(7,(nI (a.length:Int))),(8,(nI c))] [kc f316 52,kl f316 52,.inBlock 0,kc f316 7]),[(tf 302 9 [(4,(bV false)),(5,(iP a)),(6,(.func 303 [] [(.ptr 0 0)]))] [ko f302 6 2,kc f302 7]),(tf 284 9 [(4,(bV false)),(5,(iP a)),(6,(.func 303 [] [(.ptr 0 0)]))] [ko f284 6 2,kc f284 7])],[oC 0 [(.func 282 [(Prog.av b)] [])]],1⟩
def rM(b:Prog)(a:Node)(c:Int):TS:=⟨(tf 316 19 [(0,(iP a.pats)),(1,(.func 303 [] [(.ptr 0 0)])),(4,(nI 0)),(7,(nI (a.pats.length:Int))),(8,(nI c))] [kc f316 52,kl f316 52,.inBlock 0,kc f316 7]),[(tf 302 9 [(4,(bV false)),(5,(iP a.pats)),(6,(.func 303 [] [(.ptr 0 0)]))] [ko f302 6 2,kc f302 7]),(tf 284 9 [(4,(bV false)),(5,(iP a.pats)),(6,(.func 303 [] [(.ptr 0 0)]))] [ko f284 6 2,kc f284 7]),(tf 248 35 [(4,(bV false)),(29,(bV true)),(31,(iP a.pats)),(32,(.func 280 [] [(.ptr 1 0)]))] [ko f248 62 13,kc f248 63])],[oC 0 [(.func 280 [] [(.ptr 1 0)])],oC 1 [(iN b.nodes),(iI b.funs),(nI b.main),(iC b.cons)]],2⟩
def tZ(a:List aB)(c:Int)(b:List (aB×Bool)):TS:=⟨(tf 244 21 [(0,(iS a)),(2,(bV false)),(3,(.map 0)),(7,(iS a)),(8,(nI (a.length:Int))),(9,(nI c))] [kc f244 116,kl f244 116,.inBlock 0,kc f244 15]),[],[(0,(.map (aF aA nF 0 b) b.length),true)],1⟩
def aUi (a:List Pat)(b:Prog):=(tT 0 (start PP 284 [(iP a),(.func 282 [(Prog.av b)] [])])<|gm 27 aK a<|.W 4 1 [0] (aD6 a b 0)) tv
def bDc(b:List Pat)(c:Prog)(a:Int):=tT 0 (aD6 b c a)<|gd 5 9 (a< (b.length:Int)) (aEZ 14 b a<|fun d e f g=>gG 11 282 [(Prog.av c),(.agg [(nI d),(nI e),(aA f),(iP g)])]<|fun i=>.b 6 16 (!i) (gE 17 2 (bV (!(decide (a≥0)))))<|gw 5 18 (a+1)<|.W 3 2 [0] (aD6 b c (a+1)))<|gE 17 1 (bV true)
def aUj:=fun a b c d e f g i j k l m n=>bDc a b c|>.t j d e f g k l i m|>.t n tv
def aUk:=fun a b c d e f g i j k l m n o=>bDc a b c|>.t j d e f g k l i m|>.f n o tv
def aUl:=fun a b c d=>bDc a b c|>.f d tv
def aCK(b:Prog)(a:Node):=tT 0 (start PP 248 [(Prog.av b),(Node.av a)])<|.o (gp 10 279 [(nI a.op)] (.iface 317 (.agg []))<|gm 44 aK a.pats<|gG 0 241 [(nI (a.pats.length:Int)),(nI 1),(nI 5)]<|fun c=>.b 1 11 c (gl 2 aP a.kids<|gm 2 aK a.pats<|gw 1 18 (1+ (a.pats.length:Int))<|.b 7 24 ((a.kids.length:Int) == (1+ (a.pats.length:Int))) (gG 2 283 [(Prog.av b),(Node.av a)]<|fun d=>.b 2 29 d (gm 31 aK a.pats<|.W 4 6 [5,0] (rM b a 0))<|gE 8 5 (bV false))<|gE 13 5 (bV false))<|gE 27 5 (bV false))<|.o (gp 10 279 [(nI a.op)] (.iface 335 (.agg []))<|gm 24 aK a.pats<|gd 2 14 ((a.pats.length:Int) >0) (gE 6 2 (bV false))<|.o (.y fun c:Bool=>.y fun d:Con=>.i [rn 22,.reg (rd 5 (.ans (.len (b.cons.length:Int))::.d::.pure (bV c)::.d::.b 15 true::.d::.d::.ans (.len (a.kids.length:Int))::rd 5 (.ans (.idx (Con.av d))::rd 5 [])))] [hl Con.av b.cons,hA (Pure PP 241 [(nI a.n),(nI 0),(nI (IntKind.i64.wrap ((b.cons.length:Int) -1)))] (bV c)),hA (c=true),hl aP a.kids,hA (0≤a.n),.a (((b.cons)[a.n.toNat]?) =some d) (bF (f:=Con.av))]<|.b 3 24 ((a.kids.length:Int) ==d.args) (gG 2 283 [(Prog.av b),(Node.av a)]<|fun f=>.b 2 29 f (gm 31 aK a.pats<|.W 4 6 [5,0] (rM b a 0)) .x)<|gE 13 5 (bV false))<|.y fun c:Bool=>.i [rn 22,.reg (rd 5 (.ans (.len (b.cons.length:Int))::.d::.pure (bV c)::.d::.b 15 false::rd 14 []))] [hl Con.av b.cons,hA (Pure PP 241 [(nI a.n),(nI 0),(nI (IntKind.i64.wrap ((b.cons.length:Int) -1)))] (bV c)),hA (c=false)]<|gE 16 5 (bV false))<|.o (.y fun e:Int=>gp 10 279 [(nI a.op)] (.iface 334 (nI e))<|gm 24 aK a.pats<|gd 2 14 ((a.pats.length:Int) >0) (gE 6 2 (bV false))<|gl 24 aP a.kids<|.b 7 24 ((a.kids.length:Int) ==e) (gG 2 283 [(Prog.av b),(Node.av a)]<|fun d=>.b 2 29 d (gm 31 aK a.pats<|.W 4 5 [4,0] (rM b a 0))<|gE 8 4 (bV false))<|gE 13 4 (bV false))<|gp 10 279 [(nI a.op)] (.nili)<|gE 18 2 (bV false)
def aRE:=fun a b c d e f g i j k l=>aCK a b|>.1 e c f|>.t g i|>.t j d k|>.t l tv
def aRF:=fun a b c d e f g i j k l=>aCK a b|>.1 e c f|>.t g i|>.t j d k|>.f l tv
def aRG:=fun a b c d e f g i=>aCK a b|>.1 d c e|>.t f g|>.f i tv
def aRH:=fun a b c d e f=>aCK a b|>.1 d c e|>.f f tv
def aRI:=fun a b c d=>aCK a b|>.2|>.1 c|>.t d tv
def aRJ:=fun a b c d e f g i j k l m n o=>aCK a b|>.2|>.1 f|>.f g|>.1 c d i j k l|>.t m e n|>.t o tv
def aRK:=fun a b c d e f g i j k l=>aCK a b|>.2|>.1 e|>.f f|>.1 c d g i j k|>.f l tv
def aRL:=fun a b c d e f g=>aCK a b|>.2|>.1 d|>.f e|>.2 c f g tv
def aRM:=fun a b c d e=>aCK a b|>.2|>.2|>.1 c d|>.t e tv
def aOy:=fun a b c d e f g i j=>aCK a b|>.2|>.2|>.1 c e|>.f f|>.t g d i|>.t j tv
def aOz:=fun a b c d e f g i j=>aCK a b|>.2|>.2|>.1 c e|>.f f|>.t g d i|>.f j tv
def aOA:=fun a b c d e f=>aCK a b|>.2|>.2|>.1 c d|>.f e|>.f f tv
def aOB:=fun a b c=>aCK a b|>.2|>.2|>.2 c tv
def aXL(c:Prog)(b:Node)(a:Int):=tT 0 (rM c b a)<|gd 5 9 (a< (b.pats.length:Int)) (aEZ 14 b.pats a<|fun d e f g=>gpI 20 281 [(.agg [(nI d),(nI e),(aA f),(iP g)]),(nI 12)]<|fun i=>gd 2 7 (i≤12) (gG 2 282 [(Prog.av c),(.agg [(nI d),(nI e),(aA f),(iP g)])]<|fun j=>.b 11 16 (!j) (gE 22 4 (bV (!(decide (a≥0)))))<|gw 5 18 (a+1)<|.W 3 4 [0,1] (rM c b (a+1)))<|gE 36 4 (bV (!(decide (a≥0)))))<|gE 22 2 (bV true)
def aRN:=fun a b c d e f g i j k l m n o p q=>aXL a b c|>.t k d e f g l m i n|>.t o j p|>.t q tv
def aRO:=fun a b c d e f g i j k l m n o p q r=>aXL a b c|>.t k d e f g l m i n|>.t o j p|>.f q r tv
def aRP:=fun a b c d e f g i j k l m n=>aXL a b c|>.t j d e f g k l i m|>.f n tv
def aRQ:=fun a b c d=>aXL a b c|>.f d tv
def aLy (a:List aB):=(tT 0 (start PP 244 [(iS a)])<|.i [rn 7,.mset 0 (aF aA nF 0 ([] :List (aB×Bool))) ([] :List (aB×Bool)).length] [hr (aF aA nF 0 ([] :List (aB×Bool))),hr (length ([] :List (aB×Bool)))]<|gl 6 aA a<|.W 4 1 [0] (tZ a 0 ([] :List (aB×Bool)))) ⟨aO (fun _=>rfl) (fun _=>rfl) _ _ _,trivial⟩
def bD6(b:List aB)(d:Int)(a:List (aB×Bool)):=tT 0 (tZ b d a)<|gd 5 10 (d< (b.length:Int)) (gX aA 6 b d<|fun c=>.i [rn 6,.mput (aF aA nF 0 (bY c true a)) (bY c true a).length] [.q (p:=tJ (aF aA nF 0 a) a.length (aA c) (nF true) =some ((aF aA nF 0 (bY c true a)),length (bY c true a))) (aIR hX _ _ _)]<|gw 4 15 (d+1)<|.W 3 1 [0] (tZ b (d+1) (bY c true a)))<|.i [rn 6,sI 17 (a.length:Int)] [.q (p:=(nI ((aF aA nF 0 a).length:Int)) = (nI (a.length:Int))) (aTe _ _ _)]<|gl 1 aA b<|gE 4 1 (bV ((a.length:Int) == (b.length:Int)))
def aLz:=fun a b c d e f g i=>bD6 a b c|>.t e d f g i ⟨aO (fun _=>rfl) (fun _=>rfl) _ _ _,trivial⟩
def aLA:=fun a b c d=>bD6 a b c|>.f d tv
def aD7(a:List Node)(b:Prog)(c:Int):TS:=⟨(tf 194 19 [(0,(iN a)),(1,(.func 278 [] [(.ptr 0 0)])),(4,(nI 0)),(7,(nI (a.length:Int))),(8,(nI c))] [kc f194 52,kl f194 52,.inBlock 0,kc f194 7]),[(tf 124 9 [(4,(bV false)),(5,(iN a)),(6,(.func 278 [] [(.ptr 0 0)]))] [ko f124 6 2,kc f124 7]),(tf 247 9 [(4,(bV false)),(5,(iN a)),(6,(.func 278 [] [(.ptr 0 0)]))] [ko f247 6 2,kc f247 7])],[oC 0 [(.func 248 [(Prog.av b)] [])]],1⟩
def aD8(a:List Con)(b:Int):TS:=⟨(tf 223 19 [(0,(iC a)),(1,(.func 277 [] [(.ptr 0 0)])),(4,(nI 0)),(7,(nI (a.length:Int))),(8,(nI b))] [kc f223 52,kl f223 52,.inBlock 0,kc f223 7]),[(tf 276 9 [(4,(bV false)),(5,(iC a)),(6,(.func 277 [] [(.ptr 0 0)]))] [ko f276 6 2,kc f276 7]),(tf 242 9 [(4,(bV false)),(5,(iC a)),(6,(.func 277 [] [(.ptr 0 0)]))] [ko f242 6 2,kc f242 7])],[oC 0 [(.func 243 [] [])]],1⟩
def aD9(a:List Int)(b:Int):TS:=⟨(tf 304 19 [(0,(.ilst 1 (jI a) true)),(1,(.func 286 [] [(.ptr 0 0)])),(4,(nI 0)),(7,(nI (a.length:Int))),(8,(nI b))] [kc f304 52,kl f304 52,.inBlock 0,kc f304 7]),[(tf 285 9 [(4,(bV false)),(5,(.ilst 1 (jI a) true)),(6,(.func 286 [] [(.ptr 0 0)]))] [ko f285 6 2,kc f285 7]),(tf 249 9 [(4,(bV false)),(5,(.ilst 1 (jI a) true)),(6,(.func 286 [] [(.ptr 0 0)]))] [ko f249 6 2,kc f249 7])],[oC 0 [(.func 250 [] [])]],1⟩
def aEa(a:List Con)(c:Int)(b:List aB):TS:=⟨(tf 245 22 [(1,(.func 246 [] [])),(4,.nils),(5,(.gl 0 1 0 b.length false)),(8,(iC a)),(9,(nI (a.length:Int))),(10,(nI c))] [kc f245 116,kl f245 116,.inBlock 0,kc f245 15]),[],[oL 0 1 (map aA b)],1⟩
def uA(a:Prog)(c:Int)(b:List Int):TS:=⟨(tf 200 128 [kp 1 0,(2,(bV false)),(3,(nI (a.nodes.length:Int))),(4,(.gl 1 1 0 b.length true)),(77,(iI a.funs)),(78,(nI (a.funs.length:Int))),(79,(nI c))] [kc f200 1012,kl f200 1012,.inBlock 0,kc f200 127]),[],[oC 0 [(iN a.nodes),(iI a.funs),(nI a.main),(iC a.cons)],oL 1 1 (jI b)],2⟩
def pH(a:Prog)(b:List Int)(c:Int):TS:=⟨(tf 200 128 [(2,(bV false)),(3,(nI (a.nodes.length:Int))),(4,(.gl 0 1 0 b.length true)),(97,(iN a.nodes)),(98,(nI (a.nodes.length:Int))),(99,(nI c))] [kc f200 2036,kl f200 2036,.inBlock 2,kc f200 255]),[],[oL 0 1 (jI b)],1⟩
def uB(a:Prog)(c:List Int)(d:Int)(b:List Int)(e f g:Int):TS:=⟨(tf 200 128 [(2,(bV false)),(3,(nI (a.nodes.length:Int))),(4,(.gl 0 1 0 b.length true)),(7,(nI f)),(97,(iN a.nodes)),(98,(nI (a.nodes.length:Int))),(99,(nI g)),(105,(iI c)),(106,(nI d)),(107,(nI e))] [kc f200 521420,kl f200 521420,.inBlock 4,.inBlock 3,kc f200 16295,kl f200 2036,.inBlock 2,kc f200 255]),[],[oL 0 1 (jI b)],1⟩
def aUm (a:List Node)(b:Prog):=(tT 0 (start PP 247 [(iN a),(.func 248 [(Prog.av b)] [])])<|gl 27 Node.av a<|.W 4 1 [0] (aD7 a b 0)) tv
def bDd(b:List Node)(c:Prog)(a:Int):=tT 0 (aD7 b c a)<|gd 5 9 (a< (b.length:Int)) (gX Node.av 14 b a<|fun d=>gG 11 248 [(Prog.av c),(Node.av d)]<|fun e=>.b 6 16 (!e) (gE 17 2 (bV (!(decide (a≥0)))))<|gw 5 18 (a+1)<|.W 3 2 [0] (aD7 b c (a+1)))<|gE 17 1 (bV true)
def aUn:=fun a b c d e f g i j k=>bDd a b c|>.t f d g i e j|>.t k tv
def aUo:=fun a b c d e f g i j k l=>bDd a b c|>.t f d g i e j|>.f k l tv
def aUp:=fun a b c d=>bDd a b c|>.f d tv
def aUq (a:List Con):=(tT 0 (start PP 242 [(iC a),(.func 243 [] [])])<|gl 27 Con.av a<|.W 4 1 [0] (aD8 a 0)) tv
def bDe(b:List Con)(a:Int):=tT 0 (aD8 b a)<|gd 5 9 (a< (b.length:Int)) (gX Con.av 14 b a<|fun c=>gG 11 243 [(.agg [(aA c.name),(nI c.args)])]<|fun d=>.b 6 16 (!d) (gE 17 2 (bV (!(decide (a≥0)))))<|gw 5 18 (a+1)<|.W 3 2 [0] (aD8 b (a+1)))<|gE 17 1 (bV true)
def aUr:=fun a b c d e f g i j=>bDe a b|>.t e c f g d i|>.t j tv
def aUs:=fun a b c d e f g i j k=>bDe a b|>.t e c f g d i|>.f j k tv
def aUt:=fun a b c=>bDe a b|>.f c tv
def aUu (a:List Int):=(tT 0 (start PP 249 [(.ilst 1 (jI a) true),(.func 250 [] [])])<|gl 27 aP a<|.W 4 1 [0] (aD9 a 0)) tv
def bDf(b:List Int)(a:Int):=tT 0 (aD9 b a)<|gd 5 9 (a< (b.length:Int)) (gX aP 14 b a<|fun c=>.b 29 16 (!(c==1)) (gE 17 1 (bV (!(decide (a≥0)))))<|gw 5 18 (a+1)<|.W 3 1 [0] (aD9 b (a+1)))<|gE 17 1 (bV true)
def aUv:=fun a b c d e f g=>bDf a b|>.t d c e f|>.t g tv
def aUw:=fun a b c d e f g i=>bDf a b|>.t d c e f|>.f g i tv
def aUx:=fun a b c=>bDf a b|>.f c tv
def aUy (a:List Con):=(tT 0 (start PP 245 [(iC a),(.func 246 [] [])])<|gl 12 Con.av a<|.i [rn 4,.nilL 5 1] []<|gu 0 0 (map aA ([] :List aB))<|gs 0 5 (.gl 0 1 0 ([] :List aB).length false)<|.W 0 1 [0] (aEa a 0 ([] :List aB))) ⟨kk,trivial⟩
def bD7(c:List Con)(a:Int)(b:List aB):=tT 0 (aEa c a b)<|gd 5 11 (a< (c.length:Int)) (gX Con.av 6 c a<|fun d=>ga 23 aA b [d.name]<|gw 5 20 (a+1)<|.W 3 5 [4] (aEa c (a+1) (b++ [d.name])))<|gz 8 4 0 1 aA b false<|gE 0 1 (iS b)
def aUz:=fun a b c d e f g i j=>bD7 a b c|>.t e d f g i j ⟨kk,trivial⟩
def aUA:=fun a b c d=>bD7 a b c|>.f d tv
def aJi(a:Prog):=tT 0 (start PP 200 [(Prog.av a)])<|gl 10 Node.av a.nodes<|gd 8 17 ((a.nodes.length:Int) >300) (gE 40 1 (bV false))<|gl 3 aP a.funs<|gd 3 24 ((a.funs.length:Int) <1) (gE 33 1 (bV false))<|gl 3 aP a.funs<|gd 4 32 ((a.funs.length:Int) > (a.nodes.length:Int)) (gE 25 1 (bV false))<|gl 3 Con.av a.cons<|gd 3 39 ((a.cons.length:Int) >20) (gE 18 1 (bV false))<|gl 6 aP a.funs<|gw 1 47 ((a.funs.length:Int) - (1:Int))<|gG 0 241 [(nI a.main),(nI 0),(nI ((a.funs.length:Int) - (1:Int)))]<|fun c=>.b 3 50 (!c) (gE 6 1 (bV false))<|gG 8 242 [(iC a.cons),(.func 243 [] [])]<|fun d=>.b 2 56 (!d) (gE 23 1 (bV false))<|.y fun b:List aB=>gp 3 245 [(iC a.cons),(.func 246 [] [])] (iS b)<|gG 0 244 [(iS b)]<|fun e=>.b 3 64 (!e) (gE 15 1 (bV false))<|gG 5 247 [(iN a.nodes),(.func 248 [(Prog.av a)] [])]<|fun f=>.b 3 72 (!f) (gE 6 1 (bV false))<|.i [rn 5,.mk a.nodes.length] [hr ((a.nodes.length:Nat) :Int),hr ((a.nodes.length:Nat) :Int),hA (a.nodes.length<100000)]<|.i [.lset 1 (jI (replicate a.nodes.length (0:Int)))] [.q (p:=replicate a.nodes.length (aP (0:Int)) = (jI (replicate a.nodes.length (0:Int)))) (aPO _ _ _)]<|.i [.set 74 (.gl 1 1 0 (replicate a.nodes.length (0:Int)).length true)] [.q (p:=(AV.gl 1 1 0 a.nodes.length true) = (.gl 1 1 0 (replicate a.nodes.length (0:Int)).length true)) (cB (List.length_replicate ..).symm)]<|gl 8 aP a.funs<|.W 4 2 [0,1] (uA a 0 (replicate a.nodes.length (0:Int)))
def aLB:=fun a b=>aJi a|>.t b tv
def aLC:=fun a b c=>aJi a|>.f b|>.t c tv
def aLD:=fun a b c d=>aJi a|>.f b|>.f c|>.t d tv
def aLE:=fun a b c d e=>aJi a|>.f b|>.f c|>.f d|>.t e tv
def aLF:=fun a b c d e f g i j=>aJi a|>.f c|>.f d|>.f e|>.f f g b i|>.t j tv
def aLG:=fun a b c d e f g i j k l m=>aJi a|>.f d|>.f e|>.f f|>.f g i b j|>.f k c l|>.t m tv
def aLH:=fun a b c d e f g i j k l m n o p q r=>aJi a|>.f f|>.f g|>.f i|>.f j k b l|>.f m c n|>.f o d p e q|>.t r tv
def aLI:=fun a b c d e f g i j k l m n o p q r s t u=>aJi a|>.f g|>.f i|>.f j|>.f k l b m|>.f n c o|>.f p d q e r|>.f s f t|>.t u tv
def aLJ:=fun a b c d e f g i j k l m n o p q r s t u v=>aJi a|>.f g|>.f i|>.f j|>.f k l b m|>.f n c o|>.f p d q e r|>.f s f t|>.f u v ⟨kk,trivial⟩
def bDg(d:Prog)(e:Int)(a:List Int):=tT 0 (uA d e a)<|gd 5 80 (e< (d.funs.length:Int)) (gX aP 6 d.funs e<|fun b=>gw 9 85 ((d.nodes.length:Int) -1)<|gG 0 241 [(nI b),(nI 0),(nI ((d.nodes.length:Int) -1))]<|fun f=>.b 2 87 (!f) (gE 6 2 (bV false))<|.i [rn 5,.ans (.ix)] [hA (0≤b),hA (b< (a.length:Int))]<|.y fun c:Int=>gj aP 0 a b.toNat c<|gw 1 92 (c+1)<|.i [.ans (.ix)] [hA (0≤b),hA (b< (a.length:Int))]<|.i [.st (aP c) (aP (c+1))] [.a (((a)[b.toNat]?) =some c) (iL (f:=aP)),hr (some (aP (c+1)))]<|.i [.lset 1 (jI (set a b.toNat (c+1)))] [.q (p:=(jI a).set (0+b.toNat) (aP (c+1)) = (jI (set a b.toNat (c+1)))) (mV _ _ _ _)]<|.i [.set 4 (.gl 1 1 0 (set a b.toNat (c+1)).length true)] [.q (p:=(AV.gl 1 1 0 a.length true) = (.gl 1 1 0 (set a b.toNat (c+1)).length true)) (cB (length_set ..).symm)]<|.i [.set 88 (.gl 1 1 0 (set a b.toNat (c+1)).length true)] [.q (p:=(AV.gl 1 1 0 a.length true) = (.gl 1 1 0 (set a b.toNat (c+1)).length true)) (cB (length_set ..).symm)]<|gw 4 94 (e+1)<|.W 3 2 [0,1] (uA d (e+1) (set a b.toNat (c+1))))<|gl 8 Node.av d.nodes<|.W 4 2 [1] (pH d a 0)
def aLK:=fun a b c d e f g i j k l=>bDg a b c|>.t f d g i j e k|>.t l tv
def aLL:=fun d e f g i j k l m n o p a b c q r=>bDg d e f|>.t k g l m n i o|>.f p a b j c q a b c r ⟨kk,trivial⟩
def aLM:=fun a b c d=>bDg a b c|>.f d ⟨kk,trivial⟩
def bD8(c:Prog)(d:List Int)(a:Int):=tT 0 (pH c d a)<|gd 5 100 (a< (c.nodes.length:Int)) (gX Node.av 7 c.nodes a<|fun b=>gl 9 aP b.kids<|.W 4 2 [0] (uB c b.kids (b.kids.length:Int) d 0 a a))<|gz 5 126 0 1 aP d true<|gG 0 249 [(.ilst 1 (jI d) true),(.func 250 [] [])]<|fun b=>gE 3 1 (bV b)
def aLN:=fun a b c d e f g=>bD8 a b c|>.t e d f g ⟨kk,trivial⟩
def aLO:=fun a b c d e f=>bD8 a b c|>.f e d f tv
def bDh(d:Prog)(i:List Int)(j:Int)(a:List Int)(e f g:Int):=tT 0 (uB d i j a e f g)<|gd 5 108 (e<j) (gX aP 6 i e<|fun b=>gw 9 113 (f+1)<|gw 2 115 ((d.nodes.length:Int) -1)<|gG 0 241 [(nI b),(nI (f+1)),(nI ((d.nodes.length:Int) -1))]<|fun k=>.b 2 117 (!k) (gE 6 1 (bV false))<|.i [rn 5,.ans (.ix)] [hA (0≤b),hA (b< (a.length:Int))]<|.y fun c:Int=>gj aP 0 a b.toNat c<|gw 1 122 (c+1)<|.i [.ans (.ix)] [hA (0≤b),hA (b< (a.length:Int))]<|.i [.st (aP c) (aP (c+1))] [.a (((a)[b.toNat]?) =some c) (iL (f:=aP)),hr (some (aP (c+1)))]<|.i [.lset 0 (jI (set a b.toNat (c+1)))] [.q (p:=(jI a).set (0+b.toNat) (aP (c+1)) = (jI (set a b.toNat (c+1)))) (mV _ _ _ _)]<|.i [.set 4 (.gl 0 1 0 (set a b.toNat (c+1)).length true)] [.q (p:=(AV.gl 0 1 0 a.length true) = (.gl 0 1 0 (set a b.toNat (c+1)).length true)) (cB (length_set ..).symm)]<|.i [.set 118 (.gl 0 1 0 (set a b.toNat (c+1)).length true)] [.q (p:=(AV.gl 0 1 0 a.length true) = (.gl 0 1 0 (set a b.toNat (c+1)).length true)) (cB (length_set ..).symm)]<|gw 4 124 (e+1)<|.W 3 1 [0] (uB d i j (set a b.toNat (c+1)) (e+1) f g))<|gw 5 125 (g+1)<|.W 3 1 [0] (pH d a (g+1))
def aLP:=fun a b c d e f g i j k l m n o p q=>bDh a b c d e f g|>.t k i l m n o j p|>.t q tv
def aLQ:=fun d e f g i j k l m n o p q r s t u a b c v w=>bDh d e f g i j k|>.t o l p q r s m t|>.f u a b n c v a b c w ⟨kk,trivial⟩
def aLR:=fun a b c d e f g i j=>bDh a b c d e f g|>.f i j ⟨kk,trivial⟩
def bD9(a:Prog):=tT 0 (start PP 138 [(Prog.av a)])<|gG 10 200 [(Prog.av a)]<|fun b=>.b 2 6 (!b) (gE 6 1 (nI 2))<|gE 7 1 (nI 0)
def aOC:=fun a b c d=>bD9 a b c|>.t d tv
def aOD:=fun a b c d=>bD9 a b c|>.f d tv
theorem fY (n lo hi:Int) :Pure PP 241 [.int .i64 n,.int .i64 lo,.int .i64 hi] (.bool (cT n lo hi)) :=by
 refine aU (by kernel_rfl) rfl rfl ?_;by_cases h:n≥lo
 · have e:cT n lo hi=decide (n≤hi) :=by unfold cT;rw [decide_eq_true (show lo≤n from h),Bool.true_and]
   rw [e];exact aXI n lo hi (decide_eq_true h)
 · have e:cT n lo hi=false:=by unfold cT;rw [decide_eq_false (show ¬lo≤n from h),Bool.false_and]
   rw [e];exact aXJ n lo hi (decide_eq_false h)
theorem aCL (n:Int) :Pure PP 301 [.int .i64 n] (.bool (cT n (-1000000000) 1000000000)) :=
 aU (by kernel_rfl) rfl rfl (aT4 n _ (fY n _ _))
theorem aRR (b:ByteArray)(i:Nat)(h:128≤ (b.get! i).toNat) :128≤ (Utf8.decode b i).1:=by
 unfold Utf8.decode Utf8.runeError;simp only [add_zero];rw [if_neg (show ¬ (b.get! i).toNat<0x80 by omega)]
 repeat' split
 all_goals first
  |assumption
  | (simp_all;done)
  | (rename_i q;simp only [Bool.and_eq_true,decide_eq_true_eq,ge_iff_le]at q;simp only;omega)
theorem aXM {s:aB}{i:Nat}{c:UInt8}(h:s[i]?=some c) :∃r d,aM7 (length s) (aC s) i=some (r,d) ∧ (c.toNat<128→r=c.toNat∧d=1) ∧ (128≤c.toNat→128≤r) :=by
 have hi:= (List.getElem?_eq_some_iff.1 h).1;have hb:=byte_at h;unfold aM7;have e1:blt i (length s) =true:=by rw [dB];exact decide_eq_true hi
 have e2:mod (div (aC s) (pow 256 i)) 256=c.toNat:=hb;rw [e1,e2];simp only [cond];by_cases k:c.toNat<128
 · have e3:blt c.toNat 128=true:=by rw [dB];exact decide_eq_true k
   rw [e3];exact⟨_,_,rfl,fun _=> ⟨rfl,rfl⟩,fun g=>by omega⟩
 · have e3:blt c.toNat 128=false:=by rw [dB];exact decide_eq_false k
   rw [e3];refine⟨_,_,rfl,fun g=>by omega,fun _=>?_⟩;have hn:aT (length s) (aC s) =s:=fP s;rw [hn];have hg: ((⟨⟨s⟩⟩ :ByteArray).get! (i+0)).toNat=c.toNat:=by
    simp only [add_zero,ByteArray.get!];have: (⟨s⟩ :Array UInt8)[i]! =c:=by
     rw [Array.getElem!_eq_getD,Array.getD_eq_getD_getElem?,show(⟨s⟩ :Array UInt8) =s.toArray from rfl,List.getElem?_toArray,h];rfl
    rw [this]
   exact aRR _ _ (by rw [add_zero]at hg;rw [hg];omega)
theorem aDB (s:aB) :∀ (t:aB) (i:Nat),s.drop i=t→Ends PP 0 (yW s i).as (.ret (.bool (hY t))) (aD [] 0)
 | [],i,h=>aOs s i (bA h)
 | c :: t,i,h=>by
  obtain⟨h1,h2,h3⟩ :=aY h;obtain⟨r,d,q1,q2,q3⟩ :=aXM h1;by_cases g1:c.toNat<97
  · have:= (q2 (by omega)).1;exact Ends.eqv (aOp s i r d h3 q1 sd) (by simp [hY,tR];omega)
  · by_cases g2:122<c.toNat
    · have hr:122<r:=by
       by_cases k:c.toNat<128
       ·have:= (q2 k).1;omega
       ·have:=q3 (by omega);omega
      exact Ends.eqv (aOq s i r d h3 q1 sd sd) (by simp [hY,tR];omega)
    · obtain⟨rfl,rfl⟩ :=q2 (by omega);refine(aOr s i _ _ h3 q1 sd sd).ends ?_;have e:tR c=true:=by simp [tR];omega
      exact Ends.eqv (aDB s t (i+1) h2) (by simp [hY,e])
theorem aDC (s:aB) :Pure PP 164 [aA s] (.bool (hY s)) :=
 aU (by kernel_rfl) rfl rfl ((aOo s).ends (aDB s s 0 rfl))
theorem aLS (s:aB) :Pure PP 231 [aA s] (.bool (jA s)) :=by
 refine aU (by kernel_rfl) rfl rfl ?_
 match s with
 | [] =>exact aOx [] rfl
 | c ::t=>
  have h0: (!(bL (length (c::t)) (aC (c::t)) 0 0)) =true:=by rw [dM];rfl
  by_cases g0: (c::t).length≤8
  · have g0': (decide (((length (c::t) :Nat) :Int) ≤ (8:Int))) =true:=sd;by_cases g1:65≤c.toNat
    · by_cases g2:c.toNat≤90
      ·exact Ends.eqv (aOt (c::t) c _ h0 g0' rfl sd sd (by simp) (aDC t)) (by simp only [jA,decide_eq_true g0,decide_eq_true g1,decide_eq_true g2,Bool.true_and])
      ·exact Ends.eqv (aOu (c::t) c h0 g0' rfl sd sd) (by simp only [jA,decide_eq_false g2,Bool.and_false,Bool.false_and])
    ·exact Ends.eqv (aOv (c::t) c h0 g0' rfl sd) (by simp only [jA,decide_eq_false g1,Bool.and_false,Bool.false_and])
  ·exact Ends.eqv (aOw (c::t) h0 sd) (by simp only [jA,decide_eq_false g0,Bool.false_and])
theorem aRS (c:Con) :Pure PP 243 [Con.av c] (.bool (fW c)) :=by
 refine aU (by kernel_rfl) rfl rfl ?_;have hg:=aLS c.name;cases k:jA c.name with
 |false=>rw [k]at hg;exact Ends.eqv (aT7 c false hg rfl) (by simp [fW,k])
 |true=>rw [k]at hg;exact Ends.eqv (aT6 c true _ hg rfl (fY _ _ _)) (by simp [fW,k])
def nO (p:Prog)(x:Node) :Bool:=if x.op=14 then true else bI p x.op x.n
theorem aRT (p:Prog)(x:Node)(hf:p.funs.length≤1000) :Ends PP 0 (start PP 283 [Prog.av p,Node.av x]).as (.ret (.bool (nO p x))) (aD [] 0) :=by
 cases hb1: (x.op== (1:Int))with
 | true=>
  exact Ends.eqv (aLi p x  (cT (x.n) (-1000000000) 1000000000) hb1 (aCL (x.n))) (by simp_all [nO,bI] <;>rfl)
 | false=>
  cases hb2: (x.op== (2:Int))with
  | true=>
   exact Ends.eqv (aLj p x  (cT (x.n) 0 1) hb1 hb2 (fY (x.n) 0 1)) (by simp_all [nO,bI] <;>rfl)
  | false=>
   cases hb3: (x.op== (24:Int))with
   | true=>
    exact Ends.eqv (aLk p x  (cT (x.n) 0 3) hb1 hb2 hb3 (fY (x.n) 0 3)) (by simp_all [nO,bI] <;>rfl)
   | false=>
    cases hb4: (x.op== (4:Int))with
    | true=>
     exact Ends.eqv (aLl p x  (cT (x.n) (0- ((length p.funs:Nat) :Int)) 29) hb1 hb2 hb3 hb4 sdI (fY (x.n) (0- ((length p.funs:Nat) :Int)) 29)) (by simp_all [nO,bI] <;>rfl)
    | false=>
     cases hb5: (x.op== (14:Int))with
     | true=>
      exact Ends.eqv (aLm p x   hb1 hb2 hb3 hb4 hb5) (by simp_all [nO,bI] <;>rfl)
     | false=>
      exact Ends.eqv (aLn p x   hb1 hb2 hb3 hb4 hb5) (by simp_all [nO,bI] <;>rfl)
theorem aJj (p:Prog)(x:Node)(hf:p.funs.length≤1000) :Pure PP 283 [Prog.av p,Node.av x] (.bool (nO p x)) :=
 aU (by kernel_rfl) rfl rfl (aRT p x hf)
mutual
def pI :Pat→Int→Int
 | .mk _ _ _ ps,most=>mA ps most 1
def mA :List Pat→Int→Int→Int
 | [],_,n=>n
 |p::ps,most,n=>if n>most then n else mA ps most (n+pI p (most-n))
end
mutual
theorem aFj :∀ (p:Pat) (m:Int),0≤m→1≤pI p m∧pI p m≤m+1
 | .mk _ _ _ ps,m,h=>by rw [pI];exact aHd ps m 1 (by omega) (by omega)
theorem aHd :∀ (ps:List Pat) (m n:Int),1≤n→n≤m+1→1≤mA ps m n∧mA ps m n≤m+1
 | [],m,n,h1,h2=>by rw [mA];omega
 | p ::ps,m,n,h1,h2=>by
  rw [mA];split
  ·omega
  · have a:=aFj p (m-n) (by omega);exact aHd ps m _ (by omega) (by omega)
end
mutual
theorem aLT :∀ (p:Pat) (m:Int),0≤m→ ((cU p:Int) ≤m→pI p m=cU p) ∧ (m<cU p→m<pI p m)
 | .mk _ _ _ ps,m,h=>by
  have:=aHe ps m 1 (by omega);simp only [pI,cU];constructor
  ·intro g;have:=this.1 (by omega);omega
  ·intro g;exact this.2 (by omega)
theorem aHe :∀ (ps:List Pat) (m n:Int),n≤m+1→ (n+bE ps≤m→mA ps m n=n+bE ps) ∧ (m<n+bE ps→m<mA ps m n)
 | [],m,n,h=>by simp only [mA,bE];omega
 | p ::ps,m,n,h=>by
  simp only [mA,bE];split
  ·omega
  · rename_i k;have a:=aLT p (m-n) (by omega);have l:=aFj p (m-n) (by omega);have b:=aHe ps m (n+pI p (m-n)) (by omega);constructor
    · intro g;have:=a.1 (by omega);have:=b.1 (by omega);omega
    · intro g;refine b.2 ?_;by_cases q: (cU p:Int) ≤m-n
      ·have:=a.1 q;omega
      ·have:=a.2 (by omega);omega
end
theorem aHf (p:Pat)(m:Int)(h:0≤m) :pI p m≤m↔ (cU p:Int) ≤m:=by
 have:=aLT p m h;constructor
 · intro g;by_cases k: (cU p:Int) ≤m
   ·exact k
   ·have:=this.2 (by omega);omega
 ·intro g;have:=this.1 g;omega
theorem aFk (f n:Int)(s:aB)(ps:List Pat)(m:Int)(hm:m≤1000)(ih:∀p∈ps,∀m:Int,0≤m→m≤1000→Pure PP 281 [Pat.av p,.int .i64 m] (.int .i64 (pI p m))) :
  ∀ (t:List Pat) (i:Nat) (k:Int),ps.drop i=t→ (i:Int) +1≤k→k≤m+1→Ends PP 0 (aBP f n s ps m k (i:Int)).as (.ret (.int .i64 (mA t m k))) (aD [] 0)
 | [],i,k,h,h1,h2=>by
  have:=bA h;rw [mA];exact aRy f n s ps m k i sd
 | .mk f' n' s' ps'::t,i,k,h,h1,h2=>by
  obtain⟨g1,g2,g3⟩ :=aY h;rw [mA];split
  ·exact aRw f n s ps m k i f' n' s' ps' sd sd sd sd
  · rename_i hk;have l:=aFj (.mk f' n' s' ps') (m-k) (by omega);refine(aRx f n s ps m k i f' n' s' ps' _ sd sd sd sd sd (ih (.mk f' n' s' ps') (mem_of_getElem? g1) (m-k) (by omega) (by omega)) sd sd).ends ?_;exact aFk f n s ps m hm ih t (i+1) _ g2 (by omega) (by omega)
mutual
theorem aFl :∀ (p:Pat) (m:Int),0≤m→m≤1000→Pure PP 281 [Pat.av p,.int .i64 m] (.int .i64 (pI p m))
 | .mk f n s ps,m,h0,h1=>by
  refine aU (by kernel_rfl) (by simp [keylessL,pD,keyless]) rfl ?_;rw [pI];refine(aRv f n s ps m).ends ?_;exact aFk f n s ps m h1 (aHg ps) ps 0 1 rfl (by omega) (by omega)
theorem aHg :∀ (ps:List Pat),∀p∈ps,∀m:Int,0≤m→m≤1000→Pure PP 281 [Pat.av p,.int .i64 m] (.int .i64 (pI p m))
 | [],p,hp,_,_,_=>by cases hp
 | q::ps,p,hp,m,h0,h1=>by
  rcases List.mem_cons.1 hp with e|hp
  ·rw [e];exact aFl q m h0 h1
  ·exact aHg ps p hp m h0 h1
end
end
end Go.Hb
