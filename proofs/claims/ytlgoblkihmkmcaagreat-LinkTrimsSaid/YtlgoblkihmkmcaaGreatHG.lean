/- A machine on abstract values, its soundness, ways, plain laws. -/
import Derived.Test.YtlgoblkihmkmcaaGreatHF
set_option linter.defProp false
set_option linter.unusedVariables false
set_option linter.unusedSimpArgs false
set_option linter.unusedSectionVars false
set_option maxRecDepth 100000
set_option maxHeartbeats 2000000
namespace Go.Hb
open AV (ilst int keyless keylessL str)
open List (all_nil drop length length_set map map_set mem_of_getElem? replicate set)
open Nat (add_zero blt div mod pow)
open Go.Proofs Tryz
noncomputable section
section
variable {P :Program}
theorem throws_at {f : Nat} {args : List AV} {ch : List (AV×Bool)}(hb:kR P f=true)(hk:keylessL args=true)(hv:∀x∈ch,keyless x.1=true)(he:Ends P 0 (start P f args).as (.pan ch) (aD [] 0)) :aJ4 P f args ch:=fun h=>by
 unfold kR at hb;split at hb
 · rename_i fn hf;split at hb
   · rename_i c hc;have hg:eD P h (.enter f args) =some ⟨f,dB .leaf 0 args,max fn.ntmps args.length,[.code c],[],.run,.normal,none⟩ :=by simp [eD,cJ,hf,hc]
     refine⟨_,hg,fun hm E fr ccs w fr' fs r cl base=>?_⟩;simp only at fs;rw [fs.nil_inv];have f1:FR E.p (start P f args).as.fr fr:=by
      have e1: (start P f args).as.fr= ⟨f,mkT ((List.range args.length).zip args),max fn.ntmps args.length,[.code c],[],.run,.normal,none⟩ :=by simp [start,hf,hc,TS.as,TF.fr]
      rw [e1];refine⟨fr'.fn,⟨fr'.tm.1,fun t a e=>?_⟩,?_,?_,fr'.mode,fr'.kind,?_⟩
      · have h1:=aCm (yQ e);have hlt:= (List.getElem?_eq_some_iff.1 h1).1;have h2: (dB .leaf 0 args).at t=some a:=by
         unfold dB;rw [cD,if_pos hlt];exact h1
        obtain⟨cv,g1,g2⟩ :=fr'.tm.2 t a h2;exact⟨cv,g1,eG (keylessL_mem.1 hk a (mem_of_getElem? h1)) g2⟩
      · have:=fr'.todo;simpa [IRs,IR]using this
      · have:=fr'.defers;simpa [DRs]using this
      · have:=fr'.round;simpa [RR]using this
     have e2 : (start P f args).as.cs = [] := by unfold start;split; · split<;>rfl
                                                 ·rfl
     have e3 : (start P f args).as.h = ⟨.leaf, 0⟩ := by unfold start;split; · split<;>rfl
                                                        ·rfl
     obtain⟨cl',w',E',g1,⟨cv,rfl,g2⟩,g3,g4⟩ :=he (Nat.zero_le _) E.p fr [] w f1 (by rw [e2];rfl) (by rw [e3];exact aF0 r) cl base;rw [e3]at g4;obtain⟨q1,q2⟩ :=aF1 r g3 g4;exact⟨_,w',_,g1,⟨cv,rfl,CR.of_p (E:= ⟨E.loc,E'.imm⟩) (show CR (Emb.p ⟨E.loc,E'.imm⟩) ch cv from aBv (E:=E') hv g2)⟩,q1,q2⟩
   ·cases hb
 ·cases hb
end
inductive Typ where
 |mk (sort n:Int) (text:aB) (parts:List Typ)
mutual
def Typ.av :Typ→AV
 | .mk f n t ps=>.agg [.int .i64 f,.int .i64 n,aH t,.ilst 4 (Typs.av ps) false]
def Typs.av :List Typ→List AV
 | [] =>[]
 |p::ps=>Typ.av p::Typs.av ps
end
inductive Term where
 |mk (op n:Int) (text:aB) (kids:List Term) (pats:List Pat)
mutual
def Term.av :Term→AV
 | .mk o n t ks ps=>.agg [.int .i64 o,.int .i64 n,aH t,.ilst 5 (Terms.av ks) false,.ilst 4 (Pats.av ps) false]
def Terms.av :List Term→List AV
 | [] =>[]
 |p::ps=>Term.av p::Terms.av ps
end
structure ConD where
 name:aB
 args:List Typ
def ConD.av (c:ConD) :AV:=.agg [aH c.name,.ilst 4 (Typs.av c.args) false]
structure DataD where
 name:aB
 cons:List ConD
def DataD.av (d:DataD) :AV:=.agg [aH d.name,.ilst 2 (map ConD.av d.cons) false]
inductive FunD where
 |mk (name param:aB) (frm to:Typ) (body:Term)
def FunD.av :FunD→AV
 | .mk n p (.mk f0 f1 f2 f3) (.mk g0 g1 g2 g3) (.mk b0 b1 b2 b3 b4) =>.agg [aH n,aH p,.int .i64 f0,.int .i64 f1,aH f2,.ilst 4 (Typs.av f3) false,.int .i64 g0,.int .i64 g1,aH g2,.ilst 4 (Typs.av g3) false,.int .i64 b0,.int .i64 b1,aH b2,.ilst 5 (Terms.av b3) false,.ilst 4 (Pats.av b4) false]
def FunDs.av (l:List FunD) :List AV:=map FunD.av l
structure Mod where
 name:aB
 datas:List DataD
 funs:List FunD
def Mod.av (m:Mod) :AV:=.agg [aH m.name,.ilst 2 (map DataD.av m.datas) false,.ilst 15 (FunDs.av m.funs) false]
inductive Part where
 |data (d:DataD)
 |fn (f:FunD)
def Part.av :Part→AV
 | .data d=>.iface 177 (DataD.av d)
 | .fn f=>.iface 179 (FunD.av f)
def Parts.av (l:List Part) :List AV:=map Part.av l
inductive KV where
 |row (l:List Int)
 |nil
 |val (u:Value)
def KV.av :KV→AV
 | .row l=>.ilst 1 (map aY l) false
 | .nil=>.nils
 | .val u=>.val u
structure ONode where
 op:Int
 n:Int
 kv:KV
 pats:List Pat
def ONode.av (x:ONode) :AV:=.agg [.int .i64 x.op,.int .i64 x.n,x.kv.av,.ilst 4 (Pats.av x.pats) false]
def Node.o (x:Node) :ONode:= ⟨x.op,x.n,.row x.kids,x.pats⟩
theorem aKw (l:List Node) :map ONode.av (map Node.o l) =map Node.av l:=by
 rw [List.map_map];rfl
theorem bGf :∀k:KV,keyless k.av=true
 | .row l=>by simp only [KV.av,keyless]
 | .nil=>rfl
 | .val u=>rfl
theorem bG (x:ONode) :keyless x.av=true:=by
 simp only [ONode.av,keyless,keylessL,bGf,aCw,Bool.and_true]
theorem aKx {E:Emb}{x y:AV}(hv:∀v,VR E x v→VR E y v) :∀ {xs:List AV} {i:Nat},xs[i]?=some x→∀vs,VRs E xs vs→VRs E (xs.set i y) vs
 | [],i,h,vs,hvs=>by simp at h
 | a::xs,0,h,vs,hvs=>by
  simp only [VRs]at hvs;obtain⟨u,us,rfl,h1,h2⟩ :=hvs;simp at h;subst h;simp only [List.set_cons_zero,VRs];exact⟨u,us,rfl,hv u h1,h2⟩
 | a::xs,i+1,h,vs,hvs=>by
  simp only [VRs]at hvs;obtain⟨u,us,rfl,h1,h2⟩ :=hvs;simp only [List.getElem?_cons_succ]at h;simp only [List.set_cons_succ,VRs];exact⟨u,us,rfl,h1,aKx hv h us h2⟩
theorem aMM {E:Emb}{x:ONode}{k:KV}(hk:∀v,VR E x.kv.av v→VR E k.av v) :∀v,VR E x.av v→VR E (ONode.av ⟨x.op,x.n,k,x.pats⟩) v:=fun v h=>by
 simp only [ONode.av,VR,VRs]at h ⊢;obtain⟨us,rfl,u1,r1,rfl,q1,u2,r2,rfl,q2,u3,r3,rfl,q3,q4⟩ :=h;exact⟨_,rfl,_,_,rfl,q1,_,_,rfl,q2,_,_,rfl,hk _ q3,q4⟩
theorem aPI {E:Emb}:∀v,VR E KV.nil.av v→VR E (KV.row []).av v:=fun v h=>by
 simp only [KV.av,VR]at h;simp only [KV.av,VR,List.map_nil];exact⟨[],VRs.nil _,fun _ hu=>by(cases hu),.inl ⟨rfl,none,0,h,fun _=>rfl,fun _=>rfl⟩⟩
theorem aVB {l:List ONode}{i:Nat}{y:ONode}(h:l[i]?=some y)(hk:y.kv= .nil) :VW (map ONode.av l) (map ONode.av (l.set i ⟨y.op,y.n,.row [],y.pats⟩)) :=fun E vs hvs=>by
 have h1: (map ONode.av l)[i]?=some y.av:=by rw [List.getElem?_map,h];rfl
 rw [map_set];exact aKx (aMM (by rw [hk];exact aPI)) h1 vs hvs
theorem aVC {l:List ONode}{i:Nat}{y:ONode}{u:Value}{ks:List Int}(h:l[i]?=some y)(hk:y.kv= .val u) :VQ u 1 (map aY ks) (map ONode.av l) (map ONode.av (l.set i ⟨y.op,y.n,.row ks,y.pats⟩)) :=fun E vs hu hvs=>by
 have h1: (map ONode.av l)[i]?=some y.av:=by rw [List.getElem?_map,h];rfl
 rw [map_set];refine aKx (aMM (fun v hv=>?_)) h1 vs hvs;rw [hk]at hv;simp only [KV.av,VR]at hv;subst hv;exact hu
theorem aKy {α:Type}{f:α→AV}{l:List α}{i:Nat}{y:α}(h:l[i]?=some y) :map f l≠ [] :=fun e=>by
 cases l with
 |nil=>simp at h
 |cons _ _=>cases e
def kwL :List aB:=[(strOf [98,111,111,108]),(strOf [99,101,108,108]),(strOf [99,104,97,110]),(strOf [101,108,115,101]),(strOf [102,97,108,115,101]),(strOf [102,117,110]),(strOf [103,101,116]),(strOf [105,102]),(strOf [105,110]),(strOf [105,110,112,117,116]),(strOf [105,110,116]),(strOf [106,111,105,110]),(strOf [108,101,116]),(strOf [109,97,116,99,104]),(strOf [109,111,100,117,108,101]),(strOf [111,117,116]),(strOf [112,97,117,115,101]),(strOf [112,117,116]),(strOf [114,101,115,101,116]),(strOf [115,101,110,100]),(strOf [115,104,105,102,116]),(strOf [115,112,97,119,110]),(strOf [116,97,107,101]),(strOf [116,97,115,107]),(strOf [116,104,101,110]),(strOf [116,114,117,101]),(strOf [116,121,112,101]),(strOf [117,110,105,116])]
def bEh:TS:=cQ PP 166 [] [] 0
def aZA:=(tT 0 (bEh)<|.i [rn 10,.toL 0 false [(.str 4 1819242338),(.str 4 1819043171),(.str 4 1851877475),(.str 4 1702063205),(.str 5 435728179558),(.str 3 7239014),(.str 3 7628135),(.str 2 26217),(.str 2 28265),(.str 5 500186508905),(.str 3 7630441),(.str 4 1852403562),(.str 3 7628140),(.str 5 448345170285),(.str 6 111516500389741),(.str 3 7632239),(.str 5 435728769392),(.str 3 7632240),(.str 5 499918267762),(.str 4 1684956531),(.str 5 499934390387),(.str 5 474449277043),(.str 4 1701536116),(.str 4 1802723700),(.str 4 1852139636),(.str 4 1702195828),(.str 4 1701869940),(.str 4 1953066613)]] [hr (some [(str 4 1819242338),(str 4 1819043171),(str 4 1851877475),(str 4 1702063205),(str 5 435728179558),(str 3 7239014),(str 3 7628135),(str 2 26217),(str 2 28265),(str 5 500186508905),(str 3 7630441),(str 4 1852403562),(str 3 7628140),(str 5 448345170285),(str 6 111516500389741),(str 3 7632239),(str 5 435728769392),(str 3 7632240),(str 5 499918267762),(str 4 1684956531),(str 5 499934390387),(str 5 474449277043),(str 4 1701536116),(str 4 1802723700),(str 4 1852139636),(str 4 1702195828),(str 4 1701869940),(str 4 1953066613)]),hr true]<|gu 0 0 (map aH kwL)<|gs 0 0 (.gl 0 1 0 kwL.length true)<|.i [.weak 0] []<|gz 0 0 0 1 aH kwL false<|gE 0 1 (iS kwL)) tv
def aVD (c:aB):=fun a b d e=>(tT 0 (start PP 115 [(aH c)])<|.y fun a:List aB=>gp 6 166 [] (iS a)<|gV 1 64 [(iS a),(aH c)]<|fun b=>gE 3 0 (bV b)) a d b e tv
def aRR(a:aB):=tT 0 (start PP 39 [(aH a)])<|gd 10 6 ((a.length:Int) ≥1) (gd 5 11 ((a.length:Int) ≤8) (gV 1 114 [(aH a)]<|fun b=>.b 2 15 b (gV 1 115 [(aH a)]<|fun c=>gE 5 0 (bV (!c)))<|gE 7 0 (bV false))<|gE 11 0 (bV false))<|gE 16 0 (bV false)
def aZB:=fun a b c d e f g i=>aRR a|>.t d|>.t e b f|>.t g c i tv
def aZC:=fun a b c d e f=>aRR a|>.t c|>.t d b e|>.f f tv
def aZD:=fun a b c=>aRR a|>.t b|>.f c tv
def aZE:=fun a b=>aRR a|>.f b tv
def fZ(a:aB):=tT 0 (start PP 162 [(aH a)])<|.b 16 4 (bM a.length (aA a) 4 1819242338) (gE 8 0 (bV true))<|.b 6 4 (bM a.length (aA a) 4 1819043171) (gE 8 0 (bV true))<|.b 6 4 (bM a.length (aA a) 4 1851877475) (gE 8 0 (bV true))<|.b 6 4 (bM a.length (aA a) 4 1702063205) (gE 8 0 (bV true))<|.b 6 4 (bM a.length (aA a) 5 435728179558) (gE 8 0 (bV true))<|.b 6 4 (bM a.length (aA a) 3 7239014) (gE 8 0 (bV true))<|.b 6 4 (bM a.length (aA a) 3 7628135) (gE 8 0 (bV true))<|.b 6 4 (bM a.length (aA a) 2 26217) (gE 8 0 (bV true))<|.b 6 4 (bM a.length (aA a) 2 28265) (gE 8 0 (bV true))<|.b 6 4 (bM a.length (aA a) 5 500186508905) (gE 8 0 (bV true))<|.b 6 4 (bM a.length (aA a) 3 7630441) (gE 8 0 (bV true))<|.b 6 4 (bM a.length (aA a) 4 1852403562) (gE 8 0 (bV true))<|.b 6 4 (bM a.length (aA a) 3 7628140) (gE 8 0 (bV true))<|.b 6 4 (bM a.length (aA a) 5 448345170285) (gE 8 0 (bV true))<|.b 6 4 (bM a.length (aA a) 6 111516500389741) (gE 8 0 (bV true))<|.b 6 4 (bM a.length (aA a) 3 7632239) (gE 8 0 (bV true))<|.b 6 4 (bM a.length (aA a) 5 435728769392) (gE 8 0 (bV true))<|.b 6 4 (bM a.length (aA a) 3 7632240) (gE 8 0 (bV true))<|.b 6 4 (bM a.length (aA a) 5 499918267762) (gE 8 0 (bV true))<|.b 6 4 (bM a.length (aA a) 4 1684956531) (gE 8 0 (bV true))<|.b 6 4 (bM a.length (aA a) 5 499934390387) (gE 8 0 (bV true))<|.b 6 4 (bM a.length (aA a) 5 474449277043) (gE 8 0 (bV true))<|.b 6 4 (bM a.length (aA a) 4 1701536116) (gE 8 0 (bV true))<|.b 6 4 (bM a.length (aA a) 4 1802723700) (gE 8 0 (bV true))<|.b 6 4 (bM a.length (aA a) 4 1852139636) (gE 8 0 (bV true))<|.b 6 4 (bM a.length (aA a) 4 1702195828) (gE 8 0 (bV true))<|.b 6 4 (bM a.length (aA a) 4 1701869940) (gE 8 0 (bV true))<|.b 5 4 (bM a.length (aA a) 4 1953066613) (gE 6 0 (bV true))<|gE 8 0 (bV false)
def aZF:=fun a b=>fZ a|>.t b tv
def aZG:=fun a b c=>fZ a|>.f b|>.t c tv
def aZH:=fun a b c d=>fZ a|>.f b|>.f c|>.t d tv
def aZI:=fun a b c d e=>fZ a|>.f b|>.f c|>.f d|>.t e tv
def aZJ:=fun a b c d e f=>fZ a|>.f b|>.f c|>.f d|>.f e|>.t f tv
def aZK:=fun a b c d e f g=>fZ a|>.f b|>.f c|>.f d|>.f e|>.f f|>.t g tv
def aZL:=fun a b c d e f g i=>fZ a|>.f b|>.f c|>.f d|>.f e|>.f f|>.f g|>.t i tv
def aZM:=fun a b c d e f g i j=>fZ a|>.f b|>.f c|>.f d|>.f e|>.f f|>.f g|>.f i|>.t j tv
def aZN:=fun a b c d e f g i j k=>fZ a|>.f b|>.f c|>.f d|>.f e|>.f f|>.f g|>.f i|>.f j|>.t k tv
def aZO:=fun a b c d e f g i j k l=>fZ a|>.f b|>.f c|>.f d|>.f e|>.f f|>.f g|>.f i|>.f j|>.f k|>.t l tv
def aVE:=fun a b c d e f g i j k l m=>fZ a|>.f b|>.f c|>.f d|>.f e|>.f f|>.f g|>.f i|>.f j|>.f k|>.f l|>.t m tv
def aVF:=fun a b c d e f g i j k l m n=>fZ a|>.f b|>.f c|>.f d|>.f e|>.f f|>.f g|>.f i|>.f j|>.f k|>.f l|>.f m|>.t n tv
def aVG:=fun a b c d e f g i j k l m n o=>fZ a|>.f b|>.f c|>.f d|>.f e|>.f f|>.f g|>.f i|>.f j|>.f k|>.f l|>.f m|>.f n|>.t o tv
def aVH:=fun a b c d e f g i j k l m n o p=>fZ a|>.f b|>.f c|>.f d|>.f e|>.f f|>.f g|>.f i|>.f j|>.f k|>.f l|>.f m|>.f n|>.f o|>.t p tv
def aVI:=fun a b c d e f g i j k l m n o p q=>fZ a|>.f b|>.f c|>.f d|>.f e|>.f f|>.f g|>.f i|>.f j|>.f k|>.f l|>.f m|>.f n|>.f o|>.f p|>.t q tv
def aVJ:=fun a b c d e f g i j k l m n o p q r=>fZ a|>.f b|>.f c|>.f d|>.f e|>.f f|>.f g|>.f i|>.f j|>.f k|>.f l|>.f m|>.f n|>.f o|>.f p|>.f q|>.t r tv
def aVK:=fun a b c d e f g i j k l m n o p q r s=>fZ a|>.f b|>.f c|>.f d|>.f e|>.f f|>.f g|>.f i|>.f j|>.f k|>.f l|>.f m|>.f n|>.f o|>.f p|>.f q|>.f r|>.t s tv
def aVL:=fun a b c d e f g i j k l m n o p q r s t=>fZ a|>.f b|>.f c|>.f d|>.f e|>.f f|>.f g|>.f i|>.f j|>.f k|>.f l|>.f m|>.f n|>.f o|>.f p|>.f q|>.f r|>.f s|>.t t tv
def aVM:=fun a b c d e f g i j k l m n o p q r s t u=>fZ a|>.f b|>.f c|>.f d|>.f e|>.f f|>.f g|>.f i|>.f j|>.f k|>.f l|>.f m|>.f n|>.f o|>.f p|>.f q|>.f r|>.f s|>.f t|>.t u tv
def aVN:=fun a b c d e f g i j k l m n o p q r s t u v=>fZ a|>.f b|>.f c|>.f d|>.f e|>.f f|>.f g|>.f i|>.f j|>.f k|>.f l|>.f m|>.f n|>.f o|>.f p|>.f q|>.f r|>.f s|>.f t|>.f u|>.t v tv
def aVO:=fun a b c d e f g i j k l m n o p q r s t u v w=>fZ a|>.f b|>.f c|>.f d|>.f e|>.f f|>.f g|>.f i|>.f j|>.f k|>.f l|>.f m|>.f n|>.f o|>.f p|>.f q|>.f r|>.f s|>.f t|>.f u|>.f v|>.t w tv
def aVP:=fun a b c d e f g i j k l m n o p q r s t u v w x=>fZ a|>.f b|>.f c|>.f d|>.f e|>.f f|>.f g|>.f i|>.f j|>.f k|>.f l|>.f m|>.f n|>.f o|>.f p|>.f q|>.f r|>.f s|>.f t|>.f u|>.f v|>.f w|>.t x tv
def aVQ:=fun a b c d e f g i j k l m n o p q r s t u v w x y=>fZ a|>.f b|>.f c|>.f d|>.f e|>.f f|>.f g|>.f i|>.f j|>.f k|>.f l|>.f m|>.f n|>.f o|>.f p|>.f q|>.f r|>.f s|>.f t|>.f u|>.f v|>.f w|>.f x|>.t y tv
def aVR:=fun a b c d e f g i j k l m n o p q r s t u v w x y z=>fZ a|>.f b|>.f c|>.f d|>.f e|>.f f|>.f g|>.f i|>.f j|>.f k|>.f l|>.f m|>.f n|>.f o|>.f p|>.f q|>.f r|>.f s|>.f t|>.f u|>.f v|>.f w|>.f x|>.f y|>.t z tv
def aVS:=fun a b c d e f g i j k l m n o p q r s t u v w x y z A=>fZ a|>.f b|>.f c|>.f d|>.f e|>.f f|>.f g|>.f i|>.f j|>.f k|>.f l|>.f m|>.f n|>.f o|>.f p|>.f q|>.f r|>.f s|>.f t|>.f u|>.f v|>.f w|>.f x|>.f y|>.f z|>.t A tv
def aVT:=fun a b c d e f g i j k l m n o p q r s t u v w x y z A B=>fZ a|>.f b|>.f c|>.f d|>.f e|>.f f|>.f g|>.f i|>.f j|>.f k|>.f l|>.f m|>.f n|>.f o|>.f p|>.f q|>.f r|>.f s|>.f t|>.f u|>.f v|>.f w|>.f x|>.f y|>.f z|>.f A|>.t B tv
def aVU:=fun a b c d e f g i j k l m n o p q r s t u v w x y z A B C=>fZ a|>.f b|>.f c|>.f d|>.f e|>.f f|>.f g|>.f i|>.f j|>.f k|>.f l|>.f m|>.f n|>.f o|>.f p|>.f q|>.f r|>.f s|>.f t|>.f u|>.f v|>.f w|>.f x|>.f y|>.f z|>.f A|>.f B|>.t C tv
def aVV:=fun a b c d e f g i j k l m n o p q r s t u v w x y z A B C D=>fZ a|>.f b|>.f c|>.f d|>.f e|>.f f|>.f g|>.f i|>.f j|>.f k|>.f l|>.f m|>.f n|>.f o|>.f p|>.f q|>.f r|>.f s|>.f t|>.f u|>.f v|>.f w|>.f x|>.f y|>.f z|>.f A|>.f B|>.f C|>.t D tv
def aVW:=fun a b c d e f g i j k l m n o p q r s t u v w x y z A B C D=>fZ a|>.f b|>.f c|>.f d|>.f e|>.f f|>.f g|>.f i|>.f j|>.f k|>.f l|>.f m|>.f n|>.f o|>.f p|>.f q|>.f r|>.f s|>.f t|>.f u|>.f v|>.f w|>.f x|>.f y|>.f z|>.f A|>.f B|>.f C|>.f D tv
def aRS(a:aB):=tT 0 (start PP 107 [(aH a)])<|.b 9 5 (!(bM a.length (aA a) 0 0)) (gd 5 10 ((a.length:Int) ≤8) (gV 1 161 [(aH a)]<|fun b=>.b 2 14 b (gV 1 162 [(aH a)]<|fun c=>gE 5 0 (bV (!c)))<|gE 7 0 (bV false))<|gE 11 0 (bV false))<|gE 16 0 (bV false)
def aZP:=fun a b c d e f g i=>aRS a|>.t d|>.t e b f|>.t g c i tv
def aZQ:=fun a b c d e f=>aRS a|>.t c|>.t d b e|>.f f tv
def aZR:=fun a b c=>aRS a|>.t b|>.f c tv
def aZS:=fun a b=>aRS a|>.f b tv
mutual
def mI :Pat→Int→Int
 | .mk _ _ _ ps,left=>if left<1 then -1 else kH ps (left-1)
def kH :List Pat→Int→Int
 | [],left=>left
 |p::ps,left=>if 0≤left then kH ps (mI p left)else left
end
mutual
theorem aMN :∀ (p:Pat) (left:Int),0≤left→ -1≤mI p left∧mI p left≤left-1
 | .mk _ _ _ ps,left,h=>by
  rw [mI];split
  ·omega
  ·have:=aIG ps (left-1) (by omega);omega
theorem aIG :∀ (ps:List Pat) (left:Int),-1≤left→ -1≤kH ps left∧kH ps left≤left
 | [],left,h=>by rw [kH];omega
 | p ::ps,left,h=>by
  rw [kH];split
  · rename_i h0;have a:=aMN p left h0;have:=aIG ps (mI p left) a.1;omega
  ·omega
end
theorem aEz (f n:Int)(s:aB)(ps:List Pat)(l0:Int)(ih:∀p∈ps,∀left:Int,0≤left→left≤1000→Pure PP 155 [Pat.av p,.int .i64 left] (.int .i64 (mI p left))) :
  ∀ (t:List Pat) (i:Nat) (left:Int),ps.drop i=t→ -1≤left→ (i:Int) +left≤1000→Ends PP 0 (aAi f n s ps l0 left (i:Int)).as (.ret (.int .i64 (kH t left))) (aD [] 0)
 | [],i,left,h,h1,h2=>by
  have:=bA h;rw [kH];exact aPH f n s ps l0 left i sd
 | .mk f' n' s' ps'::t,i,left,h,h1,h2=>by
  obtain⟨g1,g2,g3⟩ :=aZ h;rw [kH];split
  · rename_i h0;have w:=aMN (.mk f' n' s' ps') left h0;refine(aPF f n s ps l0 left i f' n' s' ps' _ sd sd sd sd (ih _ (mem_of_getElem? g1) left h0 (by omega)) sd).ends ?_;exact aEz f n s ps l0 ih t (i+1) _ g2 w.1 (by omega)
  ·exact aPG f n s ps l0 left i sd sd
mutual
theorem yW :∀ (p:Pat) (left:Int),-1≤left→left≤1000→Pure PP 155 [Pat.av p,.int .i64 left] (.int .i64 (mI p left))
 | .mk f n s ps,left,h0,h1=>by
  refine aV (by kernel_rfl) (by simp [keylessL,qI,keyless]) rfl ?_;rw [mI];split
  ·exact aPD f n s ps left sd
  · refine(aPE f n s ps left sd sd).ends ?_;exact aEz f n s ps left (fun p hp left h0 h1=>aGm ps p hp left h0 h1) ps 0 _ rfl (by omega) (by omega)
theorem aGm :∀ (ps:List Pat),∀p∈ps,∀left:Int,0≤left→left≤1000→Pure PP 155 [Pat.av p,.int .i64 left] (.int .i64 (mI p left))
 | [],p,hp,_,_,_=>by cases hp
 | q::ps,p,hp,left,h0,h1=>by
  rcases List.mem_cons.1 hp with e|hp
  ·rw [e];exact yW q left (by omega) h1
  ·exact aGm ps p hp left h0 h1
end
mutual
def oP :Pat→Bool
 | .mk _ _ s ps=>pH ps&&decide (s.length≤30)
def pH :List Pat→Bool
 | [] =>true
 |p::ps=>oP p&&pH ps
end
mutual
def cU :Pat→Nat
 | .mk _ _ _ ps=>bH ps+1
def bH :List Pat→Nat
 | [] =>0
 |p::ps=>cU p+bH ps
end
theorem iW :∀ps:List Pat,ps.length≤bH ps
 | [] =>by simp [bH]
 | .mk _ _ _ qs::ps=>by have:=iW ps;simp only [bH,cU,List.length_cons];omega
mutual
theorem aGn :∀ (p:Pat) (left:Int),0≤mI p left→mI p left=left-cU p
 | .mk _ _ _ ps,left,h=>by
  rw [mI]at h ⊢;split at h
  ·omega
  · rename_i h1;rw [if_neg h1];have:=aEA ps (left-1) h;simp only [cU];omega
theorem aEA :∀ (ps:List Pat) (left:Int),0≤kH ps left→kH ps left=left-bH ps
 | [],left,h=>by simp [kH,bH]
 | p ::ps,left,h=>by
  rw [kH]at h ⊢;split at h
  · rename_i h1;rw [if_pos h1];have a:=aEA ps _ h;have b:=aGn p left (by omega);simp only [bH];omega
  ·omega
end
mutual
theorem aGo :∀ (p:Pat) (left:Int),(cU p:Int) ≤left→mI p left=left-cU p
 | .mk _ _ _ ps,left,h=>by
  simp only [cU]at h ⊢;rw [mI,if_neg (by omega),aEB ps (left-1) (by omega)];omega
theorem aEB :∀ (ps:List Pat) (left:Int),(bH ps:Int) ≤left→kH ps left=left-bH ps
 | [],left,h=>by simp [kH,bH]
 | p::ps,left,h=>by
  simp only [bH]at h ⊢;rw [kH,if_pos (by omega),aGo p left (by omega),aEB ps _ (by omega)];omega
end
theorem aAj (p:Pat)(left:Int) :0≤mI p left↔ (cU p:Int) ≤left:=by
 constructor
 ·intro h;have:=aGn p left h;omega
 ·intro h;rw [aGo p left h];omega
theorem yX (f n:Int)(s:aB)(ps:List Pat)(hl:ps.length<1000000)(ih:∀p∈ps,Pure PP 185 [Pat.av p] (.bool (oP p))) :
  ∀ (t:List Pat) (i:Nat),ps.drop i=t→Ends PP 0 (pG f n s ps (i:Int)).as (.ret (.bool (pH t&&decide (s.length≤30)))) (aD [] 0)
 | [],i,h=>by
  have:=bA h;have e:decide (((length s:Nat) :Int) ≤ (30:Int)) =decide (s.length≤30) :=by congr 1;simp;omega
  rw [pH,Bool.true_and,←e];exact aH9 f n s ps i sd
 | .mk f' n' s' ps'::t,i,h=>by
  obtain⟨g1,g2,g3⟩ :=aZ h;have ihp:=ih _ (mem_of_getElem? g1);rw [pH];cases hb:oP (.mk f' n' s' ps')
  case false=>
   rw [hb]at ihp;exact aH7 f n s ps i f' n' s' ps' false sd sd sd ihp rfl
  rw [hb]at ihp;refine(aH8 f n s ps i f' n' s' ps' true sd sd sd ihp rfl sd).ends ?_;rw [Bool.true_and];exact yX f n s ps hl ih t (i+1) g2
mutual
theorem yY :∀ (p:Pat),cU p<1000000→Pure PP 185 [Pat.av p] (.bool (oP p))
 | .mk f n s ps,h=>by
  refine aV (by kernel_rfl) (by simp [keylessL,qI]) rfl ?_;simp only [cU]at h;have:=iW ps;refine(aH6 f n s ps).ends ?_;rw [oP];exact yX f n s ps (by omega) (aA7 ps (by omega)) ps 0 rfl
theorem aA7 :∀ (ps:List Pat),bH ps<1000000→∀p∈ps,Pure PP 185 [Pat.av p] (.bool (oP p))
 | [],_,p,hp=>by cases hp
 | q::ps,h,p,hp=>by
  simp only [bH]at h;rcases List.mem_cons.1 hp with e|hp
  ·rw [e];exact yY q (by omega)
  ·exact aA7 ps (by omega) p hp
end
def yZ (p:Pat) :Bool:=decide (cU p≤16) &&oP p
theorem aKz (p:Pat) :Pure PP 138 [Pat.av p] (.bool (yZ p)) :=by
 refine aV (by kernel_rfl) (by simp [keylessL,qI]) rfl ?_;obtain⟨f,n,s,ps⟩ :=p;have hw:=yW (.mk f n s ps) 16 (by omega) (by omega);by_cases h:cU (.mk f n s ps) ≤16
 · have e:yZ (.mk f n s ps) =oP (.mk f n s ps) :=by simp [yZ,h]
   rw [e];have hg:0≤mI (.mk f n s ps) 16:= (aAj (.mk f n s ps) 16).2 (by omega);exact aMH f n s ps _ _ hw (decide_eq_true hg) (yY (.mk f n s ps) (by omega))
 · have e:yZ (.mk f n s ps) =false:=by simp [yZ,h]
   rw [e];refine aMI f n s ps _ hw (decide_eq_false fun g=>h ?_);have:= (aAj (.mk f n s ps) 16).1 g;omega
def fR (l:List Con) :Bool:=l.all fun c=>decide (c.name.length≤40)
def kC (l:List Pat) :Bool:=l.all yZ
def aW (x:Node) :Bool:=decide (x.kids.length≤10) &&decide (x.pats.length≤10) &&kC x.pats
def aJ (p:Prog) :Bool:=decide (p.nodes.length≤320) &&decide (p.funs.length≤320) &&decide (p.cons.length≤25) &&fR p.cons&&p.nodes.all aW
mutual
theorem bGg (p:Prog)(hn:p.nodes.length≤320) :∀ (t:List Node) (i:Nat),p.nodes.drop i=t→Ends PP 0 (nO p (i:Int)).as (.ret (.bool (t.all aW))) (aD [] 0)
 | [],i,h=>by
  have:=bA h;exact aGh p i sd
 | x :: t,i,h=>by
  obtain⟨g1,g2,g3⟩ :=aZ h;by_cases k1:x.kids.length≤10
  · by_cases k2:x.pats.length≤10
    · have e: (x::t).all aW= (kC (x.pats.drop 0) &&t.all aW) :=by simp [aW,k1,k2]
      rw [e];refine(aGg p i x sd sd sd sd sd).ends ?_;have ih:=bGg p hn t (i+1) g2;clear e g1 g2 h
      suffices ∀ (u:List Pat) (k:Nat),x.pats.drop k=u→Ends PP 0 (nP p x.op x.n x.kids x.pats (k:Int) (i:Int)).as (.ret (.bool (kC u&&t.all aW))) (aD [] 0)from this _ 0 rfl
      intro u
      induction u with
      | nil=>
       intro k hk;have:=bA hk;refine(aGk p x.op x.n x.kids x.pats k i sd sd).ends ?_;simp only [kC,all_nil,Bool.true_and];exact ih
      | cons q u ihu=>
       intro k hk;obtain⟨q1,q2,q3⟩ :=aZ hk;obtain⟨f',n',s',ps'⟩ :=q;have hp:=aKz (.mk f' n' s' ps');cases hb:yZ (.mk f' n' s' ps')
       case false=>
        rw [hb]at hp;have e: (kC (.mk f' n' s' ps'::u) &&t.all aW) =false:=by simp [kC,hb]
        rw [e];exact aGi p x.op x.n x.kids x.pats k i f' n' s' ps' false sd sd sd hp rfl
       rw [hb]at hp;have e: (kC (.mk f' n' s' ps'::u) &&t.all aW) = (kC u&&t.all aW) :=by simp [kC,hb]
       rw [e];refine(aGj p x.op x.n x.kids x.pats k i f' n' s' ps' true sd sd sd hp rfl sd).ends ?_;exact ihu (k+1) q2
    · have e: (x::t).all aW=false:=by simp [aW,k2]
      rw [e];exact aGf p i x sd sd sd sd sd
  · have e: (x::t).all aW=false:=by simp [aW,k1]
    rw [e];exact aGe p i x sd sd sd sd
end
theorem bGh (p:Prog)(hc:p.cons.length≤25)(hn:p.nodes.length≤320) :∀ (t:List Con) (i:Nat),p.cons.drop i=t→Ends PP 0 (nN p (i:Int)).as (.ret (.bool (fR t&&p.nodes.all aW))) (aD [] 0)
 | [],i,h=>by
  have:=bA h;refine(aGd p i sd).ends ?_;simp only [fR,all_nil,Bool.true_and];exact bGg p hn p.nodes 0 rfl
 | c ::t,i,h=>by
  obtain⟨g1,g2,g3⟩ :=aZ h;by_cases k:c.name.length≤40
  · have e: (fR (c::t) &&p.nodes.all aW) = (fR t&&p.nodes.all aW) :=by simp [fR,k]
    rw [e];refine(aGc p i c sd sd sd sd sd).ends ?_;exact bGh p hc hn t (i+1) g2
  · have e: (fR (c::t) &&p.nodes.all aW) =false:=by simp [fR,k]
    rw [e];exact aGb p i c sd sd sd sd
theorem aE2 (p:Prog) :Pure PP 76 [Prog.av p] (.bool (aJ p)) :=by
 refine aV (by kernel_rfl) rfl rfl ?_;by_cases h1:p.nodes.length≤320
 · by_cases h2:p.funs.length≤320
   · by_cases h3:p.cons.length≤25
     · have e:aJ p= (fR p.cons&&p.nodes.all aW) :=by simp [aJ,h1,h2,h3]
       rw [e];exact(aGa p sd sd sd).ends (bGh p h3 h1 p.cons 0 rfl)
     · have e:aJ p=false:=by simp [aJ,h3]
       rw [e];exact aF9 p sd sd sd
   · have e:aJ p=false:=by simp [aJ,h2]
     rw [e];exact aF8 p sd sd
 · have e:aJ p=false:=by simp [aJ,h1]
   rw [e];exact aF7 p sd
def dV(b c:Int)(d:aB)(a:List Pat)(e:List Con)(f:Bool)(g:Int):TS:=⟨(tf 156 82 [(1,(iC e)),kp 2 0,(4,(bV false)),(5,(bV f)),(6,(nI (a.length:Int))),(7,(nI g))] [kc f156 1012,kl f156 1012,.inBlock 1,kc f156 127]),[],[oC 0 [(nI b),(nI c),(aH d),(iP a)]],1⟩
def vD(d b:Int)(a:aB)(c:List Pat)(e:List Con):=tT 0 (start PP 156 [(.agg [(nI d),(nI b),(aH a),(iP c)]),(iC e)])<|gm 13 aE c<|.b 15 13 (d==1) (.b 7 19 ((c.length:Int) ==0) (.b 11 61 (b==0) (.W 13 1 [0] (dV d b a c e (bM a.length (aA a) 0 0) 0))<|.W 13 1 [0] (dV d b a c e false 0))<|.W 24 1 [0] (dV d b a c e false 0))<|.b 6 13 (d==2) (.b 7 19 ((c.length:Int) ==0) (.b 11 61 (b==0) (.W 13 1 [0] (dV d b a c e (bM a.length (aA a) 0 0) 0))<|.W 13 1 [0] (dV d b a c e false 0))<|.W 24 1 [0] (dV d b a c e false 0))<|.b 5 13 (d==5) (.b 5 19 ((c.length:Int) ==0) (.b 11 61 (b==0) (.W 13 1 [0] (dV d b a c e (bM a.length (aA a) 0 0) 0))<|.W 13 1 [0] (dV d b a c e false 0))<|.W 24 1 [0] (dV d b a c e false 0))<|.b 6 24 (d==3) (.b 5 28 ((c.length:Int) ==0) (gV 2 94 [(nI b),(nI (-1000000000)),(nI 1000000000)]<|fun f=>.b 8 61 f (.W 13 1 [0] (dV d b a c e (bM a.length (aA a) 0 0) 0))<|.W 13 1 [0] (dV d b a c e false 0))<|.W 24 1 [0] (dV d b a c e false 0))<|.b 6 33 (d==4) (.b 5 37 ((c.length:Int) ==0) (gV 2 94 [(nI b),(nI 0),(nI 1)]<|fun f=>.b 8 61 f (.W 13 1 [0] (dV d b a c e (bM a.length (aA a) 0 0) 0))<|.W 13 1 [0] (dV d b a c e false 0))<|.W 24 1 [0] (dV d b a c e false 0))<|.b 6 42 (d==6) (gl 5 Con.av e<|gw 1 48 ((e.length:Int) -1)<|gV 0 94 [(nI b),(nI 0),(nI ((e.length:Int) -1))]<|fun f=>.b 1 50 f (gX Con.av 4 e b<|fun g=>.b 11 61 ((c.length:Int) ==g.args) (.W 13 1 [0] (dV d b a c e (bM a.length (aA a) 0 0) 0))<|.W 13 1 [0] (dV d b a c e false 0))<|.W 29 1 [0] (dV d b a c e false 0))<|.W 20 1 [0] (dV d b a c e false 0)
def aVX:=fun a b c d e f g i=>vD a b c d e|>.t f|>.t g|>.t i tv
def aVY:=fun a b c d e f g i=>vD a b c d e|>.t f|>.t g|>.f i tv
def aVZ:=fun a b c d e f g=>vD a b c d e|>.t f|>.f g tv
def aV0:=fun a b c d e f g i j=>vD a b c d e|>.f f|>.t g|>.t i|>.t j tv
def aV1:=fun a b c d e f g i j=>vD a b c d e|>.f f|>.t g|>.t i|>.f j tv
def aV2:=fun a b c d e f g i=>vD a b c d e|>.f f|>.t g|>.f i tv
def aV3:=fun a b c d e f g i j k=>vD a b c d e|>.f f|>.f g|>.t i|>.t j|>.t k tv
def aV4:=fun a b c d e f g i j k=>vD a b c d e|>.f f|>.f g|>.t i|>.t j|>.f k tv
def aV5:=fun a b c d e f g i j=>vD a b c d e|>.f f|>.f g|>.t i|>.f j tv
def aV6:=fun a b c d e f g i j k l m n=>vD a b c d e|>.f g|>.f i|>.f j|>.t k|>.t l f m|>.t n tv
def aSU:=fun a b c d e f g i j k l m n=>vD a b c d e|>.f g|>.f i|>.f j|>.t k|>.t l f m|>.f n tv
def aSV:=fun a b c d e f g i j k=>vD a b c d e|>.f f|>.f g|>.f i|>.t j|>.f k tv
def aSW:=fun a b c d e f g i j k l m n o=>vD a b c d e|>.f g|>.f i|>.f j|>.f k|>.t l|>.t m f n|>.t o tv
def aSX:=fun a b c d e f g i j k l m n o=>vD a b c d e|>.f g|>.f i|>.f j|>.f k|>.t l|>.t m f n|>.f o tv
def aSY:=fun a b c d e f g i j k l=>vD a b c d e|>.f f|>.f g|>.f i|>.f j|>.t k|>.f l tv
def aSZ:=fun a b c d e f g i j k l m n o p q r s t=>vD a b c d e|>.f i|>.f j|>.f k|>.f l|>.f m|>.t n o f p|>.t q g r s|>.t t tv
def aS0:=fun a b c d e f g i j k l m n o p q r s t=>vD a b c d e|>.f i|>.f j|>.f k|>.f l|>.f m|>.t n o f p|>.t q g r s|>.f t tv
def aS1:=fun a b c d e f g i j k l m n o p=>vD a b c d e|>.f g|>.f i|>.f j|>.f k|>.f l|>.t m n f o|>.f p tv
def aS2:=fun a b c d e f g i j k l=>vD a b c d e|>.f f|>.f g|>.f i|>.f j|>.f k|>.f l tv
def bFl(e f:Int)(g:aB)(b:List Pat)(d:List Con)(c:Bool)(a:Int):=tT 0 (dV e f g b d c a)<|gd 7 69 (a< (b.length:Int)) (.b 3 71 c (aF6 8 b a<|fun i j k l=>gV 2 156 [(.agg [(nI i),(nI j),(aH k),(iP l)]),(iC d)]<|fun m=>gw 6 73 (a+1)<|.W 3 1 [0] (dV e f g b d m (a+1)))<|gE 8 1 (bV c))<|gE 11 1 (bV c)
def aV7:=fun a b c d e f g i j k l m n o p q r s=>bFl a b c d e f g|>.t n|>.t o i j k l p q m r s tv
def aV8:=fun a b c d e f g i j=>bFl a b c d e f g|>.t i|>.f j tv
def aV9:=fun a b c d e f g i=>bFl a b c d e f g|>.f i tv
def lZ(a b c:Int):=tT 0 (start PP 157 [(nI a),(nI b),(nI c)])<|.b 16 8 (a==1) (gE 8 0 (nI 0))<|.b 6 8 (a==2) (gE 8 0 (nI 0))<|.b 6 8 (a==3) (gE 8 0 (nI 0))<|.b 6 8 (a==4) (gE 8 0 (nI 0))<|.b 6 8 (a==21) (gE 8 0 (nI 0))<|.b 6 8 (a==25) (gE 8 0 (nI 0))<|.b 5 8 (a==28) (gE 6 0 (nI 0))<|.b 7 16 (a==5) (gE 8 0 (nI 1))<|.b 6 16 (a==27) (gE 8 0 (nI 1))<|.b 6 16 (a==16) (gE 8 0 (nI 1))<|.b 6 16 (a==17) (gE 8 0 (nI 1))<|.b 6 16 (a==19) (gE 8 0 (nI 1))<|.b 6 16 (a==20) (gE 8 0 (nI 1))<|.b 6 16 (a==23) (gE 8 0 (nI 1))<|.b 6 16 (a==26) (gE 8 0 (nI 1))<|.b 5 16 (a==24) (gE 6 0 (nI 1))<|.b 7 26 (a==6) (gE 8 0 (nI 2))<|.b 6 26 (a==7) (gE 8 0 (nI 2))<|.b 6 26 (a==9) (gE 8 0 (nI 2))<|.b 6 26 (a==10) (gE 8 0 (nI 2))<|.b 6 26 (a==11) (gE 8 0 (nI 2))<|.b 6 26 (a==12) (gE 8 0 (nI 2))<|.b 6 26 (a==13) (gE 8 0 (nI 2))<|.b 6 26 (a==18) (gE 8 0 (nI 2))<|.b 5 26 (a==22) (gE 6 0 (nI 2))<|.b 6 36 (a==8) (gE 6 0 (nI 3))<|.b 6 38 (a==15) (gw 5 41 (1+b)<|gE 3 0 (nI (1+b)))<|.b 6 42 (a==14) (gE 7 0 (nI c))<|gE 8 0 (nI (-1))
def aS3:=fun a b c d=>lZ a b c|>.t d tv
def aS4:=fun a b c d e=>lZ a b c|>.f d|>.t e tv
def aS5:=fun a b c d e f=>lZ a b c|>.f d|>.f e|>.t f tv
def aS6:=fun a b c d e f g=>lZ a b c|>.f d|>.f e|>.f f|>.t g tv
def aS7:=fun a b c d e f g i=>lZ a b c|>.f d|>.f e|>.f f|>.f g|>.t i tv
def aS8:=fun a b c d e f g i j=>lZ a b c|>.f d|>.f e|>.f f|>.f g|>.f i|>.t j tv
def aS9:=fun a b c d e f g i j k=>lZ a b c|>.f d|>.f e|>.f f|>.f g|>.f i|>.f j|>.t k tv
def aTa:=fun a b c d e f g i j k l=>lZ a b c|>.f d|>.f e|>.f f|>.f g|>.f i|>.f j|>.f k|>.t l tv
def aTb:=fun a b c d e f g i j k l m=>lZ a b c|>.f d|>.f e|>.f f|>.f g|>.f i|>.f j|>.f k|>.f l|>.t m tv
def aTc:=fun a b c d e f g i j k l m n=>lZ a b c|>.f d|>.f e|>.f f|>.f g|>.f i|>.f j|>.f k|>.f l|>.f m|>.t n tv
def aPJ:=fun a b c d e f g i j k l m n o=>lZ a b c|>.f d|>.f e|>.f f|>.f g|>.f i|>.f j|>.f k|>.f l|>.f m|>.f n|>.t o tv
def aPK:=fun a b c d e f g i j k l m n o p=>lZ a b c|>.f d|>.f e|>.f f|>.f g|>.f i|>.f j|>.f k|>.f l|>.f m|>.f n|>.f o|>.t p tv
def aPL:=fun a b c d e f g i j k l m n o p q=>lZ a b c|>.f d|>.f e|>.f f|>.f g|>.f i|>.f j|>.f k|>.f l|>.f m|>.f n|>.f o|>.f p|>.t q tv
def aPM:=fun a b c d e f g i j k l m n o p q r=>lZ a b c|>.f d|>.f e|>.f f|>.f g|>.f i|>.f j|>.f k|>.f l|>.f m|>.f n|>.f o|>.f p|>.f q|>.t r tv
def aPN:=fun a b c d e f g i j k l m n o p q r s=>lZ a b c|>.f d|>.f e|>.f f|>.f g|>.f i|>.f j|>.f k|>.f l|>.f m|>.f n|>.f o|>.f p|>.f q|>.f r|>.t s tv
def aPO:=fun a b c d e f g i j k l m n o p q r s t=>lZ a b c|>.f d|>.f e|>.f f|>.f g|>.f i|>.f j|>.f k|>.f l|>.f m|>.f n|>.f o|>.f p|>.f q|>.f r|>.f s|>.t t tv
def aPP:=fun a b c d e f g i j k l m n o p q r s t u=>lZ a b c|>.f d|>.f e|>.f f|>.f g|>.f i|>.f j|>.f k|>.f l|>.f m|>.f n|>.f o|>.f p|>.f q|>.f r|>.f s|>.f t|>.t u tv
def aPQ:=fun a b c d e f g i j k l m n o p q r s t u v=>lZ a b c|>.f d|>.f e|>.f f|>.f g|>.f i|>.f j|>.f k|>.f l|>.f m|>.f n|>.f o|>.f p|>.f q|>.f r|>.f s|>.f t|>.f u|>.t v tv
def aPR:=fun a b c d e f g i j k l m n o p q r s t u v w=>lZ a b c|>.f d|>.f e|>.f f|>.f g|>.f i|>.f j|>.f k|>.f l|>.f m|>.f n|>.f o|>.f p|>.f q|>.f r|>.f s|>.f t|>.f u|>.f v|>.t w tv
def aPS:=fun a b c d e f g i j k l m n o p q r s t u v w x=>lZ a b c|>.f d|>.f e|>.f f|>.f g|>.f i|>.f j|>.f k|>.f l|>.f m|>.f n|>.f o|>.f p|>.f q|>.f r|>.f s|>.f t|>.f u|>.f v|>.f w|>.t x tv
def aPT:=fun a b c d e f g i j k l m n o p q r s t u v w x y=>lZ a b c|>.f d|>.f e|>.f f|>.f g|>.f i|>.f j|>.f k|>.f l|>.f m|>.f n|>.f o|>.f p|>.f q|>.f r|>.f s|>.f t|>.f u|>.f v|>.f w|>.f x|>.t y tv
def aPU:=fun a b c d e f g i j k l m n o p q r s t u v w x y z=>lZ a b c|>.f d|>.f e|>.f f|>.f g|>.f i|>.f j|>.f k|>.f l|>.f m|>.f n|>.f o|>.f p|>.f q|>.f r|>.f s|>.f t|>.f u|>.f v|>.f w|>.f x|>.f y|>.t z tv
def aPV:=fun a b c d e f g i j k l m n o p q r s t u v w x y z A=>lZ a b c|>.f d|>.f e|>.f f|>.f g|>.f i|>.f j|>.f k|>.f l|>.f m|>.f n|>.f o|>.f p|>.f q|>.f r|>.f s|>.f t|>.f u|>.f v|>.f w|>.f x|>.f y|>.f z|>.t A tv
def aPW:=fun a b c d e f g i j k l m n o p q r s t u v w x y z A B=>lZ a b c|>.f d|>.f e|>.f f|>.f g|>.f i|>.f j|>.f k|>.f l|>.f m|>.f n|>.f o|>.f p|>.f q|>.f r|>.f s|>.f t|>.f u|>.f v|>.f w|>.f x|>.f y|>.f z|>.f A|>.t B tv
def aPX:=fun a b c d e f g i j k l m n o p q r s t u v w x y z A B C=>lZ a b c|>.f d|>.f e|>.f f|>.f g|>.f i|>.f j|>.f k|>.f l|>.f m|>.f n|>.f o|>.f p|>.f q|>.f r|>.f s|>.f t|>.f u|>.f v|>.f w|>.f x|>.f y|>.f z|>.f A|>.f B|>.t C tv
def aPY:=fun a b c d e f g i j k l m n o p q r s t u v w x y z A B C D=>lZ a b c|>.f d|>.f e|>.f f|>.f g|>.f i|>.f j|>.f k|>.f l|>.f m|>.f n|>.f o|>.f p|>.f q|>.f r|>.f s|>.f t|>.f u|>.f v|>.f w|>.f x|>.f y|>.f z|>.f A|>.f B|>.f C|>.t D tv
def aPZ:=fun a b c d e f g i j k l m n o p q r s t u v w x y z A B C D F G=>lZ a b c|>.f d|>.f e|>.f f|>.f g|>.f i|>.f j|>.f k|>.f l|>.f m|>.f n|>.f o|>.f p|>.f q|>.f r|>.f s|>.f t|>.f u|>.f v|>.f w|>.f x|>.f y|>.f z|>.f A|>.f B|>.f C|>.f D|>.t F G tv
def aP0:=fun a b c d e f g i j k l m n o p q r s t u v w x y z A B C D F G=>lZ a b c|>.f d|>.f e|>.f f|>.f g|>.f i|>.f j|>.f k|>.f l|>.f m|>.f n|>.f o|>.f p|>.f q|>.f r|>.f s|>.f t|>.f u|>.f v|>.f w|>.f x|>.f y|>.f z|>.f A|>.f B|>.f C|>.f D|>.f F|>.t G tv
def aP1:=fun a b c d e f g i j k l m n o p q r s t u v w x y z A B C D F G=>lZ a b c|>.f d|>.f e|>.f f|>.f g|>.f i|>.f j|>.f k|>.f l|>.f m|>.f n|>.f o|>.f p|>.f q|>.f r|>.f s|>.f t|>.f u|>.f v|>.f w|>.f x|>.f y|>.f z|>.f A|>.f B|>.f C|>.f D|>.f F|>.f G tv
theorem Ends.eqv {P:Program}{m:Nat}{s:AS}{v v':AV}{h':Hp}(h:Ends P m s (.ret v) h')(e:v=v') :Ends P m s (.ret v') h':=e ▸ h
theorem inB_iff {n lo hi:Int}:dG n lo hi=true↔lo≤n∧n≤hi:=by simp [dG]
theorem inB_not {n lo hi:Int}:dG n lo hi=false↔¬ (lo≤n∧n≤hi) :=by simp [dG]
theorem sdI {p:Prop}(h:p:=by first|assumption|rfl| (simp only [Int.toNat_natCast];assumption) | (simp only [decide_eq_true_eq,decide_eq_false_iff_not];omega) |omega| (apply wrap64<;>omega) | (simp_all;done) | (simp only [inB_iff,inB_not,beq_iff_eq,decide_eq_true_eq,decide_eq_false_iff_not]at *;omega)) :p:=h
theorem idT {p:Prop}(h:p:=by exact⟨_,List.getElem?_eq_getElem (by simp only [inB_iff,inB_not,beq_iff_eq,decide_eq_true_eq,decide_eq_false_iff_not]at *;omega)⟩) :p:=h
def dS (op pats args:Int) :Int:=
 if op=1∨op=2∨op=3∨op=4∨op=21∨op=25∨op=28 then 0
 else if op=5∨op=27∨op=16∨op=17∨op=19∨op=20∨op=23∨op=26∨op=24 then 1
 else if op=6∨op=7∨op=9∨op=10∨op=11∨op=12∨op=13∨op=18∨op=22 then 2
 else if op=8 then 3 else if op=15 then 1+pats else if op=14 then args else -1
theorem aZT (op pats args:Int)(hp:0≤pats)(hp2:pats≤1000) :Ends PP 0 (start PP 157 [.int .i64 op,.int .i64 pats,.int .i64 args]).as (.ret (.int .i64 (dS op pats args))) (aD [] 0) :=by
 cases hb1: (op== (1:Int))
 case true=>exact Ends.eqv (aS3 op pats args   hb1) (by simp_all [dS])
 cases hb2: (op== (2:Int))
 case true=>exact Ends.eqv (aS4 op pats args   hb1 hb2) (by simp_all [dS])
 cases hb3: (op== (3:Int))
 case true=>exact Ends.eqv (aS5 op pats args   hb1 hb2 hb3) (by simp_all [dS])
 cases hb4: (op== (4:Int))
 case true=>exact Ends.eqv (aS6 op pats args   hb1 hb2 hb3 hb4) (by simp_all [dS])
 cases hb5: (op== (21:Int))
 case true=>exact Ends.eqv (aS7 op pats args   hb1 hb2 hb3 hb4 hb5) (by simp_all [dS])
 cases hb6: (op== (25:Int))
 case true=>exact Ends.eqv (aS8 op pats args   hb1 hb2 hb3 hb4 hb5 hb6) (by simp_all [dS])
 cases hb7: (op== (28:Int))
 case true=>exact Ends.eqv (aS9 op pats args   hb1 hb2 hb3 hb4 hb5 hb6 hb7) (by simp_all [dS])
 cases hb8: (op== (5:Int))
 case true=>exact Ends.eqv (aTa op pats args   hb1 hb2 hb3 hb4 hb5 hb6 hb7 hb8) (by simp_all [dS])
 cases hb9: (op== (27:Int))
 case true=>exact Ends.eqv (aTb op pats args   hb1 hb2 hb3 hb4 hb5 hb6 hb7 hb8 hb9) (by simp_all [dS])
 cases hb10: (op== (16:Int))
 case true=>exact Ends.eqv (aTc op pats args   hb1 hb2 hb3 hb4 hb5 hb6 hb7 hb8 hb9 hb10) (by simp_all [dS])
 cases hb11: (op== (17:Int))
 case true=>exact Ends.eqv (aPJ op pats args   hb1 hb2 hb3 hb4 hb5 hb6 hb7 hb8 hb9 hb10 hb11) (by simp_all [dS])
 cases hb12: (op== (19:Int))
 case true=>exact Ends.eqv (aPK op pats args   hb1 hb2 hb3 hb4 hb5 hb6 hb7 hb8 hb9 hb10 hb11 hb12) (by simp_all [dS])
 cases hb13: (op== (20:Int))
 case true=>exact Ends.eqv (aPL op pats args   hb1 hb2 hb3 hb4 hb5 hb6 hb7 hb8 hb9 hb10 hb11 hb12 hb13) (by simp_all [dS])
 cases hb14: (op== (23:Int))
 case true=>exact Ends.eqv (aPM op pats args   hb1 hb2 hb3 hb4 hb5 hb6 hb7 hb8 hb9 hb10 hb11 hb12 hb13 hb14) (by simp_all [dS])
 cases hb15: (op== (26:Int))
 case true=>exact Ends.eqv (aPN op pats args   hb1 hb2 hb3 hb4 hb5 hb6 hb7 hb8 hb9 hb10 hb11 hb12 hb13 hb14 hb15) (by simp_all [dS])
 cases hb16: (op== (24:Int))
 case true=>exact Ends.eqv (aPO op pats args   hb1 hb2 hb3 hb4 hb5 hb6 hb7 hb8 hb9 hb10 hb11 hb12 hb13 hb14 hb15 hb16) (by simp_all [dS])
 cases hb17: (op== (6:Int))
 case true=>exact Ends.eqv (aPP op pats args   hb1 hb2 hb3 hb4 hb5 hb6 hb7 hb8 hb9 hb10 hb11 hb12 hb13 hb14 hb15 hb16 hb17) (by simp_all [dS])
 cases hb18: (op== (7:Int))
 case true=>exact Ends.eqv (aPQ op pats args   hb1 hb2 hb3 hb4 hb5 hb6 hb7 hb8 hb9 hb10 hb11 hb12 hb13 hb14 hb15 hb16 hb17 hb18) (by simp_all [dS])
 cases hb19: (op== (9:Int))
 case true=>exact Ends.eqv (aPR op pats args   hb1 hb2 hb3 hb4 hb5 hb6 hb7 hb8 hb9 hb10 hb11 hb12 hb13 hb14 hb15 hb16 hb17 hb18 hb19) (by simp_all [dS])
 cases hb20: (op== (10:Int))
 case true=>exact Ends.eqv (aPS op pats args   hb1 hb2 hb3 hb4 hb5 hb6 hb7 hb8 hb9 hb10 hb11 hb12 hb13 hb14 hb15 hb16 hb17 hb18 hb19 hb20) (by simp_all [dS])
 cases hb21: (op== (11:Int))
 case true=>exact Ends.eqv (aPT op pats args   hb1 hb2 hb3 hb4 hb5 hb6 hb7 hb8 hb9 hb10 hb11 hb12 hb13 hb14 hb15 hb16 hb17 hb18 hb19 hb20 hb21) (by simp_all [dS])
 cases hb22: (op== (12:Int))
 case true=>exact Ends.eqv (aPU op pats args   hb1 hb2 hb3 hb4 hb5 hb6 hb7 hb8 hb9 hb10 hb11 hb12 hb13 hb14 hb15 hb16 hb17 hb18 hb19 hb20 hb21 hb22) (by simp_all [dS])
 cases hb23: (op== (13:Int))
 case true=>exact Ends.eqv (aPV op pats args   hb1 hb2 hb3 hb4 hb5 hb6 hb7 hb8 hb9 hb10 hb11 hb12 hb13 hb14 hb15 hb16 hb17 hb18 hb19 hb20 hb21 hb22 hb23) (by simp_all [dS])
 cases hb24: (op== (18:Int))
 case true=>exact Ends.eqv (aPW op pats args   hb1 hb2 hb3 hb4 hb5 hb6 hb7 hb8 hb9 hb10 hb11 hb12 hb13 hb14 hb15 hb16 hb17 hb18 hb19 hb20 hb21 hb22 hb23 hb24) (by simp_all [dS])
 cases hb25: (op== (22:Int))
 case true=>exact Ends.eqv (aPX op pats args   hb1 hb2 hb3 hb4 hb5 hb6 hb7 hb8 hb9 hb10 hb11 hb12 hb13 hb14 hb15 hb16 hb17 hb18 hb19 hb20 hb21 hb22 hb23 hb24 hb25) (by simp_all [dS])
 cases hb26: (op== (8:Int))
 case true=>exact Ends.eqv (aPY op pats args   hb1 hb2 hb3 hb4 hb5 hb6 hb7 hb8 hb9 hb10 hb11 hb12 hb13 hb14 hb15 hb16 hb17 hb18 hb19 hb20 hb21 hb22 hb23 hb24 hb25 hb26) (by simp_all [dS])
 cases hb27: (op== (15:Int))
 case true=>exact Ends.eqv (aPZ op pats args   hb1 hb2 hb3 hb4 hb5 hb6 hb7 hb8 hb9 hb10 hb11 hb12 hb13 hb14 hb15 hb16 hb17 hb18 hb19 hb20 hb21 hb22 hb23 hb24 hb25 hb26 hb27 sdI) (by simp_all [dS])
 cases hb28: (op== (14:Int))
 case true=>exact Ends.eqv (aP0 op pats args   hb1 hb2 hb3 hb4 hb5 hb6 hb7 hb8 hb9 hb10 hb11 hb12 hb13 hb14 hb15 hb16 hb17 hb18 hb19 hb20 hb21 hb22 hb23 hb24 hb25 hb26 hb27 hb28) (by simp_all [dS])
 exact Ends.eqv (aP1 op pats args   hb1 hb2 hb3 hb4 hb5 hb6 hb7 hb8 hb9 hb10 hb11 hb12 hb13 hb14 hb15 hb16 hb17 hb18 hb19 hb20 hb21 hb22 hb23 hb24 hb25 hb26 hb27 hb28) (by simp_all [dS])
theorem aP2 (op pats args:Int)(hp:0≤pats)(hp2:pats≤1000) :Pure PP 157 [.int .i64 op,.int .i64 pats,.int .i64 args] (.int .i64 (dS op pats args)) :=
 aV (by kernel_rfl) rfl rfl (aZT op pats args hp hp2)
def fH (cons:List Con)(n:Int) :Int:=match cons[n.toNat]? with
 |some c=>c.args
 |none=> -1
def cX (cons:List Con)(f n:Int)(s:aB)(k:Nat) :Bool:=
 (if f=1∨f=2∨f=5 then decide (k=0) &&decide (n=0)
 else if f=3 then decide (k=0) &&dG n (-1000000000) 1000000000
 else if f=4 then decide (k=0) &&dG n 0 1
 else if f=6 then dG n 0 ((cons.length:Int) -1) &&decide ((k:Int) =fH cons n)
 else false) &&decide (s= [])
mutual
def cM (cons:List Con) :Pat→Bool
 | .mk f n s ps=>cX cons f n s ps.length&&bX cons ps
def bX (cons:List Con) :List Pat→Bool
 | [] =>true
 |p::ps=>cM cons p&&bX cons ps
end
theorem ptT {p:Prop}(h:p:=by simp_all [cX,fH,dO]) :p:=h
theorem bFm (t4 t9:Int)(t5:aB)(t0:List Pat)(cons:List Con)(hc:cons.length≤1000)(b:Bool)(hk:∀i:Bool,i=cX cons t4 t9 t5 t0.length→Ends PP 0 (dV t4 t9 t5 t0 cons i 0).as (.ret (.bool b)) (aD [] 0)) :
  Ends PP 0 (start PP 156 [Pat.av (.mk t4 t9 t5 t0),.ilst 2 (map Con.av cons) false]).as (.ret (.bool b)) (aD [] 0) :=by
 cases hb1: (t4== (1:Int))
 case true=>
  cases hb2: (((length t0:Nat) :Int) == (0:Int))
  case true=>
   cases hb3: (t9== (0:Int))
   case true=>exact LeadsM.ends (aVX t4 t9 t5 t0 cons   hb1 hb2 hb3) (hk _ (by clear hk;exact ptT))
   exact LeadsM.ends (aVY t4 t9 t5 t0 cons   hb1 hb2 hb3) (hk _ (by clear hk;exact ptT))
  exact LeadsM.ends (aVZ t4 t9 t5 t0 cons   hb1 hb2) (hk _ (by clear hk;exact ptT))
 cases hb4: (t4== (2:Int))
 case true=>
  cases hb5: (((length t0:Nat) :Int) == (0:Int))
  case true=>
   cases hb6: (t9== (0:Int))
   case true=>exact LeadsM.ends (aV0 t4 t9 t5 t0 cons   hb1 hb4 hb5 hb6) (hk _ (by clear hk;exact ptT))
   exact LeadsM.ends (aV1 t4 t9 t5 t0 cons   hb1 hb4 hb5 hb6) (hk _ (by clear hk;exact ptT))
  exact LeadsM.ends (aV2 t4 t9 t5 t0 cons   hb1 hb4 hb5) (hk _ (by clear hk;exact ptT))
 cases hb7: (t4== (5:Int))
 case true=>
  cases hb8: (((length t0:Nat) :Int) == (0:Int))
  case true=>
   cases hb9: (t9== (0:Int))
   case true=>exact LeadsM.ends (aV3 t4 t9 t5 t0 cons   hb1 hb4 hb7 hb8 hb9) (hk _ (by clear hk;exact ptT))
   exact LeadsM.ends (aV4 t4 t9 t5 t0 cons   hb1 hb4 hb7 hb8 hb9) (hk _ (by clear hk;exact ptT))
  exact LeadsM.ends (aV5 t4 t9 t5 t0 cons   hb1 hb4 hb7 hb8) (hk _ (by clear hk;exact ptT))
 cases hb10: (t4== (3:Int))
 case true=>
  cases hb11: (((length t0:Nat) :Int) == (0:Int))
  case true=>
   cases hb12: (dG t9 (-1000000000) 1000000000)
   case true=>exact LeadsM.ends (aV6 t4 t9 t5 t0 cons  (dG t9 (-1000000000) 1000000000) hb1 hb4 hb7 hb10 hb11 (bC t9 (-1000000000) 1000000000) hb12) (hk _ (by clear hk;exact ptT))
   exact LeadsM.ends (aSU t4 t9 t5 t0 cons  (dG t9 (-1000000000) 1000000000) hb1 hb4 hb7 hb10 hb11 (bC t9 (-1000000000) 1000000000) hb12) (hk _ (by clear hk;exact ptT))
  exact LeadsM.ends (aSV t4 t9 t5 t0 cons   hb1 hb4 hb7 hb10 hb11) (hk _ (by clear hk;exact ptT))
 cases hb13: (t4== (4:Int))
 case true=>
  cases hb14: (((length t0:Nat) :Int) == (0:Int))
  case true=>
   cases hb15: (dG t9 0 1)
   case true=>exact LeadsM.ends (aSW t4 t9 t5 t0 cons  (dG t9 0 1) hb1 hb4 hb7 hb10 hb13 hb14 (bC t9 0 1) hb15) (hk _ (by clear hk;exact ptT))
   exact LeadsM.ends (aSX t4 t9 t5 t0 cons  (dG t9 0 1) hb1 hb4 hb7 hb10 hb13 hb14 (bC t9 0 1) hb15) (hk _ (by clear hk;exact ptT))
  exact LeadsM.ends (aSY t4 t9 t5 t0 cons   hb1 hb4 hb7 hb10 hb13 hb14) (hk _ (by clear hk;exact ptT))
 cases hb16: (t4== (6:Int))
 case true=>
  cases hb17: (dG t9 0 (((length cons:Nat) :Int) - (1:Int)))
  case true=>
   obtain⟨y1,hx18⟩ :∃y,((cons)[t9.toNat]?) =some y:=idT;cases hb19: (((length t0:Nat) :Int) ==y1.args)
   case true=>exact LeadsM.ends (aSZ t4 t9 t5 t0 cons  (dG t9 0 (((length cons:Nat) :Int) - (1:Int))) y1 hb1 hb4 hb7 hb10 hb13 hb16 sdI (bC t9 0 (((length cons:Nat) :Int) - (1:Int))) hb17 sdI hx18 hb19) (hk _ (by clear hk;exact ptT))
   exact LeadsM.ends (aS0 t4 t9 t5 t0 cons  (dG t9 0 (((length cons:Nat) :Int) - (1:Int))) y1 hb1 hb4 hb7 hb10 hb13 hb16 sdI (bC t9 0 (((length cons:Nat) :Int) - (1:Int))) hb17 sdI hx18 hb19) (hk _ (by clear hk;exact ptT))
  exact LeadsM.ends (aS1 t4 t9 t5 t0 cons  (dG t9 0 (((length cons:Nat) :Int) - (1:Int))) hb1 hb4 hb7 hb10 hb13 hb16 sdI (bC t9 0 (((length cons:Nat) :Int) - (1:Int))) hb17) (hk _ (by clear hk;exact ptT))
 exact LeadsM.ends (aS2 t4 t9 t5 t0 cons   hb1 hb4 hb7 hb10 hb13 hb16) (hk _ (by clear hk;exact ptT))
theorem aIH (f n:Int)(s:aB)(ps:List Pat)(cons:List Con)(hl:ps.length<1000000)(ih:∀p∈ps,Pure PP 156 [Pat.av p,.ilst 2 (map Con.av cons) false] (.bool (cM cons p))) :
  ∀ (t:List Pat) (i:Nat) (b:Bool),ps.drop i=t→Ends PP 0 (dV f n s ps cons b (i:Int)).as (.ret (.bool (b&&bX cons t))) (aD [] 0)
 | [],i,b,h=>by
  have:=bA h;exact Ends.eqv (aV9 f n s ps cons b i sd) (by simp [bX])
 | .mk f' n' s' ps'::t,i,b,h=>by
  obtain⟨g1,g2,g3⟩ :=aZ h;cases b
  case false=>exact Ends.eqv (aV8 f n s ps cons false i sd rfl) (by simp)
  refine(aV7 f n s ps cons true i f' n' s' ps' _ sd rfl sd sd (ih (.mk f' n' s' ps') (mem_of_getElem? g1)) sd).ends ?_;exact Ends.eqv (aIH f n s ps cons hl ih t (i+1) _ g2) (by simp [bX])
mutual
theorem aII (cons:List Con)(hc:cons.length≤1000) :∀ (p:Pat),cU p<1000000→Pure PP 156 [Pat.av p,.ilst 2 (map Con.av cons) false] (.bool (cM cons p))
 | .mk f n s ps,h=>by
  refine aV (by kernel_rfl) (by simp [keylessL,qI,keyless]) rfl ?_;simp only [cU]at h;have:=iW ps;refine bFm f n s ps cons hc _ (fun i hi=>?_);subst hi;rw [cM];exact aIH f n s ps cons (by omega) (aMP cons hc ps (by omega)) ps 0 _ rfl
theorem aMP (cons:List Con)(hc:cons.length≤1000) :∀ (ps:List Pat),bH ps<1000000→∀p∈ps,Pure PP 156 [Pat.av p,.ilst 2 (map Con.av cons) false] (.bool (cM cons p))
 | [],_,p,hp=>by cases hp
 | q::ps,h,p,hp=>by
  simp only [bH]at h;rcases List.mem_cons.1 hp with e|hp
  ·rw [e];exact aII cons hc q (by omega)
  ·exact aMP cons hc ps (by omega) p hp
end
def bZ(a:Prog)(b:Node)(c:Bool)(d e:Int):TS:=⟨(tf 96 112 [kp 2 0,kp 3 1,(4,(bV false)),(5,(nI d)),(6,(bV c)),(7,(nI e))] [kc f96 1012,kl f96 1012,.inBlock 1,kc f96 127]),[],[oC 0 [(iN a.nodes),(iI a.funs),(nI a.main),(iC a.cons)],oC 1 [(nI b.op),(nI b.n),(iI b.kids),(iP b.pats)]],2⟩
def aCD(b:List Con)(c:Int)(a:List aB):TS:=⟨(tf 95 42 [(0,(iC b)),(2,(bV false)),(3,(.gl 0 1 0 a.length false)),(4,(nI c))] [kc f95 116,kl f95 116,.inBlock 0,kc f95 15]),[],[oL 0 1 (map aH a)],1⟩
def vE(a:Prog)(c:Int)(b:List Bool):TS:=⟨(tf 22 133 [kp 1 0,(2,(bV false)),(3,(nI (a.nodes.length:Int))),(4,(.gl 1 1 0 b.length true)),(5,(nI c))] [kc f22 500,kl f22 500,.inBlock 0,kc f22 63]),[],[oC 0 [(iN a.nodes),(iI a.funs),(nI a.main),(iC a.cons)],oL 1 1 (map eP b)],2⟩
def qJ(a:Prog)(b:List Bool)(c:Int):TS:=⟨(tf 22 133 [kp 1 0,(2,(bV false)),(3,(nI (a.nodes.length:Int))),(4,(.gl 1 1 0 b.length true)),(6,(nI c))] [kc f22 1012,kl f22 1012,.inBlock 2,kc f22 127]),[],[oC 0 [(iN a.nodes),(iI a.funs),(nI a.main),(iC a.cons)],oL 1 1 (map eP b)],2⟩
def vF(a:Prog)(b:List Bool)(c d:Int):TS:=⟨(tf 22 133 [kp 1 0,(2,(bV false)),(3,(nI (a.nodes.length:Int))),(4,(.gl 1 1 0 b.length true)),(6,(nI d)),(7,(nI c))] [kc f22 129612,kl f22 129612,.inBlock 4,.inBlock 3,kc f22 4051,kl f22 1012,.inBlock 2,kc f22 127]),[],[oC 0 [(iN a.nodes),(iI a.funs),(nI a.main),(iC a.cons)],oL 1 1 (map eP b)],2⟩
def vG(b:Prog)(a:List Bool)(c:Int):TS:=⟨(tf 22 133 [(2,(bV false)),(3,(nI (b.nodes.length:Int))),(4,(.gl 0 1 0 a.length true)),(9,(nI c))] [kc f22 2036,kl f22 2036,.inBlock 6,kc f22 255]),[],[oL 0 1 (map eP a)],1⟩
def pI(b:Prog)(a:Node):=tT 0 (start PP 96 [(Prog.av b),(Node.av a)])<|.b 29 13 (a.op==1) (gV 4 94 [(nI a.n),(nI (-1000000000)),(nI 1000000000)]<|fun c=>.b 10 56 (a.op==15) (.b 4 58 c (gm 2 aE a.pats<|gV 0 94 [(nI (a.pats.length:Int)),(nI 1),(nI 5)]<|fun d=>.W 10 2 [0,1] (bZ b a d 0 0))<|.W 14 2 [0,1] (bZ b a false 0 0))<|.b 4 65 c (gm 2 aE a.pats<|.W 11 2 [0,1] (bZ b a ((a.pats.length:Int) ==0) 0 0))<|.W 14 2 [0,1] (bZ b a false 0 0))<|.b 6 18 (a.op==2) (gV 4 94 [(nI a.n),(nI 0),(nI 1)]<|fun c=>.b 10 56 (a.op==15) (.b 4 58 c (gm 2 aE a.pats<|gV 0 94 [(nI (a.pats.length:Int)),(nI 1),(nI 5)]<|fun d=>.W 10 2 [0,1] (bZ b a d 0 0))<|.W 14 2 [0,1] (bZ b a false 0 0))<|.b 4 65 c (gm 2 aE a.pats<|.W 11 2 [0,1] (bZ b a ((a.pats.length:Int) ==0) 0 0))<|.W 14 2 [0,1] (bZ b a false 0 0))<|.b 6 23 (a.op==4) (gl 6 aY b.funs<|gw 1 30 (0- (b.funs.length:Int))<|gV 0 94 [(nI a.n),(nI (0- (b.funs.length:Int))),(nI 29)]<|fun c=>.b 10 56 (a.op==15) (.b 4 58 c (gm 2 aE a.pats<|gV 0 94 [(nI (a.pats.length:Int)),(nI 1),(nI 5)]<|fun d=>.W 10 2 [0,1] (bZ b a d 0 0))<|.W 14 2 [0,1] (bZ b a false 0 0))<|.b 4 65 c (gm 2 aE a.pats<|.W 11 2 [0,1] (bZ b a ((a.pats.length:Int) ==0) 0 0))<|.W 14 2 [0,1] (bZ b a false 0 0))<|.b 6 32 (a.op==24) (gV 4 94 [(nI a.n),(nI 0),(nI 3)]<|fun c=>.b 10 56 (a.op==15) (.b 4 58 c (gm 2 aE a.pats<|gV 0 94 [(nI (a.pats.length:Int)),(nI 1),(nI 5)]<|fun d=>.W 10 2 [0,1] (bZ b a d 0 0))<|.W 14 2 [0,1] (bZ b a false 0 0))<|.b 4 65 c (gm 2 aE a.pats<|.W 11 2 [0,1] (bZ b a ((a.pats.length:Int) ==0) 0 0))<|.W 14 2 [0,1] (bZ b a false 0 0))<|.b 6 37 (a.op==14) (gl 7 Con.av b.cons<|gw 1 44 ((b.cons.length:Int) -1)<|gV 0 94 [(nI a.n),(nI 0),(nI ((b.cons.length:Int) -1))]<|fun c=>.b 6 46 c (gX Con.av 6 b.cons a.n<|fun d=>.b 12 56 (a.op==15) (.b 4 58 c (gm 2 aE a.pats<|gV 0 94 [(nI (a.pats.length:Int)),(nI 1),(nI 5)]<|fun e=>.W 10 2 [0,1] (bZ b a e d.args 0)) .x)<|.b 4 65 c (gm 2 aE a.pats<|.W 11 2 [0,1] (bZ b a ((a.pats.length:Int) ==0) d.args 0)) .x)<|.b 10 56 (a.op==15) (.b 4 58 c .x<|.W 14 2 [0,1] (bZ b a false 0 0))<|.b 4 65 c .x<|.W 14 2 [0,1] (bZ b a false 0 0))<|.b 10 56 (a.op==15) (.b 4 58 (a.n==0) (gm 2 aE a.pats<|gV 0 94 [(nI (a.pats.length:Int)),(nI 1),(nI 5)]<|fun c=>.W 10 2 [0,1] (bZ b a c 0 0))<|.W 14 2 [0,1] (bZ b a false 0 0))<|.b 4 65 (a.n==0) (gm 2 aE a.pats<|.W 11 2 [0,1] (bZ b a ((a.pats.length:Int) ==0) 0 0))<|.W 14 2 [0,1] (bZ b a false 0 0)
def aTd:=fun a b c d e f g i j=>pI a b|>.t e c f|>.t g|>.t i d j tv
def aTe:=fun a b c d e f g=>pI a b|>.t d c e|>.t f|>.f g tv
def aTf:=fun a b c d e f g=>pI a b|>.t d c e|>.f f|>.t g tv
def aTg:=fun a b c d e f g=>pI a b|>.t d c e|>.f f|>.f g tv
def aTh:=fun a b c d e f g i j k=>pI a b|>.f e|>.t f c g|>.t i|>.t j d k tv
def aTi:=fun a b c d e f g i=>pI a b|>.f d|>.t e c f|>.t g|>.f i tv
def aTj:=fun a b c d e f g i=>pI a b|>.f d|>.t e c f|>.f g|>.t i tv
def aTk:=fun a b c d e f g i=>pI a b|>.f d|>.t e c f|>.f g|>.f i tv
def aTl:=fun a b c d e f g i j k l m=>pI a b|>.f e|>.f f|>.t g i c j|>.t k|>.t l d m tv
def aTm:=fun a b c d e f g i j k=>pI a b|>.f d|>.f e|>.t f g c i|>.t j|>.f k tv
def aP3:=fun a b c d e f g i j k=>pI a b|>.f d|>.f e|>.t f g c i|>.f j|>.t k tv
def aP4:=fun a b c d e f g i j k=>pI a b|>.f d|>.f e|>.t f g c i|>.f j|>.f k tv
def aP5:=fun a b c d e f g i j k l m=>pI a b|>.f e|>.f f|>.f g|>.t i c j|>.t k|>.t l d m tv
def aP6:=fun a b c d e f g i j k=>pI a b|>.f d|>.f e|>.f f|>.t g c i|>.t j|>.f k tv
def aP7:=fun a b c d e f g i j k=>pI a b|>.f d|>.f e|>.f f|>.t g c i|>.f j|>.t k tv
def aP8:=fun a b c d e f g i j k=>pI a b|>.f d|>.f e|>.f f|>.t g c i|>.f j|>.f k tv
def aP9:=fun b c d e f g i j k l m n a o p q r=>pI b c|>.f g|>.f i|>.f j|>.f k|>.t l m d n|>.t a e o p|>.t q|>.t a f r tv
def aQa:=fun b c d e f g i j k l m a n o p=>pI b c|>.f f|>.f g|>.f i|>.f j|>.t k l d m|>.t a e n o|>.f p|>.t a tv
def aQb:=fun b c d e f g i j k l a m=>pI b c|>.f e|>.f f|>.f g|>.f i|>.t j k d l|>.f a|>.t m|>.f a tv
def aQc:=fun b c d e f g i j k l a m=>pI b c|>.f e|>.f f|>.f g|>.f i|>.t j k d l|>.f a|>.f m|>.f a tv
def aQd:=fun a b c d e f g i j k l=>pI a b|>.f d|>.f e|>.f f|>.f g|>.f i|>.t j|>.t k c l tv
def aQe:=fun a b c d e f g i j=>pI a b|>.f c|>.f d|>.f e|>.f f|>.f g|>.t i|>.f j tv
def aQf:=fun a b c d e f g i j=>pI a b|>.f c|>.f d|>.f e|>.f f|>.f g|>.f i|>.t j tv
def aQg:=fun a b c d e f g i j=>pI a b|>.f c|>.f d|>.f e|>.f f|>.f g|>.f i|>.f j tv
def aWa(j:Prog)(a:Node)(i:Bool)(k b:Int):=tT 0 (bZ j a i k b)<|gm 6 aE a.pats<|gd 2 76 (b< (a.pats.length:Int)) (.b 3 78 i (.o (.y fun c:Int=>.y fun d:Int=>.y fun e:aB=>.y fun f:List Pat=>.y fun g:Int=>.y fun l:Bool=>.i [rn 4,.reg (rd 3 (.ans (.idx (Pat.av (Pat.mk c d e f)))::.d::.pure (nI g)::.d::.d::.b 88 true::rd 3 (.ans (.idx (Pat.av (Pat.mk c d e f)))::rd 3 [.pure (bV l),.d,.d])))] [hA (0≤b),.a (((a.pats)[b.toNat]?) =some (Pat.mk c d e f)) (nW aE),hA (Pure PP 155 [(.agg [(nI c),(nI d),(aH e),(iP f)]),(nI 12)] (nI g)),hA (decide (g≥0) =true),hA (0≤b),.a (((a.pats)[b.toNat]?) =some (Pat.mk c d e f)) (nW aE),hA (Pure PP 156 [(.agg [(nI c),(nI d),(aH e),(iP f)]),(iC j.cons)] (bV l))]<|gw 4 80 (b+1)<|.W 3 2 [0,1] (bZ j a l k (b+1)))<|.y fun c:Int=>.y fun d:Int=>.y fun e:aB=>.y fun f:List Pat=>.y fun g:Int=>.i [rn 4,.reg (rd 3 (.ans (.idx (Pat.av (Pat.mk c d e f)))::.d::.pure (nI g)::.d::.d::.b 88 false::rd 10 []))] [hA (0≤b),.a (((a.pats)[b.toNat]?) =some (Pat.mk c d e f)) (nW aE),hA (Pure PP 155 [(.agg [(nI c),(nI d),(aH e),(iP f)]),(nI 12)] (nI g)),hA (decide (g≥0) =false)]<|gw 4 80 (b+1)<|.W 3 2 [0,1] (bZ j a false k (b+1)))<|.i [rn 3,.reg (.d::.d::.b 99 false::rd 13 [])] [hA (i=false)]<|gE 1 2 (bV false))<|.o (.y fun m:Int=>.i [rn 6,.reg (.d::.d::.b 99 true::.d::.d::.ans (.len (a.kids.length:Int))::rd 4 (.ans (.len (a.pats.length:Int))::.d::.pure (nI m)::rd 3 []))] [hA (i=true),hl aY a.kids,hm aE a.pats,hA (Pure PP 157 [(nI a.op),(nI (a.pats.length:Int)),(nI k)] (nI m)),.q (p:=(nI ((jI a.kids).length:Int)) = (nI (a.kids.length:Int))) (congrArg (int .i64) (aVl _ _)),.q (p:=(nI ((jI a.kids).length:Int)) = (nI (a.kids.length:Int))) (congrArg (int .i64) (aVl _ _)),hr (ilst 1 (jI a.kids) false),hr (ilst 1 (jI a.kids) false)]<|gE 1 2 (bV ((a.kids.length:Int) ==m)))<|.i [rn 6,.reg (.d::.d::.b 99 false::rd 13 [])] [hA (i=false)]<|gE 1 2 (bV false)
def aTn:=fun c d e f g i j k l m n o p a b q r s t=>aWa c d e f g|>.t o|>.t p|>.1 i j k l m n a b q r a b s t tv
def aTo:=fun a b c d e f g i j k l m n o p q r=>aWa a b c d e|>.t l|>.t m|>.2 f g i j k n o p q r tv
def aTp:=fun b c d e f g a=>aWa b c d e f|>.t g|>.f a a tv
def aTq:=fun a b c d e f g i j=>aWa a b c d e|>.f g|>.1 f i j tv
def aTr:=fun a b c d e f g=>aWa a b c d e|>.f f|>.2 g tv
def aTs (a:List Con):=(tT 0 (start PP 95 [(iC a)])<|.i [rn 15,.nilL 3 1] []<|gu 0 0 (map aH ([] :List aB))<|gs 0 3 (.gl 0 1 0 ([] :List aB).length false)<|.W 0 1 [0] (aCD a 0 ([] :List aB))) ⟨kk,trivial⟩
def aWb(a:List Con)(c:Int)(d:List aB):=tT 0 (aCD a c d)<|gl 5 Con.av a<|gd 2 8 (c< (a.length:Int)) (gX Con.av 9 a c<|fun b=>gV 2 116 [(aH b.name)]<|fun e=>.b 2 18 (!e) (gE 15 1 (bV false))<|gi Con.av 2 a c b<|gV 2 94 [(nI b.args),(nI 0),(nI 3)]<|fun f=>.b 3 26 (!f) (gE 6 1 (bV false))<|gi Con.av 6 a c b<|ga 3 aH d [b.name]<|gw 6 10 (c+1)<|.W 3 3 [2] (aCD a (c+1) (d++ [b.name])))<|gl 5 Con.av a<|gd 2 38 ((a.length:Int) ≤20) (gz 1 39 0 1 aH d false<|gV 0 62 [(iS d)]<|fun b=>gE 4 1 (bV b))<|gE 6 1 (bV false)
def aTt:=fun a b c d e f g i j k=>aWb a b c|>.t f d g i e j|>.t k tv
def aTu:=fun c d e f g i j a b k l m n=>aWb c d e|>.t j f a b g k|>.f l a b i m|>.t n tv
def aTv:=fun c d e f g i j a b k l m n o p=>aWb c d e|>.t j f a b g k|>.f l a b i m|>.f n a b o p ⟨kk,trivial⟩
def aTw:=fun a b c d e f g=>aWb a b c|>.f e|>.t f d g tv
def aTx:=fun a b c d e=>aWb a b c|>.f d|>.f e tv
def aWc(a:Prog):=tT 0 (start PP 22 [(Prog.av a)])<|gl 9 Node.av a.nodes<|gd 8 15 ((a.nodes.length:Int) >300) (gE 30 1 (bV false))<|gl 2 aY a.funs<|gV 1 94 [(nI (a.funs.length:Int)),(nI 1),(nI (a.nodes.length:Int))]<|fun b=>.b 3 23 (!b) (gE 22 1 (bV false))<|gl 4 aY a.funs<|gw 1 29 ((a.funs.length:Int) -1)<|gV 0 94 [(nI a.main),(nI 0),(nI ((a.funs.length:Int) -1))]<|fun c=>.b 3 33 (!c) (gE 12 1 (bV false))<|gV 2 95 [(iC a.cons)]<|fun d=>.b 3 38 (!d) (gE 6 1 (bV false))<|.i [rn 5,.mk a.nodes.length] [hr (a.nodes.length:Int),hr (a.nodes.length:Int),hA (a.nodes.length<100000)]<|.i [.lset 1 (map eP (replicate a.nodes.length false))] [.q (p:=replicate a.nodes.length (eP false) = (map eP (replicate a.nodes.length false))) (aCv _ _ _)]<|.i [.set 40 (.gl 1 1 0 (replicate a.nodes.length false).length true)] [.q (p:=(AV.gl 1 1 0 a.nodes.length true) = (.gl 1 1 0 (replicate a.nodes.length false).length true)) (bD (List.length_replicate ..).symm)]<|.W 9 2 [0,1] (vE a 0 (replicate a.nodes.length false))
def aMQ:=fun a b=>aWc a|>.t b tv
def aMR:=fun a b c d e=>aWc a|>.f c b d|>.t e tv
def aMS:=fun a b c d e f g i j=>aWc a|>.f d b e|>.f f g c i|>.t j tv
def aMT:=fun a b c d e f g i j k l m=>aWc a|>.f e b f|>.f g i c j|>.f k d l|>.t m tv
def aMU:=fun a b c d e f g i j k l m n=>aWc a|>.f e b f|>.f g i c j|>.f k d l|>.f m n ⟨kk,trivial⟩
def aZU(c:Prog)(d:Int)(a:List Bool):=tT 0 (vE c d a)<|gl 6 aY c.funs<|gd 2 45 (d< (c.funs.length:Int)) (gX aY 10 c.funs d<|fun b=>gw 3 54 ((c.nodes.length:Int) -1)<|gV 0 94 [(nI b),(nI 0),(nI ((c.nodes.length:Int) -1))]<|fun f=>.b 2 57 (!f) (gE 16 2 (bV false))<|gi aY 4 c.funs d b<|.i [rn 1,.ans (.ix)] [hA (0≤b),hA (b< (a.length:Int))]<|.y fun e:Bool=>gj eP 0 a b.toNat e<|.b 2 66 e (gE 6 2 (bV false))<|gi aY 7 c.funs d b<|.i [rn 1,.ans (.ix)] [hA (0≤b),hA (b< (a.length:Int))]<|.i [.st (eP e) (eP true)] [.a (((a)[b.toNat]?) =some e) (dN (f:=eP)),hr (some (eP true))]<|.i [.lset 1 (map eP (set a b.toNat true))] [.q (p:=(map eP a).set (0+b.toNat) (eP true) = (map eP (set a b.toNat true))) (iF _ _ _ _)]<|.i [.set 4 (.gl 1 1 0 (set a b.toNat true).length true)] [.q (p:=(AV.gl 1 1 0 a.length true) = (.gl 1 1 0 (set a b.toNat true).length true)) (bD (length_set ..).symm)]<|.i [.set 58 (.gl 1 1 0 (set a b.toNat true).length true)] [.q (p:=(AV.gl 1 1 0 a.length true) = (.gl 1 1 0 (set a b.toNat true).length true)) (bD (length_set ..).symm)]<|.i [.set 67 (.gl 1 1 0 (set a b.toNat true).length true)] [.q (p:=(AV.gl 1 1 0 a.length true) = (.gl 1 1 0 (set a b.toNat true).length true)) (bD (length_set ..).symm)]<|gw 5 47 (d+1)<|.W 3 2 [0,1] (vE c (d+1) (set a b.toNat true)))<|.W 9 2 [0,1] (qJ c a 0)
def aMV:=fun a b c d e f g i j k l=>aZU a b c|>.t f d g i j e k|>.t l tv
def aMW:=fun c d e f g i j a b k l m n o p q=>aZU c d e|>.t j f a b k g l|>.f m a b n o i p|>.t q tv
def aMX:=fun f g i j k l m a b n o p c d e q r=>aZU f g i|>.t m j a b n k o|>.f p a b c d l e|>.f q a b c d e r ⟨kk,trivial⟩
def aMY:=fun a b c d=>aZU a b c|>.f d ⟨kk,trivial⟩
def bFn(a:Prog)(c:List Bool)(b:Int):=tT 0 (qJ a c b)<|gd 7 76 (b< (a.nodes.length:Int)) (.y fun d:Node=>.y fun e:Bool=>.i [rn 6,.reg (rd 4 [.ans (.idx (Node.av d)),.d,.pure (bV e),.d])] [hA (0≤b),.a (((a.nodes)[b.toNat]?) =some d) (bS (f:=Node.av)),hA (Pure PP 96 [(Prog.av a),(Node.av d)] (bV e))]<|.b 0 86 (!e) (gE 6 2 (bV false))<|.W 8 2 [0,1] (vF a c 0 b))<|.W 9 2 [1] (vG a c 0)
def aMZ:=fun a b c d e f g i j k=>bFn a b c|>.t f d e g i j|>.t k tv
def aM0:=fun a b c d e f g i j k=>bFn a b c|>.t f d e g i j|>.f k ⟨kk,trivial⟩
def aM1:=fun a b c d=>bFn a b c|>.f d ⟨kk,trivial⟩
def aZV(d:Prog)(a:List Bool)(e c:Int):=tT 0 (vF d a e c)<|gX Node.av 7 d.nodes c<|fun f=>gl 2 aY f.kids<|gd 2 95 (e< (f.kids.length:Int)) (gi Node.av 9 d.nodes c f<|gX aY 3 f.kids e<|fun b=>gw 9 109 (c+1)<|gw 2 111 ((d.nodes.length:Int) -1)<|gV 0 94 [(nI b),(nI (c+1)),(nI ((d.nodes.length:Int) -1))]<|fun i=>.b 2 114 (!i) (gE 12 2 (bV false))<|.i [rn 2,.ans (.ix)] [hA (0≤b),hA (b< (a.length:Int))]<|.y fun g:Bool=>gj eP 0 a b.toNat g<|.b 2 119 g (gE 6 2 (bV false))<|.i [rn 5,.ans (.ix)] [hA (0≤b),hA (b< (a.length:Int))]<|.i [.st (eP g) (eP true)] [.a (((a)[b.toNat]?) =some g) (dN (f:=eP)),hr (some (eP true))]<|.i [.lset 1 (map eP (set a b.toNat true))] [.q (p:=(map eP a).set (0+b.toNat) (eP true) = (map eP (set a b.toNat true))) (iF _ _ _ _)]<|.i [.set 4 (.gl 1 1 0 (set a b.toNat true).length true)] [.q (p:=(AV.gl 1 1 0 a.length true) = (.gl 1 1 0 (set a b.toNat true).length true)) (bD (length_set ..).symm)]<|.i [.set 115 (.gl 1 1 0 (set a b.toNat true).length true)] [.q (p:=(AV.gl 1 1 0 a.length true) = (.gl 1 1 0 (set a b.toNat true).length true)) (bD (length_set ..).symm)]<|.i [.set 120 (.gl 1 1 0 (set a b.toNat true).length true)] [.q (p:=(AV.gl 1 1 0 a.length true) = (.gl 1 1 0 (set a b.toNat true).length true)) (bD (length_set ..).symm)]<|gw 5 97 (e+1)<|.W 3 2 [0,1] (vF d (set a b.toNat true) (e+1) c))<|gw 6 78 (c+1)<|.W 3 2 [0,1] (qJ d a (c+1))
def aM2:=fun c d e f g i j a b k l m n o p q=>aZV c d e f g a b|>.t k a b i l m n o j p|>.t q tv
def aM3:=fun c d e f g i j k a b l m n o p q r s t u v=>aZV c d e f g a b|>.t l a b i m n o p j q|>.f r s t k u|>.t v tv
def aM4:=fun f g i j k l m n a b o p q r s t u c d e v w=>aZV f g i j k a b|>.t o a b l p q r s m t|>.f u c d n e|>.f v c d e w ⟨kk,trivial⟩
def aM5:=fun a b c d e f g i j=>aZV a b c d e f g|>.f i j ⟨kk,trivial⟩
def bFo(c:Prog)(b:List Bool)(a:Int):=tT 0 (vG c b a)<|gd 7 125 (a< (c.nodes.length:Int)) (.i [rn 8,.ans (.ix)] [hA (0≤a),hA (a< (b.length:Int))]<|.y fun d:Bool=>gj eP 0 b a.toNat d<|.b 2 132 (!d) (gE 6 1 (bV false))<|gw 6 127 (a+1)<|.W 3 1 [0] (vG c b (a+1)))<|gE 7 1 (bV true)
def aM6:=fun a b c d e f g i j=>bFo a b c|>.t e f g d i|>.t j tv
def aM7:=fun a b c d e f g i j k=>bFo a b c|>.t e f g d i|>.f j k ⟨kk,trivial⟩
def aM8:=fun a b c d=>bFo a b c|>.f d tv
def gB (c:Con) :Bool:=jT c.name&&dG c.args 0 3
def bI (l:List Con) :List aB:=l.map Con.name
def zA (l:List Con) :Bool:=l.all gB&&decide (l.length≤20) &&cC (bI l)
def bP (p:Prog)(op n:Int) :Bool:=
 if op=1 then dG n (-1000000000) 1000000000
 else if op=2 then dG n 0 1
 else if op=4 then dG n (0- (p.funs.length:Int)) 29
 else if op=24 then dG n 0 3
 else if op=14 then dG n 0 ((p.cons.length:Int) -1)
 else decide (n=0)
def fJ (p:Prog)(x:Node) :Bool:=
 bP p x.op x.n&& (if x.op=15 then dG (x.pats.length:Int) 1 5 else decide (x.pats.length=0))
def gC (p:Prog)(x:Node) :Int:=if x.op=14∧dG x.n 0 ((p.cons.length:Int) -1) =true then fH p.cons x.n else 0
def iY (cons:List Con)(q:Pat) :Bool:=decide (cU q≤12) &&cM cons q
def bJ (p:Prog)(x:Node) :Bool:=
 fJ p x&&x.pats.all (iY p.cons) &&decide ((x.kids.length:Int) =dS x.op x.pats.length (gC p x))
theorem hX {α:Type}(l:List α) : ((l.length:Int) ==0) =decide (l= []) :=by cases l<;>simp;omega
theorem pR {p:Prop}(h:p:=by simp_all [fJ,bP,gC,fH,hX]) :p:=h
theorem aZW (p:Prog)(x:Node)(hc:p.cons.length≤1000)(hf:p.funs.length≤1000)(b:Bool)(hk:∀ (i:Bool) (a:Int),i=fJ p x→a=gC p x→Ends PP 0 (bZ p x i a 0).as (.ret (.bool b)) (aD [] 0)) :
  Ends PP 0 (start PP 96 [Prog.av p,Node.av x]).as (.ret (.bool b)) (aD [] 0) :=by
 cases hb1: (x.op== (1:Int))
 case true=>
  cases hb2: (x.op== (15:Int))
  case true=>
   cases hb3: (dG (x.n) (-1000000000) 1000000000)
   case true=>exact LeadsM.ends (aTd p x  (dG (x.n) (-1000000000) 1000000000) (dG ((length x.pats:Nat) :Int) 1 5) hb1 (bC (x.n) (-1000000000) 1000000000) hb2 hb3 (bC ((length x.pats:Nat) :Int) 1 5)) (hk _ _ (by clear hk;exact pR) (by clear hk;exact pR))
   exact LeadsM.ends (aTe p x  (dG (x.n) (-1000000000) 1000000000) hb1 (bC (x.n) (-1000000000) 1000000000) hb2 hb3) (hk _ _ (by clear hk;exact pR) (by clear hk;exact pR))
  cases hb4: (dG (x.n) (-1000000000) 1000000000)
  case true=>exact LeadsM.ends (aTf p x  (dG (x.n) (-1000000000) 1000000000) hb1 (bC (x.n) (-1000000000) 1000000000) hb2 hb4) (hk _ _ (by clear hk;exact pR) (by clear hk;exact pR))
  exact LeadsM.ends (aTg p x  (dG (x.n) (-1000000000) 1000000000) hb1 (bC (x.n) (-1000000000) 1000000000) hb2 hb4) (hk _ _ (by clear hk;exact pR) (by clear hk;exact pR))
 cases hb5: (x.op== (2:Int))
 case true=>
  cases hb6: (x.op== (15:Int))
  case true=>
   cases hb7: (dG (x.n) 0 1)
   case true=>exact LeadsM.ends (aTh p x  (dG (x.n) 0 1) (dG ((length x.pats:Nat) :Int) 1 5) hb1 hb5 (bC (x.n) 0 1) hb6 hb7 (bC ((length x.pats:Nat) :Int) 1 5)) (hk _ _ (by clear hk;exact pR) (by clear hk;exact pR))
   exact LeadsM.ends (aTi p x  (dG (x.n) 0 1) hb1 hb5 (bC (x.n) 0 1) hb6 hb7) (hk _ _ (by clear hk;exact pR) (by clear hk;exact pR))
  cases hb8: (dG (x.n) 0 1)
  case true=>exact LeadsM.ends (aTj p x  (dG (x.n) 0 1) hb1 hb5 (bC (x.n) 0 1) hb6 hb8) (hk _ _ (by clear hk;exact pR) (by clear hk;exact pR))
  exact LeadsM.ends (aTk p x  (dG (x.n) 0 1) hb1 hb5 (bC (x.n) 0 1) hb6 hb8) (hk _ _ (by clear hk;exact pR) (by clear hk;exact pR))
 cases hb9: (x.op== (4:Int))
 case true=>
  cases hb10: (x.op== (15:Int))
  case true=>
   cases hb11: (dG (x.n) (0- ((length p.funs:Nat) :Int)) 29)
   case true=>exact LeadsM.ends (aTl p x  (dG (x.n) (0- ((length p.funs:Nat) :Int)) 29) (dG ((length x.pats:Nat) :Int) 1 5) hb1 hb5 hb9 sdI (bC (x.n) (0- ((length p.funs:Nat) :Int)) 29) hb10 hb11 (bC ((length x.pats:Nat) :Int) 1 5)) (hk _ _ (by clear hk;exact pR) (by clear hk;exact pR))
   exact LeadsM.ends (aTm p x  (dG (x.n) (0- ((length p.funs:Nat) :Int)) 29) hb1 hb5 hb9 sdI (bC (x.n) (0- ((length p.funs:Nat) :Int)) 29) hb10 hb11) (hk _ _ (by clear hk;exact pR) (by clear hk;exact pR))
  cases hb12: (dG (x.n) (0- ((length p.funs:Nat) :Int)) 29)
  case true=>exact LeadsM.ends (aP3 p x  (dG (x.n) (0- ((length p.funs:Nat) :Int)) 29) hb1 hb5 hb9 sdI (bC (x.n) (0- ((length p.funs:Nat) :Int)) 29) hb10 hb12) (hk _ _ (by clear hk;exact pR) (by clear hk;exact pR))
  exact LeadsM.ends (aP4 p x  (dG (x.n) (0- ((length p.funs:Nat) :Int)) 29) hb1 hb5 hb9 sdI (bC (x.n) (0- ((length p.funs:Nat) :Int)) 29) hb10 hb12) (hk _ _ (by clear hk;exact pR) (by clear hk;exact pR))
 cases hb13: (x.op== (24:Int))
 case true=>
  cases hb14: (x.op== (15:Int))
  case true=>
   cases hb15: (dG (x.n) 0 3)
   case true=>exact LeadsM.ends (aP5 p x  (dG (x.n) 0 3) (dG ((length x.pats:Nat) :Int) 1 5) hb1 hb5 hb9 hb13 (bC (x.n) 0 3) hb14 hb15 (bC ((length x.pats:Nat) :Int) 1 5)) (hk _ _ (by clear hk;exact pR) (by clear hk;exact pR))
   exact LeadsM.ends (aP6 p x  (dG (x.n) 0 3) hb1 hb5 hb9 hb13 (bC (x.n) 0 3) hb14 hb15) (hk _ _ (by clear hk;exact pR) (by clear hk;exact pR))
  cases hb16: (dG (x.n) 0 3)
  case true=>exact LeadsM.ends (aP7 p x  (dG (x.n) 0 3) hb1 hb5 hb9 hb13 (bC (x.n) 0 3) hb14 hb16) (hk _ _ (by clear hk;exact pR) (by clear hk;exact pR))
  exact LeadsM.ends (aP8 p x  (dG (x.n) 0 3) hb1 hb5 hb9 hb13 (bC (x.n) 0 3) hb14 hb16) (hk _ _ (by clear hk;exact pR) (by clear hk;exact pR))
 cases hb17: (x.op== (14:Int))
 case true=>
  cases hb18: (dG (x.n) 0 (((length p.cons:Nat) :Int) - (1:Int)))
  case true=>
   obtain⟨y1,hx19⟩ :∃y,((p.cons)[x.n.toNat]?) =some y:=idT;cases hb20: (x.op== (15:Int))
   case true=>exact LeadsM.ends (aP9 p x  (dG (x.n) 0 (((length p.cons:Nat) :Int) - (1:Int))) y1 (dG ((length x.pats:Nat) :Int) 1 5) hb1 hb5 hb9 hb13 hb17 sdI (bC (x.n) 0 (((length p.cons:Nat) :Int) - (1:Int))) hb18 sdI hx19 hb20 (bC ((length x.pats:Nat) :Int) 1 5)) (hk _ _ (by clear hk;exact pR) (by clear hk;exact pR))
   exact LeadsM.ends (aQa p x  (dG (x.n) 0 (((length p.cons:Nat) :Int) - (1:Int))) y1 hb1 hb5 hb9 hb13 hb17 sdI (bC (x.n) 0 (((length p.cons:Nat) :Int) - (1:Int))) hb18 sdI hx19 hb20) (hk _ _ (by clear hk;exact pR) (by clear hk;exact pR))
  cases hb21: (x.op== (15:Int))
  case true=>exact LeadsM.ends (aQb p x  (dG (x.n) 0 (((length p.cons:Nat) :Int) - (1:Int))) hb1 hb5 hb9 hb13 hb17 sdI (bC (x.n) 0 (((length p.cons:Nat) :Int) - (1:Int))) hb18 hb21) (hk _ _ (by clear hk;exact pR) (by clear hk;exact pR))
  exact LeadsM.ends (aQc p x  (dG (x.n) 0 (((length p.cons:Nat) :Int) - (1:Int))) hb1 hb5 hb9 hb13 hb17 sdI (bC (x.n) 0 (((length p.cons:Nat) :Int) - (1:Int))) hb18 hb21) (hk _ _ (by clear hk;exact pR) (by clear hk;exact pR))
 cases hb22: (x.op== (15:Int))
 case true=>
  cases hb23: (x.n== (0:Int))
  case true=>exact LeadsM.ends (aQd p x  (dG ((length x.pats:Nat) :Int) 1 5) hb1 hb5 hb9 hb13 hb17 hb22 hb23 (bC ((length x.pats:Nat) :Int) 1 5)) (hk _ _ (by clear hk;exact pR) (by clear hk;exact pR))
  exact LeadsM.ends (aQe p x   hb1 hb5 hb9 hb13 hb17 hb22 hb23) (hk _ _ (by clear hk;exact pR) (by clear hk;exact pR))
 cases hb24: (x.n== (0:Int))
 case true=>exact LeadsM.ends (aQf p x   hb1 hb5 hb9 hb13 hb17 hb22 hb24) (hk _ _ (by clear hk;exact pR) (by clear hk;exact pR))
 exact LeadsM.ends (aQg p x   hb1 hb5 hb9 hb13 hb17 hb22 hb24) (hk _ _ (by clear hk;exact pR) (by clear hk;exact pR))
theorem aBx (p:Prog)(x:Node)(hc:p.cons.length≤1000)(hl:x.pats.length≤10)(a:Int) :
  ∀ (t:List Pat) (i:Nat) (b:Bool),x.pats.drop i=t→Ends PP 0 (bZ p x b a (i:Int)).as (.ret (.bool (b&&t.all (iY p.cons) &&decide ((x.kids.length:Int) =dS x.op x.pats.length a)))) (aD [] 0)
 | [],i,b,h=>by
  have:=bA h;cases b
  case false=>exact Ends.eqv (aTr p x false a i sd rfl) (by simp)
  refine Ends.eqv (aTq p x true a i _ sd rfl (aP2 x.op x.pats.length a (by omega) (by omega))) ?_;simp only [all_nil,Bool.true_and,AV.bool.injEq];rfl
 | .mk f' n' s' ps'::t,i,b,h=>by
  obtain⟨g1,g2,g3⟩ :=aZ h;cases b
  case false=>exact Ends.eqv (aTp p x false a i sd rfl) (by simp)
  have hw:=yW (.mk f' n' s' ps') 12 (by omega) (by omega);by_cases k:cU (.mk f' n' s' ps') ≤12
  · have hg:0≤mI (.mk f' n' s' ps') 12:= (aAj (.mk f' n' s' ps') 12).2 (by omega);refine(aTn p x true a i f' n' s' ps' _ _ sd rfl sd sd hw (decide_eq_true hg) (aII p.cons hc (.mk f' n' s' ps') (by omega)) sd).ends ?_;exact Ends.eqv (aBx p x hc hl a t (i+1) _ g2) (by simp [iY,k])
  · have hg:¬mI (.mk f' n' s' ps') 12≥0:=fun g=>k (by have:= (aAj (.mk f' n' s' ps') 12).1 g;omega);refine(aTo p x true a i f' n' s' ps' _ sd rfl sd sd hw (decide_eq_false hg) sd).ends ?_;exact Ends.eqv (aBx p x hc hl a t (i+1) _ g2) (by simp [iY,k])
theorem aQh (p:Prog)(x:Node)(hc:p.cons.length≤1000)(hf:p.funs.length≤1000)(hl:x.pats.length≤10) :Pure PP 96 [Prog.av p,Node.av x] (.bool (bJ p x)) :=by
 refine aV (by kernel_rfl) rfl rfl (aZW p x hc hf _ fun i a hi ha=>?_);subst hi ha;exact aBx p x hc hl _ x.pats 0 _ rfl
theorem aGp (l:List Con)(hl:l.length≤1000) :∀ (t:List Con) (i:Nat),l.drop i=t→Ends PP 0 (aCD l (i:Int) (bI (l.take i))).as (.ret (.bool (t.all gB&&decide (l.length≤20) &&cC (bI l)))) (aD [] 0)
 | [],i,h=>by
  have hi:=bA h;have e:bI (l.take i) =bI l:=by rw [List.take_of_length_le hi]
  rw [e];by_cases k:l.length≤20
  ·exact Ends.eqv (aTw l i _ _ sd sd (aCB (bI l) (by simp [bI];omega))) (by simp [k])
  ·exact Ends.eqv (aTx l i _ sd sd) (by simp [k])
 | c::t,i,h=>by
  obtain⟨g1,g2,g3⟩ :=aZ h;have hg:=aMJ c.name;cases k1:jT c.name
  case false=>
   rw [k1]at hg;exact Ends.eqv (aTt l i _ c false sd sd sd hg rfl) (by simp [gB,k1])
  rw [k1]at hg;have hi:=bC c.args 0 3;cases k2:dG c.args 0 3
  case false=>
   rw [k2]at hi;exact Ends.eqv (aTu l i _ c true false sd sd sd hg rfl hi rfl) (by simp [gB,k1,k2])
  rw [k2]at hi;have e:bI (l.take i) ++ [c.name] =bI (l.take (i+1)) :=by
   rw [List.take_add_one,g1];simp [bI]
  refine(aTv l i (bI (l.take i)) c true true sd sd sd hg rfl hi rfl (by simp [bI];omega) sd).ends ?_;rw [e];exact Ends.eqv (aGp l hl t (i+1) g2) (by simp [gB,k1,k2])
theorem aQi (l:List Con)(hl:l.length≤1000) :Pure PP 95 [.ilst 2 (map Con.av l) false] (.bool (zA l)) :=
 aV (by kernel_rfl) rfl rfl ((aTs l).ends (aGp l hl l 0 rfl))
def marks (lo n:Int) :List Int→List Bool→Option (List Bool)
 | [],u=>some u
 |k::ks,u=>if dG k lo (n-1) =true∧u[k.toNat]?=some false then marks lo n ks (u.set k.toNat true)else none
theorem iG {lo n:Int}:∀ {ks:List Int} {u v:List Bool},marks lo n ks u=some v→v.length=u.length
 | [],u,v,h=>by simp only [marks,Option.some.injEq]at h;rw [h]
 | k::ks,u,v,h=>by
  simp only [marks]at h;split at h
  ·have:=iG h;simpa using this
  ·cases h
def bW (p:Prog) :Nat→List Node→List Bool→Option (List Bool)
 |_,[],u=>some u
 | i,x::t,u=>if bJ p x=true then match marks ((i:Int) +1) (p.nodes.length:Int) x.kids u with
   |some v=>bW p (i+1) t v
   |none=>none
  else none
def allT :Option (List Bool) →Bool
 |some u=>u.all fun b=>b
 |none=>false
def eF (p:Prog) :Bool:=decide (p.nodes.length≤300) &&dG (p.funs.length:Int) 1 (p.nodes.length:Int) &&dG p.main 0 ((p.funs.length:Int) -1)
def aP (p:Prog) :Bool:=
 eF p&&zA p.cons&& (match marks 0 (p.nodes.length:Int) p.funs (replicate p.nodes.length false)with
  |some u=>allT (bW p 0 p.nodes u)
  |none=>false)
theorem rF3 (p:Prog)(u:List Bool)(hn:p.nodes.length≤1000)(hu:u.length=p.nodes.length) :∀ (t:List Bool) (i:Nat),u.drop i=t→Ends PP 0 (vG p u (i:Int)).as (.ret (.bool (t.all fun b=>b))) (aD [] 0)
 | [],i,h=>by
  have:=bA h;exact aM8 p u i sd
 | b::t,i,h=>by
  obtain⟨g1,g2,g3⟩ :=aZ h;cases b
  case false=>exact Ends.eqv (aM6 p u i false sd sd sd sd rfl) (by simp)
  refine(aM7 p u i true sd sd sd sd rfl sd).ends ?_;exact Ends.eqv (rF3 p u hn hu t (i+1) g2) (by simp)
theorem bGi (p:Prog)(x:Node)(i:Nat)(hx:p.nodes[i]?=some x)(hn:p.nodes.length≤1000)(hk:x.kids.length≤1000)(K:List Bool→Bool)
  (hb:∀v:List Bool,v.length=p.nodes.length→Ends PP 0 (qJ p v ((i:Int) +1)).as (.ret (.bool (K v))) (aD [] 0)) :
  ∀ (t:List Int) (k:Nat) (u:List Bool),u.length=p.nodes.length→x.kids.drop k=t→Ends PP 0 (vF p u (k:Int) (i:Int)).as (.ret (.bool (match marks ((i:Int) +1) p.nodes.length t u with|some v=>K v|none=>false))) (aD [] 0)
 | [],k,u,hu,h=>by
  have:=bA h;have hi:= (List.getElem?_eq_some_iff.1 hx).1;refine(aM5 p u k i x sd sd sd sd).ends ?_;exact hb u hu
 | y::t,k,u,hu,h=>by
  obtain⟨g1,g2,g3⟩ :=aZ h;have hi:= (List.getElem?_eq_some_iff.1 hx).1;have hin:=bC y ((i:Int) +1) ((p.nodes.length:Int) -1);cases k1:dG y ((i:Int) +1) ((p.nodes.length:Int) -1)
  case false=>
   rw [k1]at hin;exact Ends.eqv (aM2 p u k i x y false sd sd sd sd sd sd sd hin rfl) (by simp [marks,k1])
  rw [k1]at hin;have hy:=inB_iff.1 k1;obtain⟨z,hz⟩ :∃z,u[y.toNat]?=some z:= ⟨_,List.getElem?_eq_getElem (by omega)⟩;cases z
  case true=>exact Ends.eqv (aM3 p u k i x y true true sd sd sd sd sd sd sd hin rfl (by omega) (by omega) hz rfl) (by simp [marks,hz])
  refine(aM4 p u k i x y true false sd sd sd sd sd sd sd hin rfl (by omega) (by omega) hz rfl sd).ends ?_;exact Ends.eqv (bGi p x i hx hn hk K hb t (k+1) (u.set y.toNat true) (by simpa using hu) g2) (by simp [marks,k1,hz])
theorem rF1 (p:Prog)(hp:aJ p=true)(hn:p.nodes.length≤1000)(hc:p.cons.length≤1000)(hf:p.funs.length≤1000) :∀ (t:List Node) (i:Nat) (u:List Bool),u.length=p.nodes.length→p.nodes.drop i=t →
  Ends PP 0 (qJ p u (i:Int)).as (.ret (.bool (allT (bW p i t u)))) (aD [] 0)
 | [],i,u,hu,h=>by
  have:=bA h;refine(aM1 p u i sd).ends ?_;exact rF3 p u hn hu u 0 rfl
 | x::t,i,u,hu,h=>by
  obtain⟨g1,g2,g3⟩ :=aZ h;have hx:aW x=true:=by
   simp only [aJ,Bool.and_eq_true]at hp;exact List.all_eq_true.1 hp.2 x (mem_of_getElem? g1)
  simp only [aW,Bool.and_eq_true,decide_eq_true_eq]at hx;have ho:=aQh p x hc hf hx.1.2;cases k:bJ p x
  case false=>
   rw [k]at ho;exact Ends.eqv (aMZ p u i x false sd sd sd ho rfl) (by simp [bW,k,allT])
  rw [k]at ho;refine(aM0 p u i x true sd sd sd ho rfl).ends ?_;refine Ends.eqv (bGi p x i g1 hn (by omega) (fun v=>allT (bW p (i+1) t v)) (fun v hv=>rF1 p hp hn hc hf t (i+1) v hv g2) x.kids 0 u hu rfl) ?_;simp only [bW,k,if_true];cases marks ((i:Int) +1) (p.nodes.length:Int) x.kids u<;>rfl
theorem rF0 (p:Prog)(hp:aJ p=true)(hn:p.nodes.length≤1000)(hc:p.cons.length≤1000)(hf:p.funs.length≤1000) :∀ (t:List Int) (i:Nat) (u:List Bool),u.length=p.nodes.length→p.funs.drop i=t →
  Ends PP 0 (vE p (i:Int) u).as (.ret (.bool (match marks 0 p.nodes.length t u with|some v=>allT (bW p 0 p.nodes v) |none=>false))) (aD [] 0)
 | [],i,u,hu,h=>by
  have:=bA h;refine(aMY p i u sd).ends ?_;exact rF1 p hp hn hc hf p.nodes 0 u hu rfl
 | y::t,i,u,hu,h=>by
  obtain⟨g1,g2,g3⟩ :=aZ h;have hin:=bC y 0 ((p.nodes.length:Int) -1);cases k1:dG y 0 ((p.nodes.length:Int) -1)
  case false=>
   rw [k1]at hin;exact Ends.eqv (aMV p i u y false sd sd sd sd hin rfl) (by simp [marks,k1])
  rw [k1]at hin;have hy:=inB_iff.1 k1;obtain⟨z,hz⟩ :∃z,u[y.toNat]?=some z:= ⟨_,List.getElem?_eq_getElem (by omega)⟩;cases z
  case true=>exact Ends.eqv (aMW p i u y true true sd sd sd sd hin rfl (by omega) (by omega) hz rfl) (by simp [marks,hz])
  refine(aMX p i u y true false sd sd sd sd hin rfl (by omega) (by omega) hz rfl sd).ends ?_;exact Ends.eqv (rF0 p hp hn hc hf t (i+1) (u.set y.toNat true) (by simpa using hu) g2) (by simp [marks,k1,hz])
theorem mA (p:Prog)(hp:aJ p=true) :Pure PP 22 [Prog.av p] (.bool (aP p)) :=by
 refine aV (by kernel_rfl) rfl rfl ?_;have hs:=hp;simp only [aJ,Bool.and_eq_true,decide_eq_true_eq]at hs;obtain⟨⟨⟨⟨s1,s2⟩,s3⟩,_⟩,_⟩ :=hs;by_cases k0:p.nodes.length≤300
 · have hi1:=bC (p.funs.length:Int) 1 (p.nodes.length:Int);cases k1:dG (p.funs.length:Int) 1 (p.nodes.length:Int)
   case false=>
    rw [k1]at hi1;exact Ends.eqv (aMR p false sd hi1 rfl) (by simp [aP,eF,k1])
   rw [k1]at hi1;have hi2:=bC p.main 0 ((p.funs.length:Int) -1);cases k2:dG p.main 0 ((p.funs.length:Int) -1)
   case false=>
    rw [k2]at hi2;exact Ends.eqv (aMS p true false sd hi1 rfl sd hi2 rfl) (by simp [aP,eF,k2])
   rw [k2]at hi2;have hco:=aQi p.cons (by omega);cases k3:zA p.cons
   case false=>
    rw [k3]at hco;exact Ends.eqv (aMT p true true false sd hi1 rfl sd hi2 rfl hco rfl) (by simp [aP,k3])
   rw [k3]at hco;refine(aMU p true true true sd hi1 rfl sd hi2 rfl hco rfl (by omega)).ends ?_;refine Ends.eqv (rF0 p hp (by omega) (by omega) (by omega) p.funs 0 _ (by simp) rfl) ?_;have e:eF p=true:=by simp [eF,k0,k1,k2]
   simp only [aP,e,k3,Bool.true_and]
 ·exact Ends.eqv (aMQ p sd) (by simp [aP,eF,k0])
def checkN (b:Bool) :Int:=if b=true then 0 else 2
def aAk(a:aB)(b:Nat):TS:=⟨(tf 161 16 [(2,(bV false)),kp 6 0] [kc f161 52,kl f161 52,.inBlock 0,kc f161 7]),[],[(0,(.siter a.length (aA a) b),false)],1⟩
def aCE(e f:Int)(g:aB)(a:List Pat)(b c d:Int):TS:=⟨(tf 257 27 [(1,(nI b)),(4,(nI 0)),(5,(nI c)),(9,(iP a)),(10,(nI (a.length:Int))),(11,(nI d))] [kc f257 116,kl f257 116,.inBlock 0,kc f257 15]),[],[],0⟩
def bGj(a b c:Int):=tT 0 (start PP 222 [(nI a),(nI b),(nI c)])<|gd 10 10 (a≥b) (gE 7 0 (bV (decide (a≤c))))<|gE 7 0 (bV false)
def aZX:=fun a b c d=>bGj a b c|>.t d tv
def aZY:=fun a b c d=>bGj a b c|>.f d tv
def aWd (b:Int):=fun a c=>(tT 0 (start PP 275 [(nI b)])<|gV 7 222 [(nI b),(nI (-1000000000)),(nI 1000000000)]<|fun a=>gE 3 0 (bV a)) a c tv
def aQj (a:aB):=(tT 0 (start PP 161 [(aH a)])<|.W 12 1 [0] (aAk a 0)) tv
def aZZ(a:aB)(b:Nat):=tT 0 (aAk a b)<|.o (.y fun c:Nat=>.y fun d:Nat=>.i [rn 2,.nxt c d] [hA (b<a.length),hA (aO1 a.length (aA a) b=some (c,d))]<|gd 16 12 (((c:Nat) :Int) <97) (gE 10 1 (bV false))<|gd 4 15 (((c:Nat) :Int) >122) (gE 6 1 (bV false))<|.W 4 1 [0] (aAk a (Nat.add b d)))<|.i [rn 2,.nxtE] [hA (a.length≤b)]<|gE 10 1 (bV true)
def aQk:=fun a b c d e f g=>aZZ a b|>.1 c d e f|>.t g tv
def aQl:=fun a b c d e f g i=>aZZ a b|>.1 c d e f|>.f g|>.t i tv
def aQm:=fun a b c d e f g i=>aZZ a b|>.1 c d e f|>.f g|>.f i tv
def aQn:=fun a b c=>aZZ a b|>.2 c tv
def aWe(a:aB):=tT 0 (start PP 171 [(aH a)])<|.b 9 5 (!(bM a.length (aA a) 0 0)) (gd 5 10 ((a.length:Int) ≤8) (.y fun b:UInt8=>.i [rn 1,.ans (.ev (.int .u8 ((b.toNat:Nat) :Int)))] [.q (p:=0≤ (0:Int)) (by decide),.a ((a)[0]?=some b) (p':=(0:Int) < (a.length:Int)) (fun h=>(aDs (k:= (0:Int)) (by decide) h)),.a ((a)[0]?=some b) (p':=int .u8 ((mod (div (aA a) (pow 256 (0:Int).toNat)) 256:Nat) :Int) = (.int .u8 ((b.toNat:Nat) :Int))) (fun h=>(aDt (k:= (0:Int)) h))]<|gd 3 15 (((b.toNat:Nat) :Int) ≥65) (.i [rn 1,.ans (.ev (.int .u8 ((b.toNat:Nat) :Int)))] [.q (p:=0≤ (0:Int)) (by decide),.a ((a)[0]?=some b) (p':=(0:Int) < (a.length:Int)) (fun h=>(aDs (k:= (0:Int)) (by decide) h)),.a ((a)[0]?=some b) (p':=int .u8 ((mod (div (aA a) (pow 256 (0:Int).toNat)) 256:Nat) :Int) = (.int .u8 ((b.toNat:Nat) :Int))) (fun h=>(aDt (k:= (0:Int)) h))]<|gd 3 20 (((b.toNat:Nat) :Int) ≤90) (.i [rn 1,.ans (.ev (aH (drop 1 a)))] [.a (1≤length a) (p':=aH5 PP 9 (aH a) (some (nI 1)) none (aH (drop 1 a))) (fun h=>(aEv (k:= (1:Int)) (by kernel_rfl) (by decide) h))]<|gV 0 161 [(aH (drop 1 a))]<|fun c=>gE 4 0 (bV c))<|gE 7 0 (bV false))<|gE 12 0 (bV false))<|gE 17 0 (bV false))<|gE 22 0 (bV false)
def aQo:=fun b c d e f a g i j k=>aWe b|>.t e|>.t f c a a|>.t g a a|>.t i j d k tv
def aQp:=fun b c d e a f g=>aWe b|>.t d|>.t e c a a|>.t f a a|>.f g tv
def aQq:=fun b c d e a f=>aWe b|>.t d|>.t e c a a|>.f f tv
def aQr:=fun a b c=>aWe a|>.t b|>.f c tv
def aQs:=fun a b=>aWe a|>.f b tv
def bGk(a:Con):=tT 0 (start PP 224 [(.agg [(aH a.name),(nI a.args)])])<|gV 9 171 [(aH a.name)]<|fun b=>.b 1 6 b (gV 2 222 [(nI a.args),(nI 0),(nI 3)]<|fun c=>gE 4 1 (bV c))<|gE 7 1 (bV false)
def aWf:=fun a b c d e f=>bGk a b d|>.t e c f tv
def aWg:=fun a b c d=>bGk a b c|>.f d tv
def aTy(c:Prog)(a:Node):=tT 0 (start PP 259 [(Prog.av c),(Node.av a)])<|.b 18 7 (a.op==1) (gV 5 275 [(nI a.n)]<|fun b=>gE 3 2 (bV b))<|.b 6 12 (a.op==2) (gV 5 222 [(nI a.n),(nI 0),(nI 1)]<|fun b=>gE 3 2 (bV b))<|.b 6 17 (a.op==24) (gV 5 222 [(nI a.n),(nI 0),(nI 3)]<|fun b=>gE 3 2 (bV b))<|.b 6 22 (a.op==4) (gl 8 aY c.funs<|gw 1 30 (0- (c.funs.length:Int))<|gV 0 222 [(nI a.n),(nI (0- (c.funs.length:Int))),(nI 29)]<|fun b=>gE 3 2 (bV b))<|.b 6 32 (a.op==14) (gE 6 2 (bV true))<|gE 11 2 (bV (a.n==0))
def aM9:=fun a b c d e=>aTy a b|>.t d c e tv
def aNa:=fun a b c d e f=>aTy a b|>.f d|>.t e c f tv
def aNb:=fun a b c d e f g=>aTy a b|>.f d|>.f e|>.t f c g tv
def aNc:=fun a b c d e f g i j=>aTy a b|>.f d|>.f e|>.f f|>.t g i c j tv
def aNd:=fun a b c d e f g=>aTy a b|>.f c|>.f d|>.f e|>.f f|>.t g tv
def aNe:=fun a b c d e f g=>aTy a b|>.f c|>.f d|>.f e|>.f f|>.f g tv
def aTz (b c:Int)(d:aB)(a:List Pat)(e:Int):=(tT 0 (start PP 257 [(.agg [(nI b),(nI c),(aH d),(iP a)]),(nI e)])<|gm 14 aE a<|.W 4 1 [] (aCE b c d a e 1 0)) tv
def bFp(e f:Int)(g:aB)(d:List Pat)(b a c:Int):=tT 0 (aCE e f g d b a c)<|gd 5 12 (c< (d.length:Int)) (aF6 6 d c<|fun j k l m=>gd 11 17 (a>b) (gE 8 1 (nI a))<|gw 8 22 (b-a)<|gpI 0 257 [(.agg [(nI j),(nI k),(aH l),(iP m)]),(nI (b-a))]<|fun i=>gw 1 24 (a+i)<|gw 5 25 (c+1)<|.W 3 1 [] (aCE e f g d b (a+i) (c+1)))<|gE 8 0 (nI a)
def aTA:=fun a b c d e f g i j k l m n o p=>bFp a b c d e f g|>.t m i j k l n o|>.t p tv
def aTB:=fun a b c d e f g i j k l m n o p q r s t u=>bFp a b c d e f g|>.t n i j k l o p|>.f q r m s t u tv
def aTC:=fun a b c d e f g i=>bFp a b c d e f g|>.f i tv
def aBy(d:Prog)(e c:Int)(f:aB)(a:List Pat):=tT 0 (start PP 258 [(Prog.av d),(.agg [(nI e),(nI c),(aH f),(iP a)])])<|.b 13 8 (!(bM f.length (aA f) 0 0)) (gE 14 2 (bV false))<|gV 4 260 [(iP a),(.func 258 [(Prog.av d)] [])]<|fun i=>.b 3 15 (!i) (gE 6 2 (bV false))<|.b 15 18 (e==1) (.b 9 25 (c==0) (gm 2 aE a<|gE 5 2 (bV ((a.length:Int) ==0)))<|gE 8 2 (bV false))<|.b 6 18 (e==2) (.b 9 25 (c==0) (gm 2 aE a<|gE 5 2 (bV ((a.length:Int) ==0)))<|gE 8 2 (bV false))<|.b 5 18 (e==5) (.b 7 25 (c==0) (gm 2 aE a<|gE 5 2 (bV ((a.length:Int) ==0)))<|gE 8 2 (bV false))<|.b 6 31 (e==3) (gV 5 275 [(nI c)]<|fun b=>.b 1 36 b (gm 2 aE a<|gE 5 2 (bV ((a.length:Int) ==0)))<|gE 8 2 (bV false))<|.b 6 42 (e==4) (gV 5 222 [(nI c),(nI 0),(nI 1)]<|fun b=>.b 1 47 b (gm 2 aE a<|gE 5 2 (bV ((a.length:Int) ==0)))<|gE 8 2 (bV false))<|.b 6 53 (e==6) (.o (.y fun b:Bool=>.y fun g:Con=>.i [rn 2,.reg (rd 5 (.ans (.len (d.cons.length:Int))::.d::.pure (bV b)::.d::.b 63 true::.d::.d::.ans (.len (a.length:Int))::rd 5 (.ans (.idx (Con.av g))::rd 5 [])))] [hl Con.av d.cons,hA (Pure PP 222 [(nI c),(nI 0),(nI (IntKind.i64.wrap ((d.cons.length:Int) -1)))] (bV b)),hA (b=true),hm aE a,hA (0≤c),.a (((d.cons)[c.toNat]?) =some g) (bS (f:=Con.av))]<|gE 1 2 (bV ((a.length:Int) ==g.args)))<|.y fun b:Bool=>.i [rn 2,.reg (rd 5 (.ans (.len (d.cons.length:Int))::.d::.pure (bV b)::.d::.b 63 false::rd 14 []))] [hl Con.av d.cons,hA (Pure PP 222 [(nI c),(nI 0),(nI (IntKind.i64.wrap ((d.cons.length:Int) -1)))] (bV b)),hA (b=false)]<|gE 1 2 (bV false))<|gE 8 2 (bV false)
def aWh:=fun a b c d e f=>aBy a b c d e|>.t f tv
def aWi:=fun a b c d e f g i j=>aBy a b c d e|>.f g f i|>.t j tv
def aWj:=fun a b c d e f g i j k l=>aBy a b c d e|>.f g f i|>.f j|>.t k|>.t l tv
def aWk:=fun a b c d e f g i j k l=>aBy a b c d e|>.f g f i|>.f j|>.t k|>.f l tv
def aWl:=fun a b c d e f g i j k l m=>aBy a b c d e|>.f g f i|>.f j|>.f k|>.t l|>.t m tv
def aWm:=fun a b c d e f g i j k l m=>aBy a b c d e|>.f g f i|>.f j|>.f k|>.t l|>.f m tv
def aWn:=fun a b c d e f g i j k l m n=>aBy a b c d e|>.f g f i|>.f j|>.f k|>.f l|>.t m|>.t n tv
def aWo:=fun a b c d e f g i j k l m n=>aBy a b c d e|>.f g f i|>.f j|>.f k|>.f l|>.t m|>.f n tv
def aWp:=fun a b c d e f g i j k l m n o p q=>aBy a b c d e|>.f i f j|>.f k|>.f l|>.f m|>.f n|>.t o g p|>.t q tv
def aWq:=fun a b c d e f g i j k l m n o p q=>aBy a b c d e|>.f i f j|>.f k|>.f l|>.f m|>.f n|>.t o g p|>.f q tv
def aTD:=fun a b c d e f g i j k l m n o p q r=>aBy a b c d e|>.f i f j|>.f k|>.f l|>.f m|>.f n|>.f o|>.t p g q|>.t r tv
def aTE:=fun a b c d e f g i j k l m n o p q r=>aBy a b c d e|>.f i f j|>.f k|>.f l|>.f m|>.f n|>.f o|>.t p g q|>.f r tv
def aTF:=fun a b c d e f g i j k l m n o p q r s t u v=>aBy a b c d e|>.f j f k|>.f l|>.f m|>.f n|>.f o|>.f p|>.f q|>.t r|>.1 g i s t u v tv
def aTG:=fun a b c d e f g i j k l m n o p q r s=>aBy a b c d e|>.f i f j|>.f k|>.f l|>.f m|>.f n|>.f o|>.f p|>.t q|>.2 g r s tv
def aTH:=fun a b c d e f g i j k l m n o p=>aBy a b c d e|>.f g f i|>.f j|>.f k|>.f l|>.f m|>.f n|>.f o|>.f p tv
def mB(a:Int):=tT 0 (start PP 255 [(nI a)])<|.b 16 4 (a==1) (gE 9 0 (.iface 322 (nI 0)))<|.b 6 4 (a==2) (gE 9 0 (.iface 322 (nI 0)))<|.b 6 4 (a==3) (gE 9 0 (.iface 322 (nI 0)))<|.b 6 4 (a==4) (gE 9 0 (.iface 322 (nI 0)))<|.b 6 4 (a==21) (gE 9 0 (.iface 322 (nI 0)))<|.b 6 4 (a==25) (gE 9 0 (.iface 322 (nI 0)))<|.b 5 4 (a==28) (gE 7 0 (.iface 322 (nI 0)))<|.b 7 13 (a==5) (gE 9 0 (.iface 322 (nI 1)))<|.b 6 13 (a==27) (gE 9 0 (.iface 322 (nI 1)))<|.b 6 13 (a==16) (gE 9 0 (.iface 322 (nI 1)))<|.b 6 13 (a==17) (gE 9 0 (.iface 322 (nI 1)))<|.b 6 13 (a==19) (gE 9 0 (.iface 322 (nI 1)))<|.b 6 13 (a==20) (gE 9 0 (.iface 322 (nI 1)))<|.b 6 13 (a==23) (gE 9 0 (.iface 322 (nI 1)))<|.b 6 13 (a==24) (gE 9 0 (.iface 322 (nI 1)))<|.b 5 13 (a==26) (gE 7 0 (.iface 322 (nI 1)))<|.b 7 24 (a==6) (gE 9 0 (.iface 322 (nI 2)))<|.b 6 24 (a==7) (gE 9 0 (.iface 322 (nI 2)))<|.b 6 24 (a==9) (gE 9 0 (.iface 322 (nI 2)))<|.b 6 24 (a==10) (gE 9 0 (.iface 322 (nI 2)))<|.b 6 24 (a==11) (gE 9 0 (.iface 322 (nI 2)))<|.b 6 24 (a==12) (gE 9 0 (.iface 322 (nI 2)))<|.b 6 24 (a==13) (gE 9 0 (.iface 322 (nI 2)))<|.b 6 24 (a==18) (gE 9 0 (.iface 322 (nI 2)))<|.b 5 24 (a==22) (gE 7 0 (.iface 322 (nI 2)))<|.b 6 35 (a==8) (gE 7 0 (.iface 322 (nI 3)))<|.b 6 38 (a==14) (gE 8 0 (.iface 323 (.agg [])))<|.b 6 42 (a==15) (gE 8 0 (.iface 305 (.agg [])))<|gE 8 0 .nili
def aNf:=fun a b=>mB a|>.t b tv
def aNg:=fun a b c=>mB a|>.f b|>.t c tv
def aNh:=fun a b c d=>mB a|>.f b|>.f c|>.t d tv
def aNi:=fun a b c d e=>mB a|>.f b|>.f c|>.f d|>.t e tv
def aNj:=fun a b c d e f=>mB a|>.f b|>.f c|>.f d|>.f e|>.t f tv
def aNk:=fun a b c d e f g=>mB a|>.f b|>.f c|>.f d|>.f e|>.f f|>.t g tv
def aNl:=fun a b c d e f g i=>mB a|>.f b|>.f c|>.f d|>.f e|>.f f|>.f g|>.t i tv
def aNm:=fun a b c d e f g i j=>mB a|>.f b|>.f c|>.f d|>.f e|>.f f|>.f g|>.f i|>.t j tv
def aNn:=fun a b c d e f g i j k=>mB a|>.f b|>.f c|>.f d|>.f e|>.f f|>.f g|>.f i|>.f j|>.t k tv
def aNo:=fun a b c d e f g i j k l=>mB a|>.f b|>.f c|>.f d|>.f e|>.f f|>.f g|>.f i|>.f j|>.f k|>.t l tv
def aKB:=fun a b c d e f g i j k l m=>mB a|>.f b|>.f c|>.f d|>.f e|>.f f|>.f g|>.f i|>.f j|>.f k|>.f l|>.t m tv
def aKC:=fun a b c d e f g i j k l m n=>mB a|>.f b|>.f c|>.f d|>.f e|>.f f|>.f g|>.f i|>.f j|>.f k|>.f l|>.f m|>.t n tv
def aKD:=fun a b c d e f g i j k l m n o=>mB a|>.f b|>.f c|>.f d|>.f e|>.f f|>.f g|>.f i|>.f j|>.f k|>.f l|>.f m|>.f n|>.t o tv
def aKE:=fun a b c d e f g i j k l m n o p=>mB a|>.f b|>.f c|>.f d|>.f e|>.f f|>.f g|>.f i|>.f j|>.f k|>.f l|>.f m|>.f n|>.f o|>.t p tv
def aKF:=fun a b c d e f g i j k l m n o p q=>mB a|>.f b|>.f c|>.f d|>.f e|>.f f|>.f g|>.f i|>.f j|>.f k|>.f l|>.f m|>.f n|>.f o|>.f p|>.t q tv
def aKG:=fun a b c d e f g i j k l m n o p q r=>mB a|>.f b|>.f c|>.f d|>.f e|>.f f|>.f g|>.f i|>.f j|>.f k|>.f l|>.f m|>.f n|>.f o|>.f p|>.f q|>.t r tv
def aKH:=fun a b c d e f g i j k l m n o p q r s=>mB a|>.f b|>.f c|>.f d|>.f e|>.f f|>.f g|>.f i|>.f j|>.f k|>.f l|>.f m|>.f n|>.f o|>.f p|>.f q|>.f r|>.t s tv
def aKI:=fun a b c d e f g i j k l m n o p q r s t=>mB a|>.f b|>.f c|>.f d|>.f e|>.f f|>.f g|>.f i|>.f j|>.f k|>.f l|>.f m|>.f n|>.f o|>.f p|>.f q|>.f r|>.f s|>.t t tv
def aKJ:=fun a b c d e f g i j k l m n o p q r s t u=>mB a|>.f b|>.f c|>.f d|>.f e|>.f f|>.f g|>.f i|>.f j|>.f k|>.f l|>.f m|>.f n|>.f o|>.f p|>.f q|>.f r|>.f s|>.f t|>.t u tv
def aKK:=fun a b c d e f g i j k l m n o p q r s t u v=>mB a|>.f b|>.f c|>.f d|>.f e|>.f f|>.f g|>.f i|>.f j|>.f k|>.f l|>.f m|>.f n|>.f o|>.f p|>.f q|>.f r|>.f s|>.f t|>.f u|>.t v tv
def aKL:=fun a b c d e f g i j k l m n o p q r s t u v w=>mB a|>.f b|>.f c|>.f d|>.f e|>.f f|>.f g|>.f i|>.f j|>.f k|>.f l|>.f m|>.f n|>.f o|>.f p|>.f q|>.f r|>.f s|>.f t|>.f u|>.f v|>.t w tv
def aKM:=fun a b c d e f g i j k l m n o p q r s t u v w x=>mB a|>.f b|>.f c|>.f d|>.f e|>.f f|>.f g|>.f i|>.f j|>.f k|>.f l|>.f m|>.f n|>.f o|>.f p|>.f q|>.f r|>.f s|>.f t|>.f u|>.f v|>.f w|>.t x tv
def aKN:=fun a b c d e f g i j k l m n o p q r s t u v w x y=>mB a|>.f b|>.f c|>.f d|>.f e|>.f f|>.f g|>.f i|>.f j|>.f k|>.f l|>.f m|>.f n|>.f o|>.f p|>.f q|>.f r|>.f s|>.f t|>.f u|>.f v|>.f w|>.f x|>.t y tv
def aKO:=fun a b c d e f g i j k l m n o p q r s t u v w x y z=>mB a|>.f b|>.f c|>.f d|>.f e|>.f f|>.f g|>.f i|>.f j|>.f k|>.f l|>.f m|>.f n|>.f o|>.f p|>.f q|>.f r|>.f s|>.f t|>.f u|>.f v|>.f w|>.f x|>.f y|>.t z tv
def aKP:=fun a b c d e f g i j k l m n o p q r s t u v w x y z A=>mB a|>.f b|>.f c|>.f d|>.f e|>.f f|>.f g|>.f i|>.f j|>.f k|>.f l|>.f m|>.f n|>.f o|>.f p|>.f q|>.f r|>.f s|>.f t|>.f u|>.f v|>.f w|>.f x|>.f y|>.f z|>.t A tv
def aKQ:=fun a b c d e f g i j k l m n o p q r s t u v w x y z A B=>mB a|>.f b|>.f c|>.f d|>.f e|>.f f|>.f g|>.f i|>.f j|>.f k|>.f l|>.f m|>.f n|>.f o|>.f p|>.f q|>.f r|>.f s|>.f t|>.f u|>.f v|>.f w|>.f x|>.f y|>.f z|>.f A|>.t B tv
def aKR:=fun a b c d e f g i j k l m n o p q r s t u v w x y z A B C=>mB a|>.f b|>.f c|>.f d|>.f e|>.f f|>.f g|>.f i|>.f j|>.f k|>.f l|>.f m|>.f n|>.f o|>.f p|>.f q|>.f r|>.f s|>.f t|>.f u|>.f v|>.f w|>.f x|>.f y|>.f z|>.f A|>.f B|>.t C tv
def aKS:=fun a b c d e f g i j k l m n o p q r s t u v w x y z A B C D=>mB a|>.f b|>.f c|>.f d|>.f e|>.f f|>.f g|>.f i|>.f j|>.f k|>.f l|>.f m|>.f n|>.f o|>.f p|>.f q|>.f r|>.f s|>.f t|>.f u|>.f v|>.f w|>.f x|>.f y|>.f z|>.f A|>.f B|>.f C|>.t D tv
def aKT:=fun a b c d e f g i j k l m n o p q r s t u v w x y z A B C D=>mB a|>.f b|>.f c|>.f d|>.f e|>.f f|>.f g|>.f i|>.f j|>.f k|>.f l|>.f m|>.f n|>.f o|>.f p|>.f q|>.f r|>.f s|>.f t|>.f u|>.f v|>.f w|>.f x|>.f y|>.f z|>.f A|>.f B|>.f C|>.f D tv
def aFe(a:List Pat)(b:Prog)(c:Int):TS:=⟨(tf 291 19 [(0,(iP a)),(1,(.func 277 [] [(.ptr 0 0)])),(4,(nI 0)),(7,(nI (a.length:Int))),(8,(nI c))] [kc f291 52,kl f291 52,.inBlock 0,kc f291 7]),[(tf 276 9 [(4,(bV false)),(5,(iP a)),(6,(.func 277 [] [(.ptr 0 0)]))] [ko f276 6 2,kc f276 7]),(tf 260 9 [(4,(bV false)),(5,(iP a)),(6,(.func 277 [] [(.ptr 0 0)]))] [ko f260 6 2,kc f260 7])],[oC 0 [(.func 258 [(Prog.av b)] [])]],1⟩
def tA(b:Prog)(a:Node)(c:Int):TS:=⟨(tf 291 19 [(0,(iP a.pats)),(1,(.func 277 [] [(.ptr 0 0)])),(4,(nI 0)),(7,(nI (a.pats.length:Int))),(8,(nI c))] [kc f291 52,kl f291 52,.inBlock 0,kc f291 7]),[(tf 276 9 [(4,(bV false)),(5,(iP a.pats)),(6,(.func 277 [] [(.ptr 0 0)]))] [ko f276 6 2,kc f276 7]),(tf 260 9 [(4,(bV false)),(5,(iP a.pats)),(6,(.func 277 [] [(.ptr 0 0)]))] [ko f260 6 2,kc f260 7]),(tf 229 35 [(4,(bV false)),(29,(bV true)),(31,(iP a.pats)),(32,(.func 256 [] [(.ptr 1 0)]))] [ko f229 62 13,kc f229 63])],[oC 0 [(.func 256 [] [(.ptr 1 0)])],oC 1 [(iN b.nodes),(iI b.funs),(nI b.main),(iC b.cons)]],2⟩
def vH(a:List aB)(c:Int)(b:List (aB×Bool)):TS:=⟨(tf 225 21 [(0,(iS a)),(2,(bV false)),(3,(.map 0)),(7,(iS a)),(8,(nI (a.length:Int))),(9,(nI c))] [kc f225 116,kl f225 116,.inBlock 0,kc f225 15]),[],[(0,(.map (aU aH eP 0 b) b.length),true)],1⟩
def aWr (a:List Pat)(b:Prog):=(tT 0 (start PP 260 [(iP a),(.func 258 [(Prog.av b)] [])])<|gm 27 aE a<|.W 4 1 [0] (aFe a b 0)) tv
def bFq(b:List Pat)(c:Prog)(a:Int):=tT 0 (aFe b c a)<|gd 5 9 (a< (b.length:Int)) (aF6 14 b a<|fun d e f g=>gV 11 258 [(Prog.av c),(.agg [(nI d),(nI e),(aH f),(iP g)])]<|fun i=>.b 6 16 (!i) (gE 17 2 (bV (!(decide (a≥0)))))<|gw 5 18 (a+1)<|.W 3 2 [0] (aFe b c (a+1)))<|gE 17 1 (bV true)
def aWs:=fun a b c d e f g i j k l m n=>bFq a b c|>.t j d e f g k l i m|>.t n tv
def aWt:=fun a b c d e f g i j k l m n o=>bFq a b c|>.t j d e f g k l i m|>.f n o tv
def aWu:=fun a b c d=>bFq a b c|>.f d tv
def aDv(b:Prog)(a:Node):=tT 0 (start PP 229 [(Prog.av b),(Node.av a)])<|.o (gp 10 255 [(nI a.op)] (.iface 305 (.agg []))<|gm 44 aE a.pats<|gV 0 222 [(nI (a.pats.length:Int)),(nI 1),(nI 5)]<|fun c=>.b 1 11 c (gl 2 aY a.kids<|gm 2 aE a.pats<|gw 1 18 (1+ (a.pats.length:Int))<|.b 7 24 ((a.kids.length:Int) == (1+ (a.pats.length:Int))) (gV 2 259 [(Prog.av b),(Node.av a)]<|fun d=>.b 2 29 d (gm 31 aE a.pats<|.W 4 6 [5,0] (tA b a 0))<|gE 8 5 (bV false))<|gE 13 5 (bV false))<|gE 27 5 (bV false))<|.o (gp 10 255 [(nI a.op)] (.iface 323 (.agg []))<|gm 24 aE a.pats<|gd 2 14 ((a.pats.length:Int) >0) (gE 6 2 (bV false))<|.o (.y fun c:Bool=>.y fun d:Con=>.i [rn 22,.reg (rd 5 (.ans (.len (b.cons.length:Int))::.d::.pure (bV c)::.d::.b 15 true::.d::.d::.ans (.len (a.kids.length:Int))::rd 5 (.ans (.idx (Con.av d))::rd 5 [])))] [hl Con.av b.cons,hA (Pure PP 222 [(nI a.n),(nI 0),(nI (IntKind.i64.wrap ((b.cons.length:Int) -1)))] (bV c)),hA (c=true),hl aY a.kids,hA (0≤a.n),.a (((b.cons)[a.n.toNat]?) =some d) (bS (f:=Con.av))]<|.b 3 24 ((a.kids.length:Int) ==d.args) (gV 2 259 [(Prog.av b),(Node.av a)]<|fun f=>.b 2 29 f (gm 31 aE a.pats<|.W 4 6 [5,0] (tA b a 0)) .x)<|gE 13 5 (bV false))<|.y fun c:Bool=>.i [rn 22,.reg (rd 5 (.ans (.len (b.cons.length:Int))::.d::.pure (bV c)::.d::.b 15 false::rd 14 []))] [hl Con.av b.cons,hA (Pure PP 222 [(nI a.n),(nI 0),(nI (IntKind.i64.wrap ((b.cons.length:Int) -1)))] (bV c)),hA (c=false)]<|gE 16 5 (bV false))<|.o (.y fun e:Int=>gp 10 255 [(nI a.op)] (.iface 322 (nI e))<|gm 24 aE a.pats<|gd 2 14 ((a.pats.length:Int) >0) (gE 6 2 (bV false))<|gl 24 aY a.kids<|.b 7 24 ((a.kids.length:Int) ==e) (gV 2 259 [(Prog.av b),(Node.av a)]<|fun d=>.b 2 29 d (gm 31 aE a.pats<|.W 4 5 [4,0] (tA b a 0))<|gE 8 4 (bV false))<|gE 13 4 (bV false))<|gp 10 255 [(nI a.op)] (.nili)<|gE 18 2 (bV false)
def aTI:=fun a b c d e f g i j k l=>aDv a b|>.1 e c f|>.t g i|>.t j d k|>.t l tv
def aTJ:=fun a b c d e f g i j k l=>aDv a b|>.1 e c f|>.t g i|>.t j d k|>.f l tv
def aTK:=fun a b c d e f g i=>aDv a b|>.1 d c e|>.t f g|>.f i tv
def aTL:=fun a b c d e f=>aDv a b|>.1 d c e|>.f f tv
def aTM:=fun a b c d=>aDv a b|>.2|>.1 c|>.t d tv
def aTN:=fun a b c d e f g i j k l m n o=>aDv a b|>.2|>.1 f|>.f g|>.1 c d i j k l|>.t m e n|>.t o tv
def aTO:=fun a b c d e f g i j k l=>aDv a b|>.2|>.1 e|>.f f|>.1 c d g i j k|>.f l tv
def aTP:=fun a b c d e f g=>aDv a b|>.2|>.1 d|>.f e|>.2 c f g tv
def aTQ:=fun a b c d e=>aDv a b|>.2|>.2|>.1 c d|>.t e tv
def aQt:=fun a b c d e f g i j=>aDv a b|>.2|>.2|>.1 c e|>.f f|>.t g d i|>.t j tv
def aQu:=fun a b c d e f g i j=>aDv a b|>.2|>.2|>.1 c e|>.f f|>.t g d i|>.f j tv
def aQv:=fun a b c d e f=>aDv a b|>.2|>.2|>.1 c d|>.f e|>.f f tv
def aQw:=fun a b c=>aDv a b|>.2|>.2|>.2 c tv
def aZ0(c:Prog)(b:Node)(a:Int):=tT 0 (tA c b a)<|gd 5 9 (a< (b.pats.length:Int)) (aF6 14 b.pats a<|fun d e f g=>gpI 20 257 [(.agg [(nI d),(nI e),(aH f),(iP g)]),(nI 12)]<|fun i=>gd 2 7 (i≤12) (gV 2 258 [(Prog.av c),(.agg [(nI d),(nI e),(aH f),(iP g)])]<|fun j=>.b 11 16 (!j) (gE 22 4 (bV (!(decide (a≥0)))))<|gw 5 18 (a+1)<|.W 3 4 [0,1] (tA c b (a+1)))<|gE 36 4 (bV (!(decide (a≥0)))))<|gE 22 2 (bV true)
def aTR:=fun a b c d e f g i j k l m n o p q=>aZ0 a b c|>.t k d e f g l m i n|>.t o j p|>.t q tv
def aTS:=fun a b c d e f g i j k l m n o p q r=>aZ0 a b c|>.t k d e f g l m i n|>.t o j p|>.f q r tv
def aTT:=fun a b c d e f g i j k l m n=>aZ0 a b c|>.t j d e f g k l i m|>.f n tv
def aTU:=fun a b c d=>aZ0 a b c|>.f d tv
def aNp (a:List aB):=(tT 0 (start PP 225 [(iS a)])<|.i [rn 7,.mset 0 (aU aH eP 0 ([] :List (aB×Bool))) ([] :List (aB×Bool)).length] [hr (aU aH eP 0 ([] :List (aB×Bool))),hr (length ([] :List (aB×Bool)))]<|gl 6 aH a<|.W 4 1 [0] (vH a 0 ([] :List (aB×Bool)))) ⟨aM (fun _=>rfl) (fun _=>rfl) _ _ _,trivial⟩
def bGl(b:List aB)(d:Int)(a:List (aB×Bool)):=tT 0 (vH b d a)<|gd 5 10 (d< (b.length:Int)) (gX aH 6 b d<|fun c=>.i [rn 6,.mput (aU aH eP 0 (cB c true a)) (cB c true a).length] [.q (p:=uV (aU aH eP 0 a) a.length (aH c) (eP true) =some ((aU aH eP 0 (cB c true a)),length (cB c true a))) (aKu eZ _ _ _)]<|gw 4 15 (d+1)<|.W 3 1 [0] (vH b (d+1) (cB c true a)))<|.i [rn 6,sI 17 (a.length:Int)] [.q (p:=(nI ((aU aH eP 0 a).length:Int)) = (nI (a.length:Int))) (aVm _ _ _)]<|gl 1 aH b<|gE 4 1 (bV ((a.length:Int) == (b.length:Int)))
def aNq:=fun a b c d e f g i=>bGl a b c|>.t e d f g i ⟨aM (fun _=>rfl) (fun _=>rfl) _ _ _,trivial⟩
def aNr:=fun a b c d=>bGl a b c|>.f d tv
def aFf(a:List Node)(b:Prog)(c:Int):TS:=⟨(tf 146 19 [(0,(iN a)),(1,(.func 254 [] [(.ptr 0 0)])),(4,(nI 0)),(7,(nI (a.length:Int))),(8,(nI c))] [kc f146 52,kl f146 52,.inBlock 0,kc f146 7]),[(tf 83 9 [(4,(bV false)),(5,(iN a)),(6,(.func 254 [] [(.ptr 0 0)]))] [ko f83 6 2,kc f83 7]),(tf 228 9 [(4,(bV false)),(5,(iN a)),(6,(.func 254 [] [(.ptr 0 0)]))] [ko f228 6 2,kc f228 7])],[oC 0 [(.func 229 [(Prog.av b)] [])]],1⟩
def aFg(a:List Con)(b:Int):TS:=⟨(tf 180 19 [(0,(iC a)),(1,(.func 253 [] [(.ptr 0 0)])),(4,(nI 0)),(7,(nI (a.length:Int))),(8,(nI b))] [kc f180 52,kl f180 52,.inBlock 0,kc f180 7]),[(tf 252 9 [(4,(bV false)),(5,(iC a)),(6,(.func 253 [] [(.ptr 0 0)]))] [ko f252 6 2,kc f252 7]),(tf 223 9 [(4,(bV false)),(5,(iC a)),(6,(.func 253 [] [(.ptr 0 0)]))] [ko f223 6 2,kc f223 7])],[oC 0 [(.func 224 [] [])]],1⟩
def aFh(a:List Int)(b:Int):TS:=⟨(tf 278 19 [(0,(.ilst 1 (jI a) true)),(1,(.func 262 [] [(.ptr 0 0)])),(4,(nI 0)),(7,(nI (a.length:Int))),(8,(nI b))] [kc f278 52,kl f278 52,.inBlock 0,kc f278 7]),[(tf 261 9 [(4,(bV false)),(5,(.ilst 1 (jI a) true)),(6,(.func 262 [] [(.ptr 0 0)]))] [ko f261 6 2,kc f261 7]),(tf 230 9 [(4,(bV false)),(5,(.ilst 1 (jI a) true)),(6,(.func 262 [] [(.ptr 0 0)]))] [ko f230 6 2,kc f230 7])],[oC 0 [(.func 231 [] [])]],1⟩
def aFi(a:List Con)(c:Int)(b:List aB):TS:=⟨(tf 226 22 [(1,(.func 227 [] [])),(4,.nils),(5,(.gl 0 1 0 b.length false)),(8,(iC a)),(9,(nI (a.length:Int))),(10,(nI c))] [kc f226 116,kl f226 116,.inBlock 0,kc f226 15]),[],[oL 0 1 (map aH b)],1⟩
def vI(a:Prog)(c:Int)(b:List Int):TS:=⟨(tf 190 128 [kp 1 0,(2,(bV false)),(3,(nI (a.nodes.length:Int))),(4,(.gl 1 1 0 b.length true)),(77,(iI a.funs)),(78,(nI (a.funs.length:Int))),(79,(nI c))] [kc f190 1012,kl f190 1012,.inBlock 0,kc f190 127]),[],[oC 0 [(iN a.nodes),(iI a.funs),(nI a.main),(iC a.cons)],oL 1 1 (jI b)],2⟩
def qK(a:Prog)(b:List Int)(c:Int):TS:=⟨(tf 190 128 [(2,(bV false)),(3,(nI (a.nodes.length:Int))),(4,(.gl 0 1 0 b.length true)),(97,(iN a.nodes)),(98,(nI (a.nodes.length:Int))),(99,(nI c))] [kc f190 2036,kl f190 2036,.inBlock 2,kc f190 255]),[],[oL 0 1 (jI b)],1⟩
def vJ(a:Prog)(c:List Int)(d:Int)(b:List Int)(e f g:Int):TS:=⟨(tf 190 128 [(2,(bV false)),(3,(nI (a.nodes.length:Int))),(4,(.gl 0 1 0 b.length true)),(7,(nI f)),(97,(iN a.nodes)),(98,(nI (a.nodes.length:Int))),(99,(nI g)),(105,(iI c)),(106,(nI d)),(107,(nI e))] [kc f190 521420,kl f190 521420,.inBlock 4,.inBlock 3,kc f190 16295,kl f190 2036,.inBlock 2,kc f190 255]),[],[oL 0 1 (jI b)],1⟩
def aWv (a:List Node)(b:Prog):=(tT 0 (start PP 228 [(iN a),(.func 229 [(Prog.av b)] [])])<|gl 27 Node.av a<|.W 4 1 [0] (aFf a b 0)) tv
def bFr(b:List Node)(c:Prog)(a:Int):=tT 0 (aFf b c a)<|gd 5 9 (a< (b.length:Int)) (gX Node.av 14 b a<|fun d=>gV 11 229 [(Prog.av c),(Node.av d)]<|fun e=>.b 6 16 (!e) (gE 17 2 (bV (!(decide (a≥0)))))<|gw 5 18 (a+1)<|.W 3 2 [0] (aFf b c (a+1)))<|gE 17 1 (bV true)
def aWw:=fun a b c d e f g i j k=>bFr a b c|>.t f d g i e j|>.t k tv
def aWx:=fun a b c d e f g i j k l=>bFr a b c|>.t f d g i e j|>.f k l tv
def aWy:=fun a b c d=>bFr a b c|>.f d tv
def aWz (a:List Con):=(tT 0 (start PP 223 [(iC a),(.func 224 [] [])])<|gl 27 Con.av a<|.W 4 1 [0] (aFg a 0)) tv
def bFs(b:List Con)(a:Int):=tT 0 (aFg b a)<|gd 5 9 (a< (b.length:Int)) (gX Con.av 14 b a<|fun c=>gV 11 224 [(.agg [(aH c.name),(nI c.args)])]<|fun d=>.b 6 16 (!d) (gE 17 2 (bV (!(decide (a≥0)))))<|gw 5 18 (a+1)<|.W 3 2 [0] (aFg b (a+1)))<|gE 17 1 (bV true)
def aWA:=fun a b c d e f g i j=>bFs a b|>.t e c f g d i|>.t j tv
def aWB:=fun a b c d e f g i j k=>bFs a b|>.t e c f g d i|>.f j k tv
def aWC:=fun a b c=>bFs a b|>.f c tv
def aWD (a:List Int):=(tT 0 (start PP 230 [(.ilst 1 (jI a) true),(.func 231 [] [])])<|gl 27 aY a<|.W 4 1 [0] (aFh a 0)) tv
def bFt(b:List Int)(a:Int):=tT 0 (aFh b a)<|gd 5 9 (a< (b.length:Int)) (gX aY 14 b a<|fun c=>.b 29 16 (!(c==1)) (gE 17 1 (bV (!(decide (a≥0)))))<|gw 5 18 (a+1)<|.W 3 1 [0] (aFh b (a+1)))<|gE 17 1 (bV true)
def aWE:=fun a b c d e f g=>bFt a b|>.t d c e f|>.t g tv
def aWF:=fun a b c d e f g i=>bFt a b|>.t d c e f|>.f g i tv
def aWG:=fun a b c=>bFt a b|>.f c tv
def aWH (a:List Con):=(tT 0 (start PP 226 [(iC a),(.func 227 [] [])])<|gl 12 Con.av a<|.i [rn 4,.nilL 5 1] []<|gu 0 0 (map aH ([] :List aB))<|gs 0 5 (.gl 0 1 0 ([] :List aB).length false)<|.W 0 1 [0] (aFi a 0 ([] :List aB))) ⟨kk,trivial⟩
def bGm(c:List Con)(a:Int)(b:List aB):=tT 0 (aFi c a b)<|gd 5 11 (a< (c.length:Int)) (gX Con.av 6 c a<|fun d=>ga 23 aH b [d.name]<|gw 5 20 (a+1)<|.W 3 5 [4] (aFi c (a+1) (b++ [d.name])))<|gz 8 4 0 1 aH b false<|gE 0 1 (iS b)
def aWI:=fun a b c d e f g i j=>bGm a b c|>.t e d f g i j ⟨kk,trivial⟩
def aWJ:=fun a b c d=>bGm a b c|>.f d tv
def aKU(a:Prog):=tT 0 (start PP 190 [(Prog.av a)])<|gl 10 Node.av a.nodes<|gd 8 17 ((a.nodes.length:Int) >300) (gE 40 1 (bV false))<|gl 3 aY a.funs<|gd 3 24 ((a.funs.length:Int) <1) (gE 33 1 (bV false))<|gl 3 aY a.funs<|gd 4 32 ((a.funs.length:Int) > (a.nodes.length:Int)) (gE 25 1 (bV false))<|gl 3 Con.av a.cons<|gd 3 39 ((a.cons.length:Int) >20) (gE 18 1 (bV false))<|gl 6 aY a.funs<|gw 1 47 ((a.funs.length:Int) - (1:Int))<|gV 0 222 [(nI a.main),(nI 0),(nI ((a.funs.length:Int) - (1:Int)))]<|fun c=>.b 3 50 (!c) (gE 6 1 (bV false))<|gV 8 223 [(iC a.cons),(.func 224 [] [])]<|fun d=>.b 2 56 (!d) (gE 23 1 (bV false))<|.y fun b:List aB=>gp 3 226 [(iC a.cons),(.func 227 [] [])] (iS b)<|gV 0 225 [(iS b)]<|fun e=>.b 3 64 (!e) (gE 15 1 (bV false))<|gV 5 228 [(iN a.nodes),(.func 229 [(Prog.av a)] [])]<|fun f=>.b 3 72 (!f) (gE 6 1 (bV false))<|.i [rn 5,.mk a.nodes.length] [hr ((a.nodes.length:Nat) :Int),hr ((a.nodes.length:Nat) :Int),hA (a.nodes.length<100000)]<|.i [.lset 1 (jI (replicate a.nodes.length (0:Int)))] [.q (p:=replicate a.nodes.length (aY (0:Int)) = (jI (replicate a.nodes.length (0:Int)))) (aCv _ _ _)]<|.i [.set 74 (.gl 1 1 0 (replicate a.nodes.length (0:Int)).length true)] [.q (p:=(AV.gl 1 1 0 a.nodes.length true) = (.gl 1 1 0 (replicate a.nodes.length (0:Int)).length true)) (bD (List.length_replicate ..).symm)]<|gl 8 aY a.funs<|.W 4 2 [0,1] (vI a 0 (replicate a.nodes.length (0:Int)))
def aNs:=fun a b=>aKU a|>.t b tv
def aNt:=fun a b c=>aKU a|>.f b|>.t c tv
def aNu:=fun a b c d=>aKU a|>.f b|>.f c|>.t d tv
def aNv:=fun a b c d e=>aKU a|>.f b|>.f c|>.f d|>.t e tv
def aNw:=fun a b c d e f g i j=>aKU a|>.f c|>.f d|>.f e|>.f f g b i|>.t j tv
def aNx:=fun a b c d e f g i j k l m=>aKU a|>.f d|>.f e|>.f f|>.f g i b j|>.f k c l|>.t m tv
def aNy:=fun a b c d e f g i j k l m n o p q r=>aKU a|>.f f|>.f g|>.f i|>.f j k b l|>.f m c n|>.f o d p e q|>.t r tv
def aNz:=fun a b c d e f g i j k l m n o p q r s t u=>aKU a|>.f g|>.f i|>.f j|>.f k l b m|>.f n c o|>.f p d q e r|>.f s f t|>.t u tv
def aNA:=fun a b c d e f g i j k l m n o p q r s t u v=>aKU a|>.f g|>.f i|>.f j|>.f k l b m|>.f n c o|>.f p d q e r|>.f s f t|>.f u v ⟨kk,trivial⟩
def bFu(d:Prog)(e:Int)(a:List Int):=tT 0 (vI d e a)<|gd 5 80 (e< (d.funs.length:Int)) (gX aY 6 d.funs e<|fun b=>gw 9 85 ((d.nodes.length:Int) -1)<|gV 0 222 [(nI b),(nI 0),(nI ((d.nodes.length:Int) -1))]<|fun f=>.b 2 87 (!f) (gE 6 2 (bV false))<|.i [rn 5,.ans (.ix)] [hA (0≤b),hA (b< (a.length:Int))]<|.y fun c:Int=>gj aY 0 a b.toNat c<|gw 1 92 (c+1)<|.i [.ans (.ix)] [hA (0≤b),hA (b< (a.length:Int))]<|.i [.st (aY c) (aY (c+1))] [.a (((a)[b.toNat]?) =some c) (dN (f:=aY)),hr (some (aY (c+1)))]<|.i [.lset 1 (jI (set a b.toNat (c+1)))] [.q (p:=(jI a).set (0+b.toNat) (aY (c+1)) = (jI (set a b.toNat (c+1)))) (iF _ _ _ _)]<|.i [.set 4 (.gl 1 1 0 (set a b.toNat (c+1)).length true)] [.q (p:=(AV.gl 1 1 0 a.length true) = (.gl 1 1 0 (set a b.toNat (c+1)).length true)) (bD (length_set ..).symm)]<|.i [.set 88 (.gl 1 1 0 (set a b.toNat (c+1)).length true)] [.q (p:=(AV.gl 1 1 0 a.length true) = (.gl 1 1 0 (set a b.toNat (c+1)).length true)) (bD (length_set ..).symm)]<|gw 4 94 (e+1)<|.W 3 2 [0,1] (vI d (e+1) (set a b.toNat (c+1))))<|gl 8 Node.av d.nodes<|.W 4 2 [1] (qK d a 0)
def aNB:=fun a b c d e f g i j k l=>bFu a b c|>.t f d g i j e k|>.t l tv
def aNC:=fun d e f g i j k l m n o p a b c q r=>bFu d e f|>.t k g l m n i o|>.f p a b j c q a b c r ⟨kk,trivial⟩
def aND:=fun a b c d=>bFu a b c|>.f d ⟨kk,trivial⟩
def bGn(c:Prog)(d:List Int)(a:Int):=tT 0 (qK c d a)<|gd 5 100 (a< (c.nodes.length:Int)) (gX Node.av 7 c.nodes a<|fun b=>gl 9 aY b.kids<|.W 4 2 [0] (vJ c b.kids (b.kids.length:Int) d 0 a a))<|gz 5 126 0 1 aY d true<|gV 0 230 [(.ilst 1 (jI d) true),(.func 231 [] [])]<|fun b=>gE 3 1 (bV b)
def aNE:=fun a b c d e f g=>bGn a b c|>.t e d f g ⟨kk,trivial⟩
def aNF:=fun a b c d e f=>bGn a b c|>.f e d f tv
def bFv(d:Prog)(i:List Int)(j:Int)(a:List Int)(e f g:Int):=tT 0 (vJ d i j a e f g)<|gd 5 108 (e<j) (gX aY 6 i e<|fun b=>gw 9 113 (f+1)<|gw 2 115 ((d.nodes.length:Int) -1)<|gV 0 222 [(nI b),(nI (f+1)),(nI ((d.nodes.length:Int) -1))]<|fun k=>.b 2 117 (!k) (gE 6 1 (bV false))<|.i [rn 5,.ans (.ix)] [hA (0≤b),hA (b< (a.length:Int))]<|.y fun c:Int=>gj aY 0 a b.toNat c<|gw 1 122 (c+1)<|.i [.ans (.ix)] [hA (0≤b),hA (b< (a.length:Int))]<|.i [.st (aY c) (aY (c+1))] [.a (((a)[b.toNat]?) =some c) (dN (f:=aY)),hr (some (aY (c+1)))]<|.i [.lset 0 (jI (set a b.toNat (c+1)))] [.q (p:=(jI a).set (0+b.toNat) (aY (c+1)) = (jI (set a b.toNat (c+1)))) (iF _ _ _ _)]<|.i [.set 4 (.gl 0 1 0 (set a b.toNat (c+1)).length true)] [.q (p:=(AV.gl 0 1 0 a.length true) = (.gl 0 1 0 (set a b.toNat (c+1)).length true)) (bD (length_set ..).symm)]<|.i [.set 118 (.gl 0 1 0 (set a b.toNat (c+1)).length true)] [.q (p:=(AV.gl 0 1 0 a.length true) = (.gl 0 1 0 (set a b.toNat (c+1)).length true)) (bD (length_set ..).symm)]<|gw 4 124 (e+1)<|.W 3 1 [0] (vJ d i j (set a b.toNat (c+1)) (e+1) f g))<|gw 5 125 (g+1)<|.W 3 1 [0] (qK d a (g+1))
def aNG:=fun a b c d e f g i j k l m n o p q=>bFv a b c d e f g|>.t k i l m n o j p|>.t q tv
def aNH:=fun d e f g i j k l m n o p q r s t u a b c v w=>bFv d e f g i j k|>.t o l p q r s m t|>.f u a b n c v a b c w ⟨kk,trivial⟩
def aNI:=fun a b c d e f g i j=>bFv a b c d e f g|>.f i j ⟨kk,trivial⟩
def bGo(a:Prog):=tT 0 (start PP 141 [(Prog.av a)])<|gV 10 190 [(Prog.av a)]<|fun b=>.b 2 6 (!b) (gE 6 1 (nI 2))<|gE 7 1 (nI 0)
def aQx:=fun a b c d=>bGo a b c|>.t d tv
def aQy:=fun a b c d=>bGo a b c|>.f d tv
theorem gG (n lo hi:Int) :Pure PP 222 [.int .i64 n,.int .i64 lo,.int .i64 hi] (.bool (dG n lo hi)) :=by
 refine aV (by kernel_rfl) rfl rfl ?_;by_cases h:n≥lo
 · have e:dG n lo hi=decide (n≤hi) :=by unfold dG;rw [decide_eq_true (show lo≤n from h),Bool.true_and]
   rw [e];exact aZX n lo hi (decide_eq_true h)
 · have e:dG n lo hi=false:=by unfold dG;rw [decide_eq_false (show ¬lo≤n from h),Bool.false_and]
   rw [e];exact aZY n lo hi (decide_eq_false h)
theorem aDw (n:Int) :Pure PP 275 [.int .i64 n] (.bool (dG n (-1000000000) 1000000000)) :=
 aV (by kernel_rfl) rfl rfl (aWd n _ (gG n _ _))
theorem aTV (b:ByteArray)(i:Nat)(h:128≤ (b.get! i).toNat) :128≤ (Utf8.decode b i).1:=by
 unfold Utf8.decode Utf8.runeError;simp only [add_zero];rw [if_neg (show ¬ (b.get! i).toNat<0x80 by omega)]
 repeat' split
 all_goals first
  |assumption
  | (simp_all;done)
  | (rename_i q;simp only [Bool.and_eq_true,decide_eq_true_eq,ge_iff_le]at q;simp only;omega)
theorem aZ1 {s:aB}{i:Nat}{c:UInt8}(h:s[i]?=some c) :∃r d,aO1 (length s) (aA s) i=some (r,d) ∧ (c.toNat<128→r=c.toNat∧d=1) ∧ (128≤c.toNat→128≤r) :=by
 have hi:= (List.getElem?_eq_some_iff.1 h).1;have hb:=byte_at h;unfold aO1;have e1:blt i (length s) =true:=by rw [dC];exact decide_eq_true hi
 have e2:mod (div (aA s) (pow 256 i)) 256=c.toNat:=hb;rw [e1,e2];simp only [cond];by_cases k:c.toNat<128
 · have e3:blt c.toNat 128=true:=by rw [dC];exact decide_eq_true k
   rw [e3];exact⟨_,_,rfl,fun _=> ⟨rfl,rfl⟩,fun g=>by omega⟩
 · have e3:blt c.toNat 128=false:=by rw [dC];exact decide_eq_false k
   rw [e3];refine⟨_,_,rfl,fun g=>by omega,fun _=>?_⟩;have hn:aT (length s) (aA s) =s:=fV s;rw [hn];have hg: ((⟨⟨s⟩⟩ :ByteArray).get! (i+0)).toNat=c.toNat:=by
    simp only [add_zero,ByteArray.get!];have: (⟨s⟩ :Array UInt8)[i]! =c:=by
     rw [Array.getElem!_eq_getD,Array.getD_eq_getD_getElem?,show(⟨s⟩ :Array UInt8) =s.toArray from rfl,List.getElem?_toArray,h];rfl
    rw [this]
   exact aTV _ _ (by rw [add_zero]at hg;rw [hg];omega)
theorem aEC (s:aB) :∀ (t:aB) (i:Nat),s.drop i=t→Ends PP 0 (aAk s i).as (.ret (.bool (fG t))) (aD [] 0)
 | [],i,h=>aQn s i (bA h)
 | c :: t,i,h=>by
  obtain⟨h1,h2,h3⟩ :=aZ h;obtain⟨r,d,q1,q2,q3⟩ :=aZ1 h1;by_cases g1:c.toNat<97
  · have:= (q2 (by omega)).1;exact Ends.eqv (aQk s i r d h3 q1 sd) (by simp [fG,sG];omega)
  · by_cases g2:122<c.toNat
    · have hr:122<r:=by
       by_cases k:c.toNat<128
       ·have:= (q2 k).1;omega
       ·have:=q3 (by omega);omega
      exact Ends.eqv (aQl s i r d h3 q1 sd sd) (by simp [fG,sG];omega)
    · obtain⟨rfl,rfl⟩ :=q2 (by omega);refine(aQm s i _ _ h3 q1 sd sd).ends ?_;have e:sG c=true:=by simp [sG];omega
      exact Ends.eqv (aEC s t (i+1) h2) (by simp [fG,e])
theorem aED (s:aB) :Pure PP 161 [aH s] (.bool (fG s)) :=
 aV (by kernel_rfl) rfl rfl ((aQj s).ends (aEC s s 0 rfl))
theorem aNJ (s:aB) :Pure PP 171 [aH s] (.bool (jT s)) :=by
 refine aV (by kernel_rfl) rfl rfl ?_
 match s with
 | [] =>exact aQs [] rfl
 | c ::t=>
  have h0: (!(bM (length (c::t)) (aA (c::t)) 0 0)) =true:=by rw [dO];rfl
  by_cases g0: (c::t).length≤8
  · have g0': (decide (((length (c::t) :Nat) :Int) ≤ (8:Int))) =true:=sd;by_cases g1:65≤c.toNat
    · by_cases g2:c.toNat≤90
      ·exact Ends.eqv (aQo (c::t) c _ h0 g0' rfl sd sd (by simp) (aED t)) (by simp only [jT,decide_eq_true g0,decide_eq_true g1,decide_eq_true g2,Bool.true_and])
      ·exact Ends.eqv (aQp (c::t) c h0 g0' rfl sd sd) (by simp only [jT,decide_eq_false g2,Bool.and_false,Bool.false_and])
    ·exact Ends.eqv (aQq (c::t) c h0 g0' rfl sd) (by simp only [jT,decide_eq_false g1,Bool.and_false,Bool.false_and])
  ·exact Ends.eqv (aQr (c::t) h0 sd) (by simp only [jT,decide_eq_false g0,Bool.false_and])
theorem aTW (c:Con) :Pure PP 224 [Con.av c] (.bool (gB c)) :=by
 refine aV (by kernel_rfl) rfl rfl ?_;have hg:=aNJ c.name;cases k:jT c.name
 case false=>rw [k]at hg;exact Ends.eqv (aWg c false hg rfl) (by simp [gB,k])
 rw [k]at hg;exact Ends.eqv (aWf c true _ hg rfl (gG _ _ _)) (by simp [gB,k])
def pA (p:Prog)(x:Node) :Bool:=if x.op=14 then true else bP p x.op x.n
theorem aTX (p:Prog)(x:Node)(hf:p.funs.length≤1000) :Ends PP 0 (start PP 259 [Prog.av p,Node.av x]).as (.ret (.bool (pA p x))) (aD [] 0) :=by
 cases hb1: (x.op== (1:Int))
 case true=>exact Ends.eqv (aM9 p x  (dG (x.n) (-1000000000) 1000000000) hb1 (aDw (x.n))) (by simp_all [pA,bP] <;>rfl)
 cases hb2: (x.op== (2:Int))
 case true=>exact Ends.eqv (aNa p x  (dG (x.n) 0 1) hb1 hb2 (gG (x.n) 0 1)) (by simp_all [pA,bP] <;>rfl)
 cases hb3: (x.op== (24:Int))
 case true=>exact Ends.eqv (aNb p x  (dG (x.n) 0 3) hb1 hb2 hb3 (gG (x.n) 0 3)) (by simp_all [pA,bP] <;>rfl)
 cases hb4: (x.op== (4:Int))
 case true=>exact Ends.eqv (aNc p x  (dG (x.n) (0- ((length p.funs:Nat) :Int)) 29) hb1 hb2 hb3 hb4 sdI (gG (x.n) (0- ((length p.funs:Nat) :Int)) 29)) (by simp_all [pA,bP] <;>rfl)
 cases hb5: (x.op== (14:Int))
 case true=>exact Ends.eqv (aNd p x   hb1 hb2 hb3 hb4 hb5) (by simp_all [pA,bP] <;>rfl)
 exact Ends.eqv (aNe p x   hb1 hb2 hb3 hb4 hb5) (by simp_all [pA,bP] <;>rfl)
theorem aKV (p:Prog)(x:Node)(hf:p.funs.length≤1000) :Pure PP 259 [Prog.av p,Node.av x] (.bool (pA p x)) :=
 aV (by kernel_rfl) rfl rfl (aTX p x hf)
mutual
def qL :Pat→Int→Int
 | .mk _ _ _ ps,most=>mU ps most 1
def mU :List Pat→Int→Int→Int
 | [],_,n=>n
 |p::ps,most,n=>if n>most then n else mU ps most (n+qL p (most-n))
end
mutual
theorem aGq :∀ (p:Pat) (m:Int),0≤m→1≤qL p m∧qL p m≤m+1
 | .mk _ _ _ ps,m,h=>by rw [qL];exact aIJ ps m 1 (by omega) (by omega)
theorem aIJ :∀ (ps:List Pat) (m n:Int),1≤n→n≤m+1→1≤mU ps m n∧mU ps m n≤m+1
 | [],m,n,h1,h2=>by rw [mU];omega
 | p ::ps,m,n,h1,h2=>by
  rw [mU];split
  ·omega
  · have a:=aGq p (m-n) (by omega);exact aIJ ps m _ (by omega) (by omega)
end
mutual
theorem aNK :∀ (p:Pat) (m:Int),0≤m→ ((cU p:Int) ≤m→qL p m=cU p) ∧ (m<cU p→m<qL p m)
 | .mk _ _ _ ps,m,h=>by
  have:=aIK ps m 1 (by omega);simp only [qL,cU];constructor
  ·intro g;have:=this.1 (by omega);omega
  ·intro g;exact this.2 (by omega)
theorem aIK :∀ (ps:List Pat) (m n:Int),n≤m+1→ (n+bH ps≤m→mU ps m n=n+bH ps) ∧ (m<n+bH ps→m<mU ps m n)
 | [],m,n,h=>by simp only [mU,bH];omega
 | p ::ps,m,n,h=>by
  simp only [mU,bH];split
  ·omega
  · rename_i k;have a:=aNK p (m-n) (by omega);have l:=aGq p (m-n) (by omega);have b:=aIK ps m (n+qL p (m-n)) (by omega);constructor
    · intro g;have:=a.1 (by omega);have:=b.1 (by omega);omega
    · intro g;refine b.2 ?_;by_cases q: (cU p:Int) ≤m-n
      ·have:=a.1 q;omega
      ·have:=a.2 (by omega);omega
end
theorem aIL (p:Pat)(m:Int)(h:0≤m) :qL p m≤m↔ (cU p:Int) ≤m:=by
 have:=aNK p m h;constructor
 · intro g;by_cases k: (cU p:Int) ≤m
   ·exact k
   ·have:=this.2 (by omega);omega
 ·intro g;have:=this.1 g;omega
theorem aGr (f n:Int)(s:aB)(ps:List Pat)(m:Int)(hm:m≤1000)(ih:∀p∈ps,∀m:Int,0≤m→m≤1000→Pure PP 257 [Pat.av p,.int .i64 m] (.int .i64 (qL p m))) :
  ∀ (t:List Pat) (i:Nat) (k:Int),ps.drop i=t→ (i:Int) +1≤k→k≤m+1→Ends PP 0 (aCE f n s ps m k (i:Int)).as (.ret (.int .i64 (mU t m k))) (aD [] 0)
 | [],i,k,h,h1,h2=>by
  have:=bA h;rw [mU];exact aTC f n s ps m k i sd
 | .mk f' n' s' ps'::t,i,k,h,h1,h2=>by
  obtain⟨g1,g2,g3⟩ :=aZ h;rw [mU];split
  ·exact aTA f n s ps m k i f' n' s' ps' sd sd sd sd
  · rename_i hk;have l:=aGq (.mk f' n' s' ps') (m-k) (by omega);refine(aTB f n s ps m k i f' n' s' ps' _ sd sd sd sd sd (ih (.mk f' n' s' ps') (mem_of_getElem? g1) (m-k) (by omega) (by omega)) sd sd).ends ?_;exact aGr f n s ps m hm ih t (i+1) _ g2 (by omega) (by omega)
mutual
theorem aGs :∀ (p:Pat) (m:Int),0≤m→m≤1000→Pure PP 257 [Pat.av p,.int .i64 m] (.int .i64 (qL p m))
 | .mk f n s ps,m,h0,h1=>by
  refine aV (by kernel_rfl) (by simp [keylessL,qI,keyless]) rfl ?_;rw [qL];refine(aTz f n s ps m).ends ?_;exact aGr f n s ps m h1 (aIM ps) ps 0 1 rfl (by omega) (by omega)
theorem aIM :∀ (ps:List Pat),∀p∈ps,∀m:Int,0≤m→m≤1000→Pure PP 257 [Pat.av p,.int .i64 m] (.int .i64 (qL p m))
 | [],p,hp,_,_,_=>by cases hp
 | q::ps,p,hp,m,h0,h1=>by
  rcases List.mem_cons.1 hp with e|hp
  ·rw [e];exact aGs q m h0 h1
  ·exact aIM ps p hp m h0 h1
end
abbrev aEE(a:Prog):Nat ×AObj×Bool:=oC 1 [(iN a.nodes),(iI a.funs),(nI a.main),(iC a.cons)]
abbrev aRT(a:Option Addr)(b c:Nat)(d:List Int):Nat×AObj×Bool:=(2,(.lstv (Value.slice a b c) 1 (jI d)),true)
def aWK(b:Prog)(a:List ONode)(c:Int)(d e:List Int):TS:=cQ PP 100 [(.gl 0 4 0 a.length false),(Prog.av b),(nI c),(iI d),(iI e)] [oL 0 4 (map ONode.av a)] 1
def aBz(c:Prog)(a:List ONode)(l:Int)(d e:List Int)(f g:Int)(i:List Int)(j:List Pat)(k:Int)(b:List Pat):TS:=⟨(tf 100 104 [(0,(.gl 0 4 0 a.length false)),(3,(iI d)),(4,(iI e)),kp 6 1,(10,.nils),kp 11 2,(12,(nI (a.length:Int))),(13,(.gl 3 4 0 b.length false)),(14,(nI k))] [kc f100 2036,kl f100 2036,.inBlock 0,kc f100 255]),[],[oL 0 4 (map ONode.av a),aEE c,oC 2 [(nI f),(nI g),(iI i),(iP j)],oL 3 4 (Pats.av b)],4⟩
def aKW(b:Prog)(c:List ONode)(g:Int)(d e f:List Int)(a:List ONode):TS:=⟨(tf 100 104 [(0,(.gl 0 4 0 a.length false)),(3,(iI d)),(4,(iI e)),kp 6 1,(10,.nils),(12,(nI (c.length:Int))),(15,(iI f)),(16,(nI 0))] [kc f100 65524,kl f100 65524,.inBlock 2,kc f100 8191]),[],[oL 0 4 (map ONode.av a),aEE b],2⟩
def zB(d:Prog)(a:List ONode)(j:Int)(e f g:List Int)(b:List ONode)(c:List Int)(i:Int):TS:=⟨(tf 100 104 [(0,(.gl 0 4 0 b.length false)),(3,(iI e)),(4,(iI f)),kp 6 1,(10,.nils),(12,(nI (a.length:Int))),(15,(iI g)),(16,(nI i)),(91,(.gl 2 1 0 c.length false)),(93,(.ep 0 4 (0+ (a.length:Int).toNat) 2))] [ko f100 1048392 13,kc f100 1048393,.inBlock 3,kc f100 262099,kl f100 65524,.inBlock 2,kc f100 8191]),[],[oL 0 4 (map ONode.av b),aEE d,oL 2 1 (jI c)],3⟩
def aKX(f:Prog)(a:List ONode)(m:Int)(g i j:List Int)(b:List ONode)(k:List Int)(l:Int)(c:Option Addr)(d e:Nat):TS:=⟨(tf 100 104 [(0,(.gl 0 4 0 b.length false)),(3,(iI g)),(4,(iI i)),kp 6 1,(10,.nils),(12,(nI (a.length:Int))),(15,(iI j)),(16,(nI l)),(91,(.val (Value.slice c d e))),(93,(.ep 0 4 (0+ (a.length:Int).toNat) 2))] [ko f100 1048392 13,kc f100 1048393,.inBlock 3,kc f100 262099,kl f100 65524,.inBlock 2,kc f100 8191]),[],[oL 0 4 (map ONode.av b),aEE f,aRT c d e k],3⟩
def aKY(b:Prog)(c:List ONode)(k:Int)(d e f:List Int)(a:List ONode)(g:List Int)(i:Value)(j:Int):TS:=⟨(tf 100 104 [(0,(.gl 0 4 0 a.length false)),(3,(iI d)),(4,(iI e)),kp 6 1,(10,.nils),(12,(nI (c.length:Int))),(15,(iI f)),(16,(nI j))] [kc f100 65524,kl f100 65524,.inBlock 2,kc f100 8191]),[],[oL 0 4 (map ONode.av a),aEE b,(2,(.lstv i 1 (jI g)),true)],3⟩
def aZ2(b:Prog)(f:List ONode)(c:Int)(d e:List Int):=tT 0 (aWK b f c d e)<|gX Node.av 10 b.nodes c<|fun a=>.b 17 27 (a.op==4) (gd 5 31 (a.n<0) (gw 6 35 ((-1:Int) -a.n)<|gX aY 0 d ((-1:Int) -a.n)<|fun g=>gw 2 38 ((-1:Int) -g)<|.b 10 42 (a.op==14) .x<|.i [rn 13,.nilL 13 4] []<|gu 0 3 (Pats.av ([] :List Pat))<|gs 0 13 (.gl 3 4 0 ([] :List Pat).length false)<|.W 0 4 [0,1,2,3] (aBz b f c d e a.op ((-1:Int) -g) a.kids a.pats 0 ([] :List Pat)))<|.b 9 42 (a.op==14) .x<|.i [rn 13,.nilL 13 4] []<|gu 0 3 (Pats.av ([] :List Pat))<|gs 0 13 (.gl 3 4 0 ([] :List Pat).length false)<|.W 0 4 [0,1,2,3] (aBz b f c d e a.op a.n a.kids a.pats 0 ([] :List Pat)))<|.b 14 42 (a.op==14) (gX aY 5 e a.n<|fun g=>.i [rn 15,.nilL 13 4] []<|gu 0 3 (Pats.av ([] :List Pat))<|gs 0 13 (.gl 3 4 0 ([] :List Pat).length false)<|.W 0 4 [0,1,2,3] (aBz b f c d e a.op g a.kids a.pats 0 ([] :List Pat)))<|.i [rn 13,.nilL 13 4] []<|gu 0 3 (Pats.av ([] :List Pat))<|gs 0 13 (.gl 3 4 0 ([] :List Pat).length false)<|.W 0 4 [0,1,2,3] (aBz b f c d e a.op a.n a.kids a.pats 0 ([] :List Pat))
def aZ3:=fun a b c d e f g i j k l m n o p q=>aZ2 a b c d e f i j|>.t k|>.t l m g n o p|>.f q ⟨(aG _ (fun _=>bG _) _),⟨eT,trivial⟩⟩
def aZ4:=fun a b c d e f g i j k l=>aZ2 a b c d e f g i|>.t j|>.f k|>.f l ⟨(aG _ (fun _=>bG _) _),⟨eT,trivial⟩⟩
def aZ5:=fun a b c d e f g i j k l m n=>aZ2 a b c d e f i j|>.f k|>.t l g m n ⟨(aG _ (fun _=>bG _) _),⟨eT,trivial⟩⟩
def aZ6:=fun a b c d e f g i j k=>aZ2 a b c d e f g i|>.f j|>.f k ⟨(aG _ (fun _=>bG _) _),⟨eT,trivial⟩⟩
def bGp(i:Prog)(b:List ONode)(j:Int)(k e:List Int)(f g:Int)(l:List Int)(c:List Pat)(d:Int)(a:List Pat):=tT 0 (aBz i b j k e f g l c d a)<|gm 6 aE c<|gd 2 53 (d< (c.length:Int)) (aF6 9 c d<|fun q r s t=>.y fun m:Int=>.y fun n:Int=>.y fun o:aB=>.y fun p:List Pat=>gp 2 158 [(.agg [(nI q),(nI r),(aH s),(iP t)]),(iI e)] (.agg [(nI m),(nI n),(aH o),(iP p)])<|gA 1 aE a [(Pat.mk m n o p)]<|gw 6 55 (d+1)<|.W 3 6 [0,1,2,5] (aBz i b j k e f g l c (d+1) (a++ [(Pat.mk m n o p)])))<|gZ 6 66 3 4 aE eT a false<|ga 18 ONode.av b [(ONode.mk f g KV.nil a)]<|.W 9 6 [5,1] (aKW i b j k e l (b++ [(ONode.mk f g KV.nil a)]))
def aZ7:=fun a b c d e f g i j k l m n o p q r s t u v w x y z=>bGp a b c d e f g i j k l|>.t u m n o p v w q r s t x y z ⟨(aG _ (fun _=>bG _) _),⟨eT,trivial⟩⟩
def aZ8:=fun a b c d e f g i j k l m n=>bGp a b c d e f g i j k l|>.f m n ⟨(aG _ (fun _=>bG _) _),trivial⟩
def bGq(e:Prog)(c:List ONode)(f:Int)(g i d:List Int)(b:List ONode):=tT 0 (aKW e c f g i d b)<|gl 5 aY d<|gd 2 78 (0< (d.length:Int)) (.i [rn 10,.ans (.ix)] [hA (0≤ (c.length:Int)),hA ((c.length:Int) < (b.length:Int))]<|.y fun a:ONode=>gj ONode.av 1 b ((c.length:Int).toNat) a<|.i [.set 87 .nils] [.a (a.kv=KV.nil) (congrArg KV.av)]<|.i [rn 3,.nilL 87 1] []<|gu 0 3 (jI ([] :List Int))<|gs 0 87 (.gl 3 1 0 ([] :List Int).length false)<|ga 0 aY ([] :List Int) [(b.length:Int)]<|.i [.ans (.ix)] [hA (0≤ (c.length:Int)),hA ((c.length:Int) < (b.length:Int))]<|.W 1 5 [0,1,4] (zB e c f g i d b (([] :List Int) ++ [(b.length:Int)]) 0))<|.y fun a:ONode=>.i [rn 8,.lw 0 (map ONode.av (set b c.length (ONode.mk a.op a.n (KV.row []) a.pats)))] [.a (b[c.length]?=some a) (p':=(map ONode.av b) ≠ []) aKy,.a (b[c.length]?=some a∧a.kv=KV.nil) (p':=VW (map ONode.av b) (map ONode.av (set b c.length (ONode.mk a.op a.n (KV.row []) a.pats)))) fun⟨ha,hb⟩=>(aVB ha hb)]<|.i [.set 0 (.gl 0 4 0 (set b c.length (ONode.mk a.op a.n (KV.row []) a.pats)).length false)] [.q (p:=(AV.gl 0 4 0 b.length false) = (.gl 0 4 0 (set b c.length (ONode.mk a.op a.n (KV.row []) a.pats)).length false)) (bD (length_set ..).symm)]<|.i [.set 10 (.gl 0 4 0 (set b c.length (ONode.mk a.op a.n (KV.row []) a.pats)).length false)] [.q (p:=(AV.gl 0 4 0 b.length false) = (.gl 0 4 0 (set b c.length (ONode.mk a.op a.n (KV.row []) a.pats)).length false)) (bD (length_set ..).symm)]<|.i [.set 103 (.gl 0 4 0 (set b c.length (ONode.mk a.op a.n (KV.row []) a.pats)).length false)] [.q (p:=(AV.gl 0 4 0 b.length false) = (.gl 0 4 0 (set b c.length (ONode.mk a.op a.n (KV.row []) a.pats)).length false)) (bD (length_set ..).symm)]<|.E 0 2 [0] (.gl 0 4 0 (set b c.length (ONode.mk a.op a.n (KV.row []) a.pats)).length false) [oL 0 4 (map ONode.av (set b c.length (ONode.mk a.op a.n (KV.row []) a.pats)))] 1
def aZ9:=fun c d e f g i j k l a b m n o=>bGq c d e f g i j|>.t l a b k m n o a b ⟨(aG _ (fun _=>bG _) _),⟨kk,trivial⟩⟩
def bAa:=fun b c d e f g i j k a l=>bGq b c d e f g i|>.f k j a ⟨a,l⟩ ⟨(aG _ (fun _=>bG _) _),trivial⟩
def bAb (i:Prog)(e:List ONode)(p:Int)(m n o:List Int)(f:List ONode)(j:List Int)(k:Int)(b:Option Addr)(c d:Nat):=fun a l g q r s t u=>(tT 0 (aKX i e p m n o f j k b c d)<|.y fun a:ONode=>.i [.st (ONode.av a) (ONode.av (ONode.mk a.op a.n (KV.val (Value.slice b c d)) a.pats))] [.a (((f)[(e.length:Int).toNat]?) =some a) (dN (f:=ONode.av)),hr (some (ONode.av (ONode.mk a.op a.n (KV.val (Value.slice b c d)) a.pats)))]<|.i [.lset 0 (map ONode.av (set f ((e.length:Int).toNat) (ONode.mk a.op a.n (KV.val (Value.slice b c d)) a.pats)))] [.q (p:=(map ONode.av f).set (0+ (e.length:Int).toNat) (ONode.av (ONode.mk a.op a.n (KV.val (Value.slice b c d)) a.pats)) = (map ONode.av (set f ((e.length:Int).toNat) (ONode.mk a.op a.n (KV.val (Value.slice b c d)) a.pats)))) (iF _ _ _ _)]<|.i [.set 0 (.gl 0 4 0 (set f ((e.length:Int).toNat) (ONode.mk a.op a.n (KV.val (Value.slice b c d)) a.pats)).length false)] [.q (p:=(AV.gl 0 4 0 f.length false) = (.gl 0 4 0 (set f ((e.length:Int).toNat) (ONode.mk a.op a.n (KV.val (Value.slice b c d)) a.pats)).length false)) (bD (length_set ..).symm)]<|.y fun l:Int=>.y fun g:List Node=>.i [rn 1,.reg (rd 4 (.ans (.idx (aY l))::rd 3 [.call (.gl 3 4 0 ((set f ((e.length:Int).toNat) (ONode.mk a.op a.n (KV.val (Value.slice b c d)) a.pats)) ++map Node.o g).length false) (aD [aEE i,aRT b c d j,oL 3 4 (map ONode.av ((set f ((e.length:Int).toNat) (ONode.mk a.op a.n (KV.val (Value.slice b c d)) a.pats)) ++map Node.o g))] 4),.d]))] [hA (0≤k),.a (((o)[k.toNat]?) =some l) (bS (f:=aY)),hA (Spec PP (.enter 100 [(.gl 0 4 0 (set f ((e.length:Int).toNat) (ONode.mk a.op a.n (KV.val (Value.slice b c d)) a.pats)).length false),(Prog.av i),(nI l),(iI m),(iI n)]) (aD [oL 0 4 (map ONode.av (set f ((e.length:Int).toNat) (ONode.mk a.op a.n (KV.val (Value.slice b c d)) a.pats))),aEE i,aRT b c d j] 3) (.ret (.gl 3 4 0 ((set f ((e.length:Int).toNat) (ONode.mk a.op a.n (KV.val (Value.slice b c d)) a.pats)) ++map Node.o g).length false)) (aD [aEE i,aRT b c d j,oL 3 4 (map ONode.av ((set f ((e.length:Int).toNat) (ONode.mk a.op a.n (KV.val (Value.slice b c d)) a.pats)) ++map Node.o g))] 4))]<|gw 4 80 (k+1)<|.W 3 4 [3,1,2] (aKY i e p m n o ((set f ((e.length:Int).toNat) (ONode.mk a.op a.n (KV.val (Value.slice b c d)) a.pats)) ++map Node.o g) j (Value.slice b c d) (k+1))) a q l g r s t u ⟨(aG _ (fun _=>bG _) _),⟨kk,trivial⟩⟩
def bGr(i:Prog)(c:List ONode)(j:Int)(k l f:List Int)(b:List ONode)(d:List Int)(e:Value)(g:Int):=tT 0 (aKY i c j k l f b d e g)<|gl 5 aY f<|gd 2 78 (g< (f.length:Int)) (.i [rn 10,.ans (.ix)] [hA (0≤ (c.length:Int)),hA ((c.length:Int) < (b.length:Int))]<|.y fun a:ONode=>gj ONode.av 1 b ((c.length:Int).toNat) a<|.i [.set 87 (.val e)] [.a (a.kv=KV.val e) (congrArg KV.av)]<|.i [.unname 87 2] [hr e]<|.i [.set 87 (.gl 2 1 0 d.length false)] [.q (p:=(AV.gl 2 1 0 (jI d).length false) = (.gl 2 1 0 d.length false)) (bD (List.length_map ..))]<|ga 3 aY d [(b.length:Int)]<|.i [.ans (.ix)] [hA (0≤ (c.length:Int)),hA ((c.length:Int) < (b.length:Int))]<|.W 1 5 [0,1,4] (zB i c j k l f b (d++ [(b.length:Int)]) g))<|.y fun a:ONode=>.i [rn 8,.vfrz 2 0 (map ONode.av (set b c.length (ONode.mk a.op a.n (KV.row d) a.pats)))] [.a (b[c.length]?=some a) (p':=(map ONode.av b) ≠ []) aKy,hk aY d,.a (b[c.length]?=some a∧a.kv=KV.val e) (p':=VQ e 1 (jI d) (map ONode.av b) (map ONode.av (set b c.length (ONode.mk a.op a.n (KV.row d) a.pats)))) fun⟨ha,hb⟩=>(aVC ha hb)]<|.i [.set 0 (.gl 0 4 0 (set b c.length (ONode.mk a.op a.n (KV.row d) a.pats)).length false)] [.q (p:=(AV.gl 0 4 0 b.length false) = (.gl 0 4 0 (set b c.length (ONode.mk a.op a.n (KV.row d) a.pats)).length false)) (bD (length_set ..).symm)]<|.i [.set 10 (.gl 0 4 0 (set b c.length (ONode.mk a.op a.n (KV.row d) a.pats)).length false)] [.q (p:=(AV.gl 0 4 0 b.length false) = (.gl 0 4 0 (set b c.length (ONode.mk a.op a.n (KV.row d) a.pats)).length false)) (bD (length_set ..).symm)]<|.i [.set 103 (.gl 0 4 0 (set b c.length (ONode.mk a.op a.n (KV.row d) a.pats)).length false)] [.q (p:=(AV.gl 0 4 0 b.length false) = (.gl 0 4 0 (set b c.length (ONode.mk a.op a.n (KV.row d) a.pats)).length false)) (bD (length_set ..).symm)]<|.E 0 3 [0] (.gl 0 4 0 (set b c.length (ONode.mk a.op a.n (KV.row d) a.pats)).length false) [oL 0 4 (map ONode.av (set b c.length (ONode.mk a.op a.n (KV.row d) a.pats)))] 1
def bAc:=fun c d e f g i j k l m n o a b p q r=>bGr c d e f g i j k l m|>.t o a b n p q r a b ⟨(aG _ (fun _=>bG _) _),⟨kk,trivial⟩⟩
def bAd:=fun b c d e f g i j k l m n a o=>bGr b c d e f g i j k l|>.f n m a ⟨a,o⟩ ⟨(aG _ (fun _=>bG _) _),trivial⟩
end
end Go.Hb
