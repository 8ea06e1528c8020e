/- A machine on abstract values, its soundness, ways, plain laws. -/
import Derived.Test.YtfaikcecgpcimaaGreatHF
set_option linter.defProp false
set_option linter.unusedVariables false
set_option linter.unusedSimpArgs false
set_option linter.unusedSectionVars false
set_option maxRecDepth 100000
set_option maxHeartbeats 2000000
namespace Go.Hb
open AV (ilst int keyless keylessL str)
open List (all_nil drop length length_set map map_set mem_of_getElem? replicate set)
open Nat (add_zero blt div mod pow)
open Go.Proofs Tryz
noncomputable section
section
variable {P :Program}
theorem throws_at {f : Nat} {args : List AV} {ch : List (AV×Bool)}(hb:jE P f=true)(hk:keylessL args=true)(hv:∀x∈ch,keyless x.1=true)(he:Ends P 0 (start P f args).as (.pan ch) (aG [] 0)) :aG3 P f args ch:=fun h=>by
 unfold jE at hb;split at hb
 · rename_i fn hf;split at hb
   · rename_i c hc;have hg:dP P h (.enter f args) =some ⟨f,cT .leaf 0 args,max fn.ntmps args.length,[.code c],[],.run,.normal,none⟩ :=by simp [dP,cE,hf,hc]
     refine⟨_,hg,fun hm E fr ccs w fr' fs r cl base=>?_⟩;simp only at fs;rw [fs.nil_inv];have f1:FR E.p (start P f args).as.fr fr:=by
      have e1: (start P f args).as.fr= ⟨f,mkT ((List.range args.length).zip args),max fn.ntmps args.length,[.code c],[],.run,.normal,none⟩ :=by simp [start,hf,hc,TS.as,TF.fr]
      rw [e1];refine⟨fr'.fn,⟨fr'.tm.1,fun t a e=>?_⟩,?_,?_,fr'.mode,fr'.kind,?_⟩
      · have h1:=aAF (vF e);have hlt:= (List.getElem?_eq_some_iff.1 h1).1;have h2: (cT .leaf 0 args).at t=some a:=by
         unfold cT;rw [bW,if_pos hlt];exact h1
        obtain⟨cv,g1,g2⟩ :=fr'.tm.2 t a h2;exact⟨cv,g1,eI (keylessL_mem.1 hk a (mem_of_getElem? h1)) g2⟩
      · have:=fr'.todo;simpa [IRs,IR]using this
      · have:=fr'.defers;simpa [DRs]using this
      · have:=fr'.round;simpa [RR]using this
     have e2 : (start P f args).as.cs = [] := by unfold start;split; · split<;>rfl
                                                 ·rfl
     have e3 : (start P f args).as.h = ⟨.leaf, 0⟩ := by unfold start;split; · split<;>rfl
                                                        ·rfl
     obtain⟨cl',w',E',g1,⟨cv,rfl,g2⟩,g3,g4⟩ :=he (Nat.zero_le _) E.p fr [] w f1 (by rw [e2];rfl) (by rw [e3];exact aDE r) cl base;rw [e3]at g4;obtain⟨q1,q2⟩ :=aDF r g3 g4;exact⟨_,w',_,g1,⟨cv,rfl,CR.of_p (E:= ⟨E.loc,E'.imm⟩) (show CR (Emb.p ⟨E.loc,E'.imm⟩) ch cv from zN (E:=E') hv g2)⟩,q1,q2⟩
   ·cases hb
 ·cases hb
end
inductive Typ where
 |mk (sort n:Int) (text:aC) (parts:List Typ)
mutual
def Typ.av :Typ→AV
 | .mk f n t ps=>.agg [.int .i64 f,.int .i64 n,aB t,.ilst 4 (Typs.av ps) false]
def Typs.av :List Typ→List AV
 | [] =>[]
 |p::ps=>Typ.av p::Typs.av ps
end
inductive Term where
 |mk (op n:Int) (text:aC) (kids:List Term) (pats:List Pat)
mutual
def Term.av :Term→AV
 | .mk o n t ks ps=>.agg [.int .i64 o,.int .i64 n,aB t,.ilst 5 (Terms.av ks) false,.ilst 4 (Pats.av ps) false]
def Terms.av :List Term→List AV
 | [] =>[]
 |p::ps=>Term.av p::Terms.av ps
end
structure ConD where
 name:aC
 args:List Typ
def ConD.av (c:ConD) :AV:=.agg [aB c.name,.ilst 4 (Typs.av c.args) false]
structure DataD where
 name:aC
 cons:List ConD
def DataD.av (d:DataD) :AV:=.agg [aB d.name,.ilst 2 (map ConD.av d.cons) false]
inductive FunD where
 |mk (name param:aC) (frm to:Typ) (body:Term)
def FunD.av :FunD→AV
 | .mk n p (.mk f0 f1 f2 f3) (.mk g0 g1 g2 g3) (.mk b0 b1 b2 b3 b4) =>.agg [aB n,aB p,.int .i64 f0,.int .i64 f1,aB f2,.ilst 4 (Typs.av f3) false,.int .i64 g0,.int .i64 g1,aB g2,.ilst 4 (Typs.av g3) false,.int .i64 b0,.int .i64 b1,aB b2,.ilst 5 (Terms.av b3) false,.ilst 4 (Pats.av b4) false]
def FunDs.av (l:List FunD) :List AV:=map FunD.av l
structure Mod where
 name:aC
 datas:List DataD
 funs:List FunD
def Mod.av (m:Mod) :AV:=.agg [aB m.name,.ilst 2 (map DataD.av m.datas) false,.ilst 15 (FunDs.av m.funs) false]
inductive Part where
 |data (d:DataD)
 |fn (f:FunD)
def Part.av :Part→AV
 | .data d=>.iface 217 (DataD.av d)
 | .fn f=>.iface 219 (FunD.av f)
def Parts.av (l:List Part) :List AV:=map Part.av l
inductive KV where
 |row (l:List Int)
 |nil
 |val (u:Value)
def KV.av :KV→AV
 | .row l=>.ilst 1 (map aP l) false
 | .nil=>.nils
 | .val u=>.val u
structure ONode where
 op:Int
 n:Int
 kv:KV
 pats:List Pat
def ONode.av (x:ONode) :AV:=.agg [.int .i64 x.op,.int .i64 x.n,x.kv.av,.ilst 4 (Pats.av x.pats) false]
def Node.o (x:Node) :ONode:= ⟨x.op,x.n,.row x.kids,x.pats⟩
theorem aHs (l:List Node) :map ONode.av (map Node.o l) =map Node.av l:=by
 rw [List.map_map];rfl
theorem bAO :∀k:KV,keyless k.av=true
 | .row l=>by simp only [KV.av,keyless]
 | .nil=>rfl
 | .val u=>rfl
theorem bB (x:ONode) :keyless x.av=true:=by
 simp only [ONode.av,keyless,keylessL,bAO,aAN,Bool.and_true]
theorem aHt {E:Emb}{x y:AV}(hv:∀v,VR E x v→VR E y v) :∀ {xs:List AV} {i:Nat},xs[i]?=some x→∀vs,VRs E xs vs→VRs E (xs.set i y) vs
 | [],i,h,vs,hvs=>by simp at h
 | a::xs,0,h,vs,hvs=>by
  simp only [VRs]at hvs;obtain⟨u,us,rfl,h1,h2⟩ :=hvs;simp at h;subst h;simp only [List.set_cons_zero,VRs];exact⟨u,us,rfl,hv u h1,h2⟩
 | a::xs,i+1,h,vs,hvs=>by
  simp only [VRs]at hvs;obtain⟨u,us,rfl,h1,h2⟩ :=hvs;simp only [List.getElem?_cons_succ]at h;simp only [List.set_cons_succ,VRs];exact⟨u,us,rfl,h1,aHt hv h us h2⟩
theorem aJo {E:Emb}{x:ONode}{k:KV}(hk:∀v,VR E x.kv.av v→VR E k.av v) :∀v,VR E x.av v→VR E (ONode.av ⟨x.op,x.n,k,x.pats⟩) v:=fun v h=>by
 simp only [ONode.av,VR,VRs]at h ⊢;obtain⟨us,rfl,u1,r1,rfl,q1,u2,r2,rfl,q2,u3,r3,rfl,q3,q4⟩ :=h;exact⟨_,rfl,_,_,rfl,q1,_,_,rfl,q2,_,_,rfl,hk _ q3,q4⟩
theorem aL8 {E:Emb}:∀v,VR E KV.nil.av v→VR E (KV.row []).av v:=fun v h=>by
 simp only [KV.av,VR]at h;simp only [KV.av,VR,List.map_nil];exact⟨[],VRs.nil _,fun _ hu=>by(cases hu),.inl ⟨rfl,none,0,h,fun _=>rfl,fun _=>rfl⟩⟩
theorem aRt {l:List ONode}{i:Nat}{y:ONode}(h:l[i]?=some y)(hk:y.kv= .nil) :VW (map ONode.av l) (map ONode.av (l.set i ⟨y.op,y.n,.row [],y.pats⟩)) :=fun E vs hvs=>by
 have h1: (map ONode.av l)[i]?=some y.av:=by rw [List.getElem?_map,h];rfl
 rw [map_set];exact aHt (aJo (by rw [hk];exact aL8)) h1 vs hvs
theorem aRu {l:List ONode}{i:Nat}{y:ONode}{u:Value}{ks:List Int}(h:l[i]?=some y)(hk:y.kv= .val u) :VQ u 1 (map aP ks) (map ONode.av l) (map ONode.av (l.set i ⟨y.op,y.n,.row ks,y.pats⟩)) :=fun E vs hu hvs=>by
 have h1: (map ONode.av l)[i]?=some y.av:=by rw [List.getElem?_map,h];rfl
 rw [map_set];refine aHt (aJo (fun v hv=>?_)) h1 vs hvs;rw [hk]at hv;simp only [KV.av,VR]at hv;subst hv;exact hu
theorem aHu {α:Type}{f:α→AV}{l:List α}{i:Nat}{y:α}(h:l[i]?=some y) :map f l≠ [] :=fun e=>by
 cases l with
 |nil=>simp at h
 |cons _ _=>cases e
def kwL :List aC:=[(strOf [98,111,111,108]),(strOf [99,101,108,108]),(strOf [99,104,97,110]),(strOf [101,108,115,101]),(strOf [102,97,108,115,101]),(strOf [102,117,110]),(strOf [103,101,116]),(strOf [105,102]),(strOf [105,110]),(strOf [105,110,112,117,116]),(strOf [105,110,116]),(strOf [106,111,105,110]),(strOf [108,101,116]),(strOf [109,97,116,99,104]),(strOf [109,111,100,117,108,101]),(strOf [111,117,116]),(strOf [112,97,117,115,101]),(strOf [112,117,116]),(strOf [114,101,115,101,116]),(strOf [115,101,110,100]),(strOf [115,104,105,102,116]),(strOf [115,112,97,119,110]),(strOf [116,97,107,101]),(strOf [116,97,115,107]),(strOf [116,104,101,110]),(strOf [116,114,117,101]),(strOf [116,121,112,101]),(strOf [117,110,105,116])]
def aY4:TS:=dB PP 226 [] [] 0
def aUX:=(tT 0 (aY4)<|.i [rn 10,.toL 0 false [(.str 4 1819242338),(.str 4 1819043171),(.str 4 1851877475),(.str 4 1702063205),(.str 5 435728179558),(.str 3 7239014),(.str 3 7628135),(.str 2 26217),(.str 2 28265),(.str 5 500186508905),(.str 3 7630441),(.str 4 1852403562),(.str 3 7628140),(.str 5 448345170285),(.str 6 111516500389741),(.str 3 7632239),(.str 5 435728769392),(.str 3 7632240),(.str 5 499918267762),(.str 4 1684956531),(.str 5 499934390387),(.str 5 474449277043),(.str 4 1701536116),(.str 4 1802723700),(.str 4 1852139636),(.str 4 1702195828),(.str 4 1701869940),(.str 4 1953066613)]] [hr (some [(str 4 1819242338),(str 4 1819043171),(str 4 1851877475),(str 4 1702063205),(str 5 435728179558),(str 3 7239014),(str 3 7628135),(str 2 26217),(str 2 28265),(str 5 500186508905),(str 3 7630441),(str 4 1852403562),(str 3 7628140),(str 5 448345170285),(str 6 111516500389741),(str 3 7632239),(str 5 435728769392),(str 3 7632240),(str 5 499918267762),(str 4 1684956531),(str 5 499934390387),(str 5 474449277043),(str 4 1701536116),(str 4 1802723700),(str 4 1852139636),(str 4 1702195828),(str 4 1701869940),(str 4 1953066613)]),hr true]<|gu 0 0 (map aB kwL)<|gs 0 0 (.gl 0 1 0 kwL.length true)<|.i [.weak 0] []<|gz 0 0 0 1 aB kwL false<|gE 0 1 (iS kwL)) tv
def aRv (c:aC):=fun a b d e=>(tT 0 (start PP 167 [(aB c)])<|.y fun a:List aC=>gp 6 226 [] (iS a)<|fQ 1 111 [(iS a),(aB c)]<|fun b=>gE 3 0 (bV b)) a d b e tv
def aN4(a:aC):=tT 0 (start PP 86 [(aB a)])<|gd 10 6 ((a.length:Int) ≥1) (gd 5 11 ((a.length:Int) ≤8) (fQ 1 166 [(aB a)]<|fun b=>.b 2 15 b (fQ 1 167 [(aB a)]<|fun c=>gE 5 0 (bV (!c)))<|gE 7 0 (bV false))<|gE 11 0 (bV false))<|gE 16 0 (bV false)
def aUY:=fun a b c d e f g i=>aN4 a|>.t d|>.t e b f|>.t g c i tv
def aUZ:=fun a b c d e f=>aN4 a|>.t c|>.t d b e|>.f f tv
def aU0:=fun a b c=>aN4 a|>.t b|>.f c tv
def aU1:=fun a b=>aN4 a|>.f b tv
def fB(a:aC):=tT 0 (start PP 165 [(aB a)])<|.b 16 4 (bF a.length (aA a) 4 1819242338) (gE 8 0 (bV true))<|.b 6 4 (bF a.length (aA a) 4 1819043171) (gE 8 0 (bV true))<|.b 6 4 (bF a.length (aA a) 4 1851877475) (gE 8 0 (bV true))<|.b 6 4 (bF a.length (aA a) 4 1702063205) (gE 8 0 (bV true))<|.b 6 4 (bF a.length (aA a) 5 435728179558) (gE 8 0 (bV true))<|.b 6 4 (bF a.length (aA a) 3 7239014) (gE 8 0 (bV true))<|.b 6 4 (bF a.length (aA a) 3 7628135) (gE 8 0 (bV true))<|.b 6 4 (bF a.length (aA a) 2 26217) (gE 8 0 (bV true))<|.b 6 4 (bF a.length (aA a) 2 28265) (gE 8 0 (bV true))<|.b 6 4 (bF a.length (aA a) 5 500186508905) (gE 8 0 (bV true))<|.b 6 4 (bF a.length (aA a) 3 7630441) (gE 8 0 (bV true))<|.b 6 4 (bF a.length (aA a) 4 1852403562) (gE 8 0 (bV true))<|.b 6 4 (bF a.length (aA a) 3 7628140) (gE 8 0 (bV true))<|.b 6 4 (bF a.length (aA a) 5 448345170285) (gE 8 0 (bV true))<|.b 6 4 (bF a.length (aA a) 6 111516500389741) (gE 8 0 (bV true))<|.b 6 4 (bF a.length (aA a) 3 7632239) (gE 8 0 (bV true))<|.b 6 4 (bF a.length (aA a) 5 435728769392) (gE 8 0 (bV true))<|.b 6 4 (bF a.length (aA a) 3 7632240) (gE 8 0 (bV true))<|.b 6 4 (bF a.length (aA a) 5 499918267762) (gE 8 0 (bV true))<|.b 6 4 (bF a.length (aA a) 4 1684956531) (gE 8 0 (bV true))<|.b 6 4 (bF a.length (aA a) 5 499934390387) (gE 8 0 (bV true))<|.b 6 4 (bF a.length (aA a) 5 474449277043) (gE 8 0 (bV true))<|.b 6 4 (bF a.length (aA a) 4 1701536116) (gE 8 0 (bV true))<|.b 6 4 (bF a.length (aA a) 4 1802723700) (gE 8 0 (bV true))<|.b 6 4 (bF a.length (aA a) 4 1852139636) (gE 8 0 (bV true))<|.b 6 4 (bF a.length (aA a) 4 1702195828) (gE 8 0 (bV true))<|.b 6 4 (bF a.length (aA a) 4 1701869940) (gE 8 0 (bV true))<|.b 5 4 (bF a.length (aA a) 4 1953066613) (gE 6 0 (bV true))<|gE 8 0 (bV false)
def aU2:=fun a b=>fB a|>.t b tv
def aU3:=fun a b c=>fB a|>.f b|>.t c tv
def aU4:=fun a b c d=>fB a|>.f b|>.f c|>.t d tv
def aU5:=fun a b c d e=>fB a|>.f b|>.f c|>.f d|>.t e tv
def aU6:=fun a b c d e f=>fB a|>.f b|>.f c|>.f d|>.f e|>.t f tv
def aU7:=fun a b c d e f g=>fB a|>.f b|>.f c|>.f d|>.f e|>.f f|>.t g tv
def aU8:=fun a b c d e f g i=>fB a|>.f b|>.f c|>.f d|>.f e|>.f f|>.f g|>.t i tv
def aU9:=fun a b c d e f g i j=>fB a|>.f b|>.f c|>.f d|>.f e|>.f f|>.f g|>.f i|>.t j tv
def aVa:=fun a b c d e f g i j k=>fB a|>.f b|>.f c|>.f d|>.f e|>.f f|>.f g|>.f i|>.f j|>.t k tv
def aVb:=fun a b c d e f g i j k l=>fB a|>.f b|>.f c|>.f d|>.f e|>.f f|>.f g|>.f i|>.f j|>.f k|>.t l tv
def aRw:=fun a b c d e f g i j k l m=>fB a|>.f b|>.f c|>.f d|>.f e|>.f f|>.f g|>.f i|>.f j|>.f k|>.f l|>.t m tv
def aRx:=fun a b c d e f g i j k l m n=>fB a|>.f b|>.f c|>.f d|>.f e|>.f f|>.f g|>.f i|>.f j|>.f k|>.f l|>.f m|>.t n tv
def aRy:=fun a b c d e f g i j k l m n o=>fB a|>.f b|>.f c|>.f d|>.f e|>.f f|>.f g|>.f i|>.f j|>.f k|>.f l|>.f m|>.f n|>.t o tv
def aRz:=fun a b c d e f g i j k l m n o p=>fB a|>.f b|>.f c|>.f d|>.f e|>.f f|>.f g|>.f i|>.f j|>.f k|>.f l|>.f m|>.f n|>.f o|>.t p tv
def aRA:=fun a b c d e f g i j k l m n o p q=>fB a|>.f b|>.f c|>.f d|>.f e|>.f f|>.f g|>.f i|>.f j|>.f k|>.f l|>.f m|>.f n|>.f o|>.f p|>.t q tv
def aRB:=fun a b c d e f g i j k l m n o p q r=>fB a|>.f b|>.f c|>.f d|>.f e|>.f f|>.f g|>.f i|>.f j|>.f k|>.f l|>.f m|>.f n|>.f o|>.f p|>.f q|>.t r tv
def aRC:=fun a b c d e f g i j k l m n o p q r s=>fB a|>.f b|>.f c|>.f d|>.f e|>.f f|>.f g|>.f i|>.f j|>.f k|>.f l|>.f m|>.f n|>.f o|>.f p|>.f q|>.f r|>.t s tv
def aRD:=fun a b c d e f g i j k l m n o p q r s t=>fB a|>.f b|>.f c|>.f d|>.f e|>.f f|>.f g|>.f i|>.f j|>.f k|>.f l|>.f m|>.f n|>.f o|>.f p|>.f q|>.f r|>.f s|>.t t tv
def aRE:=fun a b c d e f g i j k l m n o p q r s t u=>fB a|>.f b|>.f c|>.f d|>.f e|>.f f|>.f g|>.f i|>.f j|>.f k|>.f l|>.f m|>.f n|>.f o|>.f p|>.f q|>.f r|>.f s|>.f t|>.t u tv
def aRF:=fun a b c d e f g i j k l m n o p q r s t u v=>fB a|>.f b|>.f c|>.f d|>.f e|>.f f|>.f g|>.f i|>.f j|>.f k|>.f l|>.f m|>.f n|>.f o|>.f p|>.f q|>.f r|>.f s|>.f t|>.f u|>.t v tv
def aRG:=fun a b c d e f g i j k l m n o p q r s t u v w=>fB a|>.f b|>.f c|>.f d|>.f e|>.f f|>.f g|>.f i|>.f j|>.f k|>.f l|>.f m|>.f n|>.f o|>.f p|>.f q|>.f r|>.f s|>.f t|>.f u|>.f v|>.t w tv
def aRH:=fun a b c d e f g i j k l m n o p q r s t u v w x=>fB a|>.f b|>.f c|>.f d|>.f e|>.f f|>.f g|>.f i|>.f j|>.f k|>.f l|>.f m|>.f n|>.f o|>.f p|>.f q|>.f r|>.f s|>.f t|>.f u|>.f v|>.f w|>.t x tv
def aRI:=fun a b c d e f g i j k l m n o p q r s t u v w x y=>fB a|>.f b|>.f c|>.f d|>.f e|>.f f|>.f g|>.f i|>.f j|>.f k|>.f l|>.f m|>.f n|>.f o|>.f p|>.f q|>.f r|>.f s|>.f t|>.f u|>.f v|>.f w|>.f x|>.t y tv
def aRJ:=fun a b c d e f g i j k l m n o p q r s t u v w x y z=>fB a|>.f b|>.f c|>.f d|>.f e|>.f f|>.f g|>.f i|>.f j|>.f k|>.f l|>.f m|>.f n|>.f o|>.f p|>.f q|>.f r|>.f s|>.f t|>.f u|>.f v|>.f w|>.f x|>.f y|>.t z tv
def aRK:=fun a b c d e f g i j k l m n o p q r s t u v w x y z A=>fB a|>.f b|>.f c|>.f d|>.f e|>.f f|>.f g|>.f i|>.f j|>.f k|>.f l|>.f m|>.f n|>.f o|>.f p|>.f q|>.f r|>.f s|>.f t|>.f u|>.f v|>.f w|>.f x|>.f y|>.f z|>.t A tv
def aRL:=fun a b c d e f g i j k l m n o p q r s t u v w x y z A B=>fB a|>.f b|>.f c|>.f d|>.f e|>.f f|>.f g|>.f i|>.f j|>.f k|>.f l|>.f m|>.f n|>.f o|>.f p|>.f q|>.f r|>.f s|>.f t|>.f u|>.f v|>.f w|>.f x|>.f y|>.f z|>.f A|>.t B tv
def aRM:=fun a b c d e f g i j k l m n o p q r s t u v w x y z A B C=>fB a|>.f b|>.f c|>.f d|>.f e|>.f f|>.f g|>.f i|>.f j|>.f k|>.f l|>.f m|>.f n|>.f o|>.f p|>.f q|>.f r|>.f s|>.f t|>.f u|>.f v|>.f w|>.f x|>.f y|>.f z|>.f A|>.f B|>.t C tv
def aRN:=fun a b c d e f g i j k l m n o p q r s t u v w x y z A B C D=>fB a|>.f b|>.f c|>.f d|>.f e|>.f f|>.f g|>.f i|>.f j|>.f k|>.f l|>.f m|>.f n|>.f o|>.f p|>.f q|>.f r|>.f s|>.f t|>.f u|>.f v|>.f w|>.f x|>.f y|>.f z|>.f A|>.f B|>.f C|>.t D tv
def aRO:=fun a b c d e f g i j k l m n o p q r s t u v w x y z A B C D=>fB a|>.f b|>.f c|>.f d|>.f e|>.f f|>.f g|>.f i|>.f j|>.f k|>.f l|>.f m|>.f n|>.f o|>.f p|>.f q|>.f r|>.f s|>.f t|>.f u|>.f v|>.f w|>.f x|>.f y|>.f z|>.f A|>.f B|>.f C|>.f D tv
def aN5(a:aC):=tT 0 (start PP 85 [(aB a)])<|.b 9 5 (!(bF a.length (aA a) 0 0)) (gd 5 10 ((a.length:Int) ≤8) (fQ 1 164 [(aB a)]<|fun b=>.b 2 14 b (fQ 1 165 [(aB a)]<|fun c=>gE 5 0 (bV (!c)))<|gE 7 0 (bV false))<|gE 11 0 (bV false))<|gE 16 0 (bV false)
def aVc:=fun a b c d e f g i=>aN5 a|>.t d|>.t e b f|>.t g c i tv
def aVd:=fun a b c d e f=>aN5 a|>.t c|>.t d b e|>.f f tv
def aVe:=fun a b c=>aN5 a|>.t b|>.f c tv
def aVf:=fun a b=>aN5 a|>.f b tv
mutual
def kM :Pat→Int→Int
 | .mk _ _ _ ps,left=>if left<1 then -1 else iT ps (left-1)
def iT :List Pat→Int→Int
 | [],left=>left
 |p::ps,left=>if 0≤left then iT ps (kM p left)else left
end
mutual
theorem aJp :∀ (p:Pat) (left:Int),0≤left→ -1≤kM p left∧kM p left≤left-1
 | .mk _ _ _ ps,left,h=>by
  rw [kM];split
  ·omega
  ·have:=aFR ps (left-1) (by omega);omega
theorem aFR :∀ (ps:List Pat) (left:Int),-1≤left→ -1≤iT ps left∧iT ps left≤left
 | [],left,h=>by rw [iT];omega
 | p ::ps,left,h=>by
  rw [iT];split
  · rename_i h0;have a:=aJp p left h0;have:=aFR ps (kM p left) a.1;omega
  ·omega
end
theorem aCk (f n:Int)(s:aC)(ps:List Pat)(l0:Int)(ih:∀p∈ps,∀left:Int,0≤left→left≤1000→Pure PP 186 [Pat.av p,.int .i64 left] (.int .i64 (kM p left))) :
  ∀ (t:List Pat) (i:Nat) (left:Int),ps.drop i=t→ -1≤left→ (i:Int) +left≤1000→Ends PP 0 (wT f n s ps l0 left (i:Int)).as (.ret (.int .i64 (iT t left))) (aG [] 0)
 | [],i,left,h,h1,h2=>by
  have:=bD h;rw [iT];exact aL7 f n s ps l0 left i sd
 | .mk f' n' s' ps'::t,i,left,h,h1,h2=>by
  obtain⟨g1,g2,g3⟩ :=bC h;rw [iT];split
  · rename_i h0;have w:=aJp (.mk f' n' s' ps') left h0;refine(aL5 f n s ps l0 left i f' n' s' ps' _ sd sd sd sd (ih _ (mem_of_getElem? g1) left h0 (by omega)) sd).ends ?_;exact aCk f n s ps l0 ih t (i+1) _ g2 w.1 (by omega)
  ·exact aL6 f n s ps l0 left i sd sd
mutual
theorem vM :∀ (p:Pat) (left:Int),-1≤left→left≤1000→Pure PP 186 [Pat.av p,.int .i64 left] (.int .i64 (kM p left))
 | .mk f n s ps,left,h0,h1=>by
  refine aQ (by kernel_rfl) (by simp [keylessL,mB,keyless]) rfl ?_;rw [kM];split
  ·exact aL3 f n s ps left sd
  · refine(aL4 f n s ps left sd sd).ends ?_;exact aCk f n s ps left (fun p hp left h0 h1=>aD2 ps p hp left h0 h1) ps 0 _ rfl (by omega) (by omega)
theorem aD2 :∀ (ps:List Pat),∀p∈ps,∀left:Int,0≤left→left≤1000→Pure PP 186 [Pat.av p,.int .i64 left] (.int .i64 (kM p left))
 | [],p,hp,_,_,_=>by cases hp
 | q::ps,p,hp,left,h0,h1=>by
  rcases List.mem_cons.1 hp with e|hp
  ·rw [e];exact vM q left (by omega) h1
  ·exact aD2 ps p hp left h0 h1
end
mutual
def mC :Pat→Bool
 | .mk _ _ s ps=>mQ ps&&decide (s.length≤30)
def mQ :List Pat→Bool
 | [] =>true
 |p::ps=>mC p&&mQ ps
end
mutual
def cC :Pat→Nat
 | .mk _ _ _ ps=>aX ps+1
def aX :List Pat→Nat
 | [] =>0
 |p::ps=>cC p+aX ps
end
theorem eJ :∀ps:List Pat,ps.length≤aX ps
 | [] =>by simp [aX]
 | .mk _ _ _ qs::ps=>by have:=eJ ps;simp only [aX,cC,List.length_cons];omega
mutual
theorem aD3 :∀ (p:Pat) (left:Int),0≤kM p left→kM p left=left-cC p
 | .mk _ _ _ ps,left,h=>by
  rw [kM]at h ⊢;split at h
  ·omega
  · rename_i h1;rw [if_neg h1];have:=aCl ps (left-1) h;simp only [cC];omega
theorem aCl :∀ (ps:List Pat) (left:Int),0≤iT ps left→iT ps left=left-aX ps
 | [],left,h=>by simp [iT,aX]
 | p ::ps,left,h=>by
  rw [iT]at h ⊢;split at h
  · rename_i h1;rw [if_pos h1];have a:=aCl ps _ h;have b:=aD3 p left (by omega);simp only [aX];omega
  ·omega
end
mutual
theorem aD4 :∀ (p:Pat) (left:Int),(cC p:Int) ≤left→kM p left=left-cC p
 | .mk _ _ _ ps,left,h=>by
  simp only [cC]at h ⊢;rw [kM,if_neg (by omega),aCm ps (left-1) (by omega)];omega
theorem aCm :∀ (ps:List Pat) (left:Int),(aX ps:Int) ≤left→iT ps left=left-aX ps
 | [],left,h=>by simp [iT,aX]
 | p::ps,left,h=>by
  simp only [aX]at h ⊢;rw [iT,if_pos (by omega),aD4 p left (by omega),aCm ps _ (by omega)];omega
end
theorem wU (p:Pat)(left:Int) :0≤kM p left↔ (cC p:Int) ≤left:=by
 constructor
 ·intro h;have:=aD3 p left h;omega
 ·intro h;rw [aD4 p left h];omega
theorem vN (f n:Int)(s:aC)(ps:List Pat)(hl:ps.length<1000000)(ih:∀p∈ps,Pure PP 199 [Pat.av p] (.bool (mC p))) :
  ∀ (t:List Pat) (i:Nat),ps.drop i=t→Ends PP 0 (mP f n s ps (i:Int)).as (.ret (.bool (mQ t&&decide (s.length≤30)))) (aG [] 0)
 | [],i,h=>by
  have:=bD h;have e:decide (((length s:Nat) :Int) ≤ (30:Int)) =decide (s.length≤30) :=by congr 1;simp;omega
  rw [mQ,Bool.true_and,←e];exact aFm f n s ps i sd
 | .mk f' n' s' ps'::t,i,h=>by
  obtain⟨g1,g2,g3⟩ :=bC h;have ihp:=ih _ (mem_of_getElem? g1);rw [mQ];cases hb:mC (.mk f' n' s' ps')with
  | false=>
   rw [hb]at ihp;exact aFk f n s ps i f' n' s' ps' false sd sd sd ihp rfl
  | true=>
   rw [hb]at ihp;refine(aFl f n s ps i f' n' s' ps' true sd sd sd ihp rfl sd).ends ?_;rw [Bool.true_and];exact vN f n s ps hl ih t (i+1) g2
mutual
theorem vO :∀ (p:Pat),cC p<1000000→Pure PP 199 [Pat.av p] (.bool (mC p))
 | .mk f n s ps,h=>by
  refine aQ (by kernel_rfl) (by simp [keylessL,mB]) rfl ?_;simp only [cC]at h;have:=eJ ps;refine(aFj f n s ps).ends ?_;rw [mC];exact vN f n s ps (by omega) (yO ps (by omega)) ps 0 rfl
theorem yO :∀ (ps:List Pat),aX ps<1000000→∀p∈ps,Pure PP 199 [Pat.av p] (.bool (mC p))
 | [],_,p,hp=>by cases hp
 | q::ps,h,p,hp=>by
  simp only [aX]at h;rcases List.mem_cons.1 hp with e|hp
  ·rw [e];exact vO q (by omega)
  ·exact yO ps (by omega) p hp
end
def vP (p:Pat) :Bool:=decide (cC p≤16) &&mC p
theorem aHv (p:Pat) :Pure PP 136 [Pat.av p] (.bool (vP p)) :=by
 refine aQ (by kernel_rfl) (by simp [keylessL,mB]) rfl ?_;obtain⟨f,n,s,ps⟩ :=p;have hw:=vM (.mk f n s ps) 16 (by omega) (by omega);by_cases h:cC (.mk f n s ps) ≤16
 · have e:vP (.mk f n s ps) =mC (.mk f n s ps) :=by simp [vP,h]
   rw [e];have hg:0≤kM (.mk f n s ps) 16:= (wU (.mk f n s ps) 16).2 (by omega);exact aJj f n s ps _ _ hw (decide_eq_true hg) (vO (.mk f n s ps) (by omega))
 · have e:vP (.mk f n s ps) =false:=by simp [vP,h]
   rw [e];refine aJk f n s ps _ hw (decide_eq_false fun g=>h ?_);have:= (wU (.mk f n s ps) 16).1 g;omega
def fN (l:List Con) :Bool:=l.all fun c=>decide (c.name.length≤40)
def iG (l:List Pat) :Bool:=l.all vP
def aV (x:Node) :Bool:=decide (x.kids.length≤10) &&decide (x.pats.length≤10) &&iG x.pats
def aN (p:Prog) :Bool:=decide (p.nodes.length≤320) &&decide (p.funs.length≤320) &&decide (p.cons.length≤25) &&fN p.cons&&p.nodes.all aV
mutual
theorem bAP (p:Prog)(hn:p.nodes.length≤320) :∀ (t:List Node) (i:Nat),p.nodes.drop i=t→Ends PP 0 (lN p (i:Int)).as (.ret (.bool (t.all aV))) (aG [] 0)
 | [],i,h=>by
  have:=bD h;exact aDX p i sd
 | x :: t,i,h=>by
  obtain⟨g1,g2,g3⟩ :=bC h;by_cases k1:x.kids.length≤10
  · by_cases k2:x.pats.length≤10
    · have e: (x::t).all aV= (iG (x.pats.drop 0) &&t.all aV) :=by simp [aV,k1,k2]
      rw [e];refine(aDW p i x sd sd sd sd sd).ends ?_;have ih:=bAP p hn t (i+1) g2;clear e g1 g2 h
      suffices ∀ (u:List Pat) (k:Nat),x.pats.drop k=u→Ends PP 0 (lO p x.op x.n x.kids x.pats (k:Int) (i:Int)).as (.ret (.bool (iG u&&t.all aV))) (aG [] 0)from this _ 0 rfl
      intro u
      induction u with
      | nil=>
       intro k hk;have:=bD hk;refine(aD0 p x.op x.n x.kids x.pats k i sd sd).ends ?_;simp only [iG,all_nil,Bool.true_and];exact ih
      | cons q u ihu=>
       intro k hk;obtain⟨q1,q2,q3⟩ :=bC hk;obtain⟨f',n',s',ps'⟩ :=q;have hp:=aHv (.mk f' n' s' ps');cases hb:vP (.mk f' n' s' ps')with
       | false=>
        rw [hb]at hp;have e: (iG (.mk f' n' s' ps'::u) &&t.all aV) =false:=by simp [iG,hb]
        rw [e];exact aDY p x.op x.n x.kids x.pats k i f' n' s' ps' false sd sd sd hp rfl
       | true=>
        rw [hb]at hp;have e: (iG (.mk f' n' s' ps'::u) &&t.all aV) = (iG u&&t.all aV) :=by simp [iG,hb]
        rw [e];refine(aDZ p x.op x.n x.kids x.pats k i f' n' s' ps' true sd sd sd hp rfl sd).ends ?_;exact ihu (k+1) q2
    · have e: (x::t).all aV=false:=by simp [aV,k2]
      rw [e];exact aDV p i x sd sd sd sd sd
  · have e: (x::t).all aV=false:=by simp [aV,k1]
    rw [e];exact aDU p i x sd sd sd sd
end
theorem bAQ (p:Prog)(hc:p.cons.length≤25)(hn:p.nodes.length≤320) :∀ (t:List Con) (i:Nat),p.cons.drop i=t→Ends PP 0 (lM p (i:Int)).as (.ret (.bool (fN t&&p.nodes.all aV))) (aG [] 0)
 | [],i,h=>by
  have:=bD h;refine(aDT p i sd).ends ?_;simp only [fN,all_nil,Bool.true_and];exact bAP p hn p.nodes 0 rfl
 | c ::t,i,h=>by
  obtain⟨g1,g2,g3⟩ :=bC h;by_cases k:c.name.length≤40
  · have e: (fN (c::t) &&p.nodes.all aV) = (fN t&&p.nodes.all aV) :=by simp [fN,k]
    rw [e];refine(aDS p i c sd sd sd sd sd).ends ?_;exact bAQ p hc hn t (i+1) g2
  · have e: (fN (c::t) &&p.nodes.all aV) =false:=by simp [fN,k]
    rw [e];exact aDR p i c sd sd sd sd
theorem aCE (p:Prog) :Pure PP 50 [Prog.av p] (.bool (aN p)) :=by
 refine aQ (by kernel_rfl) rfl rfl ?_;by_cases h1:p.nodes.length≤320
 · by_cases h2:p.funs.length≤320
   · by_cases h3:p.cons.length≤25
     · have e:aN p= (fN p.cons&&p.nodes.all aV) :=by simp [aN,h1,h2,h3]
       rw [e];exact(aDQ p sd sd sd).ends (bAQ p h3 h1 p.cons 0 rfl)
     · have e:aN p=false:=by simp [aN,h3]
       rw [e];exact aDP p sd sd sd
   · have e:aN p=false:=by simp [aN,h2]
     rw [e];exact aDO p sd sd
 · have e:aN p=false:=by simp [aN,h1]
   rw [e];exact aDN p sd
def dJ(b c:Int)(d:aC)(a:List Pat)(e:List Con)(f:Bool)(g:Int):TS:=⟨(tf 187 82 [(1,(iC e)),kp 2 0,(4,(bV false)),(5,(bV f)),(6,(nI (a.length:Int))),(7,(nI g))] [kc f187 1012,kl f187 1012,.inBlock 1,kc f187 127]),[],[oC 0 [(nI b),(nI c),(aB d),(iP a)]],1⟩
def sD(d b:Int)(a:aC)(c:List Pat)(e:List Con):=tT 0 (start PP 187 [(.agg [(nI d),(nI b),(aB a),(iP c)]),(iC e)])<|gm 13 aD c<|.b 15 13 (d==1) (.b 7 19 ((c.length:Int) ==0) (.b 11 61 (b==0) (.W 13 1 [0] (dJ d b a c e (bF a.length (aA a) 0 0) 0))<|.W 13 1 [0] (dJ d b a c e false 0))<|.W 24 1 [0] (dJ d b a c e false 0))<|.b 6 13 (d==2) (.b 7 19 ((c.length:Int) ==0) (.b 11 61 (b==0) (.W 13 1 [0] (dJ d b a c e (bF a.length (aA a) 0 0) 0))<|.W 13 1 [0] (dJ d b a c e false 0))<|.W 24 1 [0] (dJ d b a c e false 0))<|.b 5 13 (d==5) (.b 5 19 ((c.length:Int) ==0) (.b 11 61 (b==0) (.W 13 1 [0] (dJ d b a c e (bF a.length (aA a) 0 0) 0))<|.W 13 1 [0] (dJ d b a c e false 0))<|.W 24 1 [0] (dJ d b a c e false 0))<|.b 6 24 (d==3) (.b 5 28 ((c.length:Int) ==0) (fQ 2 117 [(nI b),(nI (-1000000000)),(nI 1000000000)]<|fun f=>.b 8 61 f (.W 13 1 [0] (dJ d b a c e (bF a.length (aA a) 0 0) 0))<|.W 13 1 [0] (dJ d b a c e false 0))<|.W 24 1 [0] (dJ d b a c e false 0))<|.b 6 33 (d==4) (.b 5 37 ((c.length:Int) ==0) (fQ 2 117 [(nI b),(nI 0),(nI 1)]<|fun f=>.b 8 61 f (.W 13 1 [0] (dJ d b a c e (bF a.length (aA a) 0 0) 0))<|.W 13 1 [0] (dJ d b a c e false 0))<|.W 24 1 [0] (dJ d b a c e false 0))<|.b 6 42 (d==6) (gl 5 Con.av e<|gw 1 48 ((e.length:Int) -1)<|fQ 0 117 [(nI b),(nI 0),(nI ((e.length:Int) -1))]<|fun f=>.b 1 50 f (gX Con.av 4 e b<|fun g=>.b 11 61 ((c.length:Int) ==g.args) (.W 13 1 [0] (dJ d b a c e (bF a.length (aA a) 0 0) 0))<|.W 13 1 [0] (dJ d b a c e false 0))<|.W 29 1 [0] (dJ d b a c e false 0))<|.W 20 1 [0] (dJ d b a c e false 0)
def aRP:=fun a b c d e f g i=>sD a b c d e|>.t f|>.t g|>.t i tv
def aRQ:=fun a b c d e f g i=>sD a b c d e|>.t f|>.t g|>.f i tv
def aRR:=fun a b c d e f g=>sD a b c d e|>.t f|>.f g tv
def aRS:=fun a b c d e f g i j=>sD a b c d e|>.f f|>.t g|>.t i|>.t j tv
def aRT:=fun a b c d e f g i j=>sD a b c d e|>.f f|>.t g|>.t i|>.f j tv
def aRU:=fun a b c d e f g i=>sD a b c d e|>.f f|>.t g|>.f i tv
def aRV:=fun a b c d e f g i j k=>sD a b c d e|>.f f|>.f g|>.t i|>.t j|>.t k tv
def aRW:=fun a b c d e f g i j k=>sD a b c d e|>.f f|>.f g|>.t i|>.t j|>.f k tv
def aRX:=fun a b c d e f g i j=>sD a b c d e|>.f f|>.f g|>.t i|>.f j tv
def aRY:=fun a b c d e f g i j k l m n=>sD a b c d e|>.f g|>.f i|>.f j|>.t k|>.t l f m|>.t n tv
def aOS:=fun a b c d e f g i j k l m n=>sD a b c d e|>.f g|>.f i|>.f j|>.t k|>.t l f m|>.f n tv
def aOT:=fun a b c d e f g i j k=>sD a b c d e|>.f f|>.f g|>.f i|>.t j|>.f k tv
def aOU:=fun a b c d e f g i j k l m n o=>sD a b c d e|>.f g|>.f i|>.f j|>.f k|>.t l|>.t m f n|>.t o tv
def aOV:=fun a b c d e f g i j k l m n o=>sD a b c d e|>.f g|>.f i|>.f j|>.f k|>.t l|>.t m f n|>.f o tv
def aOW:=fun a b c d e f g i j k l=>sD a b c d e|>.f f|>.f g|>.f i|>.f j|>.t k|>.f l tv
def aOX:=fun a b c d e f g i j k l m n o p q r s t=>sD a b c d e|>.f i|>.f j|>.f k|>.f l|>.f m|>.t n o f p|>.t q g r s|>.t t tv
def aOY:=fun a b c d e f g i j k l m n o p q r s t=>sD a b c d e|>.f i|>.f j|>.f k|>.f l|>.f m|>.t n o f p|>.t q g r s|>.f t tv
def aOZ:=fun a b c d e f g i j k l m n o p=>sD a b c d e|>.f g|>.f i|>.f j|>.f k|>.f l|>.t m n f o|>.f p tv
def aO0:=fun a b c d e f g i j k l=>sD a b c d e|>.f f|>.f g|>.f i|>.f j|>.f k|>.f l tv
def bAa(e f:Int)(g:aC)(b:List Pat)(d:List Con)(c:Bool)(a:Int):=tT 0 (dJ e f g b d c a)<|gd 7 69 (a< (b.length:Int)) (.b 3 71 c (aDM 8 b a<|fun i j k l=>fQ 2 187 [(.agg [(nI i),(nI j),(aB k),(iP l)]),(iC d)]<|fun m=>gw 6 73 (a+1)<|.W 3 1 [0] (dJ e f g b d m (a+1)))<|gE 8 1 (bV c))<|gE 11 1 (bV c)
def aRZ:=fun a b c d e f g i j k l m n o p q r s=>bAa a b c d e f g|>.t n|>.t o i j k l p q m r s tv
def aR0:=fun a b c d e f g i j=>bAa a b c d e f g|>.t i|>.f j tv
def aR1:=fun a b c d e f g i=>bAa a b c d e f g|>.f i tv
def kG(a b c:Int):=tT 0 (start PP 188 [(nI a),(nI b),(nI c)])<|.b 16 8 (a==1) (gE 8 0 (nI 0))<|.b 6 8 (a==2) (gE 8 0 (nI 0))<|.b 6 8 (a==3) (gE 8 0 (nI 0))<|.b 6 8 (a==4) (gE 8 0 (nI 0))<|.b 6 8 (a==21) (gE 8 0 (nI 0))<|.b 6 8 (a==25) (gE 8 0 (nI 0))<|.b 5 8 (a==28) (gE 6 0 (nI 0))<|.b 7 16 (a==5) (gE 8 0 (nI 1))<|.b 6 16 (a==27) (gE 8 0 (nI 1))<|.b 6 16 (a==16) (gE 8 0 (nI 1))<|.b 6 16 (a==17) (gE 8 0 (nI 1))<|.b 6 16 (a==19) (gE 8 0 (nI 1))<|.b 6 16 (a==20) (gE 8 0 (nI 1))<|.b 6 16 (a==23) (gE 8 0 (nI 1))<|.b 6 16 (a==26) (gE 8 0 (nI 1))<|.b 5 16 (a==24) (gE 6 0 (nI 1))<|.b 7 26 (a==6) (gE 8 0 (nI 2))<|.b 6 26 (a==7) (gE 8 0 (nI 2))<|.b 6 26 (a==9) (gE 8 0 (nI 2))<|.b 6 26 (a==10) (gE 8 0 (nI 2))<|.b 6 26 (a==11) (gE 8 0 (nI 2))<|.b 6 26 (a==12) (gE 8 0 (nI 2))<|.b 6 26 (a==13) (gE 8 0 (nI 2))<|.b 6 26 (a==18) (gE 8 0 (nI 2))<|.b 5 26 (a==22) (gE 6 0 (nI 2))<|.b 6 36 (a==8) (gE 6 0 (nI 3))<|.b 6 38 (a==15) (gw 5 41 (1+b)<|gE 3 0 (nI (1+b)))<|.b 6 42 (a==14) (gE 7 0 (nI c))<|gE 8 0 (nI (-1))
def aO1:=fun a b c d=>kG a b c|>.t d tv
def aO2:=fun a b c d e=>kG a b c|>.f d|>.t e tv
def aO3:=fun a b c d e f=>kG a b c|>.f d|>.f e|>.t f tv
def aO4:=fun a b c d e f g=>kG a b c|>.f d|>.f e|>.f f|>.t g tv
def aO5:=fun a b c d e f g i=>kG a b c|>.f d|>.f e|>.f f|>.f g|>.t i tv
def aO6:=fun a b c d e f g i j=>kG a b c|>.f d|>.f e|>.f f|>.f g|>.f i|>.t j tv
def aO7:=fun a b c d e f g i j k=>kG a b c|>.f d|>.f e|>.f f|>.f g|>.f i|>.f j|>.t k tv
def aO8:=fun a b c d e f g i j k l=>kG a b c|>.f d|>.f e|>.f f|>.f g|>.f i|>.f j|>.f k|>.t l tv
def aO9:=fun a b c d e f g i j k l m=>kG a b c|>.f d|>.f e|>.f f|>.f g|>.f i|>.f j|>.f k|>.f l|>.t m tv
def aPa:=fun a b c d e f g i j k l m n=>kG a b c|>.f d|>.f e|>.f f|>.f g|>.f i|>.f j|>.f k|>.f l|>.f m|>.t n tv
def aL9:=fun a b c d e f g i j k l m n o=>kG a b c|>.f d|>.f e|>.f f|>.f g|>.f i|>.f j|>.f k|>.f l|>.f m|>.f n|>.t o tv
def aMa:=fun a b c d e f g i j k l m n o p=>kG a b c|>.f d|>.f e|>.f f|>.f g|>.f i|>.f j|>.f k|>.f l|>.f m|>.f n|>.f o|>.t p tv
def aMb:=fun a b c d e f g i j k l m n o p q=>kG a b c|>.f d|>.f e|>.f f|>.f g|>.f i|>.f j|>.f k|>.f l|>.f m|>.f n|>.f o|>.f p|>.t q tv
def aMc:=fun a b c d e f g i j k l m n o p q r=>kG a b c|>.f d|>.f e|>.f f|>.f g|>.f i|>.f j|>.f k|>.f l|>.f m|>.f n|>.f o|>.f p|>.f q|>.t r tv
def aMd:=fun a b c d e f g i j k l m n o p q r s=>kG a b c|>.f d|>.f e|>.f f|>.f g|>.f i|>.f j|>.f k|>.f l|>.f m|>.f n|>.f o|>.f p|>.f q|>.f r|>.t s tv
def aMe:=fun a b c d e f g i j k l m n o p q r s t=>kG a b c|>.f d|>.f e|>.f f|>.f g|>.f i|>.f j|>.f k|>.f l|>.f m|>.f n|>.f o|>.f p|>.f q|>.f r|>.f s|>.t t tv
def aMf:=fun a b c d e f g i j k l m n o p q r s t u=>kG a b c|>.f d|>.f e|>.f f|>.f g|>.f i|>.f j|>.f k|>.f l|>.f m|>.f n|>.f o|>.f p|>.f q|>.f r|>.f s|>.f t|>.t u tv
def aMg:=fun a b c d e f g i j k l m n o p q r s t u v=>kG a b c|>.f d|>.f e|>.f f|>.f g|>.f i|>.f j|>.f k|>.f l|>.f m|>.f n|>.f o|>.f p|>.f q|>.f r|>.f s|>.f t|>.f u|>.t v tv
def aMh:=fun a b c d e f g i j k l m n o p q r s t u v w=>kG a b c|>.f d|>.f e|>.f f|>.f g|>.f i|>.f j|>.f k|>.f l|>.f m|>.f n|>.f o|>.f p|>.f q|>.f r|>.f s|>.f t|>.f u|>.f v|>.t w tv
def aMi:=fun a b c d e f g i j k l m n o p q r s t u v w x=>kG a b c|>.f d|>.f e|>.f f|>.f g|>.f i|>.f j|>.f k|>.f l|>.f m|>.f n|>.f o|>.f p|>.f q|>.f r|>.f s|>.f t|>.f u|>.f v|>.f w|>.t x tv
def aMj:=fun a b c d e f g i j k l m n o p q r s t u v w x y=>kG a b c|>.f d|>.f e|>.f f|>.f g|>.f i|>.f j|>.f k|>.f l|>.f m|>.f n|>.f o|>.f p|>.f q|>.f r|>.f s|>.f t|>.f u|>.f v|>.f w|>.f x|>.t y tv
def aMk:=fun a b c d e f g i j k l m n o p q r s t u v w x y z=>kG a b c|>.f d|>.f e|>.f f|>.f g|>.f i|>.f j|>.f k|>.f l|>.f m|>.f n|>.f o|>.f p|>.f q|>.f r|>.f s|>.f t|>.f u|>.f v|>.f w|>.f x|>.f y|>.t z tv
def aMl:=fun a b c d e f g i j k l m n o p q r s t u v w x y z A=>kG a b c|>.f d|>.f e|>.f f|>.f g|>.f i|>.f j|>.f k|>.f l|>.f m|>.f n|>.f o|>.f p|>.f q|>.f r|>.f s|>.f t|>.f u|>.f v|>.f w|>.f x|>.f y|>.f z|>.t A tv
def aMm:=fun a b c d e f g i j k l m n o p q r s t u v w x y z A B=>kG a b c|>.f d|>.f e|>.f f|>.f g|>.f i|>.f j|>.f k|>.f l|>.f m|>.f n|>.f o|>.f p|>.f q|>.f r|>.f s|>.f t|>.f u|>.f v|>.f w|>.f x|>.f y|>.f z|>.f A|>.t B tv
def aMn:=fun a b c d e f g i j k l m n o p q r s t u v w x y z A B C=>kG a b c|>.f d|>.f e|>.f f|>.f g|>.f i|>.f j|>.f k|>.f l|>.f m|>.f n|>.f o|>.f p|>.f q|>.f r|>.f s|>.f t|>.f u|>.f v|>.f w|>.f x|>.f y|>.f z|>.f A|>.f B|>.t C tv
def aMo:=fun a b c d e f g i j k l m n o p q r s t u v w x y z A B C D=>kG a b c|>.f d|>.f e|>.f f|>.f g|>.f i|>.f j|>.f k|>.f l|>.f m|>.f n|>.f o|>.f p|>.f q|>.f r|>.f s|>.f t|>.f u|>.f v|>.f w|>.f x|>.f y|>.f z|>.f A|>.f B|>.f C|>.t D tv
def aMp:=fun a b c d e f g i j k l m n o p q r s t u v w x y z A B C D F G=>kG a b c|>.f d|>.f e|>.f f|>.f g|>.f i|>.f j|>.f k|>.f l|>.f m|>.f n|>.f o|>.f p|>.f q|>.f r|>.f s|>.f t|>.f u|>.f v|>.f w|>.f x|>.f y|>.f z|>.f A|>.f B|>.f C|>.f D|>.t F G tv
def aMq:=fun a b c d e f g i j k l m n o p q r s t u v w x y z A B C D F G=>kG a b c|>.f d|>.f e|>.f f|>.f g|>.f i|>.f j|>.f k|>.f l|>.f m|>.f n|>.f o|>.f p|>.f q|>.f r|>.f s|>.f t|>.f u|>.f v|>.f w|>.f x|>.f y|>.f z|>.f A|>.f B|>.f C|>.f D|>.f F|>.t G tv
def aMr:=fun a b c d e f g i j k l m n o p q r s t u v w x y z A B C D F G=>kG a b c|>.f d|>.f e|>.f f|>.f g|>.f i|>.f j|>.f k|>.f l|>.f m|>.f n|>.f o|>.f p|>.f q|>.f r|>.f s|>.f t|>.f u|>.f v|>.f w|>.f x|>.f y|>.f z|>.f A|>.f B|>.f C|>.f D|>.f F|>.f G tv
theorem Ends.eqv {P:Program}{m:Nat}{s:AS}{v v':AV}{h':Hp}(h:Ends P m s (.ret v) h')(e:v=v') :Ends P m s (.ret v') h':=e ▸ h
theorem inB_iff {n lo hi:Int}:cX n lo hi=true↔lo≤n∧n≤hi:=by simp [cX]
theorem inB_not {n lo hi:Int}:cX n lo hi=false↔¬ (lo≤n∧n≤hi) :=by simp [cX]
theorem sdI {p:Prop}(h:p:=by first|assumption|rfl| (simp only [Int.toNat_natCast];assumption) | (simp only [decide_eq_true_eq,decide_eq_false_iff_not];omega) |omega| (apply wrap64<;>omega) | (simp_all;done) | (simp only [inB_iff,inB_not,beq_iff_eq,decide_eq_true_eq,decide_eq_false_iff_not]at *;omega)) :p:=h
theorem idT {p:Prop}(h:p:=by exact⟨_,List.getElem?_eq_getElem (by simp only [inB_iff,inB_not,beq_iff_eq,decide_eq_true_eq,decide_eq_false_iff_not]at *;omega)⟩) :p:=h
def dG (op pats args:Int) :Int:=
 if op=1∨op=2∨op=3∨op=4∨op=21∨op=25∨op=28 then 0
 else if op=5∨op=27∨op=16∨op=17∨op=19∨op=20∨op=23∨op=26∨op=24 then 1
 else if op=6∨op=7∨op=9∨op=10∨op=11∨op=12∨op=13∨op=18∨op=22 then 2
 else if op=8 then 3 else if op=15 then 1+pats else if op=14 then args else -1
theorem rKids_E (op pats args :Int)(hp:0≤pats)(hp2:pats≤1000) :Ends PP 0 (start PP 188 [.int .i64 op,.int .i64 pats,.int .i64 args]).as (.ret (.int .i64 (dG op pats args))) (aG [] 0) :=by
 cases hb1: (op== (1:Int))with
 | true=>
  exact Ends.eqv (aO1 op pats args   hb1) (by simp_all [dG])
 | false =>
  cases hb2: (op== (2:Int))with
  | true=>
   exact Ends.eqv (aO2 op pats args   hb1 hb2) (by simp_all [dG])
  | false =>
   cases hb3: (op== (3:Int))with
   | true=>
    exact Ends.eqv (aO3 op pats args   hb1 hb2 hb3) (by simp_all [dG])
   | false =>
    cases hb4: (op== (4:Int))with
    | true=>
     exact Ends.eqv (aO4 op pats args   hb1 hb2 hb3 hb4) (by simp_all [dG])
    | false =>
     cases hb5: (op== (21:Int))with
     | true=>
      exact Ends.eqv (aO5 op pats args   hb1 hb2 hb3 hb4 hb5) (by simp_all [dG])
     | false =>
      cases hb6: (op== (25:Int))with
      | true=>
       exact Ends.eqv (aO6 op pats args   hb1 hb2 hb3 hb4 hb5 hb6) (by simp_all [dG])
      | false =>
       cases hb7: (op== (28:Int))with
       | true=>
        exact Ends.eqv (aO7 op pats args   hb1 hb2 hb3 hb4 hb5 hb6 hb7) (by simp_all [dG])
       | false =>
        cases hb8: (op== (5:Int))with
        | true=>
         exact Ends.eqv (aO8 op pats args   hb1 hb2 hb3 hb4 hb5 hb6 hb7 hb8) (by simp_all [dG])
        | false =>
         cases hb9: (op== (27:Int))with
         | true=>
          exact Ends.eqv (aO9 op pats args   hb1 hb2 hb3 hb4 hb5 hb6 hb7 hb8 hb9) (by simp_all [dG])
         | false =>
          cases hb10: (op== (16:Int))with
          | true=>
           exact Ends.eqv (aPa op pats args   hb1 hb2 hb3 hb4 hb5 hb6 hb7 hb8 hb9 hb10) (by simp_all [dG])
          | false =>
           cases hb11: (op== (17:Int))with
           | true=>
            exact Ends.eqv (aL9 op pats args   hb1 hb2 hb3 hb4 hb5 hb6 hb7 hb8 hb9 hb10 hb11) (by simp_all [dG])
           | false =>
            cases hb12: (op== (19:Int))with
            | true=>
             exact Ends.eqv (aMa op pats args   hb1 hb2 hb3 hb4 hb5 hb6 hb7 hb8 hb9 hb10 hb11 hb12) (by simp_all [dG])
            | false =>
             cases hb13: (op== (20:Int))with
             | true=>
              exact Ends.eqv (aMb op pats args   hb1 hb2 hb3 hb4 hb5 hb6 hb7 hb8 hb9 hb10 hb11 hb12 hb13) (by simp_all [dG])
             | false =>
              cases hb14: (op== (23:Int))with
              | true=>
               exact Ends.eqv (aMc op pats args   hb1 hb2 hb3 hb4 hb5 hb6 hb7 hb8 hb9 hb10 hb11 hb12 hb13 hb14) (by simp_all [dG])
              | false =>
               cases hb15: (op== (26:Int))with
               | true=>
                exact Ends.eqv (aMd op pats args   hb1 hb2 hb3 hb4 hb5 hb6 hb7 hb8 hb9 hb10 hb11 hb12 hb13 hb14 hb15) (by simp_all [dG])
               | false =>
                cases hb16: (op== (24:Int))with
                | true=>
                 exact Ends.eqv (aMe op pats args   hb1 hb2 hb3 hb4 hb5 hb6 hb7 hb8 hb9 hb10 hb11 hb12 hb13 hb14 hb15 hb16) (by simp_all [dG])
                | false =>
                 cases hb17: (op== (6:Int))with
                 | true=>
                  exact Ends.eqv (aMf op pats args   hb1 hb2 hb3 hb4 hb5 hb6 hb7 hb8 hb9 hb10 hb11 hb12 hb13 hb14 hb15 hb16 hb17) (by simp_all [dG])
                 | false =>
                  cases hb18: (op== (7:Int))with
                  | true=>
                   exact Ends.eqv (aMg op pats args   hb1 hb2 hb3 hb4 hb5 hb6 hb7 hb8 hb9 hb10 hb11 hb12 hb13 hb14 hb15 hb16 hb17 hb18) (by simp_all [dG])
                  | false =>
                   cases hb19: (op== (9:Int))with
                   | true=>
                    exact Ends.eqv (aMh op pats args   hb1 hb2 hb3 hb4 hb5 hb6 hb7 hb8 hb9 hb10 hb11 hb12 hb13 hb14 hb15 hb16 hb17 hb18 hb19) (by simp_all [dG])
                   | false =>
                    cases hb20: (op== (10:Int))with
                    | true=>
                     exact Ends.eqv (aMi op pats args   hb1 hb2 hb3 hb4 hb5 hb6 hb7 hb8 hb9 hb10 hb11 hb12 hb13 hb14 hb15 hb16 hb17 hb18 hb19 hb20) (by simp_all [dG])
                    | false =>
                     cases hb21: (op== (11:Int))with
                     | true=>
                      exact Ends.eqv (aMj op pats args   hb1 hb2 hb3 hb4 hb5 hb6 hb7 hb8 hb9 hb10 hb11 hb12 hb13 hb14 hb15 hb16 hb17 hb18 hb19 hb20 hb21) (by simp_all [dG])
                     | false =>
                      cases hb22: (op== (12:Int))with
                      | true=>
                       exact Ends.eqv (aMk op pats args   hb1 hb2 hb3 hb4 hb5 hb6 hb7 hb8 hb9 hb10 hb11 hb12 hb13 hb14 hb15 hb16 hb17 hb18 hb19 hb20 hb21 hb22) (by simp_all [dG])
                      | false =>
                       cases hb23: (op== (13:Int))with
                       | true=>
                        exact Ends.eqv (aMl op pats args   hb1 hb2 hb3 hb4 hb5 hb6 hb7 hb8 hb9 hb10 hb11 hb12 hb13 hb14 hb15 hb16 hb17 hb18 hb19 hb20 hb21 hb22 hb23) (by simp_all [dG])
                       | false=>
                        cases hb24: (op== (18:Int))with
                        | true=>
                         exact Ends.eqv (aMm op pats args   hb1 hb2 hb3 hb4 hb5 hb6 hb7 hb8 hb9 hb10 hb11 hb12 hb13 hb14 hb15 hb16 hb17 hb18 hb19 hb20 hb21 hb22 hb23 hb24) (by simp_all [dG])
                        | false=>
                         cases hb25: (op== (22:Int))with
                         | true=>
                          exact Ends.eqv (aMn op pats args   hb1 hb2 hb3 hb4 hb5 hb6 hb7 hb8 hb9 hb10 hb11 hb12 hb13 hb14 hb15 hb16 hb17 hb18 hb19 hb20 hb21 hb22 hb23 hb24 hb25) (by simp_all [dG])
                         | false=>
                          cases hb26: (op== (8:Int))with
                          | true=>
                           exact Ends.eqv (aMo op pats args   hb1 hb2 hb3 hb4 hb5 hb6 hb7 hb8 hb9 hb10 hb11 hb12 hb13 hb14 hb15 hb16 hb17 hb18 hb19 hb20 hb21 hb22 hb23 hb24 hb25 hb26) (by simp_all [dG])
                          | false=>
                           cases hb27: (op== (15:Int))with
                           | true=>
                            exact Ends.eqv (aMp op pats args   hb1 hb2 hb3 hb4 hb5 hb6 hb7 hb8 hb9 hb10 hb11 hb12 hb13 hb14 hb15 hb16 hb17 hb18 hb19 hb20 hb21 hb22 hb23 hb24 hb25 hb26 hb27 sdI) (by simp_all [dG])
                           | false=>
                            cases hb28: (op== (14:Int))with
                            | true=>
                             exact Ends.eqv (aMq op pats args   hb1 hb2 hb3 hb4 hb5 hb6 hb7 hb8 hb9 hb10 hb11 hb12 hb13 hb14 hb15 hb16 hb17 hb18 hb19 hb20 hb21 hb22 hb23 hb24 hb25 hb26 hb27 hb28) (by simp_all [dG])
                            | false=>
                             exact Ends.eqv (aMr op pats args   hb1 hb2 hb3 hb4 hb5 hb6 hb7 hb8 hb9 hb10 hb11 hb12 hb13 hb14 hb15 hb16 hb17 hb18 hb19 hb20 hb21 hb22 hb23 hb24 hb25 hb26 hb27 hb28) (by simp_all [dG])
theorem aMs (op pats args:Int)(hp:0≤pats)(hp2:pats≤1000) :Pure PP 188 [.int .i64 op,.int .i64 pats,.int .i64 args] (.int .i64 (dG op pats args)) :=
 aQ (by kernel_rfl) rfl rfl (rKids_E op pats args hp hp2)
def eK (cons:List Con)(n:Int) :Int:=match cons[n.toNat]? with
 |some c=>c.args
 |none=> -1
def cO (cons:List Con)(f n:Int)(s:aC)(k:Nat) :Bool:=
 (if f=1∨f=2∨f=5 then decide (k=0) &&decide (n=0)
 else if f=3 then decide (k=0) &&cX n (-1000000000) 1000000000
 else if f=4 then decide (k=0) &&cX n 0 1
 else if f=6 then cX n 0 ((cons.length:Int) -1) &&decide ((k:Int) =eK cons n)
 else false) &&decide (s= [])
mutual
def cD (cons:List Con) :Pat→Bool
 | .mk f n s ps=>cO cons f n s ps.length&&bQ cons ps
def bQ (cons:List Con) :List Pat→Bool
 | [] =>true
 |p::ps=>cD cons p&&bQ cons ps
end
theorem ptT {p:Prop}(h:p:=by simp_all [cO,eK,dE]) :p:=h
theorem bAb (q_form q_n:Int)(q_text:aC)(q_parts:List Pat)(cons:List Con)(hc:cons.length≤1000)(b:Bool)(hk:∀i:Bool,i=cO cons q_form q_n q_text q_parts.length→Ends PP 0 (dJ q_form q_n q_text q_parts cons i 0).as (.ret (.bool b)) (aG [] 0)) :
  Ends PP 0 (start PP 187 [Pat.av (.mk q_form q_n q_text q_parts),.ilst 2 (map Con.av cons) false]).as (.ret (.bool b)) (aG [] 0) :=by
 cases hb1: (q_form== (1:Int))with
 | true=>
  cases hb2: (((length q_parts:Nat) :Int) == (0:Int))with
  | true=>
   cases hb3: (q_n== (0:Int))with
   | true=>
    exact LeadsM.ends (aRP q_form q_n q_text q_parts cons   hb1 hb2 hb3) (hk _ (by clear hk;exact ptT))
   | false=>
    exact LeadsM.ends (aRQ q_form q_n q_text q_parts cons   hb1 hb2 hb3) (hk _ (by clear hk;exact ptT))
  | false=>
   exact LeadsM.ends (aRR q_form q_n q_text q_parts cons   hb1 hb2) (hk _ (by clear hk;exact ptT))
 | false =>
  cases hb4: (q_form== (2:Int))with
  | true=>
   cases hb5: (((length q_parts:Nat) :Int) == (0:Int))with
   | true=>
    cases hb6: (q_n== (0:Int))with
    | true=>
     exact LeadsM.ends (aRS q_form q_n q_text q_parts cons   hb1 hb4 hb5 hb6) (hk _ (by clear hk;exact ptT))
    | false=>
     exact LeadsM.ends (aRT q_form q_n q_text q_parts cons   hb1 hb4 hb5 hb6) (hk _ (by clear hk;exact ptT))
   | false=>
    exact LeadsM.ends (aRU q_form q_n q_text q_parts cons   hb1 hb4 hb5) (hk _ (by clear hk;exact ptT))
  | false =>
   cases hb7: (q_form== (5:Int))with
   | true=>
    cases hb8: (((length q_parts:Nat) :Int) == (0:Int))with
    | true=>
     cases hb9: (q_n== (0:Int))with
     | true=>
      exact LeadsM.ends (aRV q_form q_n q_text q_parts cons   hb1 hb4 hb7 hb8 hb9) (hk _ (by clear hk;exact ptT))
     | false=>
      exact LeadsM.ends (aRW q_form q_n q_text q_parts cons   hb1 hb4 hb7 hb8 hb9) (hk _ (by clear hk;exact ptT))
    | false=>
     exact LeadsM.ends (aRX q_form q_n q_text q_parts cons   hb1 hb4 hb7 hb8) (hk _ (by clear hk;exact ptT))
   | false=>
    cases hb10: (q_form== (3:Int))with
    | true=>
     cases hb11: (((length q_parts:Nat) :Int) == (0:Int))with
     | true=>
      cases hb12: (cX q_n (-1000000000) 1000000000)with
      | true=>
       exact LeadsM.ends (aRY q_form q_n q_text q_parts cons  (cX q_n (-1000000000) 1000000000) hb1 hb4 hb7 hb10 hb11 (aW q_n (-1000000000) 1000000000) hb12) (hk _ (by clear hk;exact ptT))
      | false=>
       exact LeadsM.ends (aOS q_form q_n q_text q_parts cons  (cX q_n (-1000000000) 1000000000) hb1 hb4 hb7 hb10 hb11 (aW q_n (-1000000000) 1000000000) hb12) (hk _ (by clear hk;exact ptT))
     | false=>
      exact LeadsM.ends (aOT q_form q_n q_text q_parts cons   hb1 hb4 hb7 hb10 hb11) (hk _ (by clear hk;exact ptT))
    | false=>
     cases hb13: (q_form== (4:Int))with
     | true=>
      cases hb14: (((length q_parts:Nat) :Int) == (0:Int))with
      | true=>
       cases hb15: (cX q_n 0 1)with
       | true=>
        exact LeadsM.ends (aOU q_form q_n q_text q_parts cons  (cX q_n 0 1) hb1 hb4 hb7 hb10 hb13 hb14 (aW q_n 0 1) hb15) (hk _ (by clear hk;exact ptT))
       | false=>
        exact LeadsM.ends (aOV q_form q_n q_text q_parts cons  (cX q_n 0 1) hb1 hb4 hb7 hb10 hb13 hb14 (aW q_n 0 1) hb15) (hk _ (by clear hk;exact ptT))
      | false=>
       exact LeadsM.ends (aOW q_form q_n q_text q_parts cons   hb1 hb4 hb7 hb10 hb13 hb14) (hk _ (by clear hk;exact ptT))
     | false=>
      cases hb16: (q_form== (6:Int))with
      | true=>
       cases hb17: (cX q_n 0 (((length cons:Nat) :Int) - (1:Int)))with
       | true=>
        obtain⟨y1,hx18⟩ :∃y,((cons)[q_n.toNat]?) =some y:=idT;cases hb19: (((length q_parts:Nat) :Int) ==y1.args)with
        | true=>
         exact LeadsM.ends (aOX q_form q_n q_text q_parts cons  (cX q_n 0 (((length cons:Nat) :Int) - (1:Int))) y1 hb1 hb4 hb7 hb10 hb13 hb16 sdI (aW q_n 0 (((length cons:Nat) :Int) - (1:Int))) hb17 sdI hx18 hb19) (hk _ (by clear hk;exact ptT))
        | false=>
         exact LeadsM.ends (aOY q_form q_n q_text q_parts cons  (cX q_n 0 (((length cons:Nat) :Int) - (1:Int))) y1 hb1 hb4 hb7 hb10 hb13 hb16 sdI (aW q_n 0 (((length cons:Nat) :Int) - (1:Int))) hb17 sdI hx18 hb19) (hk _ (by clear hk;exact ptT))
       | false=>
        exact LeadsM.ends (aOZ q_form q_n q_text q_parts cons  (cX q_n 0 (((length cons:Nat) :Int) - (1:Int))) hb1 hb4 hb7 hb10 hb13 hb16 sdI (aW q_n 0 (((length cons:Nat) :Int) - (1:Int))) hb17) (hk _ (by clear hk;exact ptT))
      | false=>
       exact LeadsM.ends (aO0 q_form q_n q_text q_parts cons   hb1 hb4 hb7 hb10 hb13 hb16) (hk _ (by clear hk;exact ptT))
theorem aFS (f n:Int)(s:aC)(ps:List Pat)(cons:List Con)(hl:ps.length<1000000)(ih:∀p∈ps,Pure PP 187 [Pat.av p,.ilst 2 (map Con.av cons) false] (.bool (cD cons p))) :
  ∀ (t:List Pat) (i:Nat) (b:Bool),ps.drop i=t→Ends PP 0 (dJ f n s ps cons b (i:Int)).as (.ret (.bool (b&&bQ cons t))) (aG [] 0)
 | [],i,b,h=>by
  have:=bD h;exact Ends.eqv (aR1 f n s ps cons b i sd) (by simp [bQ])
 | .mk f' n' s' ps'::t,i,b,h=>by
  obtain⟨g1,g2,g3⟩ :=bC h;cases b with
  |false=>exact Ends.eqv (aR0 f n s ps cons false i sd rfl) (by simp)
  | true=>
   refine(aRZ f n s ps cons true i f' n' s' ps' _ sd rfl sd sd (ih (.mk f' n' s' ps') (mem_of_getElem? g1)) sd).ends ?_;exact Ends.eqv (aFS f n s ps cons hl ih t (i+1) _ g2) (by simp [bQ])
mutual
theorem aFT (cons:List Con)(hc:cons.length≤1000) :∀ (p:Pat),cC p<1000000→Pure PP 187 [Pat.av p,.ilst 2 (map Con.av cons) false] (.bool (cD cons p))
 | .mk f n s ps,h=>by
  refine aQ (by kernel_rfl) (by simp [keylessL,mB,keyless]) rfl ?_;simp only [cC]at h;have:=eJ ps;refine bAb f n s ps cons hc _ (fun i hi=>?_);subst hi;rw [cD];exact aFS f n s ps cons (by omega) (aJr cons hc ps (by omega)) ps 0 _ rfl
theorem aJr (cons:List Con)(hc:cons.length≤1000) :∀ (ps:List Pat),aX ps<1000000→∀p∈ps,Pure PP 187 [Pat.av p,.ilst 2 (map Con.av cons) false] (.bool (cD cons p))
 | [],_,p,hp=>by cases hp
 | q::ps,h,p,hp=>by
  simp only [aX]at h;rcases List.mem_cons.1 hp with e|hp
  ·rw [e];exact aFT cons hc q (by omega)
  ·exact aJr cons hc ps (by omega) p hp
end
def bU(a:Prog)(b:Node)(c:Bool)(d e:Int):TS:=⟨(tf 119 112 [kp 2 0,kp 3 1,(4,(bV false)),(5,(nI d)),(6,(bV c)),(7,(nI e))] [kc f119 1012,kl f119 1012,.inBlock 1,kc f119 127]),[],[oC 0 [(iN a.nodes),(iI a.funs),(nI a.main),(iC a.cons)],oC 1 [(nI b.op),(nI b.n),(iI b.kids),(iP b.pats)]],2⟩
def aAT(b:List Con)(c:Int)(a:List aC):TS:=⟨(tf 118 42 [(0,(iC b)),(2,(bV false)),(3,(.gl 0 1 0 a.length false)),(4,(nI c))] [kc f118 116,kl f118 116,.inBlock 0,kc f118 15]),[],[oL 0 1 (map aB a)],1⟩
def sE(a:Prog)(c:Int)(b:List Bool):TS:=⟨(tf 38 133 [kp 1 0,(2,(bV false)),(3,(nI (a.nodes.length:Int))),(4,(.gl 1 1 0 b.length true)),(5,(nI c))] [kc f38 500,kl f38 500,.inBlock 0,kc f38 63]),[],[oC 0 [(iN a.nodes),(iI a.funs),(nI a.main),(iC a.cons)],oL 1 1 (map mA b)],2⟩
def nQ(a:Prog)(b:List Bool)(c:Int):TS:=⟨(tf 38 133 [kp 1 0,(2,(bV false)),(3,(nI (a.nodes.length:Int))),(4,(.gl 1 1 0 b.length true)),(6,(nI c))] [kc f38 1012,kl f38 1012,.inBlock 2,kc f38 127]),[],[oC 0 [(iN a.nodes),(iI a.funs),(nI a.main),(iC a.cons)],oL 1 1 (map mA b)],2⟩
def sF(a:Prog)(b:List Bool)(c d:Int):TS:=⟨(tf 38 133 [kp 1 0,(2,(bV false)),(3,(nI (a.nodes.length:Int))),(4,(.gl 1 1 0 b.length true)),(6,(nI d)),(7,(nI c))] [kc f38 129612,kl f38 129612,.inBlock 4,.inBlock 3,kc f38 4051,kl f38 1012,.inBlock 2,kc f38 127]),[],[oC 0 [(iN a.nodes),(iI a.funs),(nI a.main),(iC a.cons)],oL 1 1 (map mA b)],2⟩
def sG(b:Prog)(a:List Bool)(c:Int):TS:=⟨(tf 38 133 [(2,(bV false)),(3,(nI (b.nodes.length:Int))),(4,(.gl 0 1 0 a.length true)),(9,(nI c))] [kc f38 2036,kl f38 2036,.inBlock 6,kc f38 255]),[],[oL 0 1 (map mA a)],1⟩
def mR(b:Prog)(a:Node):=tT 0 (start PP 119 [(Prog.av b),(Node.av a)])<|.b 29 13 (a.op==1) (fQ 4 117 [(nI a.n),(nI (-1000000000)),(nI 1000000000)]<|fun c=>.b 10 56 (a.op==15) (.b 4 58 c (gm 2 aD a.pats<|fQ 0 117 [(nI (a.pats.length:Int)),(nI 1),(nI 5)]<|fun d=>.W 10 2 [0,1] (bU b a d 0 0))<|.W 14 2 [0,1] (bU b a false 0 0))<|.b 4 65 c (gm 2 aD a.pats<|.W 11 2 [0,1] (bU b a ((a.pats.length:Int) ==0) 0 0))<|.W 14 2 [0,1] (bU b a false 0 0))<|.b 6 18 (a.op==2) (fQ 4 117 [(nI a.n),(nI 0),(nI 1)]<|fun c=>.b 10 56 (a.op==15) (.b 4 58 c (gm 2 aD a.pats<|fQ 0 117 [(nI (a.pats.length:Int)),(nI 1),(nI 5)]<|fun d=>.W 10 2 [0,1] (bU b a d 0 0))<|.W 14 2 [0,1] (bU b a false 0 0))<|.b 4 65 c (gm 2 aD a.pats<|.W 11 2 [0,1] (bU b a ((a.pats.length:Int) ==0) 0 0))<|.W 14 2 [0,1] (bU b a false 0 0))<|.b 6 23 (a.op==4) (gl 6 aP b.funs<|gw 1 30 (0- (b.funs.length:Int))<|fQ 0 117 [(nI a.n),(nI (0- (b.funs.length:Int))),(nI 29)]<|fun c=>.b 10 56 (a.op==15) (.b 4 58 c (gm 2 aD a.pats<|fQ 0 117 [(nI (a.pats.length:Int)),(nI 1),(nI 5)]<|fun d=>.W 10 2 [0,1] (bU b a d 0 0))<|.W 14 2 [0,1] (bU b a false 0 0))<|.b 4 65 c (gm 2 aD a.pats<|.W 11 2 [0,1] (bU b a ((a.pats.length:Int) ==0) 0 0))<|.W 14 2 [0,1] (bU b a false 0 0))<|.b 6 32 (a.op==24) (fQ 4 117 [(nI a.n),(nI 0),(nI 3)]<|fun c=>.b 10 56 (a.op==15) (.b 4 58 c (gm 2 aD a.pats<|fQ 0 117 [(nI (a.pats.length:Int)),(nI 1),(nI 5)]<|fun d=>.W 10 2 [0,1] (bU b a d 0 0))<|.W 14 2 [0,1] (bU b a false 0 0))<|.b 4 65 c (gm 2 aD a.pats<|.W 11 2 [0,1] (bU b a ((a.pats.length:Int) ==0) 0 0))<|.W 14 2 [0,1] (bU b a false 0 0))<|.b 6 37 (a.op==14) (gl 7 Con.av b.cons<|gw 1 44 ((b.cons.length:Int) -1)<|fQ 0 117 [(nI a.n),(nI 0),(nI ((b.cons.length:Int) -1))]<|fun c=>.b 6 46 c (gX Con.av 6 b.cons a.n<|fun d=>.b 12 56 (a.op==15) (.b 4 58 c (gm 2 aD a.pats<|fQ 0 117 [(nI (a.pats.length:Int)),(nI 1),(nI 5)]<|fun e=>.W 10 2 [0,1] (bU b a e d.args 0)) .x)<|.b 4 65 c (gm 2 aD a.pats<|.W 11 2 [0,1] (bU b a ((a.pats.length:Int) ==0) d.args 0)) .x)<|.b 10 56 (a.op==15) (.b 4 58 c .x<|.W 14 2 [0,1] (bU b a false 0 0))<|.b 4 65 c .x<|.W 14 2 [0,1] (bU b a false 0 0))<|.b 10 56 (a.op==15) (.b 4 58 (a.n==0) (gm 2 aD a.pats<|fQ 0 117 [(nI (a.pats.length:Int)),(nI 1),(nI 5)]<|fun c=>.W 10 2 [0,1] (bU b a c 0 0))<|.W 14 2 [0,1] (bU b a false 0 0))<|.b 4 65 (a.n==0) (gm 2 aD a.pats<|.W 11 2 [0,1] (bU b a ((a.pats.length:Int) ==0) 0 0))<|.W 14 2 [0,1] (bU b a false 0 0)
def aPb:=fun a b c d e f g i j=>mR a b|>.t e c f|>.t g|>.t i d j tv
def aPc:=fun a b c d e f g=>mR a b|>.t d c e|>.t f|>.f g tv
def aPd:=fun a b c d e f g=>mR a b|>.t d c e|>.f f|>.t g tv
def aPe:=fun a b c d e f g=>mR a b|>.t d c e|>.f f|>.f g tv
def aPf:=fun a b c d e f g i j k=>mR a b|>.f e|>.t f c g|>.t i|>.t j d k tv
def aPg:=fun a b c d e f g i=>mR a b|>.f d|>.t e c f|>.t g|>.f i tv
def aPh:=fun a b c d e f g i=>mR a b|>.f d|>.t e c f|>.f g|>.t i tv
def aPi:=fun a b c d e f g i=>mR a b|>.f d|>.t e c f|>.f g|>.f i tv
def aPj:=fun a b c d e f g i j k l m=>mR a b|>.f e|>.f f|>.t g i c j|>.t k|>.t l d m tv
def aPk:=fun a b c d e f g i j k=>mR a b|>.f d|>.f e|>.t f g c i|>.t j|>.f k tv
def aMt:=fun a b c d e f g i j k=>mR a b|>.f d|>.f e|>.t f g c i|>.f j|>.t k tv
def aMu:=fun a b c d e f g i j k=>mR a b|>.f d|>.f e|>.t f g c i|>.f j|>.f k tv
def aMv:=fun a b c d e f g i j k l m=>mR a b|>.f e|>.f f|>.f g|>.t i c j|>.t k|>.t l d m tv
def aMw:=fun a b c d e f g i j k=>mR a b|>.f d|>.f e|>.f f|>.t g c i|>.t j|>.f k tv
def aMx:=fun a b c d e f g i j k=>mR a b|>.f d|>.f e|>.f f|>.t g c i|>.f j|>.t k tv
def aMy:=fun a b c d e f g i j k=>mR a b|>.f d|>.f e|>.f f|>.t g c i|>.f j|>.f k tv
def aMz:=fun b c d e f g i j k l m n a o p q r=>mR b c|>.f g|>.f i|>.f j|>.f k|>.t l m d n|>.t a e o p|>.t q|>.t a f r tv
def aMA:=fun b c d e f g i j k l m a n o p=>mR b c|>.f f|>.f g|>.f i|>.f j|>.t k l d m|>.t a e n o|>.f p|>.t a tv
def aMB:=fun b c d e f g i j k l a m=>mR b c|>.f e|>.f f|>.f g|>.f i|>.t j k d l|>.f a|>.t m|>.f a tv
def aMC:=fun b c d e f g i j k l a m=>mR b c|>.f e|>.f f|>.f g|>.f i|>.t j k d l|>.f a|>.f m|>.f a tv
def aMD:=fun a b c d e f g i j k l=>mR a b|>.f d|>.f e|>.f f|>.f g|>.f i|>.t j|>.t k c l tv
def aME:=fun a b c d e f g i j=>mR a b|>.f c|>.f d|>.f e|>.f f|>.f g|>.t i|>.f j tv
def aMF:=fun a b c d e f g i j=>mR a b|>.f c|>.f d|>.f e|>.f f|>.f g|>.f i|>.t j tv
def aMG:=fun a b c d e f g i j=>mR a b|>.f c|>.f d|>.f e|>.f f|>.f g|>.f i|>.f j tv
def aR2(j:Prog)(a:Node)(i:Bool)(k b:Int):=tT 0 (bU j a i k b)<|gm 6 aD a.pats<|gd 2 76 (b< (a.pats.length:Int)) (.b 3 78 i (.o (.y fun c:Int=>.y fun d:Int=>.y fun e:aC=>.y fun f:List Pat=>.y fun g:Int=>.y fun l:Bool=>.i [rn 4,.reg (rd 3 (.ans (.idx (Pat.av (Pat.mk c d e f)))::.d::.pure (nI g)::.d::.d::.b 88 true::rd 3 (.ans (.idx (Pat.av (Pat.mk c d e f)))::rd 3 [.pure (bV l),.d,.d])))] [hA (0≤b),.a (((a.pats)[b.toNat]?) =some (Pat.mk c d e f)) (gJ aD),hA (Pure PP 186 [(.agg [(nI c),(nI d),(aB e),(iP f)]),(nI 12)] (nI g)),hA (decide (g≥0) =true),hA (0≤b),.a (((a.pats)[b.toNat]?) =some (Pat.mk c d e f)) (gJ aD),hA (Pure PP 187 [(.agg [(nI c),(nI d),(aB e),(iP f)]),(iC j.cons)] (bV l))]<|gw 4 80 (b+1)<|.W 3 2 [0,1] (bU j a l k (b+1)))<|.y fun c:Int=>.y fun d:Int=>.y fun e:aC=>.y fun f:List Pat=>.y fun g:Int=>.i [rn 4,.reg (rd 3 (.ans (.idx (Pat.av (Pat.mk c d e f)))::.d::.pure (nI g)::.d::.d::.b 88 false::rd 10 []))] [hA (0≤b),.a (((a.pats)[b.toNat]?) =some (Pat.mk c d e f)) (gJ aD),hA (Pure PP 186 [(.agg [(nI c),(nI d),(aB e),(iP f)]),(nI 12)] (nI g)),hA (decide (g≥0) =false)]<|gw 4 80 (b+1)<|.W 3 2 [0,1] (bU j a false k (b+1)))<|.i [rn 3,.reg (.d::.d::.b 99 false::rd 13 [])] [hA (i=false)]<|gE 1 2 (bV false))<|.o (.y fun m:Int=>.i [rn 6,.reg (.d::.d::.b 99 true::.d::.d::.ans (.len (a.kids.length:Int))::rd 4 (.ans (.len (a.pats.length:Int))::.d::.pure (nI m)::rd 3 []))] [hA (i=true),hl aP a.kids,hm aD a.pats,hA (Pure PP 188 [(nI a.op),(nI (a.pats.length:Int)),(nI k)] (nI m)),.q (p:=(nI ((jI a.kids).length:Int)) = (nI (a.kids.length:Int))) (congrArg (int .i64) (aFO _ _)),.q (p:=(nI ((jI a.kids).length:Int)) = (nI (a.kids.length:Int))) (congrArg (int .i64) (aFO _ _)),hr (ilst 1 (jI a.kids) false),hr (ilst 1 (jI a.kids) false)]<|gE 1 2 (bV ((a.kids.length:Int) ==m)))<|.i [rn 6,.reg (.d::.d::.b 99 false::rd 13 [])] [hA (i=false)]<|gE 1 2 (bV false)
def aPl:=fun c d e f g i j k l m n o p a b q r s t=>aR2 c d e f g|>.t o|>.t p|>.1 i j k l m n a b q r a b s t tv
def aPm:=fun a b c d e f g i j k l m n o p q r=>aR2 a b c d e|>.t l|>.t m|>.2 f g i j k n o p q r tv
def aPn:=fun b c d e f g a=>aR2 b c d e f|>.t g|>.f a a tv
def aPo:=fun a b c d e f g i j=>aR2 a b c d e|>.f g|>.1 f i j tv
def aPp:=fun a b c d e f g=>aR2 a b c d e|>.f f|>.2 g tv
def aPq (a:List Con):=(tT 0 (start PP 118 [(iC a)])<|.i [rn 15,.nilL 3 1] []<|gu 0 0 (map aB ([] :List aC))<|gs 0 3 (.gl 0 1 0 ([] :List aC).length false)<|.W 0 1 [0] (aAT a 0 ([] :List aC))) ⟨kk,trivial⟩
def aR3(a:List Con)(c:Int)(d:List aC):=tT 0 (aAT a c d)<|gl 5 Con.av a<|gd 2 8 (c< (a.length:Int)) (gX Con.av 9 a c<|fun b=>fQ 2 172 [(aB b.name)]<|fun e=>.b 2 18 (!e) (gE 15 1 (bV false))<|gi Con.av 2 a c b<|fQ 2 117 [(nI b.args),(nI 0),(nI 3)]<|fun f=>.b 3 26 (!f) (gE 6 1 (bV false))<|gi Con.av 6 a c b<|ga 3 aB d [b.name]<|gw 6 10 (c+1)<|.W 3 3 [2] (aAT a (c+1) (d++ [b.name])))<|gl 5 Con.av a<|gd 2 38 ((a.length:Int) ≤20) (gz 1 39 0 1 aB d false<|fQ 0 71 [(iS d)]<|fun b=>gE 4 1 (bV b))<|gE 6 1 (bV false)
def aPr:=fun a b c d e f g i j k=>aR3 a b c|>.t f d g i e j|>.t k tv
def aPs:=fun c d e f g i j a b k l m n=>aR3 c d e|>.t j f a b g k|>.f l a b i m|>.t n tv
def aPt:=fun c d e f g i j a b k l m n o p=>aR3 c d e|>.t j f a b g k|>.f l a b i m|>.f n a b o p ⟨kk,trivial⟩
def aPu:=fun a b c d e f g=>aR3 a b c|>.f e|>.t f d g tv
def aPv:=fun a b c d e=>aR3 a b c|>.f d|>.f e tv
def aR4(a:Prog):=tT 0 (start PP 38 [(Prog.av a)])<|gl 9 Node.av a.nodes<|gd 8 15 ((a.nodes.length:Int) >300) (gE 30 1 (bV false))<|gl 2 aP a.funs<|fQ 1 117 [(nI (a.funs.length:Int)),(nI 1),(nI (a.nodes.length:Int))]<|fun b=>.b 3 23 (!b) (gE 22 1 (bV false))<|gl 4 aP a.funs<|gw 1 29 ((a.funs.length:Int) -1)<|fQ 0 117 [(nI a.main),(nI 0),(nI ((a.funs.length:Int) -1))]<|fun c=>.b 3 33 (!c) (gE 12 1 (bV false))<|fQ 2 118 [(iC a.cons)]<|fun d=>.b 3 38 (!d) (gE 6 1 (bV false))<|.i [rn 5,.mk a.nodes.length] [hr (a.nodes.length:Int),hr (a.nodes.length:Int),hA (a.nodes.length<100000)]<|.i [.lset 1 (map mA (replicate a.nodes.length false))] [.q (p:=replicate a.nodes.length (mA false) = (map mA (replicate a.nodes.length false))) (aNY _ _ _)]<|.i [.set 40 (.gl 1 1 0 (replicate a.nodes.length false).length true)] [.q (p:=(AV.gl 1 1 0 a.nodes.length true) = (.gl 1 1 0 (replicate a.nodes.length false).length true)) (cF (List.length_replicate ..).symm)]<|.W 9 2 [0,1] (sE a 0 (replicate a.nodes.length false))
def aJs:=fun a b=>aR4 a|>.t b tv
def aJt:=fun a b c d e=>aR4 a|>.f c b d|>.t e tv
def aJu:=fun a b c d e f g i j=>aR4 a|>.f d b e|>.f f g c i|>.t j tv
def aJv:=fun a b c d e f g i j k l m=>aR4 a|>.f e b f|>.f g i c j|>.f k d l|>.t m tv
def aJw:=fun a b c d e f g i j k l m n=>aR4 a|>.f e b f|>.f g i c j|>.f k d l|>.f m n ⟨kk,trivial⟩
def aVg(c:Prog)(d:Int)(a:List Bool):=tT 0 (sE c d a)<|gl 6 aP c.funs<|gd 2 45 (d< (c.funs.length:Int)) (gX aP 10 c.funs d<|fun b=>gw 3 54 ((c.nodes.length:Int) -1)<|fQ 0 117 [(nI b),(nI 0),(nI ((c.nodes.length:Int) -1))]<|fun f=>.b 2 57 (!f) (gE 16 2 (bV false))<|gi aP 4 c.funs d b<|.i [rn 1,.ans (.ix)] [hA (0≤b),hA (b< (a.length:Int))]<|.y fun e:Bool=>gj mA 0 a b.toNat e<|.b 2 66 e (gE 6 2 (bV false))<|gi aP 7 c.funs d b<|.i [rn 1,.ans (.ix)] [hA (0≤b),hA (b< (a.length:Int))]<|.i [.st (mA e) (mA true)] [.a (((a)[b.toNat]?) =some e) (gI (f:=mA)),hr (some (mA true))]<|.i [.lset 1 (map mA (set a b.toNat true))] [.q (p:=(map mA a).set (0+b.toNat) (mA true) = (map mA (set a b.toNat true))) (nP _ _ _ _)]<|.i [.set 4 (.gl 1 1 0 (set a b.toNat true).length true)] [.q (p:=(AV.gl 1 1 0 a.length true) = (.gl 1 1 0 (set a b.toNat true).length true)) (cF (length_set ..).symm)]<|.i [.set 58 (.gl 1 1 0 (set a b.toNat true).length true)] [.q (p:=(AV.gl 1 1 0 a.length true) = (.gl 1 1 0 (set a b.toNat true).length true)) (cF (length_set ..).symm)]<|.i [.set 67 (.gl 1 1 0 (set a b.toNat true).length true)] [.q (p:=(AV.gl 1 1 0 a.length true) = (.gl 1 1 0 (set a b.toNat true).length true)) (cF (length_set ..).symm)]<|gw 5 47 (d+1)<|.W 3 2 [0,1] (sE c (d+1) (set a b.toNat true)))<|.W 9 2 [0,1] (nQ c a 0)
def aJx:=fun a b c d e f g i j k l=>aVg a b c|>.t f d g i j e k|>.t l tv
def aJy:=fun c d e f g i j a b k l m n o p q=>aVg c d e|>.t j f a b k g l|>.f m a b n o i p|>.t q tv
def aJz:=fun f g i j k l m a b n o p c d e q r=>aVg f g i|>.t m j a b n k o|>.f p a b c d l e|>.f q a b c d e r ⟨kk,trivial⟩
def aJA:=fun a b c d=>aVg a b c|>.f d ⟨kk,trivial⟩
def bAc(a:Prog)(c:List Bool)(b:Int):=tT 0 (nQ a c b)<|gd 7 76 (b< (a.nodes.length:Int)) (.y fun d:Node=>.y fun e:Bool=>.i [rn 6,.reg (rd 4 [.ans (.idx (Node.av d)),.d,.pure (bV e),.d])] [hA (0≤b),.a (((a.nodes)[b.toNat]?) =some d) (bS (f:=Node.av)),hA (Pure PP 119 [(Prog.av a),(Node.av d)] (bV e))]<|.b 0 86 (!e) (gE 6 2 (bV false))<|.W 8 2 [0,1] (sF a c 0 b))<|.W 9 2 [1] (sG a c 0)
def aJB:=fun a b c d e f g i j k=>bAc a b c|>.t f d e g i j|>.t k tv
def aJC:=fun a b c d e f g i j k=>bAc a b c|>.t f d e g i j|>.f k ⟨kk,trivial⟩
def aJD:=fun a b c d=>bAc a b c|>.f d ⟨kk,trivial⟩
def aVh(d:Prog)(a:List Bool)(e c:Int):=tT 0 (sF d a e c)<|gX Node.av 7 d.nodes c<|fun f=>gl 2 aP f.kids<|gd 2 95 (e< (f.kids.length:Int)) (gi Node.av 9 d.nodes c f<|gX aP 3 f.kids e<|fun b=>gw 9 109 (c+1)<|gw 2 111 ((d.nodes.length:Int) -1)<|fQ 0 117 [(nI b),(nI (c+1)),(nI ((d.nodes.length:Int) -1))]<|fun i=>.b 2 114 (!i) (gE 12 2 (bV false))<|.i [rn 2,.ans (.ix)] [hA (0≤b),hA (b< (a.length:Int))]<|.y fun g:Bool=>gj mA 0 a b.toNat g<|.b 2 119 g (gE 6 2 (bV false))<|.i [rn 5,.ans (.ix)] [hA (0≤b),hA (b< (a.length:Int))]<|.i [.st (mA g) (mA true)] [.a (((a)[b.toNat]?) =some g) (gI (f:=mA)),hr (some (mA true))]<|.i [.lset 1 (map mA (set a b.toNat true))] [.q (p:=(map mA a).set (0+b.toNat) (mA true) = (map mA (set a b.toNat true))) (nP _ _ _ _)]<|.i [.set 4 (.gl 1 1 0 (set a b.toNat true).length true)] [.q (p:=(AV.gl 1 1 0 a.length true) = (.gl 1 1 0 (set a b.toNat true).length true)) (cF (length_set ..).symm)]<|.i [.set 115 (.gl 1 1 0 (set a b.toNat true).length true)] [.q (p:=(AV.gl 1 1 0 a.length true) = (.gl 1 1 0 (set a b.toNat true).length true)) (cF (length_set ..).symm)]<|.i [.set 120 (.gl 1 1 0 (set a b.toNat true).length true)] [.q (p:=(AV.gl 1 1 0 a.length true) = (.gl 1 1 0 (set a b.toNat true).length true)) (cF (length_set ..).symm)]<|gw 5 97 (e+1)<|.W 3 2 [0,1] (sF d (set a b.toNat true) (e+1) c))<|gw 6 78 (c+1)<|.W 3 2 [0,1] (nQ d a (c+1))
def aJE:=fun c d e f g i j a b k l m n o p q=>aVh c d e f g a b|>.t k a b i l m n o j p|>.t q tv
def aJF:=fun c d e f g i j k a b l m n o p q r s t u v=>aVh c d e f g a b|>.t l a b i m n o p j q|>.f r s t k u|>.t v tv
def aJG:=fun f g i j k l m n a b o p q r s t u c d e v w=>aVh f g i j k a b|>.t o a b l p q r s m t|>.f u c d n e|>.f v c d e w ⟨kk,trivial⟩
def aJH:=fun a b c d e f g i j=>aVh a b c d e f g|>.f i j ⟨kk,trivial⟩
def bAd(c:Prog)(b:List Bool)(a:Int):=tT 0 (sG c b a)<|gd 7 125 (a< (c.nodes.length:Int)) (.i [rn 8,.ans (.ix)] [hA (0≤a),hA (a< (b.length:Int))]<|.y fun d:Bool=>gj mA 0 b a.toNat d<|.b 2 132 (!d) (gE 6 1 (bV false))<|gw 6 127 (a+1)<|.W 3 1 [0] (sG c b (a+1)))<|gE 7 1 (bV true)
def aJI:=fun a b c d e f g i j=>bAd a b c|>.t e f g d i|>.t j tv
def aJJ:=fun a b c d e f g i j k=>bAd a b c|>.t e f g d i|>.f j k ⟨kk,trivial⟩
def aJK:=fun a b c d=>bAd a b c|>.f d tv
def fC (c:Con) :Bool:=hR c.name&&cX c.args 0 3
def bE (l:List Con) :List aC:=l.map Con.name
def vQ (l:List Con) :Bool:=l.all fC&&decide (l.length≤20) &&cN (bE l)
def bK (p:Prog)(op n:Int) :Bool:=
 if op=1 then cX n (-1000000000) 1000000000
 else if op=2 then cX n 0 1
 else if op=4 then cX n (0- (p.funs.length:Int)) 29
 else if op=24 then cX n 0 3
 else if op=14 then cX n 0 ((p.cons.length:Int) -1)
 else decide (n=0)
def fO (p:Prog)(x:Node) :Bool:=
 bK p x.op x.n&& (if x.op=15 then cX (x.pats.length:Int) 1 5 else decide (x.pats.length=0))
def fD (p:Prog)(x:Node) :Int:=if x.op=14∧cX x.n 0 ((p.cons.length:Int) -1) =true then eK p.cons x.n else 0
def gB (cons:List Con)(q:Pat) :Bool:=decide (cC q≤12) &&cD cons q
def bH (p:Prog)(x:Node) :Bool:=
 fO p x&&x.pats.all (gB p.cons) &&decide ((x.kids.length:Int) =dG x.op x.pats.length (fD p x))
theorem fK {α:Type}(l:List α) : ((l.length:Int) ==0) =decide (l= []) :=by cases l<;>simp;omega
theorem mY {p:Prop}(h:p:=by simp_all [fO,bK,fD,eK,fK]) :p:=h
theorem aVi (p:Prog)(x:Node)(hc:p.cons.length≤1000)(hf:p.funs.length≤1000)(b:Bool)(hk:∀ (i:Bool) (a:Int),i=fO p x→a=fD p x→Ends PP 0 (bU p x i a 0).as (.ret (.bool b)) (aG [] 0)) :
  Ends PP 0 (start PP 119 [Prog.av p,Node.av x]).as (.ret (.bool b)) (aG [] 0) :=by
 cases hb1: (x.op== (1:Int))with
 | true=>
  cases hb2: (x.op== (15:Int))with
  | true=>
   cases hb3: (cX (x.n) (-1000000000) 1000000000)with
   | true=>
    exact LeadsM.ends (aPb p x  (cX (x.n) (-1000000000) 1000000000) (cX ((length x.pats:Nat) :Int) 1 5) hb1 (aW (x.n) (-1000000000) 1000000000) hb2 hb3 (aW ((length x.pats:Nat) :Int) 1 5)) (hk _ _ (by clear hk;exact mY) (by clear hk;exact mY))
   | false=>
    exact LeadsM.ends (aPc p x  (cX (x.n) (-1000000000) 1000000000) hb1 (aW (x.n) (-1000000000) 1000000000) hb2 hb3) (hk _ _ (by clear hk;exact mY) (by clear hk;exact mY))
  | false=>
   cases hb4: (cX (x.n) (-1000000000) 1000000000)with
   | true=>
    exact LeadsM.ends (aPd p x  (cX (x.n) (-1000000000) 1000000000) hb1 (aW (x.n) (-1000000000) 1000000000) hb2 hb4) (hk _ _ (by clear hk;exact mY) (by clear hk;exact mY))
   | false=>
    exact LeadsM.ends (aPe p x  (cX (x.n) (-1000000000) 1000000000) hb1 (aW (x.n) (-1000000000) 1000000000) hb2 hb4) (hk _ _ (by clear hk;exact mY) (by clear hk;exact mY))
 | false =>
  cases hb5: (x.op== (2:Int))with
  | true=>
   cases hb6: (x.op== (15:Int))with
   | true=>
    cases hb7: (cX (x.n) 0 1)with
    | true=>
     exact LeadsM.ends (aPf p x  (cX (x.n) 0 1) (cX ((length x.pats:Nat) :Int) 1 5) hb1 hb5 (aW (x.n) 0 1) hb6 hb7 (aW ((length x.pats:Nat) :Int) 1 5)) (hk _ _ (by clear hk;exact mY) (by clear hk;exact mY))
    | false=>
     exact LeadsM.ends (aPg p x  (cX (x.n) 0 1) hb1 hb5 (aW (x.n) 0 1) hb6 hb7) (hk _ _ (by clear hk;exact mY) (by clear hk;exact mY))
   | false=>
    cases hb8: (cX (x.n) 0 1)with
    | true=>
     exact LeadsM.ends (aPh p x  (cX (x.n) 0 1) hb1 hb5 (aW (x.n) 0 1) hb6 hb8) (hk _ _ (by clear hk;exact mY) (by clear hk;exact mY))
    | false=>
     exact LeadsM.ends (aPi p x  (cX (x.n) 0 1) hb1 hb5 (aW (x.n) 0 1) hb6 hb8) (hk _ _ (by clear hk;exact mY) (by clear hk;exact mY))
  | false=>
   cases hb9: (x.op== (4:Int))with
   | true=>
    cases hb10: (x.op== (15:Int))with
    | true=>
     cases hb11: (cX (x.n) (0- ((length p.funs:Nat) :Int)) 29)with
     | true=>
      exact LeadsM.ends (aPj p x  (cX (x.n) (0- ((length p.funs:Nat) :Int)) 29) (cX ((length x.pats:Nat) :Int) 1 5) hb1 hb5 hb9 sdI (aW (x.n) (0- ((length p.funs:Nat) :Int)) 29) hb10 hb11 (aW ((length x.pats:Nat) :Int) 1 5)) (hk _ _ (by clear hk;exact mY) (by clear hk;exact mY))
     | false=>
      exact LeadsM.ends (aPk p x  (cX (x.n) (0- ((length p.funs:Nat) :Int)) 29) hb1 hb5 hb9 sdI (aW (x.n) (0- ((length p.funs:Nat) :Int)) 29) hb10 hb11) (hk _ _ (by clear hk;exact mY) (by clear hk;exact mY))
    | false=>
     cases hb12: (cX (x.n) (0- ((length p.funs:Nat) :Int)) 29)with
     | true=>
      exact LeadsM.ends (aMt p x  (cX (x.n) (0- ((length p.funs:Nat) :Int)) 29) hb1 hb5 hb9 sdI (aW (x.n) (0- ((length p.funs:Nat) :Int)) 29) hb10 hb12) (hk _ _ (by clear hk;exact mY) (by clear hk;exact mY))
     | false=>
      exact LeadsM.ends (aMu p x  (cX (x.n) (0- ((length p.funs:Nat) :Int)) 29) hb1 hb5 hb9 sdI (aW (x.n) (0- ((length p.funs:Nat) :Int)) 29) hb10 hb12) (hk _ _ (by clear hk;exact mY) (by clear hk;exact mY))
   | false=>
    cases hb13: (x.op== (24:Int))with
    | true=>
     cases hb14: (x.op== (15:Int))with
     | true=>
      cases hb15: (cX (x.n) 0 3)with
      | true=>
       exact LeadsM.ends (aMv p x  (cX (x.n) 0 3) (cX ((length x.pats:Nat) :Int) 1 5) hb1 hb5 hb9 hb13 (aW (x.n) 0 3) hb14 hb15 (aW ((length x.pats:Nat) :Int) 1 5)) (hk _ _ (by clear hk;exact mY) (by clear hk;exact mY))
      | false=>
       exact LeadsM.ends (aMw p x  (cX (x.n) 0 3) hb1 hb5 hb9 hb13 (aW (x.n) 0 3) hb14 hb15) (hk _ _ (by clear hk;exact mY) (by clear hk;exact mY))
     | false=>
      cases hb16: (cX (x.n) 0 3)with
      | true=>
       exact LeadsM.ends (aMx p x  (cX (x.n) 0 3) hb1 hb5 hb9 hb13 (aW (x.n) 0 3) hb14 hb16) (hk _ _ (by clear hk;exact mY) (by clear hk;exact mY))
      | false=>
       exact LeadsM.ends (aMy p x  (cX (x.n) 0 3) hb1 hb5 hb9 hb13 (aW (x.n) 0 3) hb14 hb16) (hk _ _ (by clear hk;exact mY) (by clear hk;exact mY))
    | false=>
     cases hb17: (x.op== (14:Int))with
     | true=>
      cases hb18: (cX (x.n) 0 (((length p.cons:Nat) :Int) - (1:Int)))with
      | true=>
       obtain⟨y1,hx19⟩ :∃y,((p.cons)[x.n.toNat]?) =some y:=idT;cases hb20: (x.op== (15:Int))with
       | true=>
        exact LeadsM.ends (aMz p x  (cX (x.n) 0 (((length p.cons:Nat) :Int) - (1:Int))) y1 (cX ((length x.pats:Nat) :Int) 1 5) hb1 hb5 hb9 hb13 hb17 sdI (aW (x.n) 0 (((length p.cons:Nat) :Int) - (1:Int))) hb18 sdI hx19 hb20 (aW ((length x.pats:Nat) :Int) 1 5)) (hk _ _ (by clear hk;exact mY) (by clear hk;exact mY))
       | false=>
        exact LeadsM.ends (aMA p x  (cX (x.n) 0 (((length p.cons:Nat) :Int) - (1:Int))) y1 hb1 hb5 hb9 hb13 hb17 sdI (aW (x.n) 0 (((length p.cons:Nat) :Int) - (1:Int))) hb18 sdI hx19 hb20) (hk _ _ (by clear hk;exact mY) (by clear hk;exact mY))
      | false=>
       cases hb21: (x.op== (15:Int))with
       | true=>
        exact LeadsM.ends (aMB p x  (cX (x.n) 0 (((length p.cons:Nat) :Int) - (1:Int))) hb1 hb5 hb9 hb13 hb17 sdI (aW (x.n) 0 (((length p.cons:Nat) :Int) - (1:Int))) hb18 hb21) (hk _ _ (by clear hk;exact mY) (by clear hk;exact mY))
       | false=>
        exact LeadsM.ends (aMC p x  (cX (x.n) 0 (((length p.cons:Nat) :Int) - (1:Int))) hb1 hb5 hb9 hb13 hb17 sdI (aW (x.n) 0 (((length p.cons:Nat) :Int) - (1:Int))) hb18 hb21) (hk _ _ (by clear hk;exact mY) (by clear hk;exact mY))
     | false=>
      cases hb22: (x.op== (15:Int))with
      | true=>
       cases hb23: (x.n== (0:Int))with
       | true=>
        exact LeadsM.ends (aMD p x  (cX ((length x.pats:Nat) :Int) 1 5) hb1 hb5 hb9 hb13 hb17 hb22 hb23 (aW ((length x.pats:Nat) :Int) 1 5)) (hk _ _ (by clear hk;exact mY) (by clear hk;exact mY))
       | false=>
        exact LeadsM.ends (aME p x   hb1 hb5 hb9 hb13 hb17 hb22 hb23) (hk _ _ (by clear hk;exact mY) (by clear hk;exact mY))
      | false=>
       cases hb24: (x.n== (0:Int))with
       | true=>
        exact LeadsM.ends (aMF p x   hb1 hb5 hb9 hb13 hb17 hb22 hb24) (hk _ _ (by clear hk;exact mY) (by clear hk;exact mY))
       | false=>
        exact LeadsM.ends (aMG p x   hb1 hb5 hb9 hb13 hb17 hb22 hb24) (hk _ _ (by clear hk;exact mY) (by clear hk;exact mY))
theorem zP (p:Prog)(x:Node)(hc:p.cons.length≤1000)(hl:x.pats.length≤10)(a:Int) :
  ∀ (t:List Pat) (i:Nat) (b:Bool),x.pats.drop i=t→Ends PP 0 (bU p x b a (i:Int)).as (.ret (.bool (b&&t.all (gB p.cons) &&decide ((x.kids.length:Int) =dG x.op x.pats.length a)))) (aG [] 0)
 | [],i,b,h=>by
  have:=bD h;cases b with
  |false=>exact Ends.eqv (aPp p x false a i sd rfl) (by simp)
  | true=>
   refine Ends.eqv (aPo p x true a i _ sd rfl (aMs x.op x.pats.length a (by omega) (by omega))) ?_;simp only [all_nil,Bool.true_and,AV.bool.injEq];rfl
 | .mk f' n' s' ps'::t,i,b,h=>by
  obtain⟨g1,g2,g3⟩ :=bC h;cases b with
  |false=>exact Ends.eqv (aPn p x false a i sd rfl) (by simp)
  | true=>
   have hw:=vM (.mk f' n' s' ps') 12 (by omega) (by omega);by_cases k:cC (.mk f' n' s' ps') ≤12
   · have hg:0≤kM (.mk f' n' s' ps') 12:= (wU (.mk f' n' s' ps') 12).2 (by omega);refine(aPl p x true a i f' n' s' ps' _ _ sd rfl sd sd hw (decide_eq_true hg) (aFT p.cons hc (.mk f' n' s' ps') (by omega)) sd).ends ?_;exact Ends.eqv (zP p x hc hl a t (i+1) _ g2) (by simp [gB,k])
   · have hg:¬kM (.mk f' n' s' ps') 12≥0:=fun g=>k (by have:= (wU (.mk f' n' s' ps') 12).1 g;omega);refine(aPm p x true a i f' n' s' ps' _ sd rfl sd sd hw (decide_eq_false hg) sd).ends ?_;exact Ends.eqv (zP p x hc hl a t (i+1) _ g2) (by simp [gB,k])
theorem aMH (p:Prog)(x:Node)(hc:p.cons.length≤1000)(hf:p.funs.length≤1000)(hl:x.pats.length≤10) :Pure PP 119 [Prog.av p,Node.av x] (.bool (bH p x)) :=by
 refine aQ (by kernel_rfl) rfl rfl (aVi p x hc hf _ fun i a hi ha=>?_);subst hi ha;exact zP p x hc hl _ x.pats 0 _ rfl
theorem aD5 (l:List Con)(hl:l.length≤1000) :∀ (t:List Con) (i:Nat),l.drop i=t→Ends PP 0 (aAT l (i:Int) (bE (l.take i))).as (.ret (.bool (t.all fC&&decide (l.length≤20) &&cN (bE l)))) (aG [] 0)
 | [],i,h=>by
  have hi:=bD h;have e:bE (l.take i) =bE l:=by rw [List.take_of_length_le hi]
  rw [e];by_cases k:l.length≤20
  ·exact Ends.eqv (aPu l i _ _ sd sd (aAR (bE l) (by simp [bE];omega))) (by simp [k])
  ·exact Ends.eqv (aPv l i _ sd sd) (by simp [k])
 | c ::t,i,h=>by
  obtain⟨g1,g2,g3⟩ :=bC h;have hg:=aJl c.name;cases k1:hR c.name with
  | false=>
   rw [k1]at hg;exact Ends.eqv (aPr l i _ c false sd sd sd hg rfl) (by simp [fC,k1])
  | true=>
   rw [k1]at hg;have hi:=aW c.args 0 3;cases k2:cX c.args 0 3 with
   | false=>
    rw [k2]at hi;exact Ends.eqv (aPs l i _ c true false sd sd sd hg rfl hi rfl) (by simp [fC,k1,k2])
   | true=>
    rw [k2]at hi;have e:bE (l.take i) ++ [c.name] =bE (l.take (i+1)) :=by
     rw [List.take_add_one,g1];simp [bE]
    refine(aPt l i (bE (l.take i)) c true true sd sd sd hg rfl hi rfl (by simp [bE];omega) sd).ends ?_;rw [e];exact Ends.eqv (aD5 l hl t (i+1) g2) (by simp [fC,k1,k2])
theorem aMI (l:List Con)(hl:l.length≤1000) :Pure PP 118 [.ilst 2 (map Con.av l) false] (.bool (vQ l)) :=
 aQ (by kernel_rfl) rfl rfl ((aPq l).ends (aD5 l hl l 0 rfl))
def marks (lo n:Int) :List Int→List Bool→Option (List Bool)
 | [],u=>some u
 |k::ks,u=>if cX k lo (n-1) =true∧u[k.toNat]?=some false then marks lo n ks (u.set k.toNat true)else none
theorem kX {lo n:Int}:∀ {ks:List Int} {u v:List Bool},marks lo n ks u=some v→v.length=u.length
 | [],u,v,h=>by simp only [marks,Option.some.injEq]at h;rw [h]
 | k::ks,u,v,h=>by
  simp only [marks]at h;split at h
  ·have:=kX h;simpa using this
  ·cases h
def cS (p:Prog) :Nat→List Node→List Bool→Option (List Bool)
 |_,[],u=>some u
 | i,x::t,u=>if bH p x=true then match marks ((i:Int) +1) (p.nodes.length:Int) x.kids u with
   |some v=>cS p (i+1) t v
   |none=>none
  else none
def allT :Option (List Bool) →Bool
 |some u=>u.all fun b=>b
 |none=>false
def dW (p:Prog) :Bool:=decide (p.nodes.length≤300) &&cX (p.funs.length:Int) 1 (p.nodes.length:Int) &&cX p.main 0 ((p.funs.length:Int) -1)
def aY (p:Prog) :Bool:=
 dW p&&vQ p.cons&& (match marks 0 (p.nodes.length:Int) p.funs (replicate p.nodes.length false)with
  |some u=>allT (cS p 0 p.nodes u)
  |none=>false)
theorem rF3 (p:Prog)(u:List Bool)(hn:p.nodes.length≤1000)(hu:u.length=p.nodes.length) :∀ (t:List Bool) (i:Nat),u.drop i=t→Ends PP 0 (sG p u (i:Int)).as (.ret (.bool (t.all fun b=>b))) (aG [] 0)
 | [],i,h=>by
  have:=bD h;exact aJK p u i sd
 | b::t,i,h=>by
  obtain⟨g1,g2,g3⟩ :=bC h;cases b with
  |false=>exact Ends.eqv (aJI p u i false sd sd sd sd rfl) (by simp)
  | true=>
   refine(aJJ p u i true sd sd sd sd rfl sd).ends ?_;exact Ends.eqv (rF3 p u hn hu t (i+1) g2) (by simp)
theorem bAR (p:Prog)(x:Node)(i:Nat)(hx:p.nodes[i]?=some x)(hn:p.nodes.length≤1000)(hk:x.kids.length≤1000)(K:List Bool→Bool)
  (hb:∀v:List Bool,v.length=p.nodes.length→Ends PP 0 (nQ p v ((i:Int) +1)).as (.ret (.bool (K v))) (aG [] 0)) :
  ∀ (t:List Int) (k:Nat) (u:List Bool),u.length=p.nodes.length→x.kids.drop k=t→Ends PP 0 (sF p u (k:Int) (i:Int)).as (.ret (.bool (match marks ((i:Int) +1) p.nodes.length t u with|some v=>K v|none=>false))) (aG [] 0)
 | [],k,u,hu,h=>by
  have:=bD h;have hi:= (List.getElem?_eq_some_iff.1 hx).1;refine(aJH p u k i x sd sd sd sd).ends ?_;exact hb u hu
 | y ::t,k,u,hu,h=>by
  obtain⟨g1,g2,g3⟩ :=bC h;have hi:= (List.getElem?_eq_some_iff.1 hx).1;have hin:=aW y ((i:Int) +1) ((p.nodes.length:Int) -1);cases k1:cX y ((i:Int) +1) ((p.nodes.length:Int) -1)with
  | false=>
   rw [k1]at hin;exact Ends.eqv (aJE p u k i x y false sd sd sd sd sd sd sd hin rfl) (by simp [marks,k1])
  | true=>
   rw [k1]at hin;have hy:=inB_iff.1 k1;obtain⟨z,hz⟩ :∃z,u[y.toNat]?=some z:= ⟨_,List.getElem?_eq_getElem (by omega)⟩;cases z with
   | true=>
    exact Ends.eqv (aJF p u k i x y true true sd sd sd sd sd sd sd hin rfl (by omega) (by omega) hz rfl) (by simp [marks,hz])
   | false=>
    refine(aJG p u k i x y true false sd sd sd sd sd sd sd hin rfl (by omega) (by omega) hz rfl sd).ends ?_;exact Ends.eqv (bAR p x i hx hn hk K hb t (k+1) (u.set y.toNat true) (by simpa using hu) g2) (by simp [marks,k1,hz])
theorem rF1 (p:Prog)(hp:aN p=true)(hn:p.nodes.length≤1000)(hc:p.cons.length≤1000)(hf:p.funs.length≤1000) :∀ (t:List Node) (i:Nat) (u:List Bool),u.length=p.nodes.length→p.nodes.drop i=t →
  Ends PP 0 (nQ p u (i:Int)).as (.ret (.bool (allT (cS p i t u)))) (aG [] 0)
 | [],i,u,hu,h=>by
  have:=bD h;refine(aJD p u i sd).ends ?_;exact rF3 p u hn hu u 0 rfl
 | x::t,i,u,hu,h=>by
  obtain⟨g1,g2,g3⟩ :=bC h;have hx:aV x=true:=by
   simp only [aN,Bool.and_eq_true]at hp;exact List.all_eq_true.1 hp.2 x (mem_of_getElem? g1)
  simp only [aV,Bool.and_eq_true,decide_eq_true_eq]at hx;have ho:=aMH p x hc hf hx.1.2;cases k:bH p x with
  | false=>
   rw [k]at ho;exact Ends.eqv (aJB p u i x false sd sd sd ho rfl) (by simp [cS,k,allT])
  | true=>
   rw [k]at ho;refine(aJC p u i x true sd sd sd ho rfl).ends ?_;refine Ends.eqv (bAR p x i g1 hn (by omega) (fun v=>allT (cS p (i+1) t v)) (fun v hv=>rF1 p hp hn hc hf t (i+1) v hv g2) x.kids 0 u hu rfl) ?_;simp only [cS,k,if_true];cases marks ((i:Int) +1) (p.nodes.length:Int) x.kids u<;>rfl
theorem rF0 (p:Prog)(hp:aN p=true)(hn:p.nodes.length≤1000)(hc:p.cons.length≤1000)(hf:p.funs.length≤1000) :∀ (t:List Int) (i:Nat) (u:List Bool),u.length=p.nodes.length→p.funs.drop i=t →
  Ends PP 0 (sE p (i:Int) u).as (.ret (.bool (match marks 0 p.nodes.length t u with|some v=>allT (cS p 0 p.nodes v) |none=>false))) (aG [] 0)
 | [],i,u,hu,h=>by
  have:=bD h;refine(aJA p i u sd).ends ?_;exact rF1 p hp hn hc hf p.nodes 0 u hu rfl
 | y ::t,i,u,hu,h=>by
  obtain⟨g1,g2,g3⟩ :=bC h;have hin:=aW y 0 ((p.nodes.length:Int) -1);cases k1:cX y 0 ((p.nodes.length:Int) -1)with
  | false=>
   rw [k1]at hin;exact Ends.eqv (aJx p i u y false sd sd sd sd hin rfl) (by simp [marks,k1])
  | true=>
   rw [k1]at hin;have hy:=inB_iff.1 k1;obtain⟨z,hz⟩ :∃z,u[y.toNat]?=some z:= ⟨_,List.getElem?_eq_getElem (by omega)⟩;cases z with
   | true=>
    exact Ends.eqv (aJy p i u y true true sd sd sd sd hin rfl (by omega) (by omega) hz rfl) (by simp [marks,hz])
   | false=>
    refine(aJz p i u y true false sd sd sd sd hin rfl (by omega) (by omega) hz rfl sd).ends ?_;exact Ends.eqv (rF0 p hp hn hc hf t (i+1) (u.set y.toNat true) (by simpa using hu) g2) (by simp [marks,k1,hz])
theorem sH (p:Prog)(hp:aN p=true) :Pure PP 38 [Prog.av p] (.bool (aY p)) :=by
 refine aQ (by kernel_rfl) rfl rfl ?_;have hs:=hp;simp only [aN,Bool.and_eq_true,decide_eq_true_eq]at hs;obtain⟨⟨⟨⟨s1,s2⟩,s3⟩,_⟩,_⟩ :=hs;by_cases k0:p.nodes.length≤300
 · have hi1:=aW (p.funs.length:Int) 1 (p.nodes.length:Int);cases k1:cX (p.funs.length:Int) 1 (p.nodes.length:Int)with
   | false=>
    rw [k1]at hi1;exact Ends.eqv (aJt p false sd hi1 rfl) (by simp [aY,dW,k1])
   | true=>
    rw [k1]at hi1;have hi2:=aW p.main 0 ((p.funs.length:Int) -1);cases k2:cX p.main 0 ((p.funs.length:Int) -1)with
    | false=>
     rw [k2]at hi2;exact Ends.eqv (aJu p true false sd hi1 rfl sd hi2 rfl) (by simp [aY,dW,k2])
    | true=>
     rw [k2]at hi2;have hco:=aMI p.cons (by omega);cases k3:vQ p.cons with
     | false=>
      rw [k3]at hco;exact Ends.eqv (aJv p true true false sd hi1 rfl sd hi2 rfl hco rfl) (by simp [aY,k3])
     | true=>
      rw [k3]at hco;refine(aJw p true true true sd hi1 rfl sd hi2 rfl hco rfl (by omega)).ends ?_;refine Ends.eqv (rF0 p hp (by omega) (by omega) (by omega) p.funs 0 _ (by simp) rfl) ?_;have e:dW p=true:=by simp [dW,k0,k1,k2]
      simp only [aY,e,k3,Bool.true_and]
 ·exact Ends.eqv (aJs p sd) (by simp [aY,dW,k0])
def checkN (b:Bool) :Int:=if b=true then 0 else 2
def wV(a:aC)(b:Nat):TS:=⟨(tf 164 16 [(2,(bV false)),kp 6 0] [kc f164 52,kl f164 52,.inBlock 0,kc f164 7]),[],[(0,(.siter a.length (aA a) b),false)],1⟩
def aAU(e f:Int)(g:aC)(a:List Pat)(b c d:Int):TS:=⟨(tf 281 27 [(1,(nI b)),(4,(nI 0)),(5,(nI c)),(9,(iP a)),(10,(nI (a.length:Int))),(11,(nI d))] [kc f281 116,kl f281 116,.inBlock 0,kc f281 15]),[],[],0⟩
def bAS(a b c:Int):=tT 0 (start PP 241 [(nI a),(nI b),(nI c)])<|gd 10 10 (a≥b) (gE 7 0 (bV (decide (a≤c))))<|gE 7 0 (bV false)
def aVj:=fun a b c d=>bAS a b c|>.t d tv
def aVk:=fun a b c d=>bAS a b c|>.f d tv
def aR5 (b:Int):=fun a c=>(tT 0 (start PP 301 [(nI b)])<|fQ 7 241 [(nI b),(nI (-1000000000)),(nI 1000000000)]<|fun a=>gE 3 0 (bV a)) a c tv
def aMJ (a:aC):=(tT 0 (start PP 164 [(aB a)])<|.W 12 1 [0] (wV a 0)) tv
def aVl(a:aC)(b:Nat):=tT 0 (wV a b)<|.o (.y fun c:Nat=>.y fun d:Nat=>.i [rn 2,.nxt c d] [hA (b<a.length),hA (aLt a.length (aA a) b=some (c,d))]<|gd 16 12 (((c:Nat) :Int) <97) (gE 10 1 (bV false))<|gd 4 15 (((c:Nat) :Int) >122) (gE 6 1 (bV false))<|.W 4 1 [0] (wV a (Nat.add b d)))<|.i [rn 2,.nxtE] [hA (a.length≤b)]<|gE 10 1 (bV true)
def aMK:=fun a b c d e f g=>aVl a b|>.1 c d e f|>.t g tv
def aML:=fun a b c d e f g i=>aVl a b|>.1 c d e f|>.f g|>.t i tv
def aMM:=fun a b c d e f g i=>aVl a b|>.1 c d e f|>.f g|>.f i tv
def aMN:=fun a b c=>aVl a b|>.2 c tv
def aR6(a:aC):=tT 0 (start PP 231 [(aB a)])<|.b 9 5 (!(bF a.length (aA a) 0 0)) (gd 5 10 ((a.length:Int) ≤8) (.y fun b:UInt8=>.i [rn 1,.ans (.ev (.int .u8 ((b.toNat:Nat) :Int)))] [.q (p:=0≤ (0:Int)) (by decide),.a ((a)[0]?=some b) (p':=(0:Int) < (a.length:Int)) (fun h=>(aBE (k:= (0:Int)) (by decide) h)),.a ((a)[0]?=some b) (p':=int .u8 ((mod (div (aA a) (pow 256 (0:Int).toNat)) 256:Nat) :Int) = (.int .u8 ((b.toNat:Nat) :Int))) (fun h=>(aBF (k:= (0:Int)) h))]<|gd 3 15 (((b.toNat:Nat) :Int) ≥65) (.i [rn 1,.ans (.ev (.int .u8 ((b.toNat:Nat) :Int)))] [.q (p:=0≤ (0:Int)) (by decide),.a ((a)[0]?=some b) (p':=(0:Int) < (a.length:Int)) (fun h=>(aBE (k:= (0:Int)) (by decide) h)),.a ((a)[0]?=some b) (p':=int .u8 ((mod (div (aA a) (pow 256 (0:Int).toNat)) 256:Nat) :Int) = (.int .u8 ((b.toNat:Nat) :Int))) (fun h=>(aBF (k:= (0:Int)) h))]<|gd 3 20 (((b.toNat:Nat) :Int) ≤90) (.i [rn 1,.ans (.ev (aB (drop 1 a)))] [.a (1≤length a) (p':=aJb PP 9 (aB a) (some (nI 1)) none (aB (drop 1 a))) (fun h=>(aCg (k:= (1:Int)) (by kernel_rfl) (by decide) h))]<|fQ 0 164 [(aB (drop 1 a))]<|fun c=>gE 4 0 (bV c))<|gE 7 0 (bV false))<|gE 12 0 (bV false))<|gE 17 0 (bV false))<|gE 22 0 (bV false)
def aMO:=fun b c d e f a g i j k=>aR6 b|>.t e|>.t f c a a|>.t g a a|>.t i j d k tv
def aMP:=fun b c d e a f g=>aR6 b|>.t d|>.t e c a a|>.t f a a|>.f g tv
def aMQ:=fun b c d e a f=>aR6 b|>.t d|>.t e c a a|>.f f tv
def aMR:=fun a b c=>aR6 a|>.t b|>.f c tv
def aMS:=fun a b=>aR6 a|>.f b tv
def bAT(a:Con):=tT 0 (start PP 243 [(.agg [(aB a.name),(nI a.args)])])<|fQ 9 231 [(aB a.name)]<|fun b=>.b 1 6 b (fQ 2 241 [(nI a.args),(nI 0),(nI 3)]<|fun c=>gE 4 1 (bV c))<|gE 7 1 (bV false)
def aR7:=fun a b c d e f=>bAT a b d|>.t e c f tv
def aR8:=fun a b c d=>bAT a b c|>.f d tv
def aPw(c:Prog)(a:Node):=tT 0 (start PP 283 [(Prog.av c),(Node.av a)])<|.b 18 7 (a.op==1) (fQ 5 301 [(nI a.n)]<|fun b=>gE 3 2 (bV b))<|.b 6 12 (a.op==2) (fQ 5 241 [(nI a.n),(nI 0),(nI 1)]<|fun b=>gE 3 2 (bV b))<|.b 6 17 (a.op==24) (fQ 5 241 [(nI a.n),(nI 0),(nI 3)]<|fun b=>gE 3 2 (bV b))<|.b 6 22 (a.op==4) (gl 8 aP c.funs<|gw 1 30 (0- (c.funs.length:Int))<|fQ 0 241 [(nI a.n),(nI (0- (c.funs.length:Int))),(nI 29)]<|fun b=>gE 3 2 (bV b))<|.b 6 32 (a.op==14) (gE 6 2 (bV true))<|gE 11 2 (bV (a.n==0))
def aJL:=fun a b c d e=>aPw a b|>.t d c e tv
def aJM:=fun a b c d e f=>aPw a b|>.f d|>.t e c f tv
def aJN:=fun a b c d e f g=>aPw a b|>.f d|>.f e|>.t f c g tv
def aJO:=fun a b c d e f g i j=>aPw a b|>.f d|>.f e|>.f f|>.t g i c j tv
def aJP:=fun a b c d e f g=>aPw a b|>.f c|>.f d|>.f e|>.f f|>.t g tv
def aJQ:=fun a b c d e f g=>aPw a b|>.f c|>.f d|>.f e|>.f f|>.f g tv
def aPx (b c:Int)(d:aC)(a:List Pat)(e:Int):=(tT 0 (start PP 281 [(.agg [(nI b),(nI c),(aB d),(iP a)]),(nI e)])<|gm 14 aD a<|.W 4 1 [] (aAU b c d a e 1 0)) tv
def bAe(e f:Int)(g:aC)(d:List Pat)(b a c:Int):=tT 0 (aAU e f g d b a c)<|gd 5 12 (c< (d.length:Int)) (aDM 6 d c<|fun j k l m=>gd 11 17 (a>b) (gE 8 1 (nI a))<|gw 8 22 (b-a)<|gpI 0 281 [(.agg [(nI j),(nI k),(aB l),(iP m)]),(nI (b-a))]<|fun i=>gw 1 24 (a+i)<|gw 5 25 (c+1)<|.W 3 1 [] (aAU e f g d b (a+i) (c+1)))<|gE 8 0 (nI a)
def aPy:=fun a b c d e f g i j k l m n o p=>bAe a b c d e f g|>.t m i j k l n o|>.t p tv
def aPz:=fun a b c d e f g i j k l m n o p q r s t u=>bAe a b c d e f g|>.t n i j k l o p|>.f q r m s t u tv
def aPA:=fun a b c d e f g i=>bAe a b c d e f g|>.f i tv
def zQ(d:Prog)(e c:Int)(f:aC)(a:List Pat):=tT 0 (start PP 282 [(Prog.av d),(.agg [(nI e),(nI c),(aB f),(iP a)])])<|.b 13 8 (!(bF f.length (aA f) 0 0)) (gE 14 2 (bV false))<|fQ 4 284 [(iP a),(.func 282 [(Prog.av d)] [])]<|fun i=>.b 3 15 (!i) (gE 6 2 (bV false))<|.b 15 18 (e==1) (.b 9 25 (c==0) (gm 2 aD a<|gE 5 2 (bV ((a.length:Int) ==0)))<|gE 8 2 (bV false))<|.b 6 18 (e==2) (.b 9 25 (c==0) (gm 2 aD a<|gE 5 2 (bV ((a.length:Int) ==0)))<|gE 8 2 (bV false))<|.b 5 18 (e==5) (.b 7 25 (c==0) (gm 2 aD a<|gE 5 2 (bV ((a.length:Int) ==0)))<|gE 8 2 (bV false))<|.b 6 31 (e==3) (fQ 5 301 [(nI c)]<|fun b=>.b 1 36 b (gm 2 aD a<|gE 5 2 (bV ((a.length:Int) ==0)))<|gE 8 2 (bV false))<|.b 6 42 (e==4) (fQ 5 241 [(nI c),(nI 0),(nI 1)]<|fun b=>.b 1 47 b (gm 2 aD a<|gE 5 2 (bV ((a.length:Int) ==0)))<|gE 8 2 (bV false))<|.b 6 53 (e==6) (.o (.y fun b:Bool=>.y fun g:Con=>.i [rn 2,.reg (rd 5 (.ans (.len (d.cons.length:Int))::.d::.pure (bV b)::.d::.b 63 true::.d::.d::.ans (.len (a.length:Int))::rd 5 (.ans (.idx (Con.av g))::rd 5 [])))] [hl Con.av d.cons,hA (Pure PP 241 [(nI c),(nI 0),(nI (IntKind.i64.wrap ((d.cons.length:Int) -1)))] (bV b)),hA (b=true),hm aD a,hA (0≤c),.a (((d.cons)[c.toNat]?) =some g) (bS (f:=Con.av))]<|gE 1 2 (bV ((a.length:Int) ==g.args)))<|.y fun b:Bool=>.i [rn 2,.reg (rd 5 (.ans (.len (d.cons.length:Int))::.d::.pure (bV b)::.d::.b 63 false::rd 14 []))] [hl Con.av d.cons,hA (Pure PP 241 [(nI c),(nI 0),(nI (IntKind.i64.wrap ((d.cons.length:Int) -1)))] (bV b)),hA (b=false)]<|gE 1 2 (bV false))<|gE 8 2 (bV false)
def aR9:=fun a b c d e f=>zQ a b c d e|>.t f tv
def aSa:=fun a b c d e f g i j=>zQ a b c d e|>.f g f i|>.t j tv
def aSb:=fun a b c d e f g i j k l=>zQ a b c d e|>.f g f i|>.f j|>.t k|>.t l tv
def aSc:=fun a b c d e f g i j k l=>zQ a b c d e|>.f g f i|>.f j|>.t k|>.f l tv
def aSd:=fun a b c d e f g i j k l m=>zQ a b c d e|>.f g f i|>.f j|>.f k|>.t l|>.t m tv
def aSe:=fun a b c d e f g i j k l m=>zQ a b c d e|>.f g f i|>.f j|>.f k|>.t l|>.f m tv
def aSf:=fun a b c d e f g i j k l m n=>zQ a b c d e|>.f g f i|>.f j|>.f k|>.f l|>.t m|>.t n tv
def aSg:=fun a b c d e f g i j k l m n=>zQ a b c d e|>.f g f i|>.f j|>.f k|>.f l|>.t m|>.f n tv
def aSh:=fun a b c d e f g i j k l m n o p q=>zQ a b c d e|>.f i f j|>.f k|>.f l|>.f m|>.f n|>.t o g p|>.t q tv
def aSi:=fun a b c d e f g i j k l m n o p q=>zQ a b c d e|>.f i f j|>.f k|>.f l|>.f m|>.f n|>.t o g p|>.f q tv
def aPB:=fun a b c d e f g i j k l m n o p q r=>zQ a b c d e|>.f i f j|>.f k|>.f l|>.f m|>.f n|>.f o|>.t p g q|>.t r tv
def aPC:=fun a b c d e f g i j k l m n o p q r=>zQ a b c d e|>.f i f j|>.f k|>.f l|>.f m|>.f n|>.f o|>.t p g q|>.f r tv
def aPD:=fun a b c d e f g i j k l m n o p q r s t u v=>zQ a b c d e|>.f j f k|>.f l|>.f m|>.f n|>.f o|>.f p|>.f q|>.t r|>.1 g i s t u v tv
def aPE:=fun a b c d e f g i j k l m n o p q r s=>zQ a b c d e|>.f i f j|>.f k|>.f l|>.f m|>.f n|>.f o|>.f p|>.t q|>.2 g r s tv
def aPF:=fun a b c d e f g i j k l m n o p=>zQ a b c d e|>.f g f i|>.f j|>.f k|>.f l|>.f m|>.f n|>.f o|>.f p tv
def kH(a:Int):=tT 0 (start PP 279 [(nI a)])<|.b 16 4 (a==1) (gE 9 0 (.iface 334 (nI 0)))<|.b 6 4 (a==2) (gE 9 0 (.iface 334 (nI 0)))<|.b 6 4 (a==3) (gE 9 0 (.iface 334 (nI 0)))<|.b 6 4 (a==4) (gE 9 0 (.iface 334 (nI 0)))<|.b 6 4 (a==21) (gE 9 0 (.iface 334 (nI 0)))<|.b 6 4 (a==25) (gE 9 0 (.iface 334 (nI 0)))<|.b 5 4 (a==28) (gE 7 0 (.iface 334 (nI 0)))<|.b 7 13 (a==5) (gE 9 0 (.iface 334 (nI 1)))<|.b 6 13 (a==27) (gE 9 0 (.iface 334 (nI 1)))<|.b 6 13 (a==16) (gE 9 0 (.iface 334 (nI 1)))<|.b 6 13 (a==17) (gE 9 0 (.iface 334 (nI 1)))<|.b 6 13 (a==19) (gE 9 0 (.iface 334 (nI 1)))<|.b 6 13 (a==20) (gE 9 0 (.iface 334 (nI 1)))<|.b 6 13 (a==23) (gE 9 0 (.iface 334 (nI 1)))<|.b 6 13 (a==24) (gE 9 0 (.iface 334 (nI 1)))<|.b 5 13 (a==26) (gE 7 0 (.iface 334 (nI 1)))<|.b 7 24 (a==6) (gE 9 0 (.iface 334 (nI 2)))<|.b 6 24 (a==7) (gE 9 0 (.iface 334 (nI 2)))<|.b 6 24 (a==9) (gE 9 0 (.iface 334 (nI 2)))<|.b 6 24 (a==10) (gE 9 0 (.iface 334 (nI 2)))<|.b 6 24 (a==11) (gE 9 0 (.iface 334 (nI 2)))<|.b 6 24 (a==12) (gE 9 0 (.iface 334 (nI 2)))<|.b 6 24 (a==13) (gE 9 0 (.iface 334 (nI 2)))<|.b 6 24 (a==18) (gE 9 0 (.iface 334 (nI 2)))<|.b 5 24 (a==22) (gE 7 0 (.iface 334 (nI 2)))<|.b 6 35 (a==8) (gE 7 0 (.iface 334 (nI 3)))<|.b 6 38 (a==14) (gE 8 0 (.iface 335 (.agg [])))<|.b 6 42 (a==15) (gE 8 0 (.iface 317 (.agg [])))<|gE 8 0 .nili
def aJR:=fun a b=>kH a|>.t b tv
def aJS:=fun a b c=>kH a|>.f b|>.t c tv
def aJT:=fun a b c d=>kH a|>.f b|>.f c|>.t d tv
def aJU:=fun a b c d e=>kH a|>.f b|>.f c|>.f d|>.t e tv
def aJV:=fun a b c d e f=>kH a|>.f b|>.f c|>.f d|>.f e|>.t f tv
def aJW:=fun a b c d e f g=>kH a|>.f b|>.f c|>.f d|>.f e|>.f f|>.t g tv
def aJX:=fun a b c d e f g i=>kH a|>.f b|>.f c|>.f d|>.f e|>.f f|>.f g|>.t i tv
def aJY:=fun a b c d e f g i j=>kH a|>.f b|>.f c|>.f d|>.f e|>.f f|>.f g|>.f i|>.t j tv
def aJZ:=fun a b c d e f g i j k=>kH a|>.f b|>.f c|>.f d|>.f e|>.f f|>.f g|>.f i|>.f j|>.t k tv
def aJ0:=fun a b c d e f g i j k l=>kH a|>.f b|>.f c|>.f d|>.f e|>.f f|>.f g|>.f i|>.f j|>.f k|>.t l tv
def aHx:=fun a b c d e f g i j k l m=>kH a|>.f b|>.f c|>.f d|>.f e|>.f f|>.f g|>.f i|>.f j|>.f k|>.f l|>.t m tv
def aHy:=fun a b c d e f g i j k l m n=>kH a|>.f b|>.f c|>.f d|>.f e|>.f f|>.f g|>.f i|>.f j|>.f k|>.f l|>.f m|>.t n tv
def aHz:=fun a b c d e f g i j k l m n o=>kH a|>.f b|>.f c|>.f d|>.f e|>.f f|>.f g|>.f i|>.f j|>.f k|>.f l|>.f m|>.f n|>.t o tv
def aHA:=fun a b c d e f g i j k l m n o p=>kH a|>.f b|>.f c|>.f d|>.f e|>.f f|>.f g|>.f i|>.f j|>.f k|>.f l|>.f m|>.f n|>.f o|>.t p tv
def aHB:=fun a b c d e f g i j k l m n o p q=>kH a|>.f b|>.f c|>.f d|>.f e|>.f f|>.f g|>.f i|>.f j|>.f k|>.f l|>.f m|>.f n|>.f o|>.f p|>.t q tv
def aHC:=fun a b c d e f g i j k l m n o p q r=>kH a|>.f b|>.f c|>.f d|>.f e|>.f f|>.f g|>.f i|>.f j|>.f k|>.f l|>.f m|>.f n|>.f o|>.f p|>.f q|>.t r tv
def aHD:=fun a b c d e f g i j k l m n o p q r s=>kH a|>.f b|>.f c|>.f d|>.f e|>.f f|>.f g|>.f i|>.f j|>.f k|>.f l|>.f m|>.f n|>.f o|>.f p|>.f q|>.f r|>.t s tv
def aHE:=fun a b c d e f g i j k l m n o p q r s t=>kH a|>.f b|>.f c|>.f d|>.f e|>.f f|>.f g|>.f i|>.f j|>.f k|>.f l|>.f m|>.f n|>.f o|>.f p|>.f q|>.f r|>.f s|>.t t tv
def aHF:=fun a b c d e f g i j k l m n o p q r s t u=>kH a|>.f b|>.f c|>.f d|>.f e|>.f f|>.f g|>.f i|>.f j|>.f k|>.f l|>.f m|>.f n|>.f o|>.f p|>.f q|>.f r|>.f s|>.f t|>.t u tv
def aHG:=fun a b c d e f g i j k l m n o p q r s t u v=>kH a|>.f b|>.f c|>.f d|>.f e|>.f f|>.f g|>.f i|>.f j|>.f k|>.f l|>.f m|>.f n|>.f o|>.f p|>.f q|>.f r|>.f s|>.f t|>.f u|>.t v tv
def aHH:=fun a b c d e f g i j k l m n o p q r s t u v w=>kH a|>.f b|>.f c|>.f d|>.f e|>.f f|>.f g|>.f i|>.f j|>.f k|>.f l|>.f m|>.f n|>.f o|>.f p|>.f q|>.f r|>.f s|>.f t|>.f u|>.f v|>.t w tv
def aHI:=fun a b c d e f g i j k l m n o p q r s t u v w x=>kH a|>.f b|>.f c|>.f d|>.f e|>.f f|>.f g|>.f i|>.f j|>.f k|>.f l|>.f m|>.f n|>.f o|>.f p|>.f q|>.f r|>.f s|>.f t|>.f u|>.f v|>.f w|>.t x tv
def aHJ:=fun a b c d e f g i j k l m n o p q r s t u v w x y=>kH a|>.f b|>.f c|>.f d|>.f e|>.f f|>.f g|>.f i|>.f j|>.f k|>.f l|>.f m|>.f n|>.f o|>.f p|>.f q|>.f r|>.f s|>.f t|>.f u|>.f v|>.f w|>.f x|>.t y tv
def aHK:=fun a b c d e f g i j k l m n o p q r s t u v w x y z=>kH a|>.f b|>.f c|>.f d|>.f e|>.f f|>.f g|>.f i|>.f j|>.f k|>.f l|>.f m|>.f n|>.f o|>.f p|>.f q|>.f r|>.f s|>.f t|>.f u|>.f v|>.f w|>.f x|>.f y|>.t z tv
def aHL:=fun a b c d e f g i j k l m n o p q r s t u v w x y z A=>kH a|>.f b|>.f c|>.f d|>.f e|>.f f|>.f g|>.f i|>.f j|>.f k|>.f l|>.f m|>.f n|>.f o|>.f p|>.f q|>.f r|>.f s|>.f t|>.f u|>.f v|>.f w|>.f x|>.f y|>.f z|>.t A tv
def aHM:=fun a b c d e f g i j k l m n o p q r s t u v w x y z A B=>kH a|>.f b|>.f c|>.f d|>.f e|>.f f|>.f g|>.f i|>.f j|>.f k|>.f l|>.f m|>.f n|>.f o|>.f p|>.f q|>.f r|>.f s|>.f t|>.f u|>.f v|>.f w|>.f x|>.f y|>.f z|>.f A|>.t B tv
def aHN:=fun a b c d e f g i j k l m n o p q r s t u v w x y z A B C=>kH a|>.f b|>.f c|>.f d|>.f e|>.f f|>.f g|>.f i|>.f j|>.f k|>.f l|>.f m|>.f n|>.f o|>.f p|>.f q|>.f r|>.f s|>.f t|>.f u|>.f v|>.f w|>.f x|>.f y|>.f z|>.f A|>.f B|>.t C tv
def aHO:=fun a b c d e f g i j k l m n o p q r s t u v w x y z A B C D=>kH a|>.f b|>.f c|>.f d|>.f e|>.f f|>.f g|>.f i|>.f j|>.f k|>.f l|>.f m|>.f n|>.f o|>.f p|>.f q|>.f r|>.f s|>.f t|>.f u|>.f v|>.f w|>.f x|>.f y|>.f z|>.f A|>.f B|>.f C|>.t D tv
def aHP:=fun a b c d e f g i j k l m n o p q r s t u v w x y z A B C D=>kH a|>.f b|>.f c|>.f d|>.f e|>.f f|>.f g|>.f i|>.f j|>.f k|>.f l|>.f m|>.f n|>.f o|>.f p|>.f q|>.f r|>.f s|>.f t|>.f u|>.f v|>.f w|>.f x|>.f y|>.f z|>.f A|>.f B|>.f C|>.f D tv
def aCS(a:List Pat)(b:Prog)(c:Int):TS:=⟨(tf 316 19 [(0,(iP a)),(1,(.func 303 [] [(.ptr 0 0)])),(4,(nI 0)),(7,(nI (a.length:Int))),(8,(nI c))] [kc f316 52,kl f316 52,.inBlock 0,kc f316 7]),[(tf 302 9 [(4,(bV false)),(5,(iP a)),(6,(.func 303 [] [(.ptr 0 0)]))] [ko f302 6 2,kc f302 7]),(tf 284 9 [(4,(bV false)),(5,(iP a)),(6,(.func 303 [] [(.ptr 0 0)]))] [ko f284 6 2,kc f284 7])],[oC 0 [(.func 282 [(Prog.av b)] [])]],1⟩
def qC(b:Prog)(a:Node)(c:Int):TS:=⟨(tf 316 19 [(0,(iP a.pats)),(1,(.func 303 [] [(.ptr 0 0)])),(4,(nI 0)),(7,(nI (a.pats.length:Int))),(8,(nI c))] [kc f316 52,kl f316 52,.inBlock 0,kc f316 7]),[(tf 302 9 [(4,(bV false)),(5,(iP a.pats)),(6,(.func 303 [] [(.ptr 0 0)]))] [ko f302 6 2,kc f302 7]),(tf 284 9 [(4,(bV false)),(5,(iP a.pats)),(6,(.func 303 [] [(.ptr 0 0)]))] [ko f284 6 2,kc f284 7]),(tf 248 35 [(4,(bV false)),(29,(bV true)),(31,(iP a.pats)),(32,(.func 280 [] [(.ptr 1 0)]))] [ko f248 62 13,kc f248 63])],[oC 0 [(.func 280 [] [(.ptr 1 0)])],oC 1 [(iN b.nodes),(iI b.funs),(nI b.main),(iC b.cons)]],2⟩
def sJ(a:List aC)(c:Int)(b:List (aC×Bool)):TS:=⟨(tf 244 21 [(0,(iS a)),(2,(bV false)),(3,(.map 0)),(7,(iS a)),(8,(nI (a.length:Int))),(9,(nI c))] [kc f244 116,kl f244 116,.inBlock 0,kc f244 15]),[],[(0,(.map (aF aB mA 0 b) b.length),true)],1⟩
def aSj (a:List Pat)(b:Prog):=(tT 0 (start PP 284 [(iP a),(.func 282 [(Prog.av b)] [])])<|gm 27 aD a<|.W 4 1 [0] (aCS a b 0)) tv
def bAf(b:List Pat)(c:Prog)(a:Int):=tT 0 (aCS b c a)<|gd 5 9 (a< (b.length:Int)) (aDM 14 b a<|fun d e f g=>fQ 11 282 [(Prog.av c),(.agg [(nI d),(nI e),(aB f),(iP g)])]<|fun i=>.b 6 16 (!i) (gE 17 2 (bV (!(decide (a≥0)))))<|gw 5 18 (a+1)<|.W 3 2 [0] (aCS b c (a+1)))<|gE 17 1 (bV true)
def aSk:=fun a b c d e f g i j k l m n=>bAf a b c|>.t j d e f g k l i m|>.t n tv
def aSl:=fun a b c d e f g i j k l m n o=>bAf a b c|>.t j d e f g k l i m|>.f n o tv
def aSm:=fun a b c d=>bAf a b c|>.f d tv
def aBI(b:Prog)(a:Node):=tT 0 (start PP 248 [(Prog.av b),(Node.av a)])<|.o (gp 10 279 [(nI a.op)] (.iface 317 (.agg []))<|gm 44 aD a.pats<|fQ 0 241 [(nI (a.pats.length:Int)),(nI 1),(nI 5)]<|fun c=>.b 1 11 c (gl 2 aP a.kids<|gm 2 aD a.pats<|gw 1 18 (1+ (a.pats.length:Int))<|.b 7 24 ((a.kids.length:Int) == (1+ (a.pats.length:Int))) (fQ 2 283 [(Prog.av b),(Node.av a)]<|fun d=>.b 2 29 d (gm 31 aD a.pats<|.W 4 6 [5,0] (qC b a 0))<|gE 8 5 (bV false))<|gE 13 5 (bV false))<|gE 27 5 (bV false))<|.o (gp 10 279 [(nI a.op)] (.iface 335 (.agg []))<|gm 24 aD a.pats<|gd 2 14 ((a.pats.length:Int) >0) (gE 6 2 (bV false))<|.o (.y fun c:Bool=>.y fun d:Con=>.i [rn 22,.reg (rd 5 (.ans (.len (b.cons.length:Int))::.d::.pure (bV c)::.d::.b 15 true::.d::.d::.ans (.len (a.kids.length:Int))::rd 5 (.ans (.idx (Con.av d))::rd 5 [])))] [hl Con.av b.cons,hA (Pure PP 241 [(nI a.n),(nI 0),(nI (IntKind.i64.wrap ((b.cons.length:Int) -1)))] (bV c)),hA (c=true),hl aP a.kids,hA (0≤a.n),.a (((b.cons)[a.n.toNat]?) =some d) (bS (f:=Con.av))]<|.b 3 24 ((a.kids.length:Int) ==d.args) (fQ 2 283 [(Prog.av b),(Node.av a)]<|fun f=>.b 2 29 f (gm 31 aD a.pats<|.W 4 6 [5,0] (qC b a 0)) .x)<|gE 13 5 (bV false))<|.y fun c:Bool=>.i [rn 22,.reg (rd 5 (.ans (.len (b.cons.length:Int))::.d::.pure (bV c)::.d::.b 15 false::rd 14 []))] [hl Con.av b.cons,hA (Pure PP 241 [(nI a.n),(nI 0),(nI (IntKind.i64.wrap ((b.cons.length:Int) -1)))] (bV c)),hA (c=false)]<|gE 16 5 (bV false))<|.o (.y fun e:Int=>gp 10 279 [(nI a.op)] (.iface 334 (nI e))<|gm 24 aD a.pats<|gd 2 14 ((a.pats.length:Int) >0) (gE 6 2 (bV false))<|gl 24 aP a.kids<|.b 7 24 ((a.kids.length:Int) ==e) (fQ 2 283 [(Prog.av b),(Node.av a)]<|fun d=>.b 2 29 d (gm 31 aD a.pats<|.W 4 5 [4,0] (qC b a 0))<|gE 8 4 (bV false))<|gE 13 4 (bV false))<|gp 10 279 [(nI a.op)] (.nili)<|gE 18 2 (bV false)
def aPG:=fun a b c d e f g i j k l=>aBI a b|>.1 e c f|>.t g i|>.t j d k|>.t l tv
def aPH:=fun a b c d e f g i j k l=>aBI a b|>.1 e c f|>.t g i|>.t j d k|>.f l tv
def aPI:=fun a b c d e f g i=>aBI a b|>.1 d c e|>.t f g|>.f i tv
def aPJ:=fun a b c d e f=>aBI a b|>.1 d c e|>.f f tv
def aPK:=fun a b c d=>aBI a b|>.2|>.1 c|>.t d tv
def aPL:=fun a b c d e f g i j k l m n o=>aBI a b|>.2|>.1 f|>.f g|>.1 c d i j k l|>.t m e n|>.t o tv
def aPM:=fun a b c d e f g i j k l=>aBI a b|>.2|>.1 e|>.f f|>.1 c d g i j k|>.f l tv
def aPN:=fun a b c d e f g=>aBI a b|>.2|>.1 d|>.f e|>.2 c f g tv
def aPO:=fun a b c d e=>aBI a b|>.2|>.2|>.1 c d|>.t e tv
def aMT:=fun a b c d e f g i j=>aBI a b|>.2|>.2|>.1 c e|>.f f|>.t g d i|>.t j tv
def aMU:=fun a b c d e f g i j=>aBI a b|>.2|>.2|>.1 c e|>.f f|>.t g d i|>.f j tv
def aMV:=fun a b c d e f=>aBI a b|>.2|>.2|>.1 c d|>.f e|>.f f tv
def aMW:=fun a b c=>aBI a b|>.2|>.2|>.2 c tv
def aVm(c:Prog)(b:Node)(a:Int):=tT 0 (qC c b a)<|gd 5 9 (a< (b.pats.length:Int)) (aDM 14 b.pats a<|fun d e f g=>gpI 20 281 [(.agg [(nI d),(nI e),(aB f),(iP g)]),(nI 12)]<|fun i=>gd 2 7 (i≤12) (fQ 2 282 [(Prog.av c),(.agg [(nI d),(nI e),(aB f),(iP g)])]<|fun j=>.b 11 16 (!j) (gE 22 4 (bV (!(decide (a≥0)))))<|gw 5 18 (a+1)<|.W 3 4 [0,1] (qC c b (a+1)))<|gE 36 4 (bV (!(decide (a≥0)))))<|gE 22 2 (bV true)
def aPP:=fun a b c d e f g i j k l m n o p q=>aVm a b c|>.t k d e f g l m i n|>.t o j p|>.t q tv
def aPQ:=fun a b c d e f g i j k l m n o p q r=>aVm a b c|>.t k d e f g l m i n|>.t o j p|>.f q r tv
def aPR:=fun a b c d e f g i j k l m n=>aVm a b c|>.t j d e f g k l i m|>.f n tv
def aPS:=fun a b c d=>aVm a b c|>.f d tv
def aJ1 (a:List aC):=(tT 0 (start PP 244 [(iS a)])<|.i [rn 7,.mset 0 (aF aB mA 0 ([] :List (aC×Bool))) ([] :List (aC×Bool)).length] [hr (aF aB mA 0 ([] :List (aC×Bool))),hr (length ([] :List (aC×Bool)))]<|gl 6 aB a<|.W 4 1 [0] (sJ a 0 ([] :List (aC×Bool)))) ⟨aO (fun _=>rfl) (fun _=>rfl) _ _ _,trivial⟩
def bAU(b:List aC)(d:Int)(a:List (aC×Bool)):=tT 0 (sJ b d a)<|gd 5 10 (d< (b.length:Int)) (gX aB 6 b d<|fun c=>.i [rn 6,.mput (aF aB mA 0 (bX c true a)) (bX c true a).length] [.q (p:=rU (aF aB mA 0 a) a.length (aB c) (mA true) =some ((aF aB mA 0 (bX c true a)),length (bX c true a))) (aHq fY _ _ _)]<|gw 4 15 (d+1)<|.W 3 1 [0] (sJ b (d+1) (bX c true a)))<|.i [rn 6,sI 17 (a.length:Int)] [.q (p:=(nI ((aF aB mA 0 a).length:Int)) = (nI (a.length:Int))) (aRe _ _ _)]<|gl 1 aB b<|gE 4 1 (bV ((a.length:Int) == (b.length:Int)))
def aJ2:=fun a b c d e f g i=>bAU a b c|>.t e d f g i ⟨aO (fun _=>rfl) (fun _=>rfl) _ _ _,trivial⟩
def aJ3:=fun a b c d=>bAU a b c|>.f d tv
def aCT(a:List Node)(b:Prog)(c:Int):TS:=⟨(tf 194 19 [(0,(iN a)),(1,(.func 278 [] [(.ptr 0 0)])),(4,(nI 0)),(7,(nI (a.length:Int))),(8,(nI c))] [kc f194 52,kl f194 52,.inBlock 0,kc f194 7]),[(tf 124 9 [(4,(bV false)),(5,(iN a)),(6,(.func 278 [] [(.ptr 0 0)]))] [ko f124 6 2,kc f124 7]),(tf 247 9 [(4,(bV false)),(5,(iN a)),(6,(.func 278 [] [(.ptr 0 0)]))] [ko f247 6 2,kc f247 7])],[oC 0 [(.func 248 [(Prog.av b)] [])]],1⟩
def aCU(a:List Con)(b:Int):TS:=⟨(tf 223 19 [(0,(iC a)),(1,(.func 277 [] [(.ptr 0 0)])),(4,(nI 0)),(7,(nI (a.length:Int))),(8,(nI b))] [kc f223 52,kl f223 52,.inBlock 0,kc f223 7]),[(tf 276 9 [(4,(bV false)),(5,(iC a)),(6,(.func 277 [] [(.ptr 0 0)]))] [ko f276 6 2,kc f276 7]),(tf 242 9 [(4,(bV false)),(5,(iC a)),(6,(.func 277 [] [(.ptr 0 0)]))] [ko f242 6 2,kc f242 7])],[oC 0 [(.func 243 [] [])]],1⟩
def aCV(a:List Int)(b:Int):TS:=⟨(tf 304 19 [(0,(.ilst 1 (jI a) true)),(1,(.func 286 [] [(.ptr 0 0)])),(4,(nI 0)),(7,(nI (a.length:Int))),(8,(nI b))] [kc f304 52,kl f304 52,.inBlock 0,kc f304 7]),[(tf 285 9 [(4,(bV false)),(5,(.ilst 1 (jI a) true)),(6,(.func 286 [] [(.ptr 0 0)]))] [ko f285 6 2,kc f285 7]),(tf 249 9 [(4,(bV false)),(5,(.ilst 1 (jI a) true)),(6,(.func 286 [] [(.ptr 0 0)]))] [ko f249 6 2,kc f249 7])],[oC 0 [(.func 250 [] [])]],1⟩
def aCW(a:List Con)(c:Int)(b:List aC):TS:=⟨(tf 245 22 [(1,(.func 246 [] [])),(4,.nils),(5,(.gl 0 1 0 b.length false)),(8,(iC a)),(9,(nI (a.length:Int))),(10,(nI c))] [kc f245 116,kl f245 116,.inBlock 0,kc f245 15]),[],[oL 0 1 (map aB b)],1⟩
def sK(a:Prog)(c:Int)(b:List Int):TS:=⟨(tf 200 128 [kp 1 0,(2,(bV false)),(3,(nI (a.nodes.length:Int))),(4,(.gl 1 1 0 b.length true)),(77,(iI a.funs)),(78,(nI (a.funs.length:Int))),(79,(nI c))] [kc f200 1012,kl f200 1012,.inBlock 0,kc f200 127]),[],[oC 0 [(iN a.nodes),(iI a.funs),(nI a.main),(iC a.cons)],oL 1 1 (jI b)],2⟩
def nR(a:Prog)(b:List Int)(c:Int):TS:=⟨(tf 200 128 [(2,(bV false)),(3,(nI (a.nodes.length:Int))),(4,(.gl 0 1 0 b.length true)),(97,(iN a.nodes)),(98,(nI (a.nodes.length:Int))),(99,(nI c))] [kc f200 2036,kl f200 2036,.inBlock 2,kc f200 255]),[],[oL 0 1 (jI b)],1⟩
def sL(a:Prog)(c:List Int)(d:Int)(b:List Int)(e f g:Int):TS:=⟨(tf 200 128 [(2,(bV false)),(3,(nI (a.nodes.length:Int))),(4,(.gl 0 1 0 b.length true)),(7,(nI f)),(97,(iN a.nodes)),(98,(nI (a.nodes.length:Int))),(99,(nI g)),(105,(iI c)),(106,(nI d)),(107,(nI e))] [kc f200 521420,kl f200 521420,.inBlock 4,.inBlock 3,kc f200 16295,kl f200 2036,.inBlock 2,kc f200 255]),[],[oL 0 1 (jI b)],1⟩
def aSn (a:List Node)(b:Prog):=(tT 0 (start PP 247 [(iN a),(.func 248 [(Prog.av b)] [])])<|gl 27 Node.av a<|.W 4 1 [0] (aCT a b 0)) tv
def bAg(b:List Node)(c:Prog)(a:Int):=tT 0 (aCT b c a)<|gd 5 9 (a< (b.length:Int)) (gX Node.av 14 b a<|fun d=>fQ 11 248 [(Prog.av c),(Node.av d)]<|fun e=>.b 6 16 (!e) (gE 17 2 (bV (!(decide (a≥0)))))<|gw 5 18 (a+1)<|.W 3 2 [0] (aCT b c (a+1)))<|gE 17 1 (bV true)
def aSo:=fun a b c d e f g i j k=>bAg a b c|>.t f d g i e j|>.t k tv
def aSp:=fun a b c d e f g i j k l=>bAg a b c|>.t f d g i e j|>.f k l tv
def aSq:=fun a b c d=>bAg a b c|>.f d tv
def aSr (a:List Con):=(tT 0 (start PP 242 [(iC a),(.func 243 [] [])])<|gl 27 Con.av a<|.W 4 1 [0] (aCU a 0)) tv
def bAh(b:List Con)(a:Int):=tT 0 (aCU b a)<|gd 5 9 (a< (b.length:Int)) (gX Con.av 14 b a<|fun c=>fQ 11 243 [(.agg [(aB c.name),(nI c.args)])]<|fun d=>.b 6 16 (!d) (gE 17 2 (bV (!(decide (a≥0)))))<|gw 5 18 (a+1)<|.W 3 2 [0] (aCU b (a+1)))<|gE 17 1 (bV true)
def aSs:=fun a b c d e f g i j=>bAh a b|>.t e c f g d i|>.t j tv
def aSt:=fun a b c d e f g i j k=>bAh a b|>.t e c f g d i|>.f j k tv
def aSu:=fun a b c=>bAh a b|>.f c tv
def aSv (a:List Int):=(tT 0 (start PP 249 [(.ilst 1 (jI a) true),(.func 250 [] [])])<|gl 27 aP a<|.W 4 1 [0] (aCV a 0)) tv
def bAi(b:List Int)(a:Int):=tT 0 (aCV b a)<|gd 5 9 (a< (b.length:Int)) (gX aP 14 b a<|fun c=>.b 29 16 (!(c==1)) (gE 17 1 (bV (!(decide (a≥0)))))<|gw 5 18 (a+1)<|.W 3 1 [0] (aCV b (a+1)))<|gE 17 1 (bV true)
def aSw:=fun a b c d e f g=>bAi a b|>.t d c e f|>.t g tv
def aSx:=fun a b c d e f g i=>bAi a b|>.t d c e f|>.f g i tv
def aSy:=fun a b c=>bAi a b|>.f c tv
def aSz (a:List Con):=(tT 0 (start PP 245 [(iC a),(.func 246 [] [])])<|gl 12 Con.av a<|.i [rn 4,.nilL 5 1] []<|gu 0 0 (map aB ([] :List aC))<|gs 0 5 (.gl 0 1 0 ([] :List aC).length false)<|.W 0 1 [0] (aCW a 0 ([] :List aC))) ⟨kk,trivial⟩
def bAV(c:List Con)(a:Int)(b:List aC):=tT 0 (aCW c a b)<|gd 5 11 (a< (c.length:Int)) (gX Con.av 6 c a<|fun d=>ga 23 aB b [d.name]<|gw 5 20 (a+1)<|.W 3 5 [4] (aCW c (a+1) (b++ [d.name])))<|gz 8 4 0 1 aB b false<|gE 0 1 (iS b)
def aSA:=fun a b c d e f g i j=>bAV a b c|>.t e d f g i j ⟨kk,trivial⟩
def aSB:=fun a b c d=>bAV a b c|>.f d tv
def aHQ(a:Prog):=tT 0 (start PP 200 [(Prog.av a)])<|gl 10 Node.av a.nodes<|gd 8 17 ((a.nodes.length:Int) >300) (gE 40 1 (bV false))<|gl 3 aP a.funs<|gd 3 24 ((a.funs.length:Int) <1) (gE 33 1 (bV false))<|gl 3 aP a.funs<|gd 4 32 ((a.funs.length:Int) > (a.nodes.length:Int)) (gE 25 1 (bV false))<|gl 3 Con.av a.cons<|gd 3 39 ((a.cons.length:Int) >20) (gE 18 1 (bV false))<|gl 6 aP a.funs<|gw 1 47 ((a.funs.length:Int) - (1:Int))<|fQ 0 241 [(nI a.main),(nI 0),(nI ((a.funs.length:Int) - (1:Int)))]<|fun c=>.b 3 50 (!c) (gE 6 1 (bV false))<|fQ 8 242 [(iC a.cons),(.func 243 [] [])]<|fun d=>.b 2 56 (!d) (gE 23 1 (bV false))<|.y fun b:List aC=>gp 3 245 [(iC a.cons),(.func 246 [] [])] (iS b)<|fQ 0 244 [(iS b)]<|fun e=>.b 3 64 (!e) (gE 15 1 (bV false))<|fQ 5 247 [(iN a.nodes),(.func 248 [(Prog.av a)] [])]<|fun f=>.b 3 72 (!f) (gE 6 1 (bV false))<|.i [rn 5,.mk a.nodes.length] [hr ((a.nodes.length:Nat) :Int),hr ((a.nodes.length:Nat) :Int),hA (a.nodes.length<100000)]<|.i [.lset 1 (jI (replicate a.nodes.length (0:Int)))] [.q (p:=replicate a.nodes.length (aP (0:Int)) = (jI (replicate a.nodes.length (0:Int)))) (aNY _ _ _)]<|.i [.set 74 (.gl 1 1 0 (replicate a.nodes.length (0:Int)).length true)] [.q (p:=(AV.gl 1 1 0 a.nodes.length true) = (.gl 1 1 0 (replicate a.nodes.length (0:Int)).length true)) (cF (List.length_replicate ..).symm)]<|gl 8 aP a.funs<|.W 4 2 [0,1] (sK a 0 (replicate a.nodes.length (0:Int)))
def aJ4:=fun a b=>aHQ a|>.t b tv
def aJ5:=fun a b c=>aHQ a|>.f b|>.t c tv
def aJ6:=fun a b c d=>aHQ a|>.f b|>.f c|>.t d tv
def aJ7:=fun a b c d e=>aHQ a|>.f b|>.f c|>.f d|>.t e tv
def aJ8:=fun a b c d e f g i j=>aHQ a|>.f c|>.f d|>.f e|>.f f g b i|>.t j tv
def aJ9:=fun a b c d e f g i j k l m=>aHQ a|>.f d|>.f e|>.f f|>.f g i b j|>.f k c l|>.t m tv
def aKa:=fun a b c d e f g i j k l m n o p q r=>aHQ a|>.f f|>.f g|>.f i|>.f j k b l|>.f m c n|>.f o d p e q|>.t r tv
def aKb:=fun a b c d e f g i j k l m n o p q r s t u=>aHQ a|>.f g|>.f i|>.f j|>.f k l b m|>.f n c o|>.f p d q e r|>.f s f t|>.t u tv
def aKc:=fun a b c d e f g i j k l m n o p q r s t u v=>aHQ a|>.f g|>.f i|>.f j|>.f k l b m|>.f n c o|>.f p d q e r|>.f s f t|>.f u v ⟨kk,trivial⟩
def bAj(d:Prog)(e:Int)(a:List Int):=tT 0 (sK d e a)<|gd 5 80 (e< (d.funs.length:Int)) (gX aP 6 d.funs e<|fun b=>gw 9 85 ((d.nodes.length:Int) -1)<|fQ 0 241 [(nI b),(nI 0),(nI ((d.nodes.length:Int) -1))]<|fun f=>.b 2 87 (!f) (gE 6 2 (bV false))<|.i [rn 5,.ans (.ix)] [hA (0≤b),hA (b< (a.length:Int))]<|.y fun c:Int=>gj aP 0 a b.toNat c<|gw 1 92 (c+1)<|.i [.ans (.ix)] [hA (0≤b),hA (b< (a.length:Int))]<|.i [.st (aP c) (aP (c+1))] [.a (((a)[b.toNat]?) =some c) (gI (f:=aP)),hr (some (aP (c+1)))]<|.i [.lset 1 (jI (set a b.toNat (c+1)))] [.q (p:=(jI a).set (0+b.toNat) (aP (c+1)) = (jI (set a b.toNat (c+1)))) (nP _ _ _ _)]<|.i [.set 4 (.gl 1 1 0 (set a b.toNat (c+1)).length true)] [.q (p:=(AV.gl 1 1 0 a.length true) = (.gl 1 1 0 (set a b.toNat (c+1)).length true)) (cF (length_set ..).symm)]<|.i [.set 88 (.gl 1 1 0 (set a b.toNat (c+1)).length true)] [.q (p:=(AV.gl 1 1 0 a.length true) = (.gl 1 1 0 (set a b.toNat (c+1)).length true)) (cF (length_set ..).symm)]<|gw 4 94 (e+1)<|.W 3 2 [0,1] (sK d (e+1) (set a b.toNat (c+1))))<|gl 8 Node.av d.nodes<|.W 4 2 [1] (nR d a 0)
def aKd:=fun a b c d e f g i j k l=>bAj a b c|>.t f d g i j e k|>.t l tv
def aKe:=fun d e f g i j k l m n o p a b c q r=>bAj d e f|>.t k g l m n i o|>.f p a b j c q a b c r ⟨kk,trivial⟩
def aKf:=fun a b c d=>bAj a b c|>.f d ⟨kk,trivial⟩
def bAW(c:Prog)(d:List Int)(a:Int):=tT 0 (nR c d a)<|gd 5 100 (a< (c.nodes.length:Int)) (gX Node.av 7 c.nodes a<|fun b=>gl 9 aP b.kids<|.W 4 2 [0] (sL c b.kids (b.kids.length:Int) d 0 a a))<|gz 5 126 0 1 aP d true<|fQ 0 249 [(.ilst 1 (jI d) true),(.func 250 [] [])]<|fun b=>gE 3 1 (bV b)
def aKg:=fun a b c d e f g=>bAW a b c|>.t e d f g ⟨kk,trivial⟩
def aKh:=fun a b c d e f=>bAW a b c|>.f e d f tv
def bAk(d:Prog)(i:List Int)(j:Int)(a:List Int)(e f g:Int):=tT 0 (sL d i j a e f g)<|gd 5 108 (e<j) (gX aP 6 i e<|fun b=>gw 9 113 (f+1)<|gw 2 115 ((d.nodes.length:Int) -1)<|fQ 0 241 [(nI b),(nI (f+1)),(nI ((d.nodes.length:Int) -1))]<|fun k=>.b 2 117 (!k) (gE 6 1 (bV false))<|.i [rn 5,.ans (.ix)] [hA (0≤b),hA (b< (a.length:Int))]<|.y fun c:Int=>gj aP 0 a b.toNat c<|gw 1 122 (c+1)<|.i [.ans (.ix)] [hA (0≤b),hA (b< (a.length:Int))]<|.i [.st (aP c) (aP (c+1))] [.a (((a)[b.toNat]?) =some c) (gI (f:=aP)),hr (some (aP (c+1)))]<|.i [.lset 0 (jI (set a b.toNat (c+1)))] [.q (p:=(jI a).set (0+b.toNat) (aP (c+1)) = (jI (set a b.toNat (c+1)))) (nP _ _ _ _)]<|.i [.set 4 (.gl 0 1 0 (set a b.toNat (c+1)).length true)] [.q (p:=(AV.gl 0 1 0 a.length true) = (.gl 0 1 0 (set a b.toNat (c+1)).length true)) (cF (length_set ..).symm)]<|.i [.set 118 (.gl 0 1 0 (set a b.toNat (c+1)).length true)] [.q (p:=(AV.gl 0 1 0 a.length true) = (.gl 0 1 0 (set a b.toNat (c+1)).length true)) (cF (length_set ..).symm)]<|gw 4 124 (e+1)<|.W 3 1 [0] (sL d i j (set a b.toNat (c+1)) (e+1) f g))<|gw 5 125 (g+1)<|.W 3 1 [0] (nR d a (g+1))
def aKi:=fun a b c d e f g i j k l m n o p q=>bAk a b c d e f g|>.t k i l m n o j p|>.t q tv
def aKj:=fun d e f g i j k l m n o p q r s t u a b c v w=>bAk d e f g i j k|>.t o l p q r s m t|>.f u a b n c v a b c w ⟨kk,trivial⟩
def aKk:=fun a b c d e f g i j=>bAk a b c d e f g|>.f i j ⟨kk,trivial⟩
def bAX(a:Prog):=tT 0 (start PP 138 [(Prog.av a)])<|fQ 10 200 [(Prog.av a)]<|fun b=>.b 2 6 (!b) (gE 6 1 (nI 2))<|gE 7 1 (nI 0)
def aMX:=fun a b c d=>bAX a b c|>.t d tv
def aMY:=fun a b c d=>bAX a b c|>.f d tv
theorem fE (n lo hi:Int) :Pure PP 241 [.int .i64 n,.int .i64 lo,.int .i64 hi] (.bool (cX n lo hi)) :=by
 refine aQ (by kernel_rfl) rfl rfl ?_;by_cases h:n≥lo
 · have e:cX n lo hi=decide (n≤hi) :=by unfold cX;rw [decide_eq_true (show lo≤n from h),Bool.true_and]
   rw [e];exact aVj n lo hi (decide_eq_true h)
 · have e:cX n lo hi=false:=by unfold cX;rw [decide_eq_false (show ¬lo≤n from h),Bool.false_and]
   rw [e];exact aVk n lo hi (decide_eq_false h)
theorem aBJ (n:Int) :Pure PP 301 [.int .i64 n] (.bool (cX n (-1000000000) 1000000000)) :=
 aQ (by kernel_rfl) rfl rfl (aR5 n _ (fE n _ _))
theorem aPT (b:ByteArray)(i:Nat)(h:128≤ (b.get! i).toNat) :128≤ (Utf8.decode b i).1:=by
 unfold Utf8.decode Utf8.runeError;simp only [add_zero];rw [if_neg (show ¬ (b.get! i).toNat<0x80 by omega)]
 repeat' split
 all_goals first
  |assumption
  | (simp_all;done)
  | (rename_i q;simp only [Bool.and_eq_true,decide_eq_true_eq,ge_iff_le]at q;simp only;omega)
theorem aVn {s:aC}{i:Nat}{c:UInt8}(h:s[i]?=some c) :∃r d,aLt (length s) (aA s) i=some (r,d) ∧ (c.toNat<128→r=c.toNat∧d=1) ∧ (128≤c.toNat→128≤r) :=by
 have hi:= (List.getElem?_eq_some_iff.1 h).1;have hb:=byte_at h;unfold aLt;have e1:blt i (length s) =true:=by rw [cU];exact decide_eq_true hi
 have e2:mod (div (aA s) (pow 256 i)) 256=c.toNat:=hb;rw [e1,e2];simp only [cond];by_cases k:c.toNat<128
 · have e3:blt c.toNat 128=true:=by rw [cU];exact decide_eq_true k
   rw [e3];exact⟨_,_,rfl,fun _=> ⟨rfl,rfl⟩,fun g=>by omega⟩
 · have e3:blt c.toNat 128=false:=by rw [cU];exact decide_eq_false k
   rw [e3];refine⟨_,_,rfl,fun g=>by omega,fun _=>?_⟩;have hn:aR (length s) (aA s) =s:=eX s;rw [hn];have hg: ((⟨⟨s⟩⟩ :ByteArray).get! (i+0)).toNat=c.toNat:=by
    simp only [add_zero,ByteArray.get!];have: (⟨s⟩ :Array UInt8)[i]! =c:=by
     rw [Array.getElem!_eq_getD,Array.getD_eq_getD_getElem?,show(⟨s⟩ :Array UInt8) =s.toArray from rfl,List.getElem?_toArray,h];rfl
    rw [this]
   exact aPT _ _ (by rw [add_zero]at hg;rw [hg];omega)
theorem aCn (s:aC) :∀ (t:aC) (i:Nat),s.drop i=t→Ends PP 0 (wV s i).as (.ret (.bool (fZ t))) (aG [] 0)
 | [],i,h=>aMN s i (bD h)
 | c :: t,i,h=>by
  obtain⟨h1,h2,h3⟩ :=bC h;obtain⟨r,d,q1,q2,q3⟩ :=aVn h1;by_cases g1:c.toNat<97
  · have:= (q2 (by omega)).1;exact Ends.eqv (aMK s i r d h3 q1 sd) (by simp [fZ,sC];omega)
  · by_cases g2:122<c.toNat
    · have hr:122<r:=by
       by_cases k:c.toNat<128
       ·have:= (q2 k).1;omega
       ·have:=q3 (by omega);omega
      exact Ends.eqv (aML s i r d h3 q1 sd sd) (by simp [fZ,sC];omega)
    · obtain⟨rfl,rfl⟩ :=q2 (by omega);refine(aMM s i _ _ h3 q1 sd sd).ends ?_;have e:sC c=true:=by simp [sC];omega
      exact Ends.eqv (aCn s t (i+1) h2) (by simp [fZ,e])
theorem aCo (s:aC) :Pure PP 164 [aB s] (.bool (fZ s)) :=
 aQ (by kernel_rfl) rfl rfl ((aMJ s).ends (aCn s s 0 rfl))
theorem aKl (s:aC) :Pure PP 231 [aB s] (.bool (hR s)) :=by
 refine aQ (by kernel_rfl) rfl rfl ?_
 match s with
 | [] =>exact aMS [] rfl
 | c ::t=>
  have h0: (!(bF (length (c::t)) (aA (c::t)) 0 0)) =true:=by rw [dE];rfl
  by_cases g0: (c::t).length≤8
  · have g0': (decide (((length (c::t) :Nat) :Int) ≤ (8:Int))) =true:=sd;by_cases g1:65≤c.toNat
    · by_cases g2:c.toNat≤90
      ·exact Ends.eqv (aMO (c::t) c _ h0 g0' rfl sd sd (by simp) (aCo t)) (by simp only [hR,decide_eq_true g0,decide_eq_true g1,decide_eq_true g2,Bool.true_and])
      ·exact Ends.eqv (aMP (c::t) c h0 g0' rfl sd sd) (by simp only [hR,decide_eq_false g2,Bool.and_false,Bool.false_and])
    ·exact Ends.eqv (aMQ (c::t) c h0 g0' rfl sd) (by simp only [hR,decide_eq_false g1,Bool.and_false,Bool.false_and])
  ·exact Ends.eqv (aMR (c::t) h0 sd) (by simp only [hR,decide_eq_false g0,Bool.false_and])
theorem aPU (c:Con) :Pure PP 243 [Con.av c] (.bool (fC c)) :=by
 refine aQ (by kernel_rfl) rfl rfl ?_;have hg:=aKl c.name;cases k:hR c.name with
 |false=>rw [k]at hg;exact Ends.eqv (aR8 c false hg rfl) (by simp [fC,k])
 |true=>rw [k]at hg;exact Ends.eqv (aR7 c true _ hg rfl (fE _ _ _)) (by simp [fC,k])
def mJ (p:Prog)(x:Node) :Bool:=if x.op=14 then true else bK p x.op x.n
theorem aPV (p:Prog)(x:Node)(hf:p.funs.length≤1000) :Ends PP 0 (start PP 283 [Prog.av p,Node.av x]).as (.ret (.bool (mJ p x))) (aG [] 0) :=by
 cases hb1: (x.op== (1:Int))with
 | true=>
  exact Ends.eqv (aJL p x  (cX (x.n) (-1000000000) 1000000000) hb1 (aBJ (x.n))) (by simp_all [mJ,bK] <;>rfl)
 | false=>
  cases hb2: (x.op== (2:Int))with
  | true=>
   exact Ends.eqv (aJM p x  (cX (x.n) 0 1) hb1 hb2 (fE (x.n) 0 1)) (by simp_all [mJ,bK] <;>rfl)
  | false=>
   cases hb3: (x.op== (24:Int))with
   | true=>
    exact Ends.eqv (aJN p x  (cX (x.n) 0 3) hb1 hb2 hb3 (fE (x.n) 0 3)) (by simp_all [mJ,bK] <;>rfl)
   | false=>
    cases hb4: (x.op== (4:Int))with
    | true=>
     exact Ends.eqv (aJO p x  (cX (x.n) (0- ((length p.funs:Nat) :Int)) 29) hb1 hb2 hb3 hb4 sdI (fE (x.n) (0- ((length p.funs:Nat) :Int)) 29)) (by simp_all [mJ,bK] <;>rfl)
    | false=>
     cases hb5: (x.op== (14:Int))with
     | true=>
      exact Ends.eqv (aJP p x   hb1 hb2 hb3 hb4 hb5) (by simp_all [mJ,bK] <;>rfl)
     | false=>
      exact Ends.eqv (aJQ p x   hb1 hb2 hb3 hb4 hb5) (by simp_all [mJ,bK] <;>rfl)
theorem aHR (p:Prog)(x:Node)(hf:p.funs.length≤1000) :Pure PP 283 [Prog.av p,Node.av x] (.bool (mJ p x)) :=
 aQ (by kernel_rfl) rfl rfl (aPV p x hf)
mutual
def nS :Pat→Int→Int
 | .mk _ _ _ ps,most=>kY ps most 1
def kY :List Pat→Int→Int→Int
 | [],_,n=>n
 |p::ps,most,n=>if n>most then n else kY ps most (n+nS p (most-n))
end
mutual
theorem aD6 :∀ (p:Pat) (m:Int),0≤m→1≤nS p m∧nS p m≤m+1
 | .mk _ _ _ ps,m,h=>by rw [nS];exact aFU ps m 1 (by omega) (by omega)
theorem aFU :∀ (ps:List Pat) (m n:Int),1≤n→n≤m+1→1≤kY ps m n∧kY ps m n≤m+1
 | [],m,n,h1,h2=>by rw [kY];omega
 | p ::ps,m,n,h1,h2=>by
  rw [kY];split
  ·omega
  · have a:=aD6 p (m-n) (by omega);exact aFU ps m _ (by omega) (by omega)
end
mutual
theorem aKm :∀ (p:Pat) (m:Int),0≤m→ ((cC p:Int) ≤m→nS p m=cC p) ∧ (m<cC p→m<nS p m)
 | .mk _ _ _ ps,m,h=>by
  have:=aFV ps m 1 (by omega);simp only [nS,cC];constructor
  ·intro g;have:=this.1 (by omega);omega
  ·intro g;exact this.2 (by omega)
theorem aFV :∀ (ps:List Pat) (m n:Int),n≤m+1→ (n+aX ps≤m→kY ps m n=n+aX ps) ∧ (m<n+aX ps→m<kY ps m n)
 | [],m,n,h=>by simp only [kY,aX];omega
 | p ::ps,m,n,h=>by
  simp only [kY,aX];split
  ·omega
  · rename_i k;have a:=aKm p (m-n) (by omega);have l:=aD6 p (m-n) (by omega);have b:=aFV ps m (n+nS p (m-n)) (by omega);constructor
    · intro g;have:=a.1 (by omega);have:=b.1 (by omega);omega
    · intro g;refine b.2 ?_;by_cases q: (cC p:Int) ≤m-n
      ·have:=a.1 q;omega
      ·have:=a.2 (by omega);omega
end
theorem aFW (p:Pat)(m:Int)(h:0≤m) :nS p m≤m↔ (cC p:Int) ≤m:=by
 have:=aKm p m h;constructor
 · intro g;by_cases k: (cC p:Int) ≤m
   ·exact k
   ·have:=this.2 (by omega);omega
 ·intro g;have:=this.1 g;omega
theorem aD7 (f n:Int)(s:aC)(ps:List Pat)(m:Int)(hm:m≤1000)(ih:∀p∈ps,∀m:Int,0≤m→m≤1000→Pure PP 281 [Pat.av p,.int .i64 m] (.int .i64 (nS p m))) :
  ∀ (t:List Pat) (i:Nat) (k:Int),ps.drop i=t→ (i:Int) +1≤k→k≤m+1→Ends PP 0 (aAU f n s ps m k (i:Int)).as (.ret (.int .i64 (kY t m k))) (aG [] 0)
 | [],i,k,h,h1,h2=>by
  have:=bD h;rw [kY];exact aPA f n s ps m k i sd
 | .mk f' n' s' ps'::t,i,k,h,h1,h2=>by
  obtain⟨g1,g2,g3⟩ :=bC h;rw [kY];split
  ·exact aPy f n s ps m k i f' n' s' ps' sd sd sd sd
  · rename_i hk;have l:=aD6 (.mk f' n' s' ps') (m-k) (by omega);refine(aPz f n s ps m k i f' n' s' ps' _ sd sd sd sd sd (ih (.mk f' n' s' ps') (mem_of_getElem? g1) (m-k) (by omega) (by omega)) sd sd).ends ?_;exact aD7 f n s ps m hm ih t (i+1) _ g2 (by omega) (by omega)
mutual
theorem aD8 :∀ (p:Pat) (m:Int),0≤m→m≤1000→Pure PP 281 [Pat.av p,.int .i64 m] (.int .i64 (nS p m))
 | .mk f n s ps,m,h0,h1=>by
  refine aQ (by kernel_rfl) (by simp [keylessL,mB,keyless]) rfl ?_;rw [nS];refine(aPx f n s ps m).ends ?_;exact aD7 f n s ps m h1 (aFX ps) ps 0 1 rfl (by omega) (by omega)
theorem aFX :∀ (ps:List Pat),∀p∈ps,∀m:Int,0≤m→m≤1000→Pure PP 281 [Pat.av p,.int .i64 m] (.int .i64 (nS p m))
 | [],p,hp,_,_,_=>by cases hp
 | q::ps,p,hp,m,h0,h1=>by
  rcases List.mem_cons.1 hp with e|hp
  ·rw [e];exact aD8 q m h0 h1
  ·exact aFX ps p hp m h0 h1
end
end
end Go.Hb
