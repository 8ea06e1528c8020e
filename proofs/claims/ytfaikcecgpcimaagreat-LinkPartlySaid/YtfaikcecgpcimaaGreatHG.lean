/- A machine on abstract values, its soundness, ways, plain laws. -/
import Derived.Test.YtfaikcecgpcimaaGreatHF
set_option linter.defProp false
set_option linter.unusedVariables false
set_option linter.unusedSimpArgs false
set_option linter.unusedSectionVars false
set_option maxRecDepth 100000
set_option maxHeartbeats 2000000
namespace Go.Hb
open AV (ilst int keyless keylessL str)
open List (all_nil drop length length_set map map_set mem_of_getElem? replicate set)
open Nat (add_zero blt div mod pow)
open Go.Proofs Tryz
noncomputable section
section
variable {P :Program}
theorem throws_at {f : Nat} {args : List AV} {ch : List (AV×Bool)}(hb:lM P f=true)(hk:keylessL args=true)(hv:∀x∈ch,keyless x.1=true)(he:Ends P 0 (start P f args).as (.pan ch) (aE [] 0)) :aFR P f args ch:=fun h=>by
 unfold lM at hb;split at hb
 · rename_i fn hf;split at hb
   · rename_i c hc;have hg:dM P h (.enter f args) =some ⟨f,dT .leaf 0 args,max fn.ntmps args.length,[.code c],[],.run,.normal,none⟩ :=by simp [dM,cU,hf,hc]
     refine⟨_,hg,fun hm E fr ccs w fr' fs r cl base=>?_⟩;simp only at fs;rw [fs.nil_inv];have f1:FR E.p (start P f args).as.fr fr:=by
      have e1: (start P f args).as.fr= ⟨f,mkT ((List.range args.length).zip args),max fn.ntmps args.length,[.code c],[],.run,.normal,none⟩ :=by simp [start,hf,hc,TS.as,TF.fr]
      rw [e1];refine⟨fr'.fn,⟨fr'.tm.1,fun t a e=>?_⟩,?_,?_,fr'.mode,fr'.kind,?_⟩
      · have h1:=aCP (xU e);have hlt:= (List.getElem?_eq_some_iff.1 h1).1;have h2: (dT .leaf 0 args).at t=some a:=by
         unfold dT;rw [cA,if_pos hlt];exact h1
        obtain⟨cv,g1,g2⟩ :=fr'.tm.2 t a h2;exact⟨cv,g1,dZ (keylessL_mem.1 hk a (mem_of_getElem? h1)) g2⟩
      · have:=fr'.todo;simpa [IRs,IR]using this
      · have:=fr'.defers;simpa [DRs]using this
      · have:=fr'.round;simpa [RR]using this
     have e2 : (start P f args).as.cs = [] := by unfold start;split; · split<;>rfl
                                                 ·rfl
     have e3 : (start P f args).as.h = ⟨.leaf, 0⟩ := by unfold start;split; · split<;>rfl
                                                        ·rfl
     obtain⟨cl',w',E',g1,⟨cv,rfl,g2⟩,g3,g4⟩ :=he (Nat.zero_le _) E.p fr [] w f1 (by rw [e2];rfl) (by rw [e3];exact aCO r) cl base;rw [e3]at g4;obtain⟨q1,q2⟩ :=aCQ r g3 g4;exact⟨_,w',_,g1,⟨cv,rfl,CR.of_p (E:= ⟨E.loc,E'.imm⟩) (show CR (Emb.p ⟨E.loc,E'.imm⟩) ch cv from xZ (E:=E') hv g2)⟩,q1,q2⟩
   ·cases hb
 ·cases hb
end
inductive Typ where
 |mk (sort n:Int) (text:aC) (parts:List Typ)
mutual
def Typ.av :Typ→AV
 | .mk f n t ps=>.agg [.int .i64 f,.int .i64 n,aB t,.ilst 4 (Typs.av ps) false]
def Typs.av :List Typ→List AV
 | [] =>[]
 |p::ps=>Typ.av p::Typs.av ps
end
inductive Term where
 |mk (op n:Int) (text:aC) (kids:List Term) (pats:List Pat)
mutual
def Term.av :Term→AV
 | .mk o n t ks ps=>.agg [.int .i64 o,.int .i64 n,aB t,.ilst 5 (Terms.av ks) false,.ilst 4 (Pats.av ps) false]
def Terms.av :List Term→List AV
 | [] =>[]
 |p::ps=>Term.av p::Terms.av ps
end
structure ConD where
 name:aC
 args:List Typ
def ConD.av (c:ConD) :AV:=.agg [aB c.name,.ilst 4 (Typs.av c.args) false]
structure DataD where
 name:aC
 cons:List ConD
def DataD.av (d:DataD) :AV:=.agg [aB d.name,.ilst 2 (map ConD.av d.cons) false]
inductive FunD where
 |mk (name param:aC) (frm to:Typ) (body:Term)
def FunD.av :FunD→AV
 | .mk n p (.mk f0 f1 f2 f3) (.mk g0 g1 g2 g3) (.mk b0 b1 b2 b3 b4) =>.agg [aB n,aB p,.int .i64 f0,.int .i64 f1,aB f2,.ilst 4 (Typs.av f3) false,.int .i64 g0,.int .i64 g1,aB g2,.ilst 4 (Typs.av g3) false,.int .i64 b0,.int .i64 b1,aB b2,.ilst 5 (Terms.av b3) false,.ilst 4 (Pats.av b4) false]
def FunDs.av (l:List FunD) :List AV:=map FunD.av l
structure Mod where
 name:aC
 datas:List DataD
 funs:List FunD
def Mod.av (m:Mod) :AV:=.agg [aB m.name,.ilst 2 (map DataD.av m.datas) false,.ilst 15 (FunDs.av m.funs) false]
inductive Part where
 |data (d:DataD)
 |fn (f:FunD)
def Part.av :Part→AV
 | .data d=>.iface 217 (DataD.av d)
 | .fn f=>.iface 219 (FunD.av f)
def Parts.av (l:List Part) :List AV:=map Part.av l
inductive KV where
 |row (l:List Int)
 |nil
 |val (u:Value)
def KV.av :KV→AV
 | .row l=>.ilst 1 (map aQ l) false
 | .nil=>.nils
 | .val u=>.val u
structure ONode where
 op:Int
 n:Int
 kv:KV
 pats:List Pat
def ONode.av (x:ONode) :AV:=.agg [.int .i64 x.op,.int .i64 x.n,x.kv.av,.ilst 4 (Pats.av x.pats) false]
def Node.o (x:Node) :ONode:= ⟨x.op,x.n,.row x.kids,x.pats⟩
theorem aTP (l:List Node) :map ONode.av (map Node.o l) =map Node.av l:=by
 rw [List.map_map];rfl
theorem aZM :∀k:KV,keyless k.av=true
 | .row l=>by simp only [KV.av,keyless]
 | .nil=>rfl
 | .val u=>rfl
theorem aN (x:ONode) :keyless x.av=true:=by
 simp only [ONode.av,keyless,keylessL,aZM,zX,Bool.and_true]
theorem aGh {E:Emb}{x y:AV}(hv:∀v,VR E x v→VR E y v) :∀ {xs:List AV} {i:Nat},xs[i]?=some x→∀vs,VRs E xs vs→VRs E (xs.set i y) vs
 | [],i,h,vs,hvs=>by simp at h
 | a::xs,0,h,vs,hvs=>by
  simp only [VRs]at hvs;obtain⟨u,us,rfl,h1,h2⟩ :=hvs;simp at h;subst h;simp only [List.set_cons_zero,VRs];exact⟨u,us,rfl,hv u h1,h2⟩
 | a::xs,i+1,h,vs,hvs=>by
  simp only [VRs]at hvs;obtain⟨u,us,rfl,h1,h2⟩ :=hvs;simp only [List.getElem?_cons_succ]at h;simp only [List.set_cons_succ,VRs];exact⟨u,us,rfl,h1,aGh hv h us h2⟩
theorem aIf {E:Emb}{x:ONode}{k:KV}(hk:∀v,VR E x.kv.av v→VR E k.av v) :∀v,VR E x.av v→VR E (ONode.av ⟨x.op,x.n,k,x.pats⟩) v:=fun v h=>by
 simp only [ONode.av,VR,VRs]at h ⊢;obtain⟨us,rfl,u1,r1,rfl,q1,u2,r2,rfl,q2,u3,r3,rfl,q3,q4⟩ :=h;exact⟨_,rfl,_,_,rfl,q1,_,_,rfl,q2,_,_,rfl,hk _ q3,q4⟩
theorem aKL {E:Emb}:∀v,VR E KV.nil.av v→VR E (KV.row []).av v:=fun v h=>by
 simp only [KV.av,VR]at h;simp only [KV.av,VR,List.map_nil];exact⟨[],VRs.nil _,fun _ hu=>by(cases hu),.inl ⟨rfl,none,0,h,fun _=>rfl,fun _=>rfl⟩⟩
theorem aP0 {l:List ONode}{i:Nat}{y:ONode}(h:l[i]?=some y)(hk:y.kv= .nil) :VW (map ONode.av l) (map ONode.av (l.set i ⟨y.op,y.n,.row [],y.pats⟩)) :=fun E vs hvs=>by
 have h1: (map ONode.av l)[i]?=some y.av:=by rw [List.getElem?_map,h];rfl
 rw [map_set];exact aGh (aIf (by rw [hk];exact aKL)) h1 vs hvs
theorem aP1 {l:List ONode}{i:Nat}{y:ONode}{u:Value}{ks:List Int}(h:l[i]?=some y)(hk:y.kv= .val u) :VQ u 1 (map aQ ks) (map ONode.av l) (map ONode.av (l.set i ⟨y.op,y.n,.row ks,y.pats⟩)) :=fun E vs hu hvs=>by
 have h1: (map ONode.av l)[i]?=some y.av:=by rw [List.getElem?_map,h];rfl
 rw [map_set];refine aGh (aIf (fun v hv=>?_)) h1 vs hvs;rw [hk]at hv;simp only [KV.av,VR]at hv;subst hv;exact hu
theorem aGi {α:Type}{f:α→AV}{l:List α}{i:Nat}{y:α}(h:l[i]?=some y) :map f l≠ [] :=fun e=>by
 cases l with
 |nil=>simp at h
 |cons _ _=>cases e
def kwL :List aC:=[(strOf [98,111,111,108]),(strOf [99,101,108,108]),(strOf [99,104,97,110]),(strOf [101,108,115,101]),(strOf [102,97,108,115,101]),(strOf [102,117,110]),(strOf [103,101,116]),(strOf [105,102]),(strOf [105,110]),(strOf [105,110,112,117,116]),(strOf [105,110,116]),(strOf [106,111,105,110]),(strOf [108,101,116]),(strOf [109,97,116,99,104]),(strOf [109,111,100,117,108,101]),(strOf [111,117,116]),(strOf [112,97,117,115,101]),(strOf [112,117,116]),(strOf [114,101,115,101,116]),(strOf [115,101,110,100]),(strOf [115,104,105,102,116]),(strOf [115,112,97,119,110]),(strOf [116,97,107,101]),(strOf [116,97,115,107]),(strOf [116,104,101,110]),(strOf [116,114,117,101]),(strOf [116,121,112,101]),(strOf [117,110,105,116])]
def aX0:TS:=cK PP 226 [] [] 0
def aTQ:=(tT 0 (aX0)<|.i [rn 10,.toL 0 false [(.str 4 1819242338),(.str 4 1819043171),(.str 4 1851877475),(.str 4 1702063205),(.str 5 435728179558),(.str 3 7239014),(.str 3 7628135),(.str 2 26217),(.str 2 28265),(.str 5 500186508905),(.str 3 7630441),(.str 4 1852403562),(.str 3 7628140),(.str 5 448345170285),(.str 6 111516500389741),(.str 3 7632239),(.str 5 435728769392),(.str 3 7632240),(.str 5 499918267762),(.str 4 1684956531),(.str 5 499934390387),(.str 5 474449277043),(.str 4 1701536116),(.str 4 1802723700),(.str 4 1852139636),(.str 4 1702195828),(.str 4 1701869940),(.str 4 1953066613)]] [hr (some [(str 4 1819242338),(str 4 1819043171),(str 4 1851877475),(str 4 1702063205),(str 5 435728179558),(str 3 7239014),(str 3 7628135),(str 2 26217),(str 2 28265),(str 5 500186508905),(str 3 7630441),(str 4 1852403562),(str 3 7628140),(str 5 448345170285),(str 6 111516500389741),(str 3 7632239),(str 5 435728769392),(str 3 7632240),(str 5 499918267762),(str 4 1684956531),(str 5 499934390387),(str 5 474449277043),(str 4 1701536116),(str 4 1802723700),(str 4 1852139636),(str 4 1702195828),(str 4 1701869940),(str 4 1953066613)]),hr true]<|gu 0 0 (map aB kwL)<|gs 0 0 (.gl 0 1 0 kwL.length true)<|.i [.weak 0] []<|gz 0 0 0 1 aB kwL false<|gE 0 1 (iS kwL)) tv
def aP2 (c:aC):=fun a b d e=>(tT 0 (start PP 167 [(aB c)])<|.y fun a:List aC=>gp 6 226 [] (iS a)<|eU 1 111 [(iS a),(aB c)]<|fun b=>gE 3 0 (bV b)) a d b e tv
def aMD(a:aC):=tT 0 (start PP 86 [(aB a)])<|gd 10 6 ((a.length:Int) ≥1) (gd 5 11 ((a.length:Int) ≤8) (eU 1 166 [(aB a)]<|fun b=>.b 2 15 b (eU 1 167 [(aB a)]<|fun c=>gE 5 0 (bV (!c)))<|gE 7 0 (bV false))<|gE 11 0 (bV false))<|gE 16 0 (bV false)
def aTR:=fun a b c d e f g i=>aMD a|>.t d|>.t e b f|>.t g c i tv
def aTS:=fun a b c d e f=>aMD a|>.t c|>.t d b e|>.f f tv
def aTT:=fun a b c=>aMD a|>.t b|>.f c tv
def aTU:=fun a b=>aMD a|>.f b tv
def eM(a:aC):=tT 0 (start PP 165 [(aB a)])<|.b 16 4 (bB a.length (aA a) 4 1819242338) (gE 8 0 (bV true))<|.b 6 4 (bB a.length (aA a) 4 1819043171) (gE 8 0 (bV true))<|.b 6 4 (bB a.length (aA a) 4 1851877475) (gE 8 0 (bV true))<|.b 6 4 (bB a.length (aA a) 4 1702063205) (gE 8 0 (bV true))<|.b 6 4 (bB a.length (aA a) 5 435728179558) (gE 8 0 (bV true))<|.b 6 4 (bB a.length (aA a) 3 7239014) (gE 8 0 (bV true))<|.b 6 4 (bB a.length (aA a) 3 7628135) (gE 8 0 (bV true))<|.b 6 4 (bB a.length (aA a) 2 26217) (gE 8 0 (bV true))<|.b 6 4 (bB a.length (aA a) 2 28265) (gE 8 0 (bV true))<|.b 6 4 (bB a.length (aA a) 5 500186508905) (gE 8 0 (bV true))<|.b 6 4 (bB a.length (aA a) 3 7630441) (gE 8 0 (bV true))<|.b 6 4 (bB a.length (aA a) 4 1852403562) (gE 8 0 (bV true))<|.b 6 4 (bB a.length (aA a) 3 7628140) (gE 8 0 (bV true))<|.b 6 4 (bB a.length (aA a) 5 448345170285) (gE 8 0 (bV true))<|.b 6 4 (bB a.length (aA a) 6 111516500389741) (gE 8 0 (bV true))<|.b 6 4 (bB a.length (aA a) 3 7632239) (gE 8 0 (bV true))<|.b 6 4 (bB a.length (aA a) 5 435728769392) (gE 8 0 (bV true))<|.b 6 4 (bB a.length (aA a) 3 7632240) (gE 8 0 (bV true))<|.b 6 4 (bB a.length (aA a) 5 499918267762) (gE 8 0 (bV true))<|.b 6 4 (bB a.length (aA a) 4 1684956531) (gE 8 0 (bV true))<|.b 6 4 (bB a.length (aA a) 5 499934390387) (gE 8 0 (bV true))<|.b 6 4 (bB a.length (aA a) 5 474449277043) (gE 8 0 (bV true))<|.b 6 4 (bB a.length (aA a) 4 1701536116) (gE 8 0 (bV true))<|.b 6 4 (bB a.length (aA a) 4 1802723700) (gE 8 0 (bV true))<|.b 6 4 (bB a.length (aA a) 4 1852139636) (gE 8 0 (bV true))<|.b 6 4 (bB a.length (aA a) 4 1702195828) (gE 8 0 (bV true))<|.b 6 4 (bB a.length (aA a) 4 1701869940) (gE 8 0 (bV true))<|.b 5 4 (bB a.length (aA a) 4 1953066613) (gE 6 0 (bV true))<|gE 8 0 (bV false)
def aTV:=fun a b=>eM a|>.t b tv
def aTW:=fun a b c=>eM a|>.f b|>.t c tv
def aTX:=fun a b c d=>eM a|>.f b|>.f c|>.t d tv
def aTY:=fun a b c d e=>eM a|>.f b|>.f c|>.f d|>.t e tv
def aTZ:=fun a b c d e f=>eM a|>.f b|>.f c|>.f d|>.f e|>.t f tv
def aT0:=fun a b c d e f g=>eM a|>.f b|>.f c|>.f d|>.f e|>.f f|>.t g tv
def aT1:=fun a b c d e f g i=>eM a|>.f b|>.f c|>.f d|>.f e|>.f f|>.f g|>.t i tv
def aT2:=fun a b c d e f g i j=>eM a|>.f b|>.f c|>.f d|>.f e|>.f f|>.f g|>.f i|>.t j tv
def aT3:=fun a b c d e f g i j k=>eM a|>.f b|>.f c|>.f d|>.f e|>.f f|>.f g|>.f i|>.f j|>.t k tv
def aT4:=fun a b c d e f g i j k l=>eM a|>.f b|>.f c|>.f d|>.f e|>.f f|>.f g|>.f i|>.f j|>.f k|>.t l tv
def aP3:=fun a b c d e f g i j k l m=>eM a|>.f b|>.f c|>.f d|>.f e|>.f f|>.f g|>.f i|>.f j|>.f k|>.f l|>.t m tv
def aP4:=fun a b c d e f g i j k l m n=>eM a|>.f b|>.f c|>.f d|>.f e|>.f f|>.f g|>.f i|>.f j|>.f k|>.f l|>.f m|>.t n tv
def aP5:=fun a b c d e f g i j k l m n o=>eM a|>.f b|>.f c|>.f d|>.f e|>.f f|>.f g|>.f i|>.f j|>.f k|>.f l|>.f m|>.f n|>.t o tv
def aP6:=fun a b c d e f g i j k l m n o p=>eM a|>.f b|>.f c|>.f d|>.f e|>.f f|>.f g|>.f i|>.f j|>.f k|>.f l|>.f m|>.f n|>.f o|>.t p tv
def aP7:=fun a b c d e f g i j k l m n o p q=>eM a|>.f b|>.f c|>.f d|>.f e|>.f f|>.f g|>.f i|>.f j|>.f k|>.f l|>.f m|>.f n|>.f o|>.f p|>.t q tv
def aP8:=fun a b c d e f g i j k l m n o p q r=>eM a|>.f b|>.f c|>.f d|>.f e|>.f f|>.f g|>.f i|>.f j|>.f k|>.f l|>.f m|>.f n|>.f o|>.f p|>.f q|>.t r tv
def aP9:=fun a b c d e f g i j k l m n o p q r s=>eM a|>.f b|>.f c|>.f d|>.f e|>.f f|>.f g|>.f i|>.f j|>.f k|>.f l|>.f m|>.f n|>.f o|>.f p|>.f q|>.f r|>.t s tv
def aQa:=fun a b c d e f g i j k l m n o p q r s t=>eM a|>.f b|>.f c|>.f d|>.f e|>.f f|>.f g|>.f i|>.f j|>.f k|>.f l|>.f m|>.f n|>.f o|>.f p|>.f q|>.f r|>.f s|>.t t tv
def aQb:=fun a b c d e f g i j k l m n o p q r s t u=>eM a|>.f b|>.f c|>.f d|>.f e|>.f f|>.f g|>.f i|>.f j|>.f k|>.f l|>.f m|>.f n|>.f o|>.f p|>.f q|>.f r|>.f s|>.f t|>.t u tv
def aQc:=fun a b c d e f g i j k l m n o p q r s t u v=>eM a|>.f b|>.f c|>.f d|>.f e|>.f f|>.f g|>.f i|>.f j|>.f k|>.f l|>.f m|>.f n|>.f o|>.f p|>.f q|>.f r|>.f s|>.f t|>.f u|>.t v tv
def aQd:=fun a b c d e f g i j k l m n o p q r s t u v w=>eM a|>.f b|>.f c|>.f d|>.f e|>.f f|>.f g|>.f i|>.f j|>.f k|>.f l|>.f m|>.f n|>.f o|>.f p|>.f q|>.f r|>.f s|>.f t|>.f u|>.f v|>.t w tv
def aQe:=fun a b c d e f g i j k l m n o p q r s t u v w x=>eM a|>.f b|>.f c|>.f d|>.f e|>.f f|>.f g|>.f i|>.f j|>.f k|>.f l|>.f m|>.f n|>.f o|>.f p|>.f q|>.f r|>.f s|>.f t|>.f u|>.f v|>.f w|>.t x tv
def aQf:=fun a b c d e f g i j k l m n o p q r s t u v w x y=>eM a|>.f b|>.f c|>.f d|>.f e|>.f f|>.f g|>.f i|>.f j|>.f k|>.f l|>.f m|>.f n|>.f o|>.f p|>.f q|>.f r|>.f s|>.f t|>.f u|>.f v|>.f w|>.f x|>.t y tv
def aQg:=fun a b c d e f g i j k l m n o p q r s t u v w x y z=>eM a|>.f b|>.f c|>.f d|>.f e|>.f f|>.f g|>.f i|>.f j|>.f k|>.f l|>.f m|>.f n|>.f o|>.f p|>.f q|>.f r|>.f s|>.f t|>.f u|>.f v|>.f w|>.f x|>.f y|>.t z tv
def aQh:=fun a b c d e f g i j k l m n o p q r s t u v w x y z A=>eM a|>.f b|>.f c|>.f d|>.f e|>.f f|>.f g|>.f i|>.f j|>.f k|>.f l|>.f m|>.f n|>.f o|>.f p|>.f q|>.f r|>.f s|>.f t|>.f u|>.f v|>.f w|>.f x|>.f y|>.f z|>.t A tv
def aQi:=fun a b c d e f g i j k l m n o p q r s t u v w x y z A B=>eM a|>.f b|>.f c|>.f d|>.f e|>.f f|>.f g|>.f i|>.f j|>.f k|>.f l|>.f m|>.f n|>.f o|>.f p|>.f q|>.f r|>.f s|>.f t|>.f u|>.f v|>.f w|>.f x|>.f y|>.f z|>.f A|>.t B tv
def aQj:=fun a b c d e f g i j k l m n o p q r s t u v w x y z A B C=>eM a|>.f b|>.f c|>.f d|>.f e|>.f f|>.f g|>.f i|>.f j|>.f k|>.f l|>.f m|>.f n|>.f o|>.f p|>.f q|>.f r|>.f s|>.f t|>.f u|>.f v|>.f w|>.f x|>.f y|>.f z|>.f A|>.f B|>.t C tv
def aQk:=fun a b c d e f g i j k l m n o p q r s t u v w x y z A B C D=>eM a|>.f b|>.f c|>.f d|>.f e|>.f f|>.f g|>.f i|>.f j|>.f k|>.f l|>.f m|>.f n|>.f o|>.f p|>.f q|>.f r|>.f s|>.f t|>.f u|>.f v|>.f w|>.f x|>.f y|>.f z|>.f A|>.f B|>.f C|>.t D tv
def aQl:=fun a b c d e f g i j k l m n o p q r s t u v w x y z A B C D=>eM a|>.f b|>.f c|>.f d|>.f e|>.f f|>.f g|>.f i|>.f j|>.f k|>.f l|>.f m|>.f n|>.f o|>.f p|>.f q|>.f r|>.f s|>.f t|>.f u|>.f v|>.f w|>.f x|>.f y|>.f z|>.f A|>.f B|>.f C|>.f D tv
def aME(a:aC):=tT 0 (start PP 85 [(aB a)])<|.b 9 5 (!(bB a.length (aA a) 0 0)) (gd 5 10 ((a.length:Int) ≤8) (eU 1 164 [(aB a)]<|fun b=>.b 2 14 b (eU 1 165 [(aB a)]<|fun c=>gE 5 0 (bV (!c)))<|gE 7 0 (bV false))<|gE 11 0 (bV false))<|gE 16 0 (bV false)
def aT5:=fun a b c d e f g i=>aME a|>.t d|>.t e b f|>.t g c i tv
def aT6:=fun a b c d e f=>aME a|>.t c|>.t d b e|>.f f tv
def aT7:=fun a b c=>aME a|>.t b|>.f c tv
def aT8:=fun a b=>aME a|>.f b tv
mutual
def jR :Pat→Int→Int
 | .mk _ _ _ ps,left=>if left<1 then -1 else gV ps (left-1)
def gV :List Pat→Int→Int
 | [],left=>left
 |p::ps,left=>if 0≤left then gV ps (jR p left)else left
end
mutual
theorem aIg :∀ (p:Pat) (left:Int),0≤left→ -1≤jR p left∧jR p left≤left-1
 | .mk _ _ _ ps,left,h=>by
  rw [jR];split
  ·omega
  ·have:=aEO ps (left-1) (by omega);omega
theorem aEO :∀ (ps:List Pat) (left:Int),-1≤left→ -1≤gV ps left∧gV ps left≤left
 | [],left,h=>by rw [gV];omega
 | p ::ps,left,h=>by
  rw [gV];split
  · rename_i h0;have a:=aIg p left h0;have:=aEO ps (jR p left) a.1;omega
  ·omega
end
theorem aBE (f n:Int)(s:aC)(ps:List Pat)(l0:Int)(ih:∀p∈ps,∀left:Int,0≤left→left≤1000→Pure PP 186 [Pat.av p,.int .i64 left] (.int .i64 (jR p left))) :
  ∀ (t:List Pat) (i:Nat) (left:Int),ps.drop i=t→ -1≤left→ (i:Int) +left≤1000→Ends PP 0 (vA f n s ps l0 left (i:Int)).as (.ret (.int .i64 (gV t left))) (aE [] 0)
 | [],i,left,h,h1,h2=>by
  have:=aT h;rw [gV];exact aKK f n s ps l0 left i sd
 | .mk f' n' s' ps'::t,i,left,h,h1,h2=>by
  obtain⟨g1,g2,g3⟩ :=aR h;rw [gV];split
  · rename_i h0;have w:=aIg (.mk f' n' s' ps') left h0;refine(aKI f n s ps l0 left i f' n' s' ps' _ sd sd sd sd (ih _ (mem_of_getElem? g1) left h0 (by omega)) sd).ends ?_;exact aBE f n s ps l0 ih t (i+1) _ g2 w.1 (by omega)
  ·exact aKJ f n s ps l0 left i sd sd
mutual
theorem tY :∀ (p:Pat) (left:Int),-1≤left→left≤1000→Pure PP 186 [Pat.av p,.int .i64 left] (.int .i64 (jR p left))
 | .mk f n s ps,left,h0,h1=>by
  refine aP (by kernel_rfl) (by simp [keylessL,mJ,keyless]) rfl ?_;rw [jR];split
  ·exact aKG f n s ps left sd
  · refine(aKH f n s ps left sd sd).ends ?_;exact aBE f n s ps left (fun p hp left h0 h1=>aDd ps p hp left h0 h1) ps 0 _ rfl (by omega) (by omega)
theorem aDd :∀ (ps:List Pat),∀p∈ps,∀left:Int,0≤left→left≤1000→Pure PP 186 [Pat.av p,.int .i64 left] (.int .i64 (jR p left))
 | [],p,hp,_,_,_=>by cases hp
 | q::ps,p,hp,left,h0,h1=>by
  rcases List.mem_cons.1 hp with e|hp
  ·rw [e];exact tY q left (by omega) h1
  ·exact aDd ps p hp left h0 h1
end
mutual
def tZ :Pat→Bool
 | .mk _ _ s ps=>aAc ps&&decide (s.length≤30)
def aAc :List Pat→Bool
 | [] =>true
 |p::ps=>tZ p&&aAc ps
end
mutual
def cL :Pat→Nat
 | .mk _ _ _ ps=>bC ps+1
def bC :List Pat→Nat
 | [] =>0
 |p::ps=>cL p+bC ps
end
theorem eP :∀ps:List Pat,ps.length≤bC ps
 | [] =>by simp [bC]
 | .mk _ _ _ qs::ps=>by have:=eP ps;simp only [bC,cL,List.length_cons];omega
mutual
theorem aDe :∀ (p:Pat) (left:Int),0≤jR p left→jR p left=left-cL p
 | .mk _ _ _ ps,left,h=>by
  rw [jR]at h ⊢;split at h
  ·omega
  · rename_i h1;rw [if_neg h1];have:=aBF ps (left-1) h;simp only [cL];omega
theorem aBF :∀ (ps:List Pat) (left:Int),0≤gV ps left→gV ps left=left-bC ps
 | [],left,h=>by simp [gV,bC]
 | p ::ps,left,h=>by
  rw [gV]at h ⊢;split at h
  · rename_i h1;rw [if_pos h1];have a:=aBF ps _ h;have b:=aDe p left (by omega);simp only [bC];omega
  ·omega
end
mutual
theorem aDf :∀ (p:Pat) (left:Int),(cL p:Int) ≤left→jR p left=left-cL p
 | .mk _ _ _ ps,left,h=>by
  simp only [cL]at h ⊢;rw [jR,if_neg (by omega),aBG ps (left-1) (by omega)];omega
theorem aBG :∀ (ps:List Pat) (left:Int),(bC ps:Int) ≤left→gV ps left=left-bC ps
 | [],left,h=>by simp [gV,bC]
 | p::ps,left,h=>by
  simp only [bC]at h ⊢;rw [gV,if_pos (by omega),aDf p left (by omega),aBG ps _ (by omega)];omega
end
theorem vC (p:Pat)(left:Int) :0≤jR p left↔ (cL p:Int) ≤left:=by
 constructor
 ·intro h;have:=aDe p left h;omega
 ·intro h;rw [aDf p left h];omega
theorem uA (f n:Int)(s:aC)(ps:List Pat)(hl:ps.length<1000000)(ih:∀p∈ps,Pure PP 199 [Pat.av p] (.bool (tZ p))) :
  ∀ (t:List Pat) (i:Nat),ps.drop i=t→Ends PP 0 (lL f n s ps (i:Int)).as (.ret (.bool (aAc t&&decide (s.length≤30)))) (aE [] 0)
 | [],i,h=>by
  have:=aT h;have e:decide (((length s:Nat) :Int) ≤ (30:Int)) =decide (s.length≤30) :=by congr 1;simp;omega
  rw [aAc,Bool.true_and,←e];exact aEk f n s ps i sd
 | .mk f' n' s' ps'::t,i,h=>by
  obtain⟨g1,g2,g3⟩ :=aR h;have ihp:=ih _ (mem_of_getElem? g1);rw [aAc];cases hb:tZ (.mk f' n' s' ps')with
  | false=>
   rw [hb]at ihp;exact aEi f n s ps i f' n' s' ps' false sd sd sd ihp rfl
  | true=>
   rw [hb]at ihp;refine(aEj f n s ps i f' n' s' ps' true sd sd sd ihp rfl sd).ends ?_;rw [Bool.true_and];exact uA f n s ps hl ih t (i+1) g2
mutual
theorem uB :∀ (p:Pat),cL p<1000000→Pure PP 199 [Pat.av p] (.bool (tZ p))
 | .mk f n s ps,h=>by
  refine aP (by kernel_rfl) (by simp [keylessL,mJ]) rfl ?_;simp only [cL]at h;have:=eP ps;refine(aEh f n s ps).ends ?_;rw [tZ];exact uA f n s ps (by omega) (wX ps (by omega)) ps 0 rfl
theorem wX :∀ (ps:List Pat),bC ps<1000000→∀p∈ps,Pure PP 199 [Pat.av p] (.bool (tZ p))
 | [],_,p,hp=>by cases hp
 | q::ps,h,p,hp=>by
  simp only [bC]at h;rcases List.mem_cons.1 hp with e|hp
  ·rw [e];exact uB q (by omega)
  ·exact wX ps (by omega) p hp
end
def yC (p:Pat) :Bool:=decide (cL p≤16) &&tZ p
theorem aGj (p:Pat) :Pure PP 136 [Pat.av p] (.bool (yC p)) :=by
 refine aP (by kernel_rfl) (by simp [keylessL,mJ]) rfl ?_;obtain⟨f,n,s,ps⟩ :=p;have hw:=tY (.mk f n s ps) 16 (by omega) (by omega);by_cases h:cL (.mk f n s ps) ≤16
 · have e:yC (.mk f n s ps) =tZ (.mk f n s ps) :=by simp [yC,h]
   rw [e];have hg:0≤jR (.mk f n s ps) 16:= (vC (.mk f n s ps) 16).2 (by omega);exact aIa f n s ps _ _ hw (decide_eq_true hg) (uB (.mk f n s ps) (by omega))
 · have e:yC (.mk f n s ps) =false:=by simp [yC,h]
   rw [e];refine aIb f n s ps _ hw (decide_eq_false fun g=>h ?_);have:= (vC (.mk f n s ps) 16).1 g;omega
def gC (l:List Con) :Bool:=l.all fun c=>decide (c.name.length≤40)
def gG (l:List Pat) :Bool:=l.all yC
def bG (x:Node) :Bool:=decide (x.kids.length≤10) &&decide (x.pats.length≤10) &&gG x.pats
def aL (p:Prog) :Bool:=decide (p.nodes.length≤320) &&decide (p.funs.length≤320) &&decide (p.cons.length≤25) &&gC p.cons&&p.nodes.all bG
mutual
theorem aZN (p:Prog)(hn:p.nodes.length≤320) :∀ (t:List Node) (i:Nat),p.nodes.drop i=t→Ends PP 0 (kN p (i:Int)).as (.ret (.bool (t.all bG))) (aE [] 0)
 | [],i,h=>by
  have:=aT h;exact aC8 p i sd
 | x :: t,i,h=>by
  obtain⟨g1,g2,g3⟩ :=aR h;by_cases k1:x.kids.length≤10
  · by_cases k2:x.pats.length≤10
    · have e: (x::t).all bG= (gG (x.pats.drop 0) &&t.all bG) :=by simp [bG,k1,k2]
      rw [e];refine(aC7 p i x sd sd sd sd sd).ends ?_;have ih:=aZN p hn t (i+1) g2;clear e g1 g2 h
      suffices ∀ (u:List Pat) (k:Nat),x.pats.drop k=u→Ends PP 0 (kO p x.op x.n x.kids x.pats (k:Int) (i:Int)).as (.ret (.bool (gG u&&t.all bG))) (aE [] 0)from this _ 0 rfl
      intro u
      induction u with
      | nil=>
       intro k hk;have:=aT hk;refine(aDb p x.op x.n x.kids x.pats k i sd sd).ends ?_;simp only [gG,all_nil,Bool.true_and];exact ih
      | cons q u ihu=>
       intro k hk;obtain⟨q1,q2,q3⟩ :=aR hk;obtain⟨f',n',s',ps'⟩ :=q;have hp:=aGj (.mk f' n' s' ps');cases hb:yC (.mk f' n' s' ps')with
       | false=>
        rw [hb]at hp;have e: (gG (.mk f' n' s' ps'::u) &&t.all bG) =false:=by simp [gG,hb]
        rw [e];exact aC9 p x.op x.n x.kids x.pats k i f' n' s' ps' false sd sd sd hp rfl
       | true=>
        rw [hb]at hp;have e: (gG (.mk f' n' s' ps'::u) &&t.all bG) = (gG u&&t.all bG) :=by simp [gG,hb]
        rw [e];refine(aDa p x.op x.n x.kids x.pats k i f' n' s' ps' true sd sd sd hp rfl sd).ends ?_;exact ihu (k+1) q2
    · have e: (x::t).all bG=false:=by simp [bG,k2]
      rw [e];exact aC6 p i x sd sd sd sd sd
  · have e: (x::t).all bG=false:=by simp [bG,k1]
    rw [e];exact aC5 p i x sd sd sd sd
end
theorem aZO (p:Prog)(hc:p.cons.length≤25)(hn:p.nodes.length≤320) :∀ (t:List Con) (i:Nat),p.cons.drop i=t→Ends PP 0 (kM p (i:Int)).as (.ret (.bool (gC t&&p.nodes.all bG))) (aE [] 0)
 | [],i,h=>by
  have:=aT h;refine(aC4 p i sd).ends ?_;simp only [gC,all_nil,Bool.true_and];exact aZN p hn p.nodes 0 rfl
 | c ::t,i,h=>by
  obtain⟨g1,g2,g3⟩ :=aR h;by_cases k:c.name.length≤40
  · have e: (gC (c::t) &&p.nodes.all bG) = (gC t&&p.nodes.all bG) :=by simp [gC,k]
    rw [e];refine(aC3 p i c sd sd sd sd sd).ends ?_;exact aZO p hc hn t (i+1) g2
  · have e: (gC (c::t) &&p.nodes.all bG) =false:=by simp [gC,k]
    rw [e];exact aC2 p i c sd sd sd sd
theorem aBR (p:Prog) :Pure PP 50 [Prog.av p] (.bool (aL p)) :=by
 refine aP (by kernel_rfl) rfl rfl ?_;by_cases h1:p.nodes.length≤320
 · by_cases h2:p.funs.length≤320
   · by_cases h3:p.cons.length≤25
     · have e:aL p= (gC p.cons&&p.nodes.all bG) :=by simp [aL,h1,h2,h3]
       rw [e];exact(aC1 p sd sd sd).ends (aZO p h3 h1 p.cons 0 rfl)
     · have e:aL p=false:=by simp [aL,h3]
       rw [e];exact aC0 p sd sd sd
   · have e:aL p=false:=by simp [aL,h2]
     rw [e];exact aCZ p sd sd
 · have e:aL p=false:=by simp [aL,h1]
   rw [e];exact aCY p sd
def cY(b c:Int)(d:aC)(a:List Pat)(e:List Con)(f:Bool)(g:Int):TS:=⟨(tf 187 82 [(1,(iC e)),kp 2 0,(4,(bV false)),(5,(bV f)),(6,(nI (a.length:Int))),(7,(nI g))] [kc f187 1012,kl f187 1012,.inBlock 1,kc f187 127]),[],[oC 0 [(nI b),(nI c),(aB d),(iP a)]],1⟩
def qS(d b:Int)(a:aC)(c:List Pat)(e:List Con):=tT 0 (start PP 187 [(.agg [(nI d),(nI b),(aB a),(iP c)]),(iC e)])<|gm 13 aI c<|.b 15 13 (d==1) (.b 7 19 ((c.length:Int) ==0) (.b 11 61 (b==0) (.W 13 1 [0] (cY d b a c e (bB a.length (aA a) 0 0) 0))<|.W 13 1 [0] (cY d b a c e false 0))<|.W 24 1 [0] (cY d b a c e false 0))<|.b 6 13 (d==2) (.b 7 19 ((c.length:Int) ==0) (.b 11 61 (b==0) (.W 13 1 [0] (cY d b a c e (bB a.length (aA a) 0 0) 0))<|.W 13 1 [0] (cY d b a c e false 0))<|.W 24 1 [0] (cY d b a c e false 0))<|.b 5 13 (d==5) (.b 5 19 ((c.length:Int) ==0) (.b 11 61 (b==0) (.W 13 1 [0] (cY d b a c e (bB a.length (aA a) 0 0) 0))<|.W 13 1 [0] (cY d b a c e false 0))<|.W 24 1 [0] (cY d b a c e false 0))<|.b 6 24 (d==3) (.b 5 28 ((c.length:Int) ==0) (eU 2 117 [(nI b),(nI (-1000000000)),(nI 1000000000)]<|fun f=>.b 8 61 f (.W 13 1 [0] (cY d b a c e (bB a.length (aA a) 0 0) 0))<|.W 13 1 [0] (cY d b a c e false 0))<|.W 24 1 [0] (cY d b a c e false 0))<|.b 6 33 (d==4) (.b 5 37 ((c.length:Int) ==0) (eU 2 117 [(nI b),(nI 0),(nI 1)]<|fun f=>.b 8 61 f (.W 13 1 [0] (cY d b a c e (bB a.length (aA a) 0 0) 0))<|.W 13 1 [0] (cY d b a c e false 0))<|.W 24 1 [0] (cY d b a c e false 0))<|.b 6 42 (d==6) (gl 5 Con.av e<|gw 1 48 ((e.length:Int) -1)<|eU 0 117 [(nI b),(nI 0),(nI ((e.length:Int) -1))]<|fun f=>.b 1 50 f (gX Con.av 4 e b<|fun g=>.b 11 61 ((c.length:Int) ==g.args) (.W 13 1 [0] (cY d b a c e (bB a.length (aA a) 0 0) 0))<|.W 13 1 [0] (cY d b a c e false 0))<|.W 29 1 [0] (cY d b a c e false 0))<|.W 20 1 [0] (cY d b a c e false 0)
def aQm:=fun a b c d e f g i=>qS a b c d e|>.t f|>.t g|>.t i tv
def aQn:=fun a b c d e f g i=>qS a b c d e|>.t f|>.t g|>.f i tv
def aQo:=fun a b c d e f g=>qS a b c d e|>.t f|>.f g tv
def aQp:=fun a b c d e f g i j=>qS a b c d e|>.f f|>.t g|>.t i|>.t j tv
def aQq:=fun a b c d e f g i j=>qS a b c d e|>.f f|>.t g|>.t i|>.f j tv
def aQr:=fun a b c d e f g i=>qS a b c d e|>.f f|>.t g|>.f i tv
def aQs:=fun a b c d e f g i j k=>qS a b c d e|>.f f|>.f g|>.t i|>.t j|>.t k tv
def aQt:=fun a b c d e f g i j k=>qS a b c d e|>.f f|>.f g|>.t i|>.t j|>.f k tv
def aQu:=fun a b c d e f g i j=>qS a b c d e|>.f f|>.f g|>.t i|>.f j tv
def aQv:=fun a b c d e f g i j k l m n=>qS a b c d e|>.f g|>.f i|>.f j|>.t k|>.t l f m|>.t n tv
def aNp:=fun a b c d e f g i j k l m n=>qS a b c d e|>.f g|>.f i|>.f j|>.t k|>.t l f m|>.f n tv
def aNq:=fun a b c d e f g i j k=>qS a b c d e|>.f f|>.f g|>.f i|>.t j|>.f k tv
def aNr:=fun a b c d e f g i j k l m n o=>qS a b c d e|>.f g|>.f i|>.f j|>.f k|>.t l|>.t m f n|>.t o tv
def aNs:=fun a b c d e f g i j k l m n o=>qS a b c d e|>.f g|>.f i|>.f j|>.f k|>.t l|>.t m f n|>.f o tv
def aNt:=fun a b c d e f g i j k l=>qS a b c d e|>.f f|>.f g|>.f i|>.f j|>.t k|>.f l tv
def aNu:=fun a b c d e f g i j k l m n o p q r s t=>qS a b c d e|>.f i|>.f j|>.f k|>.f l|>.f m|>.t n o f p|>.t q g r s|>.t t tv
def aNv:=fun a b c d e f g i j k l m n o p q r s t=>qS a b c d e|>.f i|>.f j|>.f k|>.f l|>.f m|>.t n o f p|>.t q g r s|>.f t tv
def aNw:=fun a b c d e f g i j k l m n o p=>qS a b c d e|>.f g|>.f i|>.f j|>.f k|>.f l|>.t m n f o|>.f p tv
def aNx:=fun a b c d e f g i j k l=>qS a b c d e|>.f f|>.f g|>.f i|>.f j|>.f k|>.f l tv
def aY5(e f:Int)(g:aC)(b:List Pat)(d:List Con)(c:Bool)(a:Int):=tT 0 (cY e f g b d c a)<|gd 7 69 (a< (b.length:Int)) (.b 3 71 c (aGg 8 b a<|fun i j k l=>eU 2 187 [(.agg [(nI i),(nI j),(aB k),(iP l)]),(iC d)]<|fun m=>gw 6 73 (a+1)<|.W 3 1 [0] (cY e f g b d m (a+1)))<|gE 8 1 (bV c))<|gE 11 1 (bV c)
def aQw:=fun a b c d e f g i j k l m n o p q r s=>aY5 a b c d e f g|>.t n|>.t o i j k l p q m r s tv
def aQx:=fun a b c d e f g i j=>aY5 a b c d e f g|>.t i|>.f j tv
def aQy:=fun a b c d e f g i=>aY5 a b c d e f g|>.f i tv
def jF(a b c:Int):=tT 0 (start PP 188 [(nI a),(nI b),(nI c)])<|.b 16 8 (a==1) (gE 8 0 (nI 0))<|.b 6 8 (a==2) (gE 8 0 (nI 0))<|.b 6 8 (a==3) (gE 8 0 (nI 0))<|.b 6 8 (a==4) (gE 8 0 (nI 0))<|.b 6 8 (a==21) (gE 8 0 (nI 0))<|.b 6 8 (a==25) (gE 8 0 (nI 0))<|.b 5 8 (a==28) (gE 6 0 (nI 0))<|.b 7 16 (a==5) (gE 8 0 (nI 1))<|.b 6 16 (a==27) (gE 8 0 (nI 1))<|.b 6 16 (a==16) (gE 8 0 (nI 1))<|.b 6 16 (a==17) (gE 8 0 (nI 1))<|.b 6 16 (a==19) (gE 8 0 (nI 1))<|.b 6 16 (a==20) (gE 8 0 (nI 1))<|.b 6 16 (a==23) (gE 8 0 (nI 1))<|.b 6 16 (a==26) (gE 8 0 (nI 1))<|.b 5 16 (a==24) (gE 6 0 (nI 1))<|.b 7 26 (a==6) (gE 8 0 (nI 2))<|.b 6 26 (a==7) (gE 8 0 (nI 2))<|.b 6 26 (a==9) (gE 8 0 (nI 2))<|.b 6 26 (a==10) (gE 8 0 (nI 2))<|.b 6 26 (a==11) (gE 8 0 (nI 2))<|.b 6 26 (a==12) (gE 8 0 (nI 2))<|.b 6 26 (a==13) (gE 8 0 (nI 2))<|.b 6 26 (a==18) (gE 8 0 (nI 2))<|.b 5 26 (a==22) (gE 6 0 (nI 2))<|.b 6 36 (a==8) (gE 6 0 (nI 3))<|.b 6 38 (a==15) (gw 5 41 (1+b)<|gE 3 0 (nI (1+b)))<|.b 6 42 (a==14) (gE 7 0 (nI c))<|gE 8 0 (nI (-1))
def aNy:=fun a b c d=>jF a b c|>.t d tv
def aNz:=fun a b c d e=>jF a b c|>.f d|>.t e tv
def aNA:=fun a b c d e f=>jF a b c|>.f d|>.f e|>.t f tv
def aNB:=fun a b c d e f g=>jF a b c|>.f d|>.f e|>.f f|>.t g tv
def aNC:=fun a b c d e f g i=>jF a b c|>.f d|>.f e|>.f f|>.f g|>.t i tv
def aND:=fun a b c d e f g i j=>jF a b c|>.f d|>.f e|>.f f|>.f g|>.f i|>.t j tv
def aNE:=fun a b c d e f g i j k=>jF a b c|>.f d|>.f e|>.f f|>.f g|>.f i|>.f j|>.t k tv
def aNF:=fun a b c d e f g i j k l=>jF a b c|>.f d|>.f e|>.f f|>.f g|>.f i|>.f j|>.f k|>.t l tv
def aNG:=fun a b c d e f g i j k l m=>jF a b c|>.f d|>.f e|>.f f|>.f g|>.f i|>.f j|>.f k|>.f l|>.t m tv
def aNH:=fun a b c d e f g i j k l m n=>jF a b c|>.f d|>.f e|>.f f|>.f g|>.f i|>.f j|>.f k|>.f l|>.f m|>.t n tv
def aKM:=fun a b c d e f g i j k l m n o=>jF a b c|>.f d|>.f e|>.f f|>.f g|>.f i|>.f j|>.f k|>.f l|>.f m|>.f n|>.t o tv
def aKN:=fun a b c d e f g i j k l m n o p=>jF a b c|>.f d|>.f e|>.f f|>.f g|>.f i|>.f j|>.f k|>.f l|>.f m|>.f n|>.f o|>.t p tv
def aKO:=fun a b c d e f g i j k l m n o p q=>jF a b c|>.f d|>.f e|>.f f|>.f g|>.f i|>.f j|>.f k|>.f l|>.f m|>.f n|>.f o|>.f p|>.t q tv
def aKP:=fun a b c d e f g i j k l m n o p q r=>jF a b c|>.f d|>.f e|>.f f|>.f g|>.f i|>.f j|>.f k|>.f l|>.f m|>.f n|>.f o|>.f p|>.f q|>.t r tv
def aKQ:=fun a b c d e f g i j k l m n o p q r s=>jF a b c|>.f d|>.f e|>.f f|>.f g|>.f i|>.f j|>.f k|>.f l|>.f m|>.f n|>.f o|>.f p|>.f q|>.f r|>.t s tv
def aKR:=fun a b c d e f g i j k l m n o p q r s t=>jF a b c|>.f d|>.f e|>.f f|>.f g|>.f i|>.f j|>.f k|>.f l|>.f m|>.f n|>.f o|>.f p|>.f q|>.f r|>.f s|>.t t tv
def aKS:=fun a b c d e f g i j k l m n o p q r s t u=>jF a b c|>.f d|>.f e|>.f f|>.f g|>.f i|>.f j|>.f k|>.f l|>.f m|>.f n|>.f o|>.f p|>.f q|>.f r|>.f s|>.f t|>.t u tv
def aKT:=fun a b c d e f g i j k l m n o p q r s t u v=>jF a b c|>.f d|>.f e|>.f f|>.f g|>.f i|>.f j|>.f k|>.f l|>.f m|>.f n|>.f o|>.f p|>.f q|>.f r|>.f s|>.f t|>.f u|>.t v tv
def aKU:=fun a b c d e f g i j k l m n o p q r s t u v w=>jF a b c|>.f d|>.f e|>.f f|>.f g|>.f i|>.f j|>.f k|>.f l|>.f m|>.f n|>.f o|>.f p|>.f q|>.f r|>.f s|>.f t|>.f u|>.f v|>.t w tv
def aKV:=fun a b c d e f g i j k l m n o p q r s t u v w x=>jF a b c|>.f d|>.f e|>.f f|>.f g|>.f i|>.f j|>.f k|>.f l|>.f m|>.f n|>.f o|>.f p|>.f q|>.f r|>.f s|>.f t|>.f u|>.f v|>.f w|>.t x tv
def aKW:=fun a b c d e f g i j k l m n o p q r s t u v w x y=>jF a b c|>.f d|>.f e|>.f f|>.f g|>.f i|>.f j|>.f k|>.f l|>.f m|>.f n|>.f o|>.f p|>.f q|>.f r|>.f s|>.f t|>.f u|>.f v|>.f w|>.f x|>.t y tv
def aKX:=fun a b c d e f g i j k l m n o p q r s t u v w x y z=>jF a b c|>.f d|>.f e|>.f f|>.f g|>.f i|>.f j|>.f k|>.f l|>.f m|>.f n|>.f o|>.f p|>.f q|>.f r|>.f s|>.f t|>.f u|>.f v|>.f w|>.f x|>.f y|>.t z tv
def aKY:=fun a b c d e f g i j k l m n o p q r s t u v w x y z A=>jF a b c|>.f d|>.f e|>.f f|>.f g|>.f i|>.f j|>.f k|>.f l|>.f m|>.f n|>.f o|>.f p|>.f q|>.f r|>.f s|>.f t|>.f u|>.f v|>.f w|>.f x|>.f y|>.f z|>.t A tv
def aKZ:=fun a b c d e f g i j k l m n o p q r s t u v w x y z A B=>jF a b c|>.f d|>.f e|>.f f|>.f g|>.f i|>.f j|>.f k|>.f l|>.f m|>.f n|>.f o|>.f p|>.f q|>.f r|>.f s|>.f t|>.f u|>.f v|>.f w|>.f x|>.f y|>.f z|>.f A|>.t B tv
def aK0:=fun a b c d e f g i j k l m n o p q r s t u v w x y z A B C=>jF a b c|>.f d|>.f e|>.f f|>.f g|>.f i|>.f j|>.f k|>.f l|>.f m|>.f n|>.f o|>.f p|>.f q|>.f r|>.f s|>.f t|>.f u|>.f v|>.f w|>.f x|>.f y|>.f z|>.f A|>.f B|>.t C tv
def aK1:=fun a b c d e f g i j k l m n o p q r s t u v w x y z A B C D=>jF a b c|>.f d|>.f e|>.f f|>.f g|>.f i|>.f j|>.f k|>.f l|>.f m|>.f n|>.f o|>.f p|>.f q|>.f r|>.f s|>.f t|>.f u|>.f v|>.f w|>.f x|>.f y|>.f z|>.f A|>.f B|>.f C|>.t D tv
def aK2:=fun a b c d e f g i j k l m n o p q r s t u v w x y z A B C D F G=>jF a b c|>.f d|>.f e|>.f f|>.f g|>.f i|>.f j|>.f k|>.f l|>.f m|>.f n|>.f o|>.f p|>.f q|>.f r|>.f s|>.f t|>.f u|>.f v|>.f w|>.f x|>.f y|>.f z|>.f A|>.f B|>.f C|>.f D|>.t F G tv
def aK3:=fun a b c d e f g i j k l m n o p q r s t u v w x y z A B C D F G=>jF a b c|>.f d|>.f e|>.f f|>.f g|>.f i|>.f j|>.f k|>.f l|>.f m|>.f n|>.f o|>.f p|>.f q|>.f r|>.f s|>.f t|>.f u|>.f v|>.f w|>.f x|>.f y|>.f z|>.f A|>.f B|>.f C|>.f D|>.f F|>.t G tv
def aK4:=fun a b c d e f g i j k l m n o p q r s t u v w x y z A B C D F G=>jF a b c|>.f d|>.f e|>.f f|>.f g|>.f i|>.f j|>.f k|>.f l|>.f m|>.f n|>.f o|>.f p|>.f q|>.f r|>.f s|>.f t|>.f u|>.f v|>.f w|>.f x|>.f y|>.f z|>.f A|>.f B|>.f C|>.f D|>.f F|>.f G tv
theorem Ends.eqv {P:Program}{m:Nat}{s:AS}{v v':AV}{h':Hp}(h:Ends P m s (.ret v) h')(e:v=v') :Ends P m s (.ret v') h':=e ▸ h
theorem inB_iff {n lo hi:Int}:dB n lo hi=true↔lo≤n∧n≤hi:=by simp [dB]
theorem inB_not {n lo hi:Int}:dB n lo hi=false↔¬ (lo≤n∧n≤hi) :=by simp [dB]
theorem sdI {p:Prop}(h:p:=by first|assumption|rfl| (simp only [Int.toNat_natCast];assumption) | (simp only [decide_eq_true_eq,decide_eq_false_iff_not];omega) |omega| (apply wrap64<;>omega) | (simp_all;done) | (simp only [inB_iff,inB_not,beq_iff_eq,decide_eq_true_eq,decide_eq_false_iff_not]at *;omega)) :p:=h
theorem idT {p:Prop}(h:p:=by exact⟨_,List.getElem?_eq_getElem (by simp only [inB_iff,inB_not,beq_iff_eq,decide_eq_true_eq,decide_eq_false_iff_not]at *;omega)⟩) :p:=h
def cS (op pats args:Int) :Int:=
 if op=1∨op=2∨op=3∨op=4∨op=21∨op=25∨op=28 then 0
 else if op=5∨op=27∨op=16∨op=17∨op=19∨op=20∨op=23∨op=26∨op=24 then 1
 else if op=6∨op=7∨op=9∨op=10∨op=11∨op=12∨op=13∨op=18∨op=22 then 2
 else if op=8 then 3 else if op=15 then 1+pats else if op=14 then args else -1
theorem rKids_E (op pats args :Int)(hp:0≤pats)(hp2:pats≤1000) :Ends PP 0 (start PP 188 [.int .i64 op,.int .i64 pats,.int .i64 args]).as (.ret (.int .i64 (cS op pats args))) (aE [] 0) :=by
 cases hb1: (op== (1:Int))with
 | true=>
  exact Ends.eqv (aNy op pats args   hb1) (by simp_all [cS])
 | false =>
  cases hb2: (op== (2:Int))with
  | true=>
   exact Ends.eqv (aNz op pats args   hb1 hb2) (by simp_all [cS])
  | false =>
   cases hb3: (op== (3:Int))with
   | true=>
    exact Ends.eqv (aNA op pats args   hb1 hb2 hb3) (by simp_all [cS])
   | false =>
    cases hb4: (op== (4:Int))with
    | true=>
     exact Ends.eqv (aNB op pats args   hb1 hb2 hb3 hb4) (by simp_all [cS])
    | false =>
     cases hb5: (op== (21:Int))with
     | true=>
      exact Ends.eqv (aNC op pats args   hb1 hb2 hb3 hb4 hb5) (by simp_all [cS])
     | false =>
      cases hb6: (op== (25:Int))with
      | true=>
       exact Ends.eqv (aND op pats args   hb1 hb2 hb3 hb4 hb5 hb6) (by simp_all [cS])
      | false =>
       cases hb7: (op== (28:Int))with
       | true=>
        exact Ends.eqv (aNE op pats args   hb1 hb2 hb3 hb4 hb5 hb6 hb7) (by simp_all [cS])
       | false =>
        cases hb8: (op== (5:Int))with
        | true=>
         exact Ends.eqv (aNF op pats args   hb1 hb2 hb3 hb4 hb5 hb6 hb7 hb8) (by simp_all [cS])
        | false =>
         cases hb9: (op== (27:Int))with
         | true=>
          exact Ends.eqv (aNG op pats args   hb1 hb2 hb3 hb4 hb5 hb6 hb7 hb8 hb9) (by simp_all [cS])
         | false =>
          cases hb10: (op== (16:Int))with
          | true=>
           exact Ends.eqv (aNH op pats args   hb1 hb2 hb3 hb4 hb5 hb6 hb7 hb8 hb9 hb10) (by simp_all [cS])
          | false =>
           cases hb11: (op== (17:Int))with
           | true=>
            exact Ends.eqv (aKM op pats args   hb1 hb2 hb3 hb4 hb5 hb6 hb7 hb8 hb9 hb10 hb11) (by simp_all [cS])
           | false =>
            cases hb12: (op== (19:Int))with
            | true=>
             exact Ends.eqv (aKN op pats args   hb1 hb2 hb3 hb4 hb5 hb6 hb7 hb8 hb9 hb10 hb11 hb12) (by simp_all [cS])
            | false =>
             cases hb13: (op== (20:Int))with
             | true=>
              exact Ends.eqv (aKO op pats args   hb1 hb2 hb3 hb4 hb5 hb6 hb7 hb8 hb9 hb10 hb11 hb12 hb13) (by simp_all [cS])
             | false =>
              cases hb14: (op== (23:Int))with
              | true=>
               exact Ends.eqv (aKP op pats args   hb1 hb2 hb3 hb4 hb5 hb6 hb7 hb8 hb9 hb10 hb11 hb12 hb13 hb14) (by simp_all [cS])
              | false =>
               cases hb15: (op== (26:Int))with
               | true=>
                exact Ends.eqv (aKQ op pats args   hb1 hb2 hb3 hb4 hb5 hb6 hb7 hb8 hb9 hb10 hb11 hb12 hb13 hb14 hb15) (by simp_all [cS])
               | false =>
                cases hb16: (op== (24:Int))with
                | true=>
                 exact Ends.eqv (aKR op pats args   hb1 hb2 hb3 hb4 hb5 hb6 hb7 hb8 hb9 hb10 hb11 hb12 hb13 hb14 hb15 hb16) (by simp_all [cS])
                | false =>
                 cases hb17: (op== (6:Int))with
                 | true=>
                  exact Ends.eqv (aKS op pats args   hb1 hb2 hb3 hb4 hb5 hb6 hb7 hb8 hb9 hb10 hb11 hb12 hb13 hb14 hb15 hb16 hb17) (by simp_all [cS])
                 | false =>
                  cases hb18: (op== (7:Int))with
                  | true=>
                   exact Ends.eqv (aKT op pats args   hb1 hb2 hb3 hb4 hb5 hb6 hb7 hb8 hb9 hb10 hb11 hb12 hb13 hb14 hb15 hb16 hb17 hb18) (by simp_all [cS])
                  | false =>
                   cases hb19: (op== (9:Int))with
                   | true=>
                    exact Ends.eqv (aKU op pats args   hb1 hb2 hb3 hb4 hb5 hb6 hb7 hb8 hb9 hb10 hb11 hb12 hb13 hb14 hb15 hb16 hb17 hb18 hb19) (by simp_all [cS])
                   | false =>
                    cases hb20: (op== (10:Int))with
                    | true=>
                     exact Ends.eqv (aKV op pats args   hb1 hb2 hb3 hb4 hb5 hb6 hb7 hb8 hb9 hb10 hb11 hb12 hb13 hb14 hb15 hb16 hb17 hb18 hb19 hb20) (by simp_all [cS])
                    | false =>
                     cases hb21: (op== (11:Int))with
                     | true=>
                      exact Ends.eqv (aKW op pats args   hb1 hb2 hb3 hb4 hb5 hb6 hb7 hb8 hb9 hb10 hb11 hb12 hb13 hb14 hb15 hb16 hb17 hb18 hb19 hb20 hb21) (by simp_all [cS])
                     | false =>
                      cases hb22: (op== (12:Int))with
                      | true=>
                       exact Ends.eqv (aKX op pats args   hb1 hb2 hb3 hb4 hb5 hb6 hb7 hb8 hb9 hb10 hb11 hb12 hb13 hb14 hb15 hb16 hb17 hb18 hb19 hb20 hb21 hb22) (by simp_all [cS])
                      | false =>
                       cases hb23: (op== (13:Int))with
                       | true=>
                        exact Ends.eqv (aKY op pats args   hb1 hb2 hb3 hb4 hb5 hb6 hb7 hb8 hb9 hb10 hb11 hb12 hb13 hb14 hb15 hb16 hb17 hb18 hb19 hb20 hb21 hb22 hb23) (by simp_all [cS])
                       | false=>
                        cases hb24: (op== (18:Int))with
                        | true=>
                         exact Ends.eqv (aKZ op pats args   hb1 hb2 hb3 hb4 hb5 hb6 hb7 hb8 hb9 hb10 hb11 hb12 hb13 hb14 hb15 hb16 hb17 hb18 hb19 hb20 hb21 hb22 hb23 hb24) (by simp_all [cS])
                        | false=>
                         cases hb25: (op== (22:Int))with
                         | true=>
                          exact Ends.eqv (aK0 op pats args   hb1 hb2 hb3 hb4 hb5 hb6 hb7 hb8 hb9 hb10 hb11 hb12 hb13 hb14 hb15 hb16 hb17 hb18 hb19 hb20 hb21 hb22 hb23 hb24 hb25) (by simp_all [cS])
                         | false=>
                          cases hb26: (op== (8:Int))with
                          | true=>
                           exact Ends.eqv (aK1 op pats args   hb1 hb2 hb3 hb4 hb5 hb6 hb7 hb8 hb9 hb10 hb11 hb12 hb13 hb14 hb15 hb16 hb17 hb18 hb19 hb20 hb21 hb22 hb23 hb24 hb25 hb26) (by simp_all [cS])
                          | false=>
                           cases hb27: (op== (15:Int))with
                           | true=>
                            exact Ends.eqv (aK2 op pats args   hb1 hb2 hb3 hb4 hb5 hb6 hb7 hb8 hb9 hb10 hb11 hb12 hb13 hb14 hb15 hb16 hb17 hb18 hb19 hb20 hb21 hb22 hb23 hb24 hb25 hb26 hb27 sdI) (by simp_all [cS])
                           | false=>
                            cases hb28: (op== (14:Int))with
                            | true=>
                             exact Ends.eqv (aK3 op pats args   hb1 hb2 hb3 hb4 hb5 hb6 hb7 hb8 hb9 hb10 hb11 hb12 hb13 hb14 hb15 hb16 hb17 hb18 hb19 hb20 hb21 hb22 hb23 hb24 hb25 hb26 hb27 hb28) (by simp_all [cS])
                            | false=>
                             exact Ends.eqv (aK4 op pats args   hb1 hb2 hb3 hb4 hb5 hb6 hb7 hb8 hb9 hb10 hb11 hb12 hb13 hb14 hb15 hb16 hb17 hb18 hb19 hb20 hb21 hb22 hb23 hb24 hb25 hb26 hb27 hb28) (by simp_all [cS])
theorem aK5 (op pats args:Int)(hp:0≤pats)(hp2:pats≤1000) :Pure PP 188 [.int .i64 op,.int .i64 pats,.int .i64 args] (.int .i64 (cS op pats args)) :=
 aP (by kernel_rfl) rfl rfl (rKids_E op pats args hp hp2)
def eA (cons:List Con)(n:Int) :Int:=match cons[n.toNat]? with
 |some c=>c.args
 |none=> -1
def cZ (cons:List Con)(f n:Int)(s:aC)(k:Nat) :Bool:=
 (if f=1∨f=2∨f=5 then decide (k=0) &&decide (n=0)
 else if f=3 then decide (k=0) &&dB n (-1000000000) 1000000000
 else if f=4 then decide (k=0) &&dB n 0 1
 else if f=6 then dB n 0 ((cons.length:Int) -1) &&decide ((k:Int) =eA cons n)
 else false) &&decide (s= [])
mutual
def cT (cons:List Con) :Pat→Bool
 | .mk f n s ps=>cZ cons f n s ps.length&&bS cons ps
def bS (cons:List Con) :List Pat→Bool
 | [] =>true
 |p::ps=>cT cons p&&bS cons ps
end
theorem ptT {p:Prop}(h:p:=by simp_all [cZ,eA,cQ]) :p:=h
theorem aY6 (q_form q_n:Int)(q_text:aC)(q_parts:List Pat)(cons:List Con)(hc:cons.length≤1000)(b:Bool)(hk:∀i:Bool,i=cZ cons q_form q_n q_text q_parts.length→Ends PP 0 (cY q_form q_n q_text q_parts cons i 0).as (.ret (.bool b)) (aE [] 0)) :
  Ends PP 0 (start PP 187 [Pat.av (.mk q_form q_n q_text q_parts),.ilst 2 (map Con.av cons) false]).as (.ret (.bool b)) (aE [] 0) :=by
 cases hb1: (q_form== (1:Int))with
 | true=>
  cases hb2: (((length q_parts:Nat) :Int) == (0:Int))with
  | true=>
   cases hb3: (q_n== (0:Int))with
   | true=>
    exact LeadsM.ends (aQm q_form q_n q_text q_parts cons   hb1 hb2 hb3) (hk _ (by clear hk;exact ptT))
   | false=>
    exact LeadsM.ends (aQn q_form q_n q_text q_parts cons   hb1 hb2 hb3) (hk _ (by clear hk;exact ptT))
  | false=>
   exact LeadsM.ends (aQo q_form q_n q_text q_parts cons   hb1 hb2) (hk _ (by clear hk;exact ptT))
 | false =>
  cases hb4: (q_form== (2:Int))with
  | true=>
   cases hb5: (((length q_parts:Nat) :Int) == (0:Int))with
   | true=>
    cases hb6: (q_n== (0:Int))with
    | true=>
     exact LeadsM.ends (aQp q_form q_n q_text q_parts cons   hb1 hb4 hb5 hb6) (hk _ (by clear hk;exact ptT))
    | false=>
     exact LeadsM.ends (aQq q_form q_n q_text q_parts cons   hb1 hb4 hb5 hb6) (hk _ (by clear hk;exact ptT))
   | false=>
    exact LeadsM.ends (aQr q_form q_n q_text q_parts cons   hb1 hb4 hb5) (hk _ (by clear hk;exact ptT))
  | false =>
   cases hb7: (q_form== (5:Int))with
   | true=>
    cases hb8: (((length q_parts:Nat) :Int) == (0:Int))with
    | true=>
     cases hb9: (q_n== (0:Int))with
     | true=>
      exact LeadsM.ends (aQs q_form q_n q_text q_parts cons   hb1 hb4 hb7 hb8 hb9) (hk _ (by clear hk;exact ptT))
     | false=>
      exact LeadsM.ends (aQt q_form q_n q_text q_parts cons   hb1 hb4 hb7 hb8 hb9) (hk _ (by clear hk;exact ptT))
    | false=>
     exact LeadsM.ends (aQu q_form q_n q_text q_parts cons   hb1 hb4 hb7 hb8) (hk _ (by clear hk;exact ptT))
   | false=>
    cases hb10: (q_form== (3:Int))with
    | true=>
     cases hb11: (((length q_parts:Nat) :Int) == (0:Int))with
     | true=>
      cases hb12: (dB q_n (-1000000000) 1000000000)with
      | true=>
       exact LeadsM.ends (aQv q_form q_n q_text q_parts cons  (dB q_n (-1000000000) 1000000000) hb1 hb4 hb7 hb10 hb11 (aV q_n (-1000000000) 1000000000) hb12) (hk _ (by clear hk;exact ptT))
      | false=>
       exact LeadsM.ends (aNp q_form q_n q_text q_parts cons  (dB q_n (-1000000000) 1000000000) hb1 hb4 hb7 hb10 hb11 (aV q_n (-1000000000) 1000000000) hb12) (hk _ (by clear hk;exact ptT))
     | false=>
      exact LeadsM.ends (aNq q_form q_n q_text q_parts cons   hb1 hb4 hb7 hb10 hb11) (hk _ (by clear hk;exact ptT))
    | false=>
     cases hb13: (q_form== (4:Int))with
     | true=>
      cases hb14: (((length q_parts:Nat) :Int) == (0:Int))with
      | true=>
       cases hb15: (dB q_n 0 1)with
       | true=>
        exact LeadsM.ends (aNr q_form q_n q_text q_parts cons  (dB q_n 0 1) hb1 hb4 hb7 hb10 hb13 hb14 (aV q_n 0 1) hb15) (hk _ (by clear hk;exact ptT))
       | false=>
        exact LeadsM.ends (aNs q_form q_n q_text q_parts cons  (dB q_n 0 1) hb1 hb4 hb7 hb10 hb13 hb14 (aV q_n 0 1) hb15) (hk _ (by clear hk;exact ptT))
      | false=>
       exact LeadsM.ends (aNt q_form q_n q_text q_parts cons   hb1 hb4 hb7 hb10 hb13 hb14) (hk _ (by clear hk;exact ptT))
     | false=>
      cases hb16: (q_form== (6:Int))with
      | true=>
       cases hb17: (dB q_n 0 (((length cons:Nat) :Int) - (1:Int)))with
       | true=>
        obtain⟨y1,hx18⟩ :∃y,((cons)[q_n.toNat]?) =some y:=idT;cases hb19: (((length q_parts:Nat) :Int) ==y1.args)with
        | true=>
         exact LeadsM.ends (aNu q_form q_n q_text q_parts cons  (dB q_n 0 (((length cons:Nat) :Int) - (1:Int))) y1 hb1 hb4 hb7 hb10 hb13 hb16 sdI (aV q_n 0 (((length cons:Nat) :Int) - (1:Int))) hb17 sdI hx18 hb19) (hk _ (by clear hk;exact ptT))
        | false=>
         exact LeadsM.ends (aNv q_form q_n q_text q_parts cons  (dB q_n 0 (((length cons:Nat) :Int) - (1:Int))) y1 hb1 hb4 hb7 hb10 hb13 hb16 sdI (aV q_n 0 (((length cons:Nat) :Int) - (1:Int))) hb17 sdI hx18 hb19) (hk _ (by clear hk;exact ptT))
       | false=>
        exact LeadsM.ends (aNw q_form q_n q_text q_parts cons  (dB q_n 0 (((length cons:Nat) :Int) - (1:Int))) hb1 hb4 hb7 hb10 hb13 hb16 sdI (aV q_n 0 (((length cons:Nat) :Int) - (1:Int))) hb17) (hk _ (by clear hk;exact ptT))
      | false=>
       exact LeadsM.ends (aNx q_form q_n q_text q_parts cons   hb1 hb4 hb7 hb10 hb13 hb16) (hk _ (by clear hk;exact ptT))
theorem aEP (f n:Int)(s:aC)(ps:List Pat)(cons:List Con)(hl:ps.length<1000000)(ih:∀p∈ps,Pure PP 187 [Pat.av p,.ilst 2 (map Con.av cons) false] (.bool (cT cons p))) :
  ∀ (t:List Pat) (i:Nat) (b:Bool),ps.drop i=t→Ends PP 0 (cY f n s ps cons b (i:Int)).as (.ret (.bool (b&&bS cons t))) (aE [] 0)
 | [],i,b,h=>by
  have:=aT h;exact Ends.eqv (aQy f n s ps cons b i sd) (by simp [bS])
 | .mk f' n' s' ps'::t,i,b,h=>by
  obtain⟨g1,g2,g3⟩ :=aR h;cases b with
  |false=>exact Ends.eqv (aQx f n s ps cons false i sd rfl) (by simp)
  | true=>
   refine(aQw f n s ps cons true i f' n' s' ps' _ sd rfl sd sd (ih (.mk f' n' s' ps') (mem_of_getElem? g1)) sd).ends ?_;exact Ends.eqv (aEP f n s ps cons hl ih t (i+1) _ g2) (by simp [bS])
mutual
theorem aEQ (cons:List Con)(hc:cons.length≤1000) :∀ (p:Pat),cL p<1000000→Pure PP 187 [Pat.av p,.ilst 2 (map Con.av cons) false] (.bool (cT cons p))
 | .mk f n s ps,h=>by
  refine aP (by kernel_rfl) (by simp [keylessL,mJ,keyless]) rfl ?_;simp only [cL]at h;have:=eP ps;refine aY6 f n s ps cons hc _ (fun i hi=>?_);subst hi;rw [cT];exact aEP f n s ps cons (by omega) (aIi cons hc ps (by omega)) ps 0 _ rfl
theorem aIi (cons:List Con)(hc:cons.length≤1000) :∀ (ps:List Pat),bC ps<1000000→∀p∈ps,Pure PP 187 [Pat.av p,.ilst 2 (map Con.av cons) false] (.bool (cT cons p))
 | [],_,p,hp=>by cases hp
 | q::ps,h,p,hp=>by
  simp only [bC]at h;rcases List.mem_cons.1 hp with e|hp
  ·rw [e];exact aEQ cons hc q (by omega)
  ·exact aIi cons hc ps (by omega) p hp
end
def bJ(a:Prog)(b:Node)(c:Bool)(d e:Int):TS:=⟨(tf 119 112 [kp 2 0,kp 3 1,(4,(bV false)),(5,(nI d)),(6,(bV c)),(7,(nI e))] [kc f119 1012,kl f119 1012,.inBlock 1,kc f119 127]),[],[oC 0 [(iN a.nodes),(iI a.funs),(nI a.main),(iC a.cons)],oC 1 [(nI b.op),(nI b.n),(iI b.kids),(iP b.pats)]],2⟩
def aAd(b:List Con)(c:Int)(a:List aC):TS:=⟨(tf 118 42 [(0,(iC b)),(2,(bV false)),(3,(.gl 0 1 0 a.length false)),(4,(nI c))] [kc f118 116,kl f118 116,.inBlock 0,kc f118 15]),[],[oL 0 1 (map aB a)],1⟩
def qT(a:Prog)(c:Int)(b:List Bool):TS:=⟨(tf 38 133 [kp 1 0,(2,(bV false)),(3,(nI (a.nodes.length:Int))),(4,(.gl 1 1 0 b.length true)),(5,(nI c))] [kc f38 500,kl f38 500,.inBlock 0,kc f38 63]),[],[oC 0 [(iN a.nodes),(iI a.funs),(nI a.main),(iC a.cons)],oL 1 1 (map kY b)],2⟩
def mK(a:Prog)(b:List Bool)(c:Int):TS:=⟨(tf 38 133 [kp 1 0,(2,(bV false)),(3,(nI (a.nodes.length:Int))),(4,(.gl 1 1 0 b.length true)),(6,(nI c))] [kc f38 1012,kl f38 1012,.inBlock 2,kc f38 127]),[],[oC 0 [(iN a.nodes),(iI a.funs),(nI a.main),(iC a.cons)],oL 1 1 (map kY b)],2⟩
def qU(a:Prog)(b:List Bool)(c d:Int):TS:=⟨(tf 38 133 [kp 1 0,(2,(bV false)),(3,(nI (a.nodes.length:Int))),(4,(.gl 1 1 0 b.length true)),(6,(nI d)),(7,(nI c))] [kc f38 129612,kl f38 129612,.inBlock 4,.inBlock 3,kc f38 4051,kl f38 1012,.inBlock 2,kc f38 127]),[],[oC 0 [(iN a.nodes),(iI a.funs),(nI a.main),(iC a.cons)],oL 1 1 (map kY b)],2⟩
def qV(b:Prog)(a:List Bool)(c:Int):TS:=⟨(tf 38 133 [(2,(bV false)),(3,(nI (b.nodes.length:Int))),(4,(.gl 0 1 0 a.length true)),(9,(nI c))] [kc f38 2036,kl f38 2036,.inBlock 6,kc f38 255]),[],[oL 0 1 (map kY a)],1⟩
def lN(b:Prog)(a:Node):=tT 0 (start PP 119 [(Prog.av b),(Node.av a)])<|.b 29 13 (a.op==1) (eU 4 117 [(nI a.n),(nI (-1000000000)),(nI 1000000000)]<|fun c=>.b 10 56 (a.op==15) (.b 4 58 c (gm 2 aI a.pats<|eU 0 117 [(nI (a.pats.length:Int)),(nI 1),(nI 5)]<|fun d=>.W 10 2 [0,1] (bJ b a d 0 0))<|.W 14 2 [0,1] (bJ b a false 0 0))<|.b 4 65 c (gm 2 aI a.pats<|.W 11 2 [0,1] (bJ b a ((a.pats.length:Int) ==0) 0 0))<|.W 14 2 [0,1] (bJ b a false 0 0))<|.b 6 18 (a.op==2) (eU 4 117 [(nI a.n),(nI 0),(nI 1)]<|fun c=>.b 10 56 (a.op==15) (.b 4 58 c (gm 2 aI a.pats<|eU 0 117 [(nI (a.pats.length:Int)),(nI 1),(nI 5)]<|fun d=>.W 10 2 [0,1] (bJ b a d 0 0))<|.W 14 2 [0,1] (bJ b a false 0 0))<|.b 4 65 c (gm 2 aI a.pats<|.W 11 2 [0,1] (bJ b a ((a.pats.length:Int) ==0) 0 0))<|.W 14 2 [0,1] (bJ b a false 0 0))<|.b 6 23 (a.op==4) (gl 6 aQ b.funs<|gw 1 30 (0- (b.funs.length:Int))<|eU 0 117 [(nI a.n),(nI (0- (b.funs.length:Int))),(nI 29)]<|fun c=>.b 10 56 (a.op==15) (.b 4 58 c (gm 2 aI a.pats<|eU 0 117 [(nI (a.pats.length:Int)),(nI 1),(nI 5)]<|fun d=>.W 10 2 [0,1] (bJ b a d 0 0))<|.W 14 2 [0,1] (bJ b a false 0 0))<|.b 4 65 c (gm 2 aI a.pats<|.W 11 2 [0,1] (bJ b a ((a.pats.length:Int) ==0) 0 0))<|.W 14 2 [0,1] (bJ b a false 0 0))<|.b 6 32 (a.op==24) (eU 4 117 [(nI a.n),(nI 0),(nI 3)]<|fun c=>.b 10 56 (a.op==15) (.b 4 58 c (gm 2 aI a.pats<|eU 0 117 [(nI (a.pats.length:Int)),(nI 1),(nI 5)]<|fun d=>.W 10 2 [0,1] (bJ b a d 0 0))<|.W 14 2 [0,1] (bJ b a false 0 0))<|.b 4 65 c (gm 2 aI a.pats<|.W 11 2 [0,1] (bJ b a ((a.pats.length:Int) ==0) 0 0))<|.W 14 2 [0,1] (bJ b a false 0 0))<|.b 6 37 (a.op==14) (gl 7 Con.av b.cons<|gw 1 44 ((b.cons.length:Int) -1)<|eU 0 117 [(nI a.n),(nI 0),(nI ((b.cons.length:Int) -1))]<|fun c=>.b 6 46 c (gX Con.av 6 b.cons a.n<|fun d=>.b 12 56 (a.op==15) (.b 4 58 c (gm 2 aI a.pats<|eU 0 117 [(nI (a.pats.length:Int)),(nI 1),(nI 5)]<|fun e=>.W 10 2 [0,1] (bJ b a e d.args 0)) .x)<|.b 4 65 c (gm 2 aI a.pats<|.W 11 2 [0,1] (bJ b a ((a.pats.length:Int) ==0) d.args 0)) .x)<|.b 10 56 (a.op==15) (.b 4 58 c .x<|.W 14 2 [0,1] (bJ b a false 0 0))<|.b 4 65 c .x<|.W 14 2 [0,1] (bJ b a false 0 0))<|.b 10 56 (a.op==15) (.b 4 58 (a.n==0) (gm 2 aI a.pats<|eU 0 117 [(nI (a.pats.length:Int)),(nI 1),(nI 5)]<|fun c=>.W 10 2 [0,1] (bJ b a c 0 0))<|.W 14 2 [0,1] (bJ b a false 0 0))<|.b 4 65 (a.n==0) (gm 2 aI a.pats<|.W 11 2 [0,1] (bJ b a ((a.pats.length:Int) ==0) 0 0))<|.W 14 2 [0,1] (bJ b a false 0 0)
def aNI:=fun a b c d e f g i j=>lN a b|>.t e c f|>.t g|>.t i d j tv
def aNJ:=fun a b c d e f g=>lN a b|>.t d c e|>.t f|>.f g tv
def aNK:=fun a b c d e f g=>lN a b|>.t d c e|>.f f|>.t g tv
def aNL:=fun a b c d e f g=>lN a b|>.t d c e|>.f f|>.f g tv
def aNM:=fun a b c d e f g i j k=>lN a b|>.f e|>.t f c g|>.t i|>.t j d k tv
def aNN:=fun a b c d e f g i=>lN a b|>.f d|>.t e c f|>.t g|>.f i tv
def aNO:=fun a b c d e f g i=>lN a b|>.f d|>.t e c f|>.f g|>.t i tv
def aNP:=fun a b c d e f g i=>lN a b|>.f d|>.t e c f|>.f g|>.f i tv
def aNQ:=fun a b c d e f g i j k l m=>lN a b|>.f e|>.f f|>.t g i c j|>.t k|>.t l d m tv
def aNR:=fun a b c d e f g i j k=>lN a b|>.f d|>.f e|>.t f g c i|>.t j|>.f k tv
def aK6:=fun a b c d e f g i j k=>lN a b|>.f d|>.f e|>.t f g c i|>.f j|>.t k tv
def aK7:=fun a b c d e f g i j k=>lN a b|>.f d|>.f e|>.t f g c i|>.f j|>.f k tv
def aK8:=fun a b c d e f g i j k l m=>lN a b|>.f e|>.f f|>.f g|>.t i c j|>.t k|>.t l d m tv
def aK9:=fun a b c d e f g i j k=>lN a b|>.f d|>.f e|>.f f|>.t g c i|>.t j|>.f k tv
def aLa:=fun a b c d e f g i j k=>lN a b|>.f d|>.f e|>.f f|>.t g c i|>.f j|>.t k tv
def aLb:=fun a b c d e f g i j k=>lN a b|>.f d|>.f e|>.f f|>.t g c i|>.f j|>.f k tv
def aLc:=fun b c d e f g i j k l m n a o p q r=>lN b c|>.f g|>.f i|>.f j|>.f k|>.t l m d n|>.t a e o p|>.t q|>.t a f r tv
def aLd:=fun b c d e f g i j k l m a n o p=>lN b c|>.f f|>.f g|>.f i|>.f j|>.t k l d m|>.t a e n o|>.f p|>.t a tv
def aLe:=fun b c d e f g i j k l a m=>lN b c|>.f e|>.f f|>.f g|>.f i|>.t j k d l|>.f a|>.t m|>.f a tv
def aLf:=fun b c d e f g i j k l a m=>lN b c|>.f e|>.f f|>.f g|>.f i|>.t j k d l|>.f a|>.f m|>.f a tv
def aLg:=fun a b c d e f g i j k l=>lN a b|>.f d|>.f e|>.f f|>.f g|>.f i|>.t j|>.t k c l tv
def aLh:=fun a b c d e f g i j=>lN a b|>.f c|>.f d|>.f e|>.f f|>.f g|>.t i|>.f j tv
def aLi:=fun a b c d e f g i j=>lN a b|>.f c|>.f d|>.f e|>.f f|>.f g|>.f i|>.t j tv
def aLj:=fun a b c d e f g i j=>lN a b|>.f c|>.f d|>.f e|>.f f|>.f g|>.f i|>.f j tv
def aQz(j:Prog)(a:Node)(i:Bool)(k b:Int):=tT 0 (bJ j a i k b)<|gm 6 aI a.pats<|gd 2 76 (b< (a.pats.length:Int)) (.b 3 78 i (.o (.y fun c:Int=>.y fun d:Int=>.y fun e:aC=>.y fun f:List Pat=>.y fun g:Int=>.y fun l:Bool=>.i [rn 4,.reg (rd 3 (.ans (.idx (Pat.av (Pat.mk c d e f)))::.d::.pure (nI g)::.d::.d::.b 88 true::rd 3 (.ans (.idx (Pat.av (Pat.mk c d e f)))::rd 3 [.pure (bV l),.d,.d])))] [hA (0≤b),.a (((a.pats)[b.toNat]?) =some (Pat.mk c d e f)) (hJ aI),hA (Pure PP 186 [(.agg [(nI c),(nI d),(aB e),(iP f)]),(nI 12)] (nI g)),hA (decide (g≥0) =true),hA (0≤b),.a (((a.pats)[b.toNat]?) =some (Pat.mk c d e f)) (hJ aI),hA (Pure PP 187 [(.agg [(nI c),(nI d),(aB e),(iP f)]),(iC j.cons)] (bV l))]<|gw 4 80 (b+1)<|.W 3 2 [0,1] (bJ j a l k (b+1)))<|.y fun c:Int=>.y fun d:Int=>.y fun e:aC=>.y fun f:List Pat=>.y fun g:Int=>.i [rn 4,.reg (rd 3 (.ans (.idx (Pat.av (Pat.mk c d e f)))::.d::.pure (nI g)::.d::.d::.b 88 false::rd 10 []))] [hA (0≤b),.a (((a.pats)[b.toNat]?) =some (Pat.mk c d e f)) (hJ aI),hA (Pure PP 186 [(.agg [(nI c),(nI d),(aB e),(iP f)]),(nI 12)] (nI g)),hA (decide (g≥0) =false)]<|gw 4 80 (b+1)<|.W 3 2 [0,1] (bJ j a false k (b+1)))<|.i [rn 3,.reg (.d::.d::.b 99 false::rd 13 [])] [hA (i=false)]<|gE 1 2 (bV false))<|.o (.y fun m:Int=>.i [rn 6,.reg (.d::.d::.b 99 true::.d::.d::.ans (.len (a.kids.length:Int))::rd 4 (.ans (.len (a.pats.length:Int))::.d::.pure (nI m)::rd 3 []))] [hA (i=true),hl aQ a.kids,hm aI a.pats,hA (Pure PP 188 [(nI a.op),(nI (a.pats.length:Int)),(nI k)] (nI m)),.q (p:=(nI ((jI a.kids).length:Int)) = (nI (a.kids.length:Int))) (congrArg (int .i64) (aH2 _ _)),.q (p:=(nI ((jI a.kids).length:Int)) = (nI (a.kids.length:Int))) (congrArg (int .i64) (aH2 _ _)),hr (ilst 1 (jI a.kids) false),hr (ilst 1 (jI a.kids) false)]<|gE 1 2 (bV ((a.kids.length:Int) ==m)))<|.i [rn 6,.reg (.d::.d::.b 99 false::rd 13 [])] [hA (i=false)]<|gE 1 2 (bV false)
def aNS:=fun c d e f g i j k l m n o p a b q r s t=>aQz c d e f g|>.t o|>.t p|>.1 i j k l m n a b q r a b s t tv
def aNT:=fun a b c d e f g i j k l m n o p q r=>aQz a b c d e|>.t l|>.t m|>.2 f g i j k n o p q r tv
def aNU:=fun b c d e f g a=>aQz b c d e f|>.t g|>.f a a tv
def aNV:=fun a b c d e f g i j=>aQz a b c d e|>.f g|>.1 f i j tv
def aNW:=fun a b c d e f g=>aQz a b c d e|>.f f|>.2 g tv
def aNX (a:List Con):=(tT 0 (start PP 118 [(iC a)])<|.i [rn 15,.nilL 3 1] []<|gu 0 0 (map aB ([] :List aC))<|gs 0 3 (.gl 0 1 0 ([] :List aC).length false)<|.W 0 1 [0] (aAd a 0 ([] :List aC))) ⟨kk,trivial⟩
def aQA(a:List Con)(c:Int)(d:List aC):=tT 0 (aAd a c d)<|gl 5 Con.av a<|gd 2 8 (c< (a.length:Int)) (gX Con.av 9 a c<|fun b=>eU 2 172 [(aB b.name)]<|fun e=>.b 2 18 (!e) (gE 15 1 (bV false))<|gi Con.av 2 a c b<|eU 2 117 [(nI b.args),(nI 0),(nI 3)]<|fun f=>.b 3 26 (!f) (gE 6 1 (bV false))<|gi Con.av 6 a c b<|ga 3 aB d [b.name]<|gw 6 10 (c+1)<|.W 3 3 [2] (aAd a (c+1) (d++ [b.name])))<|gl 5 Con.av a<|gd 2 38 ((a.length:Int) ≤20) (gz 1 39 0 1 aB d false<|eU 0 71 [(iS d)]<|fun b=>gE 4 1 (bV b))<|gE 6 1 (bV false)
def aNY:=fun a b c d e f g i j k=>aQA a b c|>.t f d g i e j|>.t k tv
def aNZ:=fun c d e f g i j a b k l m n=>aQA c d e|>.t j f a b g k|>.f l a b i m|>.t n tv
def aN0:=fun c d e f g i j a b k l m n o p=>aQA c d e|>.t j f a b g k|>.f l a b i m|>.f n a b o p ⟨kk,trivial⟩
def aN1:=fun a b c d e f g=>aQA a b c|>.f e|>.t f d g tv
def aN2:=fun a b c d e=>aQA a b c|>.f d|>.f e tv
def aQB(a:Prog):=tT 0 (start PP 38 [(Prog.av a)])<|gl 9 Node.av a.nodes<|gd 8 15 ((a.nodes.length:Int) >300) (gE 30 1 (bV false))<|gl 2 aQ a.funs<|eU 1 117 [(nI (a.funs.length:Int)),(nI 1),(nI (a.nodes.length:Int))]<|fun b=>.b 3 23 (!b) (gE 22 1 (bV false))<|gl 4 aQ a.funs<|gw 1 29 ((a.funs.length:Int) -1)<|eU 0 117 [(nI a.main),(nI 0),(nI ((a.funs.length:Int) -1))]<|fun c=>.b 3 33 (!c) (gE 12 1 (bV false))<|eU 2 118 [(iC a.cons)]<|fun d=>.b 3 38 (!d) (gE 6 1 (bV false))<|.i [rn 5,.mk a.nodes.length] [hr (a.nodes.length:Int),hr (a.nodes.length:Int),hA (a.nodes.length<100000)]<|.i [.lset 1 (map kY (replicate a.nodes.length false))] [.q (p:=replicate a.nodes.length (kY false) = (map kY (replicate a.nodes.length false))) (aMx _ _ _)]<|.i [.set 40 (.gl 1 1 0 (replicate a.nodes.length false).length true)] [.q (p:=(AV.gl 1 1 0 a.nodes.length true) = (.gl 1 1 0 (replicate a.nodes.length false).length true)) (bQ (List.length_replicate ..).symm)]<|.W 9 2 [0,1] (qT a 0 (replicate a.nodes.length false))
def aIj:=fun a b=>aQB a|>.t b tv
def aIk:=fun a b c d e=>aQB a|>.f c b d|>.t e tv
def aIl:=fun a b c d e f g i j=>aQB a|>.f d b e|>.f f g c i|>.t j tv
def aIm:=fun a b c d e f g i j k l m=>aQB a|>.f e b f|>.f g i c j|>.f k d l|>.t m tv
def aIn:=fun a b c d e f g i j k l m n=>aQB a|>.f e b f|>.f g i c j|>.f k d l|>.f m n ⟨kk,trivial⟩
def aT9(c:Prog)(d:Int)(a:List Bool):=tT 0 (qT c d a)<|gl 6 aQ c.funs<|gd 2 45 (d< (c.funs.length:Int)) (gX aQ 10 c.funs d<|fun b=>gw 3 54 ((c.nodes.length:Int) -1)<|eU 0 117 [(nI b),(nI 0),(nI ((c.nodes.length:Int) -1))]<|fun f=>.b 2 57 (!f) (gE 16 2 (bV false))<|gi aQ 4 c.funs d b<|.i [rn 1,.ans (.ix)] [hA (0≤b),hA (b< (a.length:Int))]<|.y fun e:Bool=>gj kY 0 a b.toNat e<|.b 2 66 e (gE 6 2 (bV false))<|gi aQ 7 c.funs d b<|.i [rn 1,.ans (.ix)] [hA (0≤b),hA (b< (a.length:Int))]<|.i [.st (kY e) (kY true)] [.a (((a)[b.toNat]?) =some e) (eZ (f:=kY)),hr (some (kY true))]<|.i [.lset 1 (map kY (set a b.toNat true))] [.q (p:=(map kY a).set (0+b.toNat) (kY true) = (map kY (set a b.toNat true))) (mI _ _ _ _)]<|.i [.set 4 (.gl 1 1 0 (set a b.toNat true).length true)] [.q (p:=(AV.gl 1 1 0 a.length true) = (.gl 1 1 0 (set a b.toNat true).length true)) (bQ (length_set ..).symm)]<|.i [.set 58 (.gl 1 1 0 (set a b.toNat true).length true)] [.q (p:=(AV.gl 1 1 0 a.length true) = (.gl 1 1 0 (set a b.toNat true).length true)) (bQ (length_set ..).symm)]<|.i [.set 67 (.gl 1 1 0 (set a b.toNat true).length true)] [.q (p:=(AV.gl 1 1 0 a.length true) = (.gl 1 1 0 (set a b.toNat true).length true)) (bQ (length_set ..).symm)]<|gw 5 47 (d+1)<|.W 3 2 [0,1] (qT c (d+1) (set a b.toNat true)))<|.W 9 2 [0,1] (mK c a 0)
def aIo:=fun a b c d e f g i j k l=>aT9 a b c|>.t f d g i j e k|>.t l tv
def aIp:=fun c d e f g i j a b k l m n o p q=>aT9 c d e|>.t j f a b k g l|>.f m a b n o i p|>.t q tv
def aIq:=fun f g i j k l m a b n o p c d e q r=>aT9 f g i|>.t m j a b n k o|>.f p a b c d l e|>.f q a b c d e r ⟨kk,trivial⟩
def aIr:=fun a b c d=>aT9 a b c|>.f d ⟨kk,trivial⟩
def aY7(a:Prog)(c:List Bool)(b:Int):=tT 0 (mK a c b)<|gd 7 76 (b< (a.nodes.length:Int)) (.y fun d:Node=>.y fun e:Bool=>.i [rn 6,.reg (rd 4 [.ans (.idx (Node.av d)),.d,.pure (bV e),.d])] [hA (0≤b),.a (((a.nodes)[b.toNat]?) =some d) (cH (f:=Node.av)),hA (Pure PP 119 [(Prog.av a),(Node.av d)] (bV e))]<|.b 0 86 (!e) (gE 6 2 (bV false))<|.W 8 2 [0,1] (qU a c 0 b))<|.W 9 2 [1] (qV a c 0)
def aIs:=fun a b c d e f g i j k=>aY7 a b c|>.t f d e g i j|>.t k tv
def aIt:=fun a b c d e f g i j k=>aY7 a b c|>.t f d e g i j|>.f k ⟨kk,trivial⟩
def aIu:=fun a b c d=>aY7 a b c|>.f d ⟨kk,trivial⟩
def aUa(d:Prog)(a:List Bool)(e c:Int):=tT 0 (qU d a e c)<|gX Node.av 7 d.nodes c<|fun f=>gl 2 aQ f.kids<|gd 2 95 (e< (f.kids.length:Int)) (gi Node.av 9 d.nodes c f<|gX aQ 3 f.kids e<|fun b=>gw 9 109 (c+1)<|gw 2 111 ((d.nodes.length:Int) -1)<|eU 0 117 [(nI b),(nI (c+1)),(nI ((d.nodes.length:Int) -1))]<|fun i=>.b 2 114 (!i) (gE 12 2 (bV false))<|.i [rn 2,.ans (.ix)] [hA (0≤b),hA (b< (a.length:Int))]<|.y fun g:Bool=>gj kY 0 a b.toNat g<|.b 2 119 g (gE 6 2 (bV false))<|.i [rn 5,.ans (.ix)] [hA (0≤b),hA (b< (a.length:Int))]<|.i [.st (kY g) (kY true)] [.a (((a)[b.toNat]?) =some g) (eZ (f:=kY)),hr (some (kY true))]<|.i [.lset 1 (map kY (set a b.toNat true))] [.q (p:=(map kY a).set (0+b.toNat) (kY true) = (map kY (set a b.toNat true))) (mI _ _ _ _)]<|.i [.set 4 (.gl 1 1 0 (set a b.toNat true).length true)] [.q (p:=(AV.gl 1 1 0 a.length true) = (.gl 1 1 0 (set a b.toNat true).length true)) (bQ (length_set ..).symm)]<|.i [.set 115 (.gl 1 1 0 (set a b.toNat true).length true)] [.q (p:=(AV.gl 1 1 0 a.length true) = (.gl 1 1 0 (set a b.toNat true).length true)) (bQ (length_set ..).symm)]<|.i [.set 120 (.gl 1 1 0 (set a b.toNat true).length true)] [.q (p:=(AV.gl 1 1 0 a.length true) = (.gl 1 1 0 (set a b.toNat true).length true)) (bQ (length_set ..).symm)]<|gw 5 97 (e+1)<|.W 3 2 [0,1] (qU d (set a b.toNat true) (e+1) c))<|gw 6 78 (c+1)<|.W 3 2 [0,1] (mK d a (c+1))
def aIv:=fun c d e f g i j a b k l m n o p q=>aUa c d e f g a b|>.t k a b i l m n o j p|>.t q tv
def aIw:=fun c d e f g i j k a b l m n o p q r s t u v=>aUa c d e f g a b|>.t l a b i m n o p j q|>.f r s t k u|>.t v tv
def aIx:=fun f g i j k l m n a b o p q r s t u c d e v w=>aUa f g i j k a b|>.t o a b l p q r s m t|>.f u c d n e|>.f v c d e w ⟨kk,trivial⟩
def aIy:=fun a b c d e f g i j=>aUa a b c d e f g|>.f i j ⟨kk,trivial⟩
def aY8(c:Prog)(b:List Bool)(a:Int):=tT 0 (qV c b a)<|gd 7 125 (a< (c.nodes.length:Int)) (.i [rn 8,.ans (.ix)] [hA (0≤a),hA (a< (b.length:Int))]<|.y fun d:Bool=>gj kY 0 b a.toNat d<|.b 2 132 (!d) (gE 6 1 (bV false))<|gw 6 127 (a+1)<|.W 3 1 [0] (qV c b (a+1)))<|gE 7 1 (bV true)
def aIz:=fun a b c d e f g i j=>aY8 a b c|>.t e f g d i|>.t j tv
def aIA:=fun a b c d e f g i j k=>aY8 a b c|>.t e f g d i|>.f j k ⟨kk,trivial⟩
def aIB:=fun a b c d=>aY8 a b c|>.f d tv
def fJ (c:Con) :Bool:=fU c.name&&dB c.args 0 3
def aY (l:List Con) :List aC:=l.map Con.name
def yD (l:List Con) :Bool:=l.all fJ&&decide (l.length≤20) &&cI (aY l)
def dC (p:Prog)(op n:Int) :Bool:=
 if op=1 then dB n (-1000000000) 1000000000
 else if op=2 then dB n 0 1
 else if op=4 then dB n (0- (p.funs.length:Int)) 29
 else if op=24 then dB n 0 3
 else if op=14 then dB n 0 ((p.cons.length:Int) -1)
 else decide (n=0)
def jG (p:Prog)(x:Node) :Bool:=
 dC p x.op x.n&& (if x.op=15 then dB (x.pats.length:Int) 1 5 else decide (x.pats.length=0))
def jH (p:Prog)(x:Node) :Int:=if x.op=14∧dB x.n 0 ((p.cons.length:Int) -1) =true then eA p.cons x.n else 0
def fP (cons:List Con)(q:Pat) :Bool:=decide (cL q≤12) &&cT cons q
def bR (p:Prog)(x:Node) :Bool:=
 jG p x&&x.pats.all (fP p.cons) &&decide ((x.kids.length:Int) =cS x.op x.pats.length (jH p x))
theorem eX {α:Type}(l:List α) : ((l.length:Int) ==0) =decide (l= []) :=by cases l<;>simp;omega
theorem lS {p:Prop}(h:p:=by simp_all [jG,dC,jH,eA,eX]) :p:=h
theorem aUb (p:Prog)(x:Node)(hc:p.cons.length≤1000)(hf:p.funs.length≤1000)(b:Bool)(hk:∀ (i:Bool) (a:Int),i=jG p x→a=jH p x→Ends PP 0 (bJ p x i a 0).as (.ret (.bool b)) (aE [] 0)) :
  Ends PP 0 (start PP 119 [Prog.av p,Node.av x]).as (.ret (.bool b)) (aE [] 0) :=by
 cases hb1: (x.op== (1:Int))with
 | true=>
  cases hb2: (x.op== (15:Int))with
  | true=>
   cases hb3: (dB (x.n) (-1000000000) 1000000000)with
   | true=>
    exact LeadsM.ends (aNI p x  (dB (x.n) (-1000000000) 1000000000) (dB ((length x.pats:Nat) :Int) 1 5) hb1 (aV (x.n) (-1000000000) 1000000000) hb2 hb3 (aV ((length x.pats:Nat) :Int) 1 5)) (hk _ _ (by clear hk;exact lS) (by clear hk;exact lS))
   | false=>
    exact LeadsM.ends (aNJ p x  (dB (x.n) (-1000000000) 1000000000) hb1 (aV (x.n) (-1000000000) 1000000000) hb2 hb3) (hk _ _ (by clear hk;exact lS) (by clear hk;exact lS))
  | false=>
   cases hb4: (dB (x.n) (-1000000000) 1000000000)with
   | true=>
    exact LeadsM.ends (aNK p x  (dB (x.n) (-1000000000) 1000000000) hb1 (aV (x.n) (-1000000000) 1000000000) hb2 hb4) (hk _ _ (by clear hk;exact lS) (by clear hk;exact lS))
   | false=>
    exact LeadsM.ends (aNL p x  (dB (x.n) (-1000000000) 1000000000) hb1 (aV (x.n) (-1000000000) 1000000000) hb2 hb4) (hk _ _ (by clear hk;exact lS) (by clear hk;exact lS))
 | false =>
  cases hb5: (x.op== (2:Int))with
  | true=>
   cases hb6: (x.op== (15:Int))with
   | true=>
    cases hb7: (dB (x.n) 0 1)with
    | true=>
     exact LeadsM.ends (aNM p x  (dB (x.n) 0 1) (dB ((length x.pats:Nat) :Int) 1 5) hb1 hb5 (aV (x.n) 0 1) hb6 hb7 (aV ((length x.pats:Nat) :Int) 1 5)) (hk _ _ (by clear hk;exact lS) (by clear hk;exact lS))
    | false=>
     exact LeadsM.ends (aNN p x  (dB (x.n) 0 1) hb1 hb5 (aV (x.n) 0 1) hb6 hb7) (hk _ _ (by clear hk;exact lS) (by clear hk;exact lS))
   | false=>
    cases hb8: (dB (x.n) 0 1)with
    | true=>
     exact LeadsM.ends (aNO p x  (dB (x.n) 0 1) hb1 hb5 (aV (x.n) 0 1) hb6 hb8) (hk _ _ (by clear hk;exact lS) (by clear hk;exact lS))
    | false=>
     exact LeadsM.ends (aNP p x  (dB (x.n) 0 1) hb1 hb5 (aV (x.n) 0 1) hb6 hb8) (hk _ _ (by clear hk;exact lS) (by clear hk;exact lS))
  | false=>
   cases hb9: (x.op== (4:Int))with
   | true=>
    cases hb10: (x.op== (15:Int))with
    | true=>
     cases hb11: (dB (x.n) (0- ((length p.funs:Nat) :Int)) 29)with
     | true=>
      exact LeadsM.ends (aNQ p x  (dB (x.n) (0- ((length p.funs:Nat) :Int)) 29) (dB ((length x.pats:Nat) :Int) 1 5) hb1 hb5 hb9 sdI (aV (x.n) (0- ((length p.funs:Nat) :Int)) 29) hb10 hb11 (aV ((length x.pats:Nat) :Int) 1 5)) (hk _ _ (by clear hk;exact lS) (by clear hk;exact lS))
     | false=>
      exact LeadsM.ends (aNR p x  (dB (x.n) (0- ((length p.funs:Nat) :Int)) 29) hb1 hb5 hb9 sdI (aV (x.n) (0- ((length p.funs:Nat) :Int)) 29) hb10 hb11) (hk _ _ (by clear hk;exact lS) (by clear hk;exact lS))
    | false=>
     cases hb12: (dB (x.n) (0- ((length p.funs:Nat) :Int)) 29)with
     | true=>
      exact LeadsM.ends (aK6 p x  (dB (x.n) (0- ((length p.funs:Nat) :Int)) 29) hb1 hb5 hb9 sdI (aV (x.n) (0- ((length p.funs:Nat) :Int)) 29) hb10 hb12) (hk _ _ (by clear hk;exact lS) (by clear hk;exact lS))
     | false=>
      exact LeadsM.ends (aK7 p x  (dB (x.n) (0- ((length p.funs:Nat) :Int)) 29) hb1 hb5 hb9 sdI (aV (x.n) (0- ((length p.funs:Nat) :Int)) 29) hb10 hb12) (hk _ _ (by clear hk;exact lS) (by clear hk;exact lS))
   | false=>
    cases hb13: (x.op== (24:Int))with
    | true=>
     cases hb14: (x.op== (15:Int))with
     | true=>
      cases hb15: (dB (x.n) 0 3)with
      | true=>
       exact LeadsM.ends (aK8 p x  (dB (x.n) 0 3) (dB ((length x.pats:Nat) :Int) 1 5) hb1 hb5 hb9 hb13 (aV (x.n) 0 3) hb14 hb15 (aV ((length x.pats:Nat) :Int) 1 5)) (hk _ _ (by clear hk;exact lS) (by clear hk;exact lS))
      | false=>
       exact LeadsM.ends (aK9 p x  (dB (x.n) 0 3) hb1 hb5 hb9 hb13 (aV (x.n) 0 3) hb14 hb15) (hk _ _ (by clear hk;exact lS) (by clear hk;exact lS))
     | false=>
      cases hb16: (dB (x.n) 0 3)with
      | true=>
       exact LeadsM.ends (aLa p x  (dB (x.n) 0 3) hb1 hb5 hb9 hb13 (aV (x.n) 0 3) hb14 hb16) (hk _ _ (by clear hk;exact lS) (by clear hk;exact lS))
      | false=>
       exact LeadsM.ends (aLb p x  (dB (x.n) 0 3) hb1 hb5 hb9 hb13 (aV (x.n) 0 3) hb14 hb16) (hk _ _ (by clear hk;exact lS) (by clear hk;exact lS))
    | false=>
     cases hb17: (x.op== (14:Int))with
     | true=>
      cases hb18: (dB (x.n) 0 (((length p.cons:Nat) :Int) - (1:Int)))with
      | true=>
       obtain⟨y1,hx19⟩ :∃y,((p.cons)[x.n.toNat]?) =some y:=idT;cases hb20: (x.op== (15:Int))with
       | true=>
        exact LeadsM.ends (aLc p x  (dB (x.n) 0 (((length p.cons:Nat) :Int) - (1:Int))) y1 (dB ((length x.pats:Nat) :Int) 1 5) hb1 hb5 hb9 hb13 hb17 sdI (aV (x.n) 0 (((length p.cons:Nat) :Int) - (1:Int))) hb18 sdI hx19 hb20 (aV ((length x.pats:Nat) :Int) 1 5)) (hk _ _ (by clear hk;exact lS) (by clear hk;exact lS))
       | false=>
        exact LeadsM.ends (aLd p x  (dB (x.n) 0 (((length p.cons:Nat) :Int) - (1:Int))) y1 hb1 hb5 hb9 hb13 hb17 sdI (aV (x.n) 0 (((length p.cons:Nat) :Int) - (1:Int))) hb18 sdI hx19 hb20) (hk _ _ (by clear hk;exact lS) (by clear hk;exact lS))
      | false=>
       cases hb21: (x.op== (15:Int))with
       | true=>
        exact LeadsM.ends (aLe p x  (dB (x.n) 0 (((length p.cons:Nat) :Int) - (1:Int))) hb1 hb5 hb9 hb13 hb17 sdI (aV (x.n) 0 (((length p.cons:Nat) :Int) - (1:Int))) hb18 hb21) (hk _ _ (by clear hk;exact lS) (by clear hk;exact lS))
       | false=>
        exact LeadsM.ends (aLf p x  (dB (x.n) 0 (((length p.cons:Nat) :Int) - (1:Int))) hb1 hb5 hb9 hb13 hb17 sdI (aV (x.n) 0 (((length p.cons:Nat) :Int) - (1:Int))) hb18 hb21) (hk _ _ (by clear hk;exact lS) (by clear hk;exact lS))
     | false=>
      cases hb22: (x.op== (15:Int))with
      | true=>
       cases hb23: (x.n== (0:Int))with
       | true=>
        exact LeadsM.ends (aLg p x  (dB ((length x.pats:Nat) :Int) 1 5) hb1 hb5 hb9 hb13 hb17 hb22 hb23 (aV ((length x.pats:Nat) :Int) 1 5)) (hk _ _ (by clear hk;exact lS) (by clear hk;exact lS))
       | false=>
        exact LeadsM.ends (aLh p x   hb1 hb5 hb9 hb13 hb17 hb22 hb23) (hk _ _ (by clear hk;exact lS) (by clear hk;exact lS))
      | false=>
       cases hb24: (x.n== (0:Int))with
       | true=>
        exact LeadsM.ends (aLi p x   hb1 hb5 hb9 hb13 hb17 hb22 hb24) (hk _ _ (by clear hk;exact lS) (by clear hk;exact lS))
       | false=>
        exact LeadsM.ends (aLj p x   hb1 hb5 hb9 hb13 hb17 hb22 hb24) (hk _ _ (by clear hk;exact lS) (by clear hk;exact lS))
theorem yE (p:Prog)(x:Node)(hc:p.cons.length≤1000)(hl:x.pats.length≤10)(a:Int) :
  ∀ (t:List Pat) (i:Nat) (b:Bool),x.pats.drop i=t→Ends PP 0 (bJ p x b a (i:Int)).as (.ret (.bool (b&&t.all (fP p.cons) &&decide ((x.kids.length:Int) =cS x.op x.pats.length a)))) (aE [] 0)
 | [],i,b,h=>by
  have:=aT h;cases b with
  |false=>exact Ends.eqv (aNW p x false a i sd rfl) (by simp)
  | true=>
   refine Ends.eqv (aNV p x true a i _ sd rfl (aK5 x.op x.pats.length a (by omega) (by omega))) ?_;simp only [all_nil,Bool.true_and,AV.bool.injEq];rfl
 | .mk f' n' s' ps'::t,i,b,h=>by
  obtain⟨g1,g2,g3⟩ :=aR h;cases b with
  |false=>exact Ends.eqv (aNU p x false a i sd rfl) (by simp)
  | true=>
   have hw:=tY (.mk f' n' s' ps') 12 (by omega) (by omega);by_cases k:cL (.mk f' n' s' ps') ≤12
   · have hg:0≤jR (.mk f' n' s' ps') 12:= (vC (.mk f' n' s' ps') 12).2 (by omega);refine(aNS p x true a i f' n' s' ps' _ _ sd rfl sd sd hw (decide_eq_true hg) (aEQ p.cons hc (.mk f' n' s' ps') (by omega)) sd).ends ?_;exact Ends.eqv (yE p x hc hl a t (i+1) _ g2) (by simp [fP,k])
   · have hg:¬jR (.mk f' n' s' ps') 12≥0:=fun g=>k (by have:= (vC (.mk f' n' s' ps') 12).1 g;omega);refine(aNT p x true a i f' n' s' ps' _ sd rfl sd sd hw (decide_eq_false hg) sd).ends ?_;exact Ends.eqv (yE p x hc hl a t (i+1) _ g2) (by simp [fP,k])
theorem aLk (p:Prog)(x:Node)(hc:p.cons.length≤1000)(hf:p.funs.length≤1000)(hl:x.pats.length≤10) :Pure PP 119 [Prog.av p,Node.av x] (.bool (bR p x)) :=by
 refine aP (by kernel_rfl) rfl rfl (aUb p x hc hf _ fun i a hi ha=>?_);subst hi ha;exact yE p x hc hl _ x.pats 0 _ rfl
theorem aDg (l:List Con)(hl:l.length≤1000) :∀ (t:List Con) (i:Nat),l.drop i=t→Ends PP 0 (aAd l (i:Int) (aY (l.take i))).as (.ret (.bool (t.all fJ&&decide (l.length≤20) &&cI (aY l)))) (aE [] 0)
 | [],i,h=>by
  have hi:=aT h;have e:aY (l.take i) =aY l:=by rw [List.take_of_length_le hi]
  rw [e];by_cases k:l.length≤20
  ·exact Ends.eqv (aN1 l i _ _ sd sd (qR (aY l) (by simp [aY];omega))) (by simp [k])
  ·exact Ends.eqv (aN2 l i _ sd sd) (by simp [k])
 | c ::t,i,h=>by
  obtain⟨g1,g2,g3⟩ :=aR h;have hg:=aIc c.name;cases k1:fU c.name with
  | false=>
   rw [k1]at hg;exact Ends.eqv (aNY l i _ c false sd sd sd hg rfl) (by simp [fJ,k1])
  | true=>
   rw [k1]at hg;have hi:=aV c.args 0 3;cases k2:dB c.args 0 3 with
   | false=>
    rw [k2]at hi;exact Ends.eqv (aNZ l i _ c true false sd sd sd hg rfl hi rfl) (by simp [fJ,k1,k2])
   | true=>
    rw [k2]at hi;have e:aY (l.take i) ++ [c.name] =aY (l.take (i+1)) :=by
     rw [List.take_add_one,g1];simp [aY]
    refine(aN0 l i (aY (l.take i)) c true true sd sd sd hg rfl hi rfl (by simp [aY];omega) sd).ends ?_;rw [e];exact Ends.eqv (aDg l hl t (i+1) g2) (by simp [fJ,k1,k2])
theorem aLl (l:List Con)(hl:l.length≤1000) :Pure PP 118 [.ilst 2 (map Con.av l) false] (.bool (yD l)) :=
 aP (by kernel_rfl) rfl rfl ((aNX l).ends (aDg l hl l 0 rfl))
def marks (lo n:Int) :List Int→List Bool→Option (List Bool)
 | [],u=>some u
 |k::ks,u=>if dB k lo (n-1) =true∧u[k.toNat]?=some false then marks lo n ks (u.set k.toNat true)else none
theorem oU {lo n:Int}:∀ {ks:List Int} {u v:List Bool},marks lo n ks u=some v→v.length=u.length
 | [],u,v,h=>by simp only [marks,Option.some.injEq]at h;rw [h]
 | k::ks,u,v,h=>by
  simp only [marks]at h;split at h
  ·have:=oU h;simpa using this
  ·cases h
def cR (p:Prog) :Nat→List Node→List Bool→Option (List Bool)
 |_,[],u=>some u
 | i,x::t,u=>if bR p x=true then match marks ((i:Int) +1) (p.nodes.length:Int) x.kids u with
   |some v=>cR p (i+1) t v
   |none=>none
  else none
def allT :Option (List Bool) →Bool
 |some u=>u.all fun b=>b
 |none=>false
def dS (p:Prog) :Bool:=decide (p.nodes.length≤300) &&dB (p.funs.length:Int) 1 (p.nodes.length:Int) &&dB p.main 0 ((p.funs.length:Int) -1)
def aZ (p:Prog) :Bool:=
 dS p&&yD p.cons&& (match marks 0 (p.nodes.length:Int) p.funs (replicate p.nodes.length false)with
  |some u=>allT (cR p 0 p.nodes u)
  |none=>false)
theorem rF3 (p:Prog)(u:List Bool)(hn:p.nodes.length≤1000)(hu:u.length=p.nodes.length) :∀ (t:List Bool) (i:Nat),u.drop i=t→Ends PP 0 (qV p u (i:Int)).as (.ret (.bool (t.all fun b=>b))) (aE [] 0)
 | [],i,h=>by
  have:=aT h;exact aIB p u i sd
 | b::t,i,h=>by
  obtain⟨g1,g2,g3⟩ :=aR h;cases b with
  |false=>exact Ends.eqv (aIz p u i false sd sd sd sd rfl) (by simp)
  | true=>
   refine(aIA p u i true sd sd sd sd rfl sd).ends ?_;exact Ends.eqv (rF3 p u hn hu t (i+1) g2) (by simp)
theorem aZP (p:Prog)(x:Node)(i:Nat)(hx:p.nodes[i]?=some x)(hn:p.nodes.length≤1000)(hk:x.kids.length≤1000)(K:List Bool→Bool)
  (hb:∀v:List Bool,v.length=p.nodes.length→Ends PP 0 (mK p v ((i:Int) +1)).as (.ret (.bool (K v))) (aE [] 0)) :
  ∀ (t:List Int) (k:Nat) (u:List Bool),u.length=p.nodes.length→x.kids.drop k=t→Ends PP 0 (qU p u (k:Int) (i:Int)).as (.ret (.bool (match marks ((i:Int) +1) p.nodes.length t u with|some v=>K v|none=>false))) (aE [] 0)
 | [],k,u,hu,h=>by
  have:=aT h;have hi:= (List.getElem?_eq_some_iff.1 hx).1;refine(aIy p u k i x sd sd sd sd).ends ?_;exact hb u hu
 | y ::t,k,u,hu,h=>by
  obtain⟨g1,g2,g3⟩ :=aR h;have hi:= (List.getElem?_eq_some_iff.1 hx).1;have hin:=aV y ((i:Int) +1) ((p.nodes.length:Int) -1);cases k1:dB y ((i:Int) +1) ((p.nodes.length:Int) -1)with
  | false=>
   rw [k1]at hin;exact Ends.eqv (aIv p u k i x y false sd sd sd sd sd sd sd hin rfl) (by simp [marks,k1])
  | true=>
   rw [k1]at hin;have hy:=inB_iff.1 k1;obtain⟨z,hz⟩ :∃z,u[y.toNat]?=some z:= ⟨_,List.getElem?_eq_getElem (by omega)⟩;cases z with
   | true=>
    exact Ends.eqv (aIw p u k i x y true true sd sd sd sd sd sd sd hin rfl (by omega) (by omega) hz rfl) (by simp [marks,hz])
   | false=>
    refine(aIx p u k i x y true false sd sd sd sd sd sd sd hin rfl (by omega) (by omega) hz rfl sd).ends ?_;exact Ends.eqv (aZP p x i hx hn hk K hb t (k+1) (u.set y.toNat true) (by simpa using hu) g2) (by simp [marks,k1,hz])
theorem rF1 (p:Prog)(hp:aL p=true)(hn:p.nodes.length≤1000)(hc:p.cons.length≤1000)(hf:p.funs.length≤1000) :∀ (t:List Node) (i:Nat) (u:List Bool),u.length=p.nodes.length→p.nodes.drop i=t →
  Ends PP 0 (mK p u (i:Int)).as (.ret (.bool (allT (cR p i t u)))) (aE [] 0)
 | [],i,u,hu,h=>by
  have:=aT h;refine(aIu p u i sd).ends ?_;exact rF3 p u hn hu u 0 rfl
 | x::t,i,u,hu,h=>by
  obtain⟨g1,g2,g3⟩ :=aR h;have hx:bG x=true:=by
   simp only [aL,Bool.and_eq_true]at hp;exact List.all_eq_true.1 hp.2 x (mem_of_getElem? g1)
  simp only [bG,Bool.and_eq_true,decide_eq_true_eq]at hx;have ho:=aLk p x hc hf hx.1.2;cases k:bR p x with
  | false=>
   rw [k]at ho;exact Ends.eqv (aIs p u i x false sd sd sd ho rfl) (by simp [cR,k,allT])
  | true=>
   rw [k]at ho;refine(aIt p u i x true sd sd sd ho rfl).ends ?_;refine Ends.eqv (aZP p x i g1 hn (by omega) (fun v=>allT (cR p (i+1) t v)) (fun v hv=>rF1 p hp hn hc hf t (i+1) v hv g2) x.kids 0 u hu rfl) ?_;simp only [cR,k,if_true];cases marks ((i:Int) +1) (p.nodes.length:Int) x.kids u<;>rfl
theorem rF0 (p:Prog)(hp:aL p=true)(hn:p.nodes.length≤1000)(hc:p.cons.length≤1000)(hf:p.funs.length≤1000) :∀ (t:List Int) (i:Nat) (u:List Bool),u.length=p.nodes.length→p.funs.drop i=t →
  Ends PP 0 (qT p (i:Int) u).as (.ret (.bool (match marks 0 p.nodes.length t u with|some v=>allT (cR p 0 p.nodes v) |none=>false))) (aE [] 0)
 | [],i,u,hu,h=>by
  have:=aT h;refine(aIr p i u sd).ends ?_;exact rF1 p hp hn hc hf p.nodes 0 u hu rfl
 | y ::t,i,u,hu,h=>by
  obtain⟨g1,g2,g3⟩ :=aR h;have hin:=aV y 0 ((p.nodes.length:Int) -1);cases k1:dB y 0 ((p.nodes.length:Int) -1)with
  | false=>
   rw [k1]at hin;exact Ends.eqv (aIo p i u y false sd sd sd sd hin rfl) (by simp [marks,k1])
  | true=>
   rw [k1]at hin;have hy:=inB_iff.1 k1;obtain⟨z,hz⟩ :∃z,u[y.toNat]?=some z:= ⟨_,List.getElem?_eq_getElem (by omega)⟩;cases z with
   | true=>
    exact Ends.eqv (aIp p i u y true true sd sd sd sd hin rfl (by omega) (by omega) hz rfl) (by simp [marks,hz])
   | false=>
    refine(aIq p i u y true false sd sd sd sd hin rfl (by omega) (by omega) hz rfl sd).ends ?_;exact Ends.eqv (rF0 p hp hn hc hf t (i+1) (u.set y.toNat true) (by simpa using hu) g2) (by simp [marks,k1,hz])
theorem aAe (p:Prog)(hp:aL p=true) :Pure PP 38 [Prog.av p] (.bool (aZ p)) :=by
 refine aP (by kernel_rfl) rfl rfl ?_;have hs:=hp;simp only [aL,Bool.and_eq_true,decide_eq_true_eq]at hs;obtain⟨⟨⟨⟨s1,s2⟩,s3⟩,_⟩,_⟩ :=hs;by_cases k0:p.nodes.length≤300
 · have hi1:=aV (p.funs.length:Int) 1 (p.nodes.length:Int);cases k1:dB (p.funs.length:Int) 1 (p.nodes.length:Int)with
   | false=>
    rw [k1]at hi1;exact Ends.eqv (aIk p false sd hi1 rfl) (by simp [aZ,dS,k1])
   | true=>
    rw [k1]at hi1;have hi2:=aV p.main 0 ((p.funs.length:Int) -1);cases k2:dB p.main 0 ((p.funs.length:Int) -1)with
    | false=>
     rw [k2]at hi2;exact Ends.eqv (aIl p true false sd hi1 rfl sd hi2 rfl) (by simp [aZ,dS,k2])
    | true=>
     rw [k2]at hi2;have hco:=aLl p.cons (by omega);cases k3:yD p.cons with
     | false=>
      rw [k3]at hco;exact Ends.eqv (aIm p true true false sd hi1 rfl sd hi2 rfl hco rfl) (by simp [aZ,k3])
     | true=>
      rw [k3]at hco;refine(aIn p true true true sd hi1 rfl sd hi2 rfl hco rfl (by omega)).ends ?_;refine Ends.eqv (rF0 p hp (by omega) (by omega) (by omega) p.funs 0 _ (by simp) rfl) ?_;have e:dS p=true:=by simp [dS,k0,k1,k2]
      simp only [aZ,e,k3,Bool.true_and]
 ·exact Ends.eqv (aIj p sd) (by simp [aZ,dS,k0])
def checkN (b:Bool) :Int:=if b=true then 0 else 2
def vD(a:aC)(b:Nat):TS:=⟨(tf 164 16 [(2,(bV false)),kp 6 0] [kc f164 52,kl f164 52,.inBlock 0,kc f164 7]),[],[(0,(.siter a.length (aA a) b),false)],1⟩
def aAf(e f:Int)(g:aC)(a:List Pat)(b c d:Int):TS:=⟨(tf 281 27 [(1,(nI b)),(4,(nI 0)),(5,(nI c)),(9,(iP a)),(10,(nI (a.length:Int))),(11,(nI d))] [kc f281 116,kl f281 116,.inBlock 0,kc f281 15]),[],[],0⟩
def aZQ(a b c:Int):=tT 0 (start PP 241 [(nI a),(nI b),(nI c)])<|gd 10 10 (a≥b) (gE 7 0 (bV (decide (a≤c))))<|gE 7 0 (bV false)
def aUc:=fun a b c d=>aZQ a b c|>.t d tv
def aUd:=fun a b c d=>aZQ a b c|>.f d tv
def aQC (b:Int):=fun a c=>(tT 0 (start PP 301 [(nI b)])<|eU 7 241 [(nI b),(nI (-1000000000)),(nI 1000000000)]<|fun a=>gE 3 0 (bV a)) a c tv
def aLm (a:aC):=(tT 0 (start PP 164 [(aB a)])<|.W 12 1 [0] (vD a 0)) tv
def aUe(a:aC)(b:Nat):=tT 0 (vD a b)<|.o (.y fun c:Nat=>.y fun d:Nat=>.i [rn 2,.nxt c d] [hA (b<a.length),hA (aJ6 a.length (aA a) b=some (c,d))]<|gd 16 12 (((c:Nat) :Int) <97) (gE 10 1 (bV false))<|gd 4 15 (((c:Nat) :Int) >122) (gE 6 1 (bV false))<|.W 4 1 [0] (vD a (Nat.add b d)))<|.i [rn 2,.nxtE] [hA (a.length≤b)]<|gE 10 1 (bV true)
def aLn:=fun a b c d e f g=>aUe a b|>.1 c d e f|>.t g tv
def aLo:=fun a b c d e f g i=>aUe a b|>.1 c d e f|>.f g|>.t i tv
def aLp:=fun a b c d e f g i=>aUe a b|>.1 c d e f|>.f g|>.f i tv
def aLq:=fun a b c=>aUe a b|>.2 c tv
def aQD(a:aC):=tT 0 (start PP 231 [(aB a)])<|.b 9 5 (!(bB a.length (aA a) 0 0)) (gd 5 10 ((a.length:Int) ≤8) (.y fun b:UInt8=>.i [rn 1,.ans (.ev (.int .u8 ((b.toNat:Nat) :Int)))] [.q (p:=0≤ (0:Int)) (by decide),.a ((a)[0]?=some b) (p':=(0:Int) < (a.length:Int)) (fun h=>(aAZ (k:= (0:Int)) (by decide) h)),.a ((a)[0]?=some b) (p':=int .u8 ((mod (div (aA a) (pow 256 (0:Int).toNat)) 256:Nat) :Int) = (.int .u8 ((b.toNat:Nat) :Int))) (fun h=>(aA0 (k:= (0:Int)) h))]<|gd 3 15 (((b.toNat:Nat) :Int) ≥65) (.i [rn 1,.ans (.ev (.int .u8 ((b.toNat:Nat) :Int)))] [.q (p:=0≤ (0:Int)) (by decide),.a ((a)[0]?=some b) (p':=(0:Int) < (a.length:Int)) (fun h=>(aAZ (k:= (0:Int)) (by decide) h)),.a ((a)[0]?=some b) (p':=int .u8 ((mod (div (aA a) (pow 256 (0:Int).toNat)) 256:Nat) :Int) = (.int .u8 ((b.toNat:Nat) :Int))) (fun h=>(aA0 (k:= (0:Int)) h))]<|gd 3 20 (((b.toNat:Nat) :Int) ≤90) (.i [rn 1,.ans (.ev (aB (drop 1 a)))] [.a (1≤length a) (p':=aH1 PP 9 (aB a) (some (nI 1)) none (aB (drop 1 a))) (fun h=>(aBA (k:= (1:Int)) (by kernel_rfl) (by decide) h))]<|eU 0 164 [(aB (drop 1 a))]<|fun c=>gE 4 0 (bV c))<|gE 7 0 (bV false))<|gE 12 0 (bV false))<|gE 17 0 (bV false))<|gE 22 0 (bV false)
def aLr:=fun b c d e f a g i j k=>aQD b|>.t e|>.t f c a a|>.t g a a|>.t i j d k tv
def aLs:=fun b c d e a f g=>aQD b|>.t d|>.t e c a a|>.t f a a|>.f g tv
def aLt:=fun b c d e a f=>aQD b|>.t d|>.t e c a a|>.f f tv
def aLu:=fun a b c=>aQD a|>.t b|>.f c tv
def aLv:=fun a b=>aQD a|>.f b tv
def aZR(a:Con):=tT 0 (start PP 243 [(.agg [(aB a.name),(nI a.args)])])<|eU 9 231 [(aB a.name)]<|fun b=>.b 1 6 b (eU 2 241 [(nI a.args),(nI 0),(nI 3)]<|fun c=>gE 4 1 (bV c))<|gE 7 1 (bV false)
def aQE:=fun a b c d e f=>aZR a b d|>.t e c f tv
def aQF:=fun a b c d=>aZR a b c|>.f d tv
def aN3(c:Prog)(a:Node):=tT 0 (start PP 283 [(Prog.av c),(Node.av a)])<|.b 18 7 (a.op==1) (eU 5 301 [(nI a.n)]<|fun b=>gE 3 2 (bV b))<|.b 6 12 (a.op==2) (eU 5 241 [(nI a.n),(nI 0),(nI 1)]<|fun b=>gE 3 2 (bV b))<|.b 6 17 (a.op==24) (eU 5 241 [(nI a.n),(nI 0),(nI 3)]<|fun b=>gE 3 2 (bV b))<|.b 6 22 (a.op==4) (gl 8 aQ c.funs<|gw 1 30 (0- (c.funs.length:Int))<|eU 0 241 [(nI a.n),(nI (0- (c.funs.length:Int))),(nI 29)]<|fun b=>gE 3 2 (bV b))<|.b 6 32 (a.op==14) (gE 6 2 (bV true))<|gE 11 2 (bV (a.n==0))
def aIC:=fun a b c d e=>aN3 a b|>.t d c e tv
def aID:=fun a b c d e f=>aN3 a b|>.f d|>.t e c f tv
def aIE:=fun a b c d e f g=>aN3 a b|>.f d|>.f e|>.t f c g tv
def aIF:=fun a b c d e f g i j=>aN3 a b|>.f d|>.f e|>.f f|>.t g i c j tv
def aIG:=fun a b c d e f g=>aN3 a b|>.f c|>.f d|>.f e|>.f f|>.t g tv
def aIH:=fun a b c d e f g=>aN3 a b|>.f c|>.f d|>.f e|>.f f|>.f g tv
def aN4 (b c:Int)(d:aC)(a:List Pat)(e:Int):=(tT 0 (start PP 281 [(.agg [(nI b),(nI c),(aB d),(iP a)]),(nI e)])<|gm 14 aI a<|.W 4 1 [] (aAf b c d a e 1 0)) tv
def aY9(e f:Int)(g:aC)(d:List Pat)(b a c:Int):=tT 0 (aAf e f g d b a c)<|gd 5 12 (c< (d.length:Int)) (aGg 6 d c<|fun j k l m=>gd 11 17 (a>b) (gE 8 1 (nI a))<|gw 8 22 (b-a)<|gpI 0 281 [(.agg [(nI j),(nI k),(aB l),(iP m)]),(nI (b-a))]<|fun i=>gw 1 24 (a+i)<|gw 5 25 (c+1)<|.W 3 1 [] (aAf e f g d b (a+i) (c+1)))<|gE 8 0 (nI a)
def aN5:=fun a b c d e f g i j k l m n o p=>aY9 a b c d e f g|>.t m i j k l n o|>.t p tv
def aN6:=fun a b c d e f g i j k l m n o p q r s t u=>aY9 a b c d e f g|>.t n i j k l o p|>.f q r m s t u tv
def aN7:=fun a b c d e f g i=>aY9 a b c d e f g|>.f i tv
def yF(d:Prog)(e c:Int)(f:aC)(a:List Pat):=tT 0 (start PP 282 [(Prog.av d),(.agg [(nI e),(nI c),(aB f),(iP a)])])<|.b 13 8 (!(bB f.length (aA f) 0 0)) (gE 14 2 (bV false))<|eU 4 284 [(iP a),(.func 282 [(Prog.av d)] [])]<|fun i=>.b 3 15 (!i) (gE 6 2 (bV false))<|.b 15 18 (e==1) (.b 9 25 (c==0) (gm 2 aI a<|gE 5 2 (bV ((a.length:Int) ==0)))<|gE 8 2 (bV false))<|.b 6 18 (e==2) (.b 9 25 (c==0) (gm 2 aI a<|gE 5 2 (bV ((a.length:Int) ==0)))<|gE 8 2 (bV false))<|.b 5 18 (e==5) (.b 7 25 (c==0) (gm 2 aI a<|gE 5 2 (bV ((a.length:Int) ==0)))<|gE 8 2 (bV false))<|.b 6 31 (e==3) (eU 5 301 [(nI c)]<|fun b=>.b 1 36 b (gm 2 aI a<|gE 5 2 (bV ((a.length:Int) ==0)))<|gE 8 2 (bV false))<|.b 6 42 (e==4) (eU 5 241 [(nI c),(nI 0),(nI 1)]<|fun b=>.b 1 47 b (gm 2 aI a<|gE 5 2 (bV ((a.length:Int) ==0)))<|gE 8 2 (bV false))<|.b 6 53 (e==6) (.o (.y fun b:Bool=>.y fun g:Con=>.i [rn 2,.reg (rd 5 (.ans (.len (d.cons.length:Int))::.d::.pure (bV b)::.d::.b 63 true::.d::.d::.ans (.len (a.length:Int))::rd 5 (.ans (.idx (Con.av g))::rd 5 [])))] [hl Con.av d.cons,hA (Pure PP 241 [(nI c),(nI 0),(nI (IntKind.i64.wrap ((d.cons.length:Int) -1)))] (bV b)),hA (b=true),hm aI a,hA (0≤c),.a (((d.cons)[c.toNat]?) =some g) (cH (f:=Con.av))]<|gE 1 2 (bV ((a.length:Int) ==g.args)))<|.y fun b:Bool=>.i [rn 2,.reg (rd 5 (.ans (.len (d.cons.length:Int))::.d::.pure (bV b)::.d::.b 63 false::rd 14 []))] [hl Con.av d.cons,hA (Pure PP 241 [(nI c),(nI 0),(nI (IntKind.i64.wrap ((d.cons.length:Int) -1)))] (bV b)),hA (b=false)]<|gE 1 2 (bV false))<|gE 8 2 (bV false)
def aQG:=fun a b c d e f=>yF a b c d e|>.t f tv
def aQH:=fun a b c d e f g i j=>yF a b c d e|>.f g f i|>.t j tv
def aQI:=fun a b c d e f g i j k l=>yF a b c d e|>.f g f i|>.f j|>.t k|>.t l tv
def aQJ:=fun a b c d e f g i j k l=>yF a b c d e|>.f g f i|>.f j|>.t k|>.f l tv
def aQK:=fun a b c d e f g i j k l m=>yF a b c d e|>.f g f i|>.f j|>.f k|>.t l|>.t m tv
def aQL:=fun a b c d e f g i j k l m=>yF a b c d e|>.f g f i|>.f j|>.f k|>.t l|>.f m tv
def aQM:=fun a b c d e f g i j k l m n=>yF a b c d e|>.f g f i|>.f j|>.f k|>.f l|>.t m|>.t n tv
def aQN:=fun a b c d e f g i j k l m n=>yF a b c d e|>.f g f i|>.f j|>.f k|>.f l|>.t m|>.f n tv
def aQO:=fun a b c d e f g i j k l m n o p q=>yF a b c d e|>.f i f j|>.f k|>.f l|>.f m|>.f n|>.t o g p|>.t q tv
def aQP:=fun a b c d e f g i j k l m n o p q=>yF a b c d e|>.f i f j|>.f k|>.f l|>.f m|>.f n|>.t o g p|>.f q tv
def aN8:=fun a b c d e f g i j k l m n o p q r=>yF a b c d e|>.f i f j|>.f k|>.f l|>.f m|>.f n|>.f o|>.t p g q|>.t r tv
def aN9:=fun a b c d e f g i j k l m n o p q r=>yF a b c d e|>.f i f j|>.f k|>.f l|>.f m|>.f n|>.f o|>.t p g q|>.f r tv
def aOa:=fun a b c d e f g i j k l m n o p q r s t u v=>yF a b c d e|>.f j f k|>.f l|>.f m|>.f n|>.f o|>.f p|>.f q|>.t r|>.1 g i s t u v tv
def aOb:=fun a b c d e f g i j k l m n o p q r s=>yF a b c d e|>.f i f j|>.f k|>.f l|>.f m|>.f n|>.f o|>.f p|>.t q|>.2 g r s tv
def aOc:=fun a b c d e f g i j k l m n o p=>yF a b c d e|>.f g f i|>.f j|>.f k|>.f l|>.f m|>.f n|>.f o|>.f p tv
def jJ(a:Int):=tT 0 (start PP 279 [(nI a)])<|.b 16 4 (a==1) (gE 9 0 (.iface 334 (nI 0)))<|.b 6 4 (a==2) (gE 9 0 (.iface 334 (nI 0)))<|.b 6 4 (a==3) (gE 9 0 (.iface 334 (nI 0)))<|.b 6 4 (a==4) (gE 9 0 (.iface 334 (nI 0)))<|.b 6 4 (a==21) (gE 9 0 (.iface 334 (nI 0)))<|.b 6 4 (a==25) (gE 9 0 (.iface 334 (nI 0)))<|.b 5 4 (a==28) (gE 7 0 (.iface 334 (nI 0)))<|.b 7 13 (a==5) (gE 9 0 (.iface 334 (nI 1)))<|.b 6 13 (a==27) (gE 9 0 (.iface 334 (nI 1)))<|.b 6 13 (a==16) (gE 9 0 (.iface 334 (nI 1)))<|.b 6 13 (a==17) (gE 9 0 (.iface 334 (nI 1)))<|.b 6 13 (a==19) (gE 9 0 (.iface 334 (nI 1)))<|.b 6 13 (a==20) (gE 9 0 (.iface 334 (nI 1)))<|.b 6 13 (a==23) (gE 9 0 (.iface 334 (nI 1)))<|.b 6 13 (a==24) (gE 9 0 (.iface 334 (nI 1)))<|.b 5 13 (a==26) (gE 7 0 (.iface 334 (nI 1)))<|.b 7 24 (a==6) (gE 9 0 (.iface 334 (nI 2)))<|.b 6 24 (a==7) (gE 9 0 (.iface 334 (nI 2)))<|.b 6 24 (a==9) (gE 9 0 (.iface 334 (nI 2)))<|.b 6 24 (a==10) (gE 9 0 (.iface 334 (nI 2)))<|.b 6 24 (a==11) (gE 9 0 (.iface 334 (nI 2)))<|.b 6 24 (a==12) (gE 9 0 (.iface 334 (nI 2)))<|.b 6 24 (a==13) (gE 9 0 (.iface 334 (nI 2)))<|.b 6 24 (a==18) (gE 9 0 (.iface 334 (nI 2)))<|.b 5 24 (a==22) (gE 7 0 (.iface 334 (nI 2)))<|.b 6 35 (a==8) (gE 7 0 (.iface 334 (nI 3)))<|.b 6 38 (a==14) (gE 8 0 (.iface 335 (.agg [])))<|.b 6 42 (a==15) (gE 8 0 (.iface 317 (.agg [])))<|gE 8 0 .nili
def aII:=fun a b=>jJ a|>.t b tv
def aIJ:=fun a b c=>jJ a|>.f b|>.t c tv
def aIK:=fun a b c d=>jJ a|>.f b|>.f c|>.t d tv
def aIL:=fun a b c d e=>jJ a|>.f b|>.f c|>.f d|>.t e tv
def aIM:=fun a b c d e f=>jJ a|>.f b|>.f c|>.f d|>.f e|>.t f tv
def aIN:=fun a b c d e f g=>jJ a|>.f b|>.f c|>.f d|>.f e|>.f f|>.t g tv
def aIO:=fun a b c d e f g i=>jJ a|>.f b|>.f c|>.f d|>.f e|>.f f|>.f g|>.t i tv
def aIP:=fun a b c d e f g i j=>jJ a|>.f b|>.f c|>.f d|>.f e|>.f f|>.f g|>.f i|>.t j tv
def aIQ:=fun a b c d e f g i j k=>jJ a|>.f b|>.f c|>.f d|>.f e|>.f f|>.f g|>.f i|>.f j|>.t k tv
def aIR:=fun a b c d e f g i j k l=>jJ a|>.f b|>.f c|>.f d|>.f e|>.f f|>.f g|>.f i|>.f j|>.f k|>.t l tv
def aGl:=fun a b c d e f g i j k l m=>jJ a|>.f b|>.f c|>.f d|>.f e|>.f f|>.f g|>.f i|>.f j|>.f k|>.f l|>.t m tv
def aGm:=fun a b c d e f g i j k l m n=>jJ a|>.f b|>.f c|>.f d|>.f e|>.f f|>.f g|>.f i|>.f j|>.f k|>.f l|>.f m|>.t n tv
def aGn:=fun a b c d e f g i j k l m n o=>jJ a|>.f b|>.f c|>.f d|>.f e|>.f f|>.f g|>.f i|>.f j|>.f k|>.f l|>.f m|>.f n|>.t o tv
def aGo:=fun a b c d e f g i j k l m n o p=>jJ a|>.f b|>.f c|>.f d|>.f e|>.f f|>.f g|>.f i|>.f j|>.f k|>.f l|>.f m|>.f n|>.f o|>.t p tv
def aGp:=fun a b c d e f g i j k l m n o p q=>jJ a|>.f b|>.f c|>.f d|>.f e|>.f f|>.f g|>.f i|>.f j|>.f k|>.f l|>.f m|>.f n|>.f o|>.f p|>.t q tv
def aGq:=fun a b c d e f g i j k l m n o p q r=>jJ a|>.f b|>.f c|>.f d|>.f e|>.f f|>.f g|>.f i|>.f j|>.f k|>.f l|>.f m|>.f n|>.f o|>.f p|>.f q|>.t r tv
def aGr:=fun a b c d e f g i j k l m n o p q r s=>jJ a|>.f b|>.f c|>.f d|>.f e|>.f f|>.f g|>.f i|>.f j|>.f k|>.f l|>.f m|>.f n|>.f o|>.f p|>.f q|>.f r|>.t s tv
def aGs:=fun a b c d e f g i j k l m n o p q r s t=>jJ a|>.f b|>.f c|>.f d|>.f e|>.f f|>.f g|>.f i|>.f j|>.f k|>.f l|>.f m|>.f n|>.f o|>.f p|>.f q|>.f r|>.f s|>.t t tv
def aGt:=fun a b c d e f g i j k l m n o p q r s t u=>jJ a|>.f b|>.f c|>.f d|>.f e|>.f f|>.f g|>.f i|>.f j|>.f k|>.f l|>.f m|>.f n|>.f o|>.f p|>.f q|>.f r|>.f s|>.f t|>.t u tv
def aGu:=fun a b c d e f g i j k l m n o p q r s t u v=>jJ a|>.f b|>.f c|>.f d|>.f e|>.f f|>.f g|>.f i|>.f j|>.f k|>.f l|>.f m|>.f n|>.f o|>.f p|>.f q|>.f r|>.f s|>.f t|>.f u|>.t v tv
def aGv:=fun a b c d e f g i j k l m n o p q r s t u v w=>jJ a|>.f b|>.f c|>.f d|>.f e|>.f f|>.f g|>.f i|>.f j|>.f k|>.f l|>.f m|>.f n|>.f o|>.f p|>.f q|>.f r|>.f s|>.f t|>.f u|>.f v|>.t w tv
def aGw:=fun a b c d e f g i j k l m n o p q r s t u v w x=>jJ a|>.f b|>.f c|>.f d|>.f e|>.f f|>.f g|>.f i|>.f j|>.f k|>.f l|>.f m|>.f n|>.f o|>.f p|>.f q|>.f r|>.f s|>.f t|>.f u|>.f v|>.f w|>.t x tv
def aGx:=fun a b c d e f g i j k l m n o p q r s t u v w x y=>jJ a|>.f b|>.f c|>.f d|>.f e|>.f f|>.f g|>.f i|>.f j|>.f k|>.f l|>.f m|>.f n|>.f o|>.f p|>.f q|>.f r|>.f s|>.f t|>.f u|>.f v|>.f w|>.f x|>.t y tv
def aGy:=fun a b c d e f g i j k l m n o p q r s t u v w x y z=>jJ a|>.f b|>.f c|>.f d|>.f e|>.f f|>.f g|>.f i|>.f j|>.f k|>.f l|>.f m|>.f n|>.f o|>.f p|>.f q|>.f r|>.f s|>.f t|>.f u|>.f v|>.f w|>.f x|>.f y|>.t z tv
def aGz:=fun a b c d e f g i j k l m n o p q r s t u v w x y z A=>jJ a|>.f b|>.f c|>.f d|>.f e|>.f f|>.f g|>.f i|>.f j|>.f k|>.f l|>.f m|>.f n|>.f o|>.f p|>.f q|>.f r|>.f s|>.f t|>.f u|>.f v|>.f w|>.f x|>.f y|>.f z|>.t A tv
def aGA:=fun a b c d e f g i j k l m n o p q r s t u v w x y z A B=>jJ a|>.f b|>.f c|>.f d|>.f e|>.f f|>.f g|>.f i|>.f j|>.f k|>.f l|>.f m|>.f n|>.f o|>.f p|>.f q|>.f r|>.f s|>.f t|>.f u|>.f v|>.f w|>.f x|>.f y|>.f z|>.f A|>.t B tv
def aGB:=fun a b c d e f g i j k l m n o p q r s t u v w x y z A B C=>jJ a|>.f b|>.f c|>.f d|>.f e|>.f f|>.f g|>.f i|>.f j|>.f k|>.f l|>.f m|>.f n|>.f o|>.f p|>.f q|>.f r|>.f s|>.f t|>.f u|>.f v|>.f w|>.f x|>.f y|>.f z|>.f A|>.f B|>.t C tv
def aGC:=fun a b c d e f g i j k l m n o p q r s t u v w x y z A B C D=>jJ a|>.f b|>.f c|>.f d|>.f e|>.f f|>.f g|>.f i|>.f j|>.f k|>.f l|>.f m|>.f n|>.f o|>.f p|>.f q|>.f r|>.f s|>.f t|>.f u|>.f v|>.f w|>.f x|>.f y|>.f z|>.f A|>.f B|>.f C|>.t D tv
def aGD:=fun a b c d e f g i j k l m n o p q r s t u v w x y z A B C D=>jJ a|>.f b|>.f c|>.f d|>.f e|>.f f|>.f g|>.f i|>.f j|>.f k|>.f l|>.f m|>.f n|>.f o|>.f p|>.f q|>.f r|>.f s|>.f t|>.f u|>.f v|>.f w|>.f x|>.f y|>.f z|>.f A|>.f B|>.f C|>.f D tv
def aB4(a:List Pat)(b:Prog)(c:Int):TS:=⟨(tf 316 19 [(0,(iP a)),(1,(.func 303 [] [(.ptr 0 0)])),(4,(nI 0)),(7,(nI (a.length:Int))),(8,(nI c))] [kc f316 52,kl f316 52,.inBlock 0,kc f316 7]),[(tf 302 9 [(4,(bV false)),(5,(iP a)),(6,(.func 303 [] [(.ptr 0 0)]))] [ko f302 6 2,kc f302 7]),(tf 284 9 [(4,(bV false)),(5,(iP a)),(6,(.func 303 [] [(.ptr 0 0)]))] [ko f284 6 2,kc f284 7])],[oC 0 [(.func 282 [(Prog.av b)] [])]],1⟩
def oV(b:Prog)(a:Node)(c:Int):TS:=⟨(tf 316 19 [(0,(iP a.pats)),(1,(.func 303 [] [(.ptr 0 0)])),(4,(nI 0)),(7,(nI (a.pats.length:Int))),(8,(nI c))] [kc f316 52,kl f316 52,.inBlock 0,kc f316 7]),[(tf 302 9 [(4,(bV false)),(5,(iP a.pats)),(6,(.func 303 [] [(.ptr 0 0)]))] [ko f302 6 2,kc f302 7]),(tf 284 9 [(4,(bV false)),(5,(iP a.pats)),(6,(.func 303 [] [(.ptr 0 0)]))] [ko f284 6 2,kc f284 7]),(tf 248 35 [(4,(bV false)),(29,(bV true)),(31,(iP a.pats)),(32,(.func 280 [] [(.ptr 1 0)]))] [ko f248 62 13,kc f248 63])],[oC 0 [(.func 280 [] [(.ptr 1 0)])],oC 1 [(iN b.nodes),(iI b.funs),(nI b.main),(iC b.cons)]],2⟩
def qW(a:List aC)(c:Int)(b:List (aC×Bool)):TS:=⟨(tf 244 21 [(0,(iS a)),(2,(bV false)),(3,(.map 0)),(7,(iS a)),(8,(nI (a.length:Int))),(9,(nI c))] [kc f244 116,kl f244 116,.inBlock 0,kc f244 15]),[],[(0,(.map (aF aB kY 0 b) b.length),true)],1⟩
def aQQ (a:List Pat)(b:Prog):=(tT 0 (start PP 284 [(iP a),(.func 282 [(Prog.av b)] [])])<|gm 27 aI a<|.W 4 1 [0] (aB4 a b 0)) tv
def aZa(b:List Pat)(c:Prog)(a:Int):=tT 0 (aB4 b c a)<|gd 5 9 (a< (b.length:Int)) (aGg 14 b a<|fun d e f g=>eU 11 282 [(Prog.av c),(.agg [(nI d),(nI e),(aB f),(iP g)])]<|fun i=>.b 6 16 (!i) (gE 17 2 (bV (!(decide (a≥0)))))<|gw 5 18 (a+1)<|.W 3 2 [0] (aB4 b c (a+1)))<|gE 17 1 (bV true)
def aQR:=fun a b c d e f g i j k l m n=>aZa a b c|>.t j d e f g k l i m|>.t n tv
def aQS:=fun a b c d e f g i j k l m n o=>aZa a b c|>.t j d e f g k l i m|>.f n o tv
def aQT:=fun a b c d=>aZa a b c|>.f d tv
def aA2(b:Prog)(a:Node):=tT 0 (start PP 248 [(Prog.av b),(Node.av a)])<|.o (gp 10 279 [(nI a.op)] (.iface 317 (.agg []))<|gm 44 aI a.pats<|eU 0 241 [(nI (a.pats.length:Int)),(nI 1),(nI 5)]<|fun c=>.b 1 11 c (gl 2 aQ a.kids<|gm 2 aI a.pats<|gw 1 18 (1+ (a.pats.length:Int))<|.b 7 24 ((a.kids.length:Int) == (1+ (a.pats.length:Int))) (eU 2 283 [(Prog.av b),(Node.av a)]<|fun d=>.b 2 29 d (gm 31 aI a.pats<|.W 4 6 [5,0] (oV b a 0))<|gE 8 5 (bV false))<|gE 13 5 (bV false))<|gE 27 5 (bV false))<|.o (gp 10 279 [(nI a.op)] (.iface 335 (.agg []))<|gm 24 aI a.pats<|gd 2 14 ((a.pats.length:Int) >0) (gE 6 2 (bV false))<|.o (.y fun c:Bool=>.y fun d:Con=>.i [rn 22,.reg (rd 5 (.ans (.len (b.cons.length:Int))::.d::.pure (bV c)::.d::.b 15 true::.d::.d::.ans (.len (a.kids.length:Int))::rd 5 (.ans (.idx (Con.av d))::rd 5 [])))] [hl Con.av b.cons,hA (Pure PP 241 [(nI a.n),(nI 0),(nI (IntKind.i64.wrap ((b.cons.length:Int) -1)))] (bV c)),hA (c=true),hl aQ a.kids,hA (0≤a.n),.a (((b.cons)[a.n.toNat]?) =some d) (cH (f:=Con.av))]<|.b 3 24 ((a.kids.length:Int) ==d.args) (eU 2 283 [(Prog.av b),(Node.av a)]<|fun f=>.b 2 29 f (gm 31 aI a.pats<|.W 4 6 [5,0] (oV b a 0)) .x)<|gE 13 5 (bV false))<|.y fun c:Bool=>.i [rn 22,.reg (rd 5 (.ans (.len (b.cons.length:Int))::.d::.pure (bV c)::.d::.b 15 false::rd 14 []))] [hl Con.av b.cons,hA (Pure PP 241 [(nI a.n),(nI 0),(nI (IntKind.i64.wrap ((b.cons.length:Int) -1)))] (bV c)),hA (c=false)]<|gE 16 5 (bV false))<|.o (.y fun e:Int=>gp 10 279 [(nI a.op)] (.iface 334 (nI e))<|gm 24 aI a.pats<|gd 2 14 ((a.pats.length:Int) >0) (gE 6 2 (bV false))<|gl 24 aQ a.kids<|.b 7 24 ((a.kids.length:Int) ==e) (eU 2 283 [(Prog.av b),(Node.av a)]<|fun d=>.b 2 29 d (gm 31 aI a.pats<|.W 4 5 [4,0] (oV b a 0))<|gE 8 4 (bV false))<|gE 13 4 (bV false))<|gp 10 279 [(nI a.op)] (.nili)<|gE 18 2 (bV false)
def aOd:=fun a b c d e f g i j k l=>aA2 a b|>.1 e c f|>.t g i|>.t j d k|>.t l tv
def aOe:=fun a b c d e f g i j k l=>aA2 a b|>.1 e c f|>.t g i|>.t j d k|>.f l tv
def aOf:=fun a b c d e f g i=>aA2 a b|>.1 d c e|>.t f g|>.f i tv
def aOg:=fun a b c d e f=>aA2 a b|>.1 d c e|>.f f tv
def aOh:=fun a b c d=>aA2 a b|>.2|>.1 c|>.t d tv
def aOi:=fun a b c d e f g i j k l m n o=>aA2 a b|>.2|>.1 f|>.f g|>.1 c d i j k l|>.t m e n|>.t o tv
def aOj:=fun a b c d e f g i j k l=>aA2 a b|>.2|>.1 e|>.f f|>.1 c d g i j k|>.f l tv
def aOk:=fun a b c d e f g=>aA2 a b|>.2|>.1 d|>.f e|>.2 c f g tv
def aOl:=fun a b c d e=>aA2 a b|>.2|>.2|>.1 c d|>.t e tv
def aLw:=fun a b c d e f g i j=>aA2 a b|>.2|>.2|>.1 c e|>.f f|>.t g d i|>.t j tv
def aLx:=fun a b c d e f g i j=>aA2 a b|>.2|>.2|>.1 c e|>.f f|>.t g d i|>.f j tv
def aLy:=fun a b c d e f=>aA2 a b|>.2|>.2|>.1 c d|>.f e|>.f f tv
def aLz:=fun a b c=>aA2 a b|>.2|>.2|>.2 c tv
def aUf(c:Prog)(b:Node)(a:Int):=tT 0 (oV c b a)<|gd 5 9 (a< (b.pats.length:Int)) (aGg 14 b.pats a<|fun d e f g=>gpI 20 281 [(.agg [(nI d),(nI e),(aB f),(iP g)]),(nI 12)]<|fun i=>gd 2 7 (i≤12) (eU 2 282 [(Prog.av c),(.agg [(nI d),(nI e),(aB f),(iP g)])]<|fun j=>.b 11 16 (!j) (gE 22 4 (bV (!(decide (a≥0)))))<|gw 5 18 (a+1)<|.W 3 4 [0,1] (oV c b (a+1)))<|gE 36 4 (bV (!(decide (a≥0)))))<|gE 22 2 (bV true)
def aOm:=fun a b c d e f g i j k l m n o p q=>aUf a b c|>.t k d e f g l m i n|>.t o j p|>.t q tv
def aOn:=fun a b c d e f g i j k l m n o p q r=>aUf a b c|>.t k d e f g l m i n|>.t o j p|>.f q r tv
def aOo:=fun a b c d e f g i j k l m n=>aUf a b c|>.t j d e f g k l i m|>.f n tv
def aOp:=fun a b c d=>aUf a b c|>.f d tv
def aIS (a:List aC):=(tT 0 (start PP 244 [(iS a)])<|.i [rn 7,.mset 0 (aF aB kY 0 ([] :List (aC×Bool))) ([] :List (aC×Bool)).length] [hr (aF aB kY 0 ([] :List (aC×Bool))),hr (length ([] :List (aC×Bool)))]<|gl 6 aB a<|.W 4 1 [0] (qW a 0 ([] :List (aC×Bool)))) ⟨aM (fun _=>rfl) (fun _=>rfl) _ _ _,trivial⟩
def aZS(b:List aC)(d:Int)(a:List (aC×Bool)):=tT 0 (qW b d a)<|gd 5 10 (d< (b.length:Int)) (gX aB 6 b d<|fun c=>.i [rn 6,.mput (aF aB kY 0 (bP c true a)) (bP c true a).length] [.q (p:=qI (aF aB kY 0 a) a.length (aB c) (kY true) =some ((aF aB kY 0 (bP c true a)),length (bP c true a))) (aGe gB _ _ _)]<|gw 4 15 (d+1)<|.W 3 1 [0] (qW b (d+1) (bP c true a)))<|.i [rn 6,sI 17 (a.length:Int)] [.q (p:=(nI ((aF aB kY 0 a).length:Int)) = (nI (a.length:Int))) (aPM _ _ _)]<|gl 1 aB b<|gE 4 1 (bV ((a.length:Int) == (b.length:Int)))
def aIT:=fun a b c d e f g i=>aZS a b c|>.t e d f g i ⟨aM (fun _=>rfl) (fun _=>rfl) _ _ _,trivial⟩
def aIU:=fun a b c d=>aZS a b c|>.f d tv
def aB5(a:List Node)(b:Prog)(c:Int):TS:=⟨(tf 194 19 [(0,(iN a)),(1,(.func 278 [] [(.ptr 0 0)])),(4,(nI 0)),(7,(nI (a.length:Int))),(8,(nI c))] [kc f194 52,kl f194 52,.inBlock 0,kc f194 7]),[(tf 124 9 [(4,(bV false)),(5,(iN a)),(6,(.func 278 [] [(.ptr 0 0)]))] [ko f124 6 2,kc f124 7]),(tf 247 9 [(4,(bV false)),(5,(iN a)),(6,(.func 278 [] [(.ptr 0 0)]))] [ko f247 6 2,kc f247 7])],[oC 0 [(.func 248 [(Prog.av b)] [])]],1⟩
def aB6(a:List Con)(b:Int):TS:=⟨(tf 223 19 [(0,(iC a)),(1,(.func 277 [] [(.ptr 0 0)])),(4,(nI 0)),(7,(nI (a.length:Int))),(8,(nI b))] [kc f223 52,kl f223 52,.inBlock 0,kc f223 7]),[(tf 276 9 [(4,(bV false)),(5,(iC a)),(6,(.func 277 [] [(.ptr 0 0)]))] [ko f276 6 2,kc f276 7]),(tf 242 9 [(4,(bV false)),(5,(iC a)),(6,(.func 277 [] [(.ptr 0 0)]))] [ko f242 6 2,kc f242 7])],[oC 0 [(.func 243 [] [])]],1⟩
def aB7(a:List Int)(b:Int):TS:=⟨(tf 304 19 [(0,(.ilst 1 (jI a) true)),(1,(.func 286 [] [(.ptr 0 0)])),(4,(nI 0)),(7,(nI (a.length:Int))),(8,(nI b))] [kc f304 52,kl f304 52,.inBlock 0,kc f304 7]),[(tf 285 9 [(4,(bV false)),(5,(.ilst 1 (jI a) true)),(6,(.func 286 [] [(.ptr 0 0)]))] [ko f285 6 2,kc f285 7]),(tf 249 9 [(4,(bV false)),(5,(.ilst 1 (jI a) true)),(6,(.func 286 [] [(.ptr 0 0)]))] [ko f249 6 2,kc f249 7])],[oC 0 [(.func 250 [] [])]],1⟩
def aB8(a:List Con)(c:Int)(b:List aC):TS:=⟨(tf 245 22 [(1,(.func 246 [] [])),(4,.nils),(5,(.gl 0 1 0 b.length false)),(8,(iC a)),(9,(nI (a.length:Int))),(10,(nI c))] [kc f245 116,kl f245 116,.inBlock 0,kc f245 15]),[],[oL 0 1 (map aB b)],1⟩
def qX(a:Prog)(c:Int)(b:List Int):TS:=⟨(tf 200 128 [kp 1 0,(2,(bV false)),(3,(nI (a.nodes.length:Int))),(4,(.gl 1 1 0 b.length true)),(77,(iI a.funs)),(78,(nI (a.funs.length:Int))),(79,(nI c))] [kc f200 1012,kl f200 1012,.inBlock 0,kc f200 127]),[],[oC 0 [(iN a.nodes),(iI a.funs),(nI a.main),(iC a.cons)],oL 1 1 (jI b)],2⟩
def mL(a:Prog)(b:List Int)(c:Int):TS:=⟨(tf 200 128 [(2,(bV false)),(3,(nI (a.nodes.length:Int))),(4,(.gl 0 1 0 b.length true)),(97,(iN a.nodes)),(98,(nI (a.nodes.length:Int))),(99,(nI c))] [kc f200 2036,kl f200 2036,.inBlock 2,kc f200 255]),[],[oL 0 1 (jI b)],1⟩
def qY(a:Prog)(c:List Int)(d:Int)(b:List Int)(e f g:Int):TS:=⟨(tf 200 128 [(2,(bV false)),(3,(nI (a.nodes.length:Int))),(4,(.gl 0 1 0 b.length true)),(7,(nI f)),(97,(iN a.nodes)),(98,(nI (a.nodes.length:Int))),(99,(nI g)),(105,(iI c)),(106,(nI d)),(107,(nI e))] [kc f200 521420,kl f200 521420,.inBlock 4,.inBlock 3,kc f200 16295,kl f200 2036,.inBlock 2,kc f200 255]),[],[oL 0 1 (jI b)],1⟩
def aQU (a:List Node)(b:Prog):=(tT 0 (start PP 247 [(iN a),(.func 248 [(Prog.av b)] [])])<|gl 27 Node.av a<|.W 4 1 [0] (aB5 a b 0)) tv
def aZb(b:List Node)(c:Prog)(a:Int):=tT 0 (aB5 b c a)<|gd 5 9 (a< (b.length:Int)) (gX Node.av 14 b a<|fun d=>eU 11 248 [(Prog.av c),(Node.av d)]<|fun e=>.b 6 16 (!e) (gE 17 2 (bV (!(decide (a≥0)))))<|gw 5 18 (a+1)<|.W 3 2 [0] (aB5 b c (a+1)))<|gE 17 1 (bV true)
def aQV:=fun a b c d e f g i j k=>aZb a b c|>.t f d g i e j|>.t k tv
def aQW:=fun a b c d e f g i j k l=>aZb a b c|>.t f d g i e j|>.f k l tv
def aQX:=fun a b c d=>aZb a b c|>.f d tv
def aQY (a:List Con):=(tT 0 (start PP 242 [(iC a),(.func 243 [] [])])<|gl 27 Con.av a<|.W 4 1 [0] (aB6 a 0)) tv
def aZc(b:List Con)(a:Int):=tT 0 (aB6 b a)<|gd 5 9 (a< (b.length:Int)) (gX Con.av 14 b a<|fun c=>eU 11 243 [(.agg [(aB c.name),(nI c.args)])]<|fun d=>.b 6 16 (!d) (gE 17 2 (bV (!(decide (a≥0)))))<|gw 5 18 (a+1)<|.W 3 2 [0] (aB6 b (a+1)))<|gE 17 1 (bV true)
def aQZ:=fun a b c d e f g i j=>aZc a b|>.t e c f g d i|>.t j tv
def aQ0:=fun a b c d e f g i j k=>aZc a b|>.t e c f g d i|>.f j k tv
def aQ1:=fun a b c=>aZc a b|>.f c tv
def aQ2 (a:List Int):=(tT 0 (start PP 249 [(.ilst 1 (jI a) true),(.func 250 [] [])])<|gl 27 aQ a<|.W 4 1 [0] (aB7 a 0)) tv
def aZd(b:List Int)(a:Int):=tT 0 (aB7 b a)<|gd 5 9 (a< (b.length:Int)) (gX aQ 14 b a<|fun c=>.b 29 16 (!(c==1)) (gE 17 1 (bV (!(decide (a≥0)))))<|gw 5 18 (a+1)<|.W 3 1 [0] (aB7 b (a+1)))<|gE 17 1 (bV true)
def aQ3:=fun a b c d e f g=>aZd a b|>.t d c e f|>.t g tv
def aQ4:=fun a b c d e f g i=>aZd a b|>.t d c e f|>.f g i tv
def aQ5:=fun a b c=>aZd a b|>.f c tv
def aQ6 (a:List Con):=(tT 0 (start PP 245 [(iC a),(.func 246 [] [])])<|gl 12 Con.av a<|.i [rn 4,.nilL 5 1] []<|gu 0 0 (map aB ([] :List aC))<|gs 0 5 (.gl 0 1 0 ([] :List aC).length false)<|.W 0 1 [0] (aB8 a 0 ([] :List aC))) ⟨kk,trivial⟩
def aZT(c:List Con)(a:Int)(b:List aC):=tT 0 (aB8 c a b)<|gd 5 11 (a< (c.length:Int)) (gX Con.av 6 c a<|fun d=>ga 23 aB b [d.name]<|gw 5 20 (a+1)<|.W 3 5 [4] (aB8 c (a+1) (b++ [d.name])))<|gz 8 4 0 1 aB b false<|gE 0 1 (iS b)
def aQ7:=fun a b c d e f g i j=>aZT a b c|>.t e d f g i j ⟨kk,trivial⟩
def aQ8:=fun a b c d=>aZT a b c|>.f d tv
def aGE(a:Prog):=tT 0 (start PP 200 [(Prog.av a)])<|gl 10 Node.av a.nodes<|gd 8 17 ((a.nodes.length:Int) >300) (gE 40 1 (bV false))<|gl 3 aQ a.funs<|gd 3 24 ((a.funs.length:Int) <1) (gE 33 1 (bV false))<|gl 3 aQ a.funs<|gd 4 32 ((a.funs.length:Int) > (a.nodes.length:Int)) (gE 25 1 (bV false))<|gl 3 Con.av a.cons<|gd 3 39 ((a.cons.length:Int) >20) (gE 18 1 (bV false))<|gl 6 aQ a.funs<|gw 1 47 ((a.funs.length:Int) - (1:Int))<|eU 0 241 [(nI a.main),(nI 0),(nI ((a.funs.length:Int) - (1:Int)))]<|fun c=>.b 3 50 (!c) (gE 6 1 (bV false))<|eU 8 242 [(iC a.cons),(.func 243 [] [])]<|fun d=>.b 2 56 (!d) (gE 23 1 (bV false))<|.y fun b:List aC=>gp 3 245 [(iC a.cons),(.func 246 [] [])] (iS b)<|eU 0 244 [(iS b)]<|fun e=>.b 3 64 (!e) (gE 15 1 (bV false))<|eU 5 247 [(iN a.nodes),(.func 248 [(Prog.av a)] [])]<|fun f=>.b 3 72 (!f) (gE 6 1 (bV false))<|.i [rn 5,.mk a.nodes.length] [hr ((a.nodes.length:Nat) :Int),hr ((a.nodes.length:Nat) :Int),hA (a.nodes.length<100000)]<|.i [.lset 1 (jI (replicate a.nodes.length (0:Int)))] [.q (p:=replicate a.nodes.length (aQ (0:Int)) = (jI (replicate a.nodes.length (0:Int)))) (aMx _ _ _)]<|.i [.set 74 (.gl 1 1 0 (replicate a.nodes.length (0:Int)).length true)] [.q (p:=(AV.gl 1 1 0 a.nodes.length true) = (.gl 1 1 0 (replicate a.nodes.length (0:Int)).length true)) (bQ (List.length_replicate ..).symm)]<|gl 8 aQ a.funs<|.W 4 2 [0,1] (qX a 0 (replicate a.nodes.length (0:Int)))
def aIV:=fun a b=>aGE a|>.t b tv
def aIW:=fun a b c=>aGE a|>.f b|>.t c tv
def aIX:=fun a b c d=>aGE a|>.f b|>.f c|>.t d tv
def aIY:=fun a b c d e=>aGE a|>.f b|>.f c|>.f d|>.t e tv
def aIZ:=fun a b c d e f g i j=>aGE a|>.f c|>.f d|>.f e|>.f f g b i|>.t j tv
def aI0:=fun a b c d e f g i j k l m=>aGE a|>.f d|>.f e|>.f f|>.f g i b j|>.f k c l|>.t m tv
def aI1:=fun a b c d e f g i j k l m n o p q r=>aGE a|>.f f|>.f g|>.f i|>.f j k b l|>.f m c n|>.f o d p e q|>.t r tv
def aI2:=fun a b c d e f g i j k l m n o p q r s t u=>aGE a|>.f g|>.f i|>.f j|>.f k l b m|>.f n c o|>.f p d q e r|>.f s f t|>.t u tv
def aI3:=fun a b c d e f g i j k l m n o p q r s t u v=>aGE a|>.f g|>.f i|>.f j|>.f k l b m|>.f n c o|>.f p d q e r|>.f s f t|>.f u v ⟨kk,trivial⟩
def aZe(d:Prog)(e:Int)(a:List Int):=tT 0 (qX d e a)<|gd 5 80 (e< (d.funs.length:Int)) (gX aQ 6 d.funs e<|fun b=>gw 9 85 ((d.nodes.length:Int) -1)<|eU 0 241 [(nI b),(nI 0),(nI ((d.nodes.length:Int) -1))]<|fun f=>.b 2 87 (!f) (gE 6 2 (bV false))<|.i [rn 5,.ans (.ix)] [hA (0≤b),hA (b< (a.length:Int))]<|.y fun c:Int=>gj aQ 0 a b.toNat c<|gw 1 92 (c+1)<|.i [.ans (.ix)] [hA (0≤b),hA (b< (a.length:Int))]<|.i [.st (aQ c) (aQ (c+1))] [.a (((a)[b.toNat]?) =some c) (eZ (f:=aQ)),hr (some (aQ (c+1)))]<|.i [.lset 1 (jI (set a b.toNat (c+1)))] [.q (p:=(jI a).set (0+b.toNat) (aQ (c+1)) = (jI (set a b.toNat (c+1)))) (mI _ _ _ _)]<|.i [.set 4 (.gl 1 1 0 (set a b.toNat (c+1)).length true)] [.q (p:=(AV.gl 1 1 0 a.length true) = (.gl 1 1 0 (set a b.toNat (c+1)).length true)) (bQ (length_set ..).symm)]<|.i [.set 88 (.gl 1 1 0 (set a b.toNat (c+1)).length true)] [.q (p:=(AV.gl 1 1 0 a.length true) = (.gl 1 1 0 (set a b.toNat (c+1)).length true)) (bQ (length_set ..).symm)]<|gw 4 94 (e+1)<|.W 3 2 [0,1] (qX d (e+1) (set a b.toNat (c+1))))<|gl 8 Node.av d.nodes<|.W 4 2 [1] (mL d a 0)
def aI4:=fun a b c d e f g i j k l=>aZe a b c|>.t f d g i j e k|>.t l tv
def aI5:=fun d e f g i j k l m n o p a b c q r=>aZe d e f|>.t k g l m n i o|>.f p a b j c q a b c r ⟨kk,trivial⟩
def aI6:=fun a b c d=>aZe a b c|>.f d ⟨kk,trivial⟩
def aZU(c:Prog)(d:List Int)(a:Int):=tT 0 (mL c d a)<|gd 5 100 (a< (c.nodes.length:Int)) (gX Node.av 7 c.nodes a<|fun b=>gl 9 aQ b.kids<|.W 4 2 [0] (qY c b.kids (b.kids.length:Int) d 0 a a))<|gz 5 126 0 1 aQ d true<|eU 0 249 [(.ilst 1 (jI d) true),(.func 250 [] [])]<|fun b=>gE 3 1 (bV b)
def aI7:=fun a b c d e f g=>aZU a b c|>.t e d f g ⟨kk,trivial⟩
def aI8:=fun a b c d e f=>aZU a b c|>.f e d f tv
def aZf(d:Prog)(i:List Int)(j:Int)(a:List Int)(e f g:Int):=tT 0 (qY d i j a e f g)<|gd 5 108 (e<j) (gX aQ 6 i e<|fun b=>gw 9 113 (f+1)<|gw 2 115 ((d.nodes.length:Int) -1)<|eU 0 241 [(nI b),(nI (f+1)),(nI ((d.nodes.length:Int) -1))]<|fun k=>.b 2 117 (!k) (gE 6 1 (bV false))<|.i [rn 5,.ans (.ix)] [hA (0≤b),hA (b< (a.length:Int))]<|.y fun c:Int=>gj aQ 0 a b.toNat c<|gw 1 122 (c+1)<|.i [.ans (.ix)] [hA (0≤b),hA (b< (a.length:Int))]<|.i [.st (aQ c) (aQ (c+1))] [.a (((a)[b.toNat]?) =some c) (eZ (f:=aQ)),hr (some (aQ (c+1)))]<|.i [.lset 0 (jI (set a b.toNat (c+1)))] [.q (p:=(jI a).set (0+b.toNat) (aQ (c+1)) = (jI (set a b.toNat (c+1)))) (mI _ _ _ _)]<|.i [.set 4 (.gl 0 1 0 (set a b.toNat (c+1)).length true)] [.q (p:=(AV.gl 0 1 0 a.length true) = (.gl 0 1 0 (set a b.toNat (c+1)).length true)) (bQ (length_set ..).symm)]<|.i [.set 118 (.gl 0 1 0 (set a b.toNat (c+1)).length true)] [.q (p:=(AV.gl 0 1 0 a.length true) = (.gl 0 1 0 (set a b.toNat (c+1)).length true)) (bQ (length_set ..).symm)]<|gw 4 124 (e+1)<|.W 3 1 [0] (qY d i j (set a b.toNat (c+1)) (e+1) f g))<|gw 5 125 (g+1)<|.W 3 1 [0] (mL d a (g+1))
def aI9:=fun a b c d e f g i j k l m n o p q=>aZf a b c d e f g|>.t k i l m n o j p|>.t q tv
def aJa:=fun d e f g i j k l m n o p q r s t u a b c v w=>aZf d e f g i j k|>.t o l p q r s m t|>.f u a b n c v a b c w ⟨kk,trivial⟩
def aJb:=fun a b c d e f g i j=>aZf a b c d e f g|>.f i j ⟨kk,trivial⟩
def aZV(a:Prog):=tT 0 (start PP 138 [(Prog.av a)])<|eU 10 200 [(Prog.av a)]<|fun b=>.b 2 6 (!b) (gE 6 1 (nI 2))<|gE 7 1 (nI 0)
def aLA:=fun a b c d=>aZV a b c|>.t d tv
def aLB:=fun a b c d=>aZV a b c|>.f d tv
theorem eO (n lo hi:Int) :Pure PP 241 [.int .i64 n,.int .i64 lo,.int .i64 hi] (.bool (dB n lo hi)) :=by
 refine aP (by kernel_rfl) rfl rfl ?_;by_cases h:n≥lo
 · have e:dB n lo hi=decide (n≤hi) :=by unfold dB;rw [decide_eq_true (show lo≤n from h),Bool.true_and]
   rw [e];exact aUc n lo hi (decide_eq_true h)
 · have e:dB n lo hi=false:=by unfold dB;rw [decide_eq_false (show ¬lo≤n from h),Bool.false_and]
   rw [e];exact aUd n lo hi (decide_eq_false h)
theorem aA3 (n:Int) :Pure PP 301 [.int .i64 n] (.bool (dB n (-1000000000) 1000000000)) :=
 aP (by kernel_rfl) rfl rfl (aQC n _ (eO n _ _))
theorem aOq (b:ByteArray)(i:Nat)(h:128≤ (b.get! i).toNat) :128≤ (Utf8.decode b i).1:=by
 unfold Utf8.decode Utf8.runeError;simp only [add_zero];rw [if_neg (show ¬ (b.get! i).toNat<0x80 by omega)]
 repeat' split
 all_goals first
  |assumption
  | (simp_all;done)
  | (rename_i q;simp only [Bool.and_eq_true,decide_eq_true_eq,ge_iff_le]at q;simp only;omega)
theorem aUg {s:aC}{i:Nat}{c:UInt8}(h:s[i]?=some c) :∃r d,aJ6 (length s) (aA s) i=some (r,d) ∧ (c.toNat<128→r=c.toNat∧d=1) ∧ (128≤c.toNat→128≤r) :=by
 have hi:= (List.getElem?_eq_some_iff.1 h).1;have hb:=byte_at h;unfold aJ6;have e1:blt i (length s) =true:=by rw [cF];exact decide_eq_true hi
 have e2:mod (div (aA s) (pow 256 i)) 256=c.toNat:=hb;rw [e1,e2];simp only [cond];by_cases k:c.toNat<128
 · have e3:blt c.toNat 128=true:=by rw [cF];exact decide_eq_true k
   rw [e3];exact⟨_,_,rfl,fun _=> ⟨rfl,rfl⟩,fun g=>by omega⟩
 · have e3:blt c.toNat 128=false:=by rw [cF];exact decide_eq_false k
   rw [e3];refine⟨_,_,rfl,fun g=>by omega,fun _=>?_⟩;have hn:aO (length s) (aA s) =s:=dN s;rw [hn];have hg: ((⟨⟨s⟩⟩ :ByteArray).get! (i+0)).toNat=c.toNat:=by
    simp only [add_zero,ByteArray.get!];have: (⟨s⟩ :Array UInt8)[i]! =c:=by
     rw [Array.getElem!_eq_getD,Array.getD_eq_getD_getElem?,show(⟨s⟩ :Array UInt8) =s.toArray from rfl,List.getElem?_toArray,h];rfl
    rw [this]
   exact aOq _ _ (by rw [add_zero]at hg;rw [hg];omega)
theorem aBH (s:aC) :∀ (t:aC) (i:Nat),s.drop i=t→Ends PP 0 (vD s i).as (.ret (.bool (fH t))) (aE [] 0)
 | [],i,h=>aLq s i (aT h)
 | c :: t,i,h=>by
  obtain⟨h1,h2,h3⟩ :=aR h;obtain⟨r,d,q1,q2,q3⟩ :=aUg h1;by_cases g1:c.toNat<97
  · have:= (q2 (by omega)).1;exact Ends.eqv (aLn s i r d h3 q1 sd) (by simp [fH,qQ];omega)
  · by_cases g2:122<c.toNat
    · have hr:122<r:=by
       by_cases k:c.toNat<128
       ·have:= (q2 k).1;omega
       ·have:=q3 (by omega);omega
      exact Ends.eqv (aLo s i r d h3 q1 sd sd) (by simp [fH,qQ];omega)
    · obtain⟨rfl,rfl⟩ :=q2 (by omega);refine(aLp s i _ _ h3 q1 sd sd).ends ?_;have e:qQ c=true:=by simp [qQ];omega
      exact Ends.eqv (aBH s t (i+1) h2) (by simp [fH,e])
theorem aBI (s:aC) :Pure PP 164 [aB s] (.bool (fH s)) :=
 aP (by kernel_rfl) rfl rfl ((aLm s).ends (aBH s s 0 rfl))
theorem aJc (s:aC) :Pure PP 231 [aB s] (.bool (fU s)) :=by
 refine aP (by kernel_rfl) rfl rfl ?_
 match s with
 | [] =>exact aLv [] rfl
 | c ::t=>
  have h0: (!(bB (length (c::t)) (aA (c::t)) 0 0)) =true:=by rw [cQ];rfl
  by_cases g0: (c::t).length≤8
  · have g0': (decide (((length (c::t) :Nat) :Int) ≤ (8:Int))) =true:=sd;by_cases g1:65≤c.toNat
    · by_cases g2:c.toNat≤90
      ·exact Ends.eqv (aLr (c::t) c _ h0 g0' rfl sd sd (by simp) (aBI t)) (by simp only [fU,decide_eq_true g0,decide_eq_true g1,decide_eq_true g2,Bool.true_and])
      ·exact Ends.eqv (aLs (c::t) c h0 g0' rfl sd sd) (by simp only [fU,decide_eq_false g2,Bool.and_false,Bool.false_and])
    ·exact Ends.eqv (aLt (c::t) c h0 g0' rfl sd) (by simp only [fU,decide_eq_false g1,Bool.and_false,Bool.false_and])
  ·exact Ends.eqv (aLu (c::t) h0 sd) (by simp only [fU,decide_eq_false g0,Bool.false_and])
theorem aOr (c:Con) :Pure PP 243 [Con.av c] (.bool (fJ c)) :=by
 refine aP (by kernel_rfl) rfl rfl ?_;have hg:=aJc c.name;cases k:fU c.name with
 |false=>rw [k]at hg;exact Ends.eqv (aQF c false hg rfl) (by simp [fJ,k])
 |true=>rw [k]at hg;exact Ends.eqv (aQE c true _ hg rfl (eO _ _ _)) (by simp [fJ,k])
def lF (p:Prog)(x:Node) :Bool:=if x.op=14 then true else dC p x.op x.n
theorem aOs (p:Prog)(x:Node)(hf:p.funs.length≤1000) :Ends PP 0 (start PP 283 [Prog.av p,Node.av x]).as (.ret (.bool (lF p x))) (aE [] 0) :=by
 cases hb1: (x.op== (1:Int))with
 | true=>
  exact Ends.eqv (aIC p x  (dB (x.n) (-1000000000) 1000000000) hb1 (aA3 (x.n))) (by simp_all [lF,dC] <;>rfl)
 | false=>
  cases hb2: (x.op== (2:Int))with
  | true=>
   exact Ends.eqv (aID p x  (dB (x.n) 0 1) hb1 hb2 (eO (x.n) 0 1)) (by simp_all [lF,dC] <;>rfl)
  | false=>
   cases hb3: (x.op== (24:Int))with
   | true=>
    exact Ends.eqv (aIE p x  (dB (x.n) 0 3) hb1 hb2 hb3 (eO (x.n) 0 3)) (by simp_all [lF,dC] <;>rfl)
   | false=>
    cases hb4: (x.op== (4:Int))with
    | true=>
     exact Ends.eqv (aIF p x  (dB (x.n) (0- ((length p.funs:Nat) :Int)) 29) hb1 hb2 hb3 hb4 sdI (eO (x.n) (0- ((length p.funs:Nat) :Int)) 29)) (by simp_all [lF,dC] <;>rfl)
    | false=>
     cases hb5: (x.op== (14:Int))with
     | true=>
      exact Ends.eqv (aIG p x   hb1 hb2 hb3 hb4 hb5) (by simp_all [lF,dC] <;>rfl)
     | false=>
      exact Ends.eqv (aIH p x   hb1 hb2 hb3 hb4 hb5) (by simp_all [lF,dC] <;>rfl)
theorem aGF (p:Prog)(x:Node)(hf:p.funs.length≤1000) :Pure PP 283 [Prog.av p,Node.av x] (.bool (lF p x)) :=
 aP (by kernel_rfl) rfl rfl (aOs p x hf)
mutual
def mM :Pat→Int→Int
 | .mk _ _ _ ps,most=>kB ps most 1
def kB :List Pat→Int→Int→Int
 | [],_,n=>n
 |p::ps,most,n=>if n>most then n else kB ps most (n+mM p (most-n))
end
mutual
theorem aDh :∀ (p:Pat) (m:Int),0≤m→1≤mM p m∧mM p m≤m+1
 | .mk _ _ _ ps,m,h=>by rw [mM];exact aER ps m 1 (by omega) (by omega)
theorem aER :∀ (ps:List Pat) (m n:Int),1≤n→n≤m+1→1≤kB ps m n∧kB ps m n≤m+1
 | [],m,n,h1,h2=>by rw [kB];omega
 | p ::ps,m,n,h1,h2=>by
  rw [kB];split
  ·omega
  · have a:=aDh p (m-n) (by omega);exact aER ps m _ (by omega) (by omega)
end
mutual
theorem aJd :∀ (p:Pat) (m:Int),0≤m→ ((cL p:Int) ≤m→mM p m=cL p) ∧ (m<cL p→m<mM p m)
 | .mk _ _ _ ps,m,h=>by
  have:=aES ps m 1 (by omega);simp only [mM,cL];constructor
  ·intro g;have:=this.1 (by omega);omega
  ·intro g;exact this.2 (by omega)
theorem aES :∀ (ps:List Pat) (m n:Int),n≤m+1→ (n+bC ps≤m→kB ps m n=n+bC ps) ∧ (m<n+bC ps→m<kB ps m n)
 | [],m,n,h=>by simp only [kB,bC];omega
 | p ::ps,m,n,h=>by
  simp only [kB,bC];split
  ·omega
  · rename_i k;have a:=aJd p (m-n) (by omega);have l:=aDh p (m-n) (by omega);have b:=aES ps m (n+mM p (m-n)) (by omega);constructor
    · intro g;have:=a.1 (by omega);have:=b.1 (by omega);omega
    · intro g;refine b.2 ?_;by_cases q: (cL p:Int) ≤m-n
      ·have:=a.1 q;omega
      ·have:=a.2 (by omega);omega
end
theorem aET (p:Pat)(m:Int)(h:0≤m) :mM p m≤m↔ (cL p:Int) ≤m:=by
 have:=aJd p m h;constructor
 · intro g;by_cases k: (cL p:Int) ≤m
   ·exact k
   ·have:=this.2 (by omega);omega
 ·intro g;have:=this.1 g;omega
theorem aDi (f n:Int)(s:aC)(ps:List Pat)(m:Int)(hm:m≤1000)(ih:∀p∈ps,∀m:Int,0≤m→m≤1000→Pure PP 281 [Pat.av p,.int .i64 m] (.int .i64 (mM p m))) :
  ∀ (t:List Pat) (i:Nat) (k:Int),ps.drop i=t→ (i:Int) +1≤k→k≤m+1→Ends PP 0 (aAf f n s ps m k (i:Int)).as (.ret (.int .i64 (kB t m k))) (aE [] 0)
 | [],i,k,h,h1,h2=>by
  have:=aT h;rw [kB];exact aN7 f n s ps m k i sd
 | .mk f' n' s' ps'::t,i,k,h,h1,h2=>by
  obtain⟨g1,g2,g3⟩ :=aR h;rw [kB];split
  ·exact aN5 f n s ps m k i f' n' s' ps' sd sd sd sd
  · rename_i hk;have l:=aDh (.mk f' n' s' ps') (m-k) (by omega);refine(aN6 f n s ps m k i f' n' s' ps' _ sd sd sd sd sd (ih (.mk f' n' s' ps') (mem_of_getElem? g1) (m-k) (by omega) (by omega)) sd sd).ends ?_;exact aDi f n s ps m hm ih t (i+1) _ g2 (by omega) (by omega)
mutual
theorem aDj :∀ (p:Pat) (m:Int),0≤m→m≤1000→Pure PP 281 [Pat.av p,.int .i64 m] (.int .i64 (mM p m))
 | .mk f n s ps,m,h0,h1=>by
  refine aP (by kernel_rfl) (by simp [keylessL,mJ,keyless]) rfl ?_;rw [mM];refine(aN4 f n s ps m).ends ?_;exact aDi f n s ps m h1 (aEU ps) ps 0 1 rfl (by omega) (by omega)
theorem aEU :∀ (ps:List Pat),∀p∈ps,∀m:Int,0≤m→m≤1000→Pure PP 281 [Pat.av p,.int .i64 m] (.int .i64 (mM p m))
 | [],p,hp,_,_,_=>by cases hp
 | q::ps,p,hp,m,h0,h1=>by
  rcases List.mem_cons.1 hp with e|hp
  ·rw [e];exact aDj q m h0 h1
  ·exact aEU ps p hp m h0 h1
end
end
end Go.Hb
