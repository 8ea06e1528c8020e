/- A machine on abstract values, its soundness, ways, plain laws. -/
import Derived.Test.YtfaikcecgpcimaaGreatHF
set_option linter.defProp false
set_option linter.unusedVariables false
set_option linter.unusedSimpArgs false
set_option linter.unusedSectionVars false
set_option maxRecDepth 100000
set_option maxHeartbeats 2000000
namespace Go.Hb
open AV (ilst int keyless keylessL str)
open List (all_nil drop length length_set map map_set mem_of_getElem? replicate set)
open Nat (add_zero blt div mod pow)
open Go.Proofs Tryz
noncomputable section
section
variable {P :Program}
theorem throws_at {f : Nat} {args : List AV} {ch : List (AV×Bool)}(hb:nT P f=true)(hk:keylessL args=true)(hv:∀x∈ch,keyless x.1=true)(he:Ends P 0 (start P f args).as (.pan ch) (aG [] 0)) :aHs P f args ch:=fun h=>by
 unfold nT at hb;split at hb
 · rename_i fn hf;split at hb
   · rename_i c hc;have hg:dO P h (.enter f args) =some ⟨f,dG .leaf 0 args,max fn.ntmps args.length,[.code c],[],.run,.normal,none⟩ :=by simp [dO,cO,hf,hc]
     refine⟨_,hg,fun hm E fr ccs w fr' fs r cl base=>?_⟩;simp only at fs;rw [fs.nil_inv];have f1:FR E.p (start P f args).as.fr fr:=by
      have e1: (start P f args).as.fr= ⟨f,mkT ((List.range args.length).zip args),max fn.ntmps args.length,[.code c],[],.run,.normal,none⟩ :=by simp [start,hf,hc,TS.as,TF.fr]
      rw [e1];refine⟨fr'.fn,⟨fr'.tm.1,fun t a e=>?_⟩,?_,?_,fr'.mode,fr'.kind,?_⟩
      · have h1:=aD4 (aAo e);have hlt:= (List.getElem?_eq_some_iff.1 h1).1;have h2: (dG .leaf 0 args).at t=some a:=by
         unfold dG;rw [bY,if_pos hlt];exact h1
        obtain⟨cv,g1,g2⟩ :=fr'.tm.2 t a h2;exact⟨cv,g1,eG (keylessL_mem.1 hk a (mem_of_getElem? h1)) g2⟩
      · have:=fr'.todo;simpa [IRs,IR]using this
      · have:=fr'.defers;simpa [DRs]using this
      · have:=fr'.round;simpa [RR]using this
     have e2 : (start P f args).as.cs = [] := by unfold start;split; · split<;>rfl
                                                 ·rfl
     have e3 : (start P f args).as.h = ⟨.leaf, 0⟩ := by unfold start;split; · split<;>rfl
                                                        ·rfl
     obtain⟨cl',w',E',g1,⟨cv,rfl,g2⟩,g3,g4⟩ :=he (Nat.zero_le _) E.p fr [] w f1 (by rw [e2];rfl) (by rw [e3];exact aD3 r) cl base;rw [e3]at g4;obtain⟨q1,q2⟩ :=aD5 r g3 g4;exact⟨_,w',_,g1,⟨cv,rfl,CR.of_p (E:= ⟨E.loc,E'.imm⟩) (show CR (Emb.p ⟨E.loc,E'.imm⟩) ch cv from aAs (E:=E') hv g2)⟩,q1,q2⟩
   ·cases hb
 ·cases hb
end
inductive Typ where
 |mk (sort n:Int) (text:aC) (parts:List Typ)
mutual
def Typ.av :Typ→AV
 | .mk f n t ps=>.agg [.int .i64 f,.int .i64 n,aA t,.ilst 4 (Typs.av ps) false]
def Typs.av :List Typ→List AV
 | [] =>[]
 |p::ps=>Typ.av p::Typs.av ps
end
inductive Term where
 |mk (op n:Int) (text:aC) (kids:List Term) (pats:List Pat)
mutual
def Term.av :Term→AV
 | .mk o n t ks ps=>.agg [.int .i64 o,.int .i64 n,aA t,.ilst 5 (Terms.av ks) false,.ilst 4 (Pats.av ps) false]
def Terms.av :List Term→List AV
 | [] =>[]
 |p::ps=>Term.av p::Terms.av ps
end
structure ConD where
 name:aC
 args:List Typ
def ConD.av (c:ConD) :AV:=.agg [aA c.name,.ilst 4 (Typs.av c.args) false]
structure DataD where
 name:aC
 cons:List ConD
def DataD.av (d:DataD) :AV:=.agg [aA d.name,.ilst 2 (map ConD.av d.cons) false]
inductive FunD where
 |mk (name param:aC) (frm to:Typ) (body:Term)
def FunD.av :FunD→AV
 | .mk n p (.mk f0 f1 f2 f3) (.mk g0 g1 g2 g3) (.mk b0 b1 b2 b3 b4) =>.agg [aA n,aA p,.int .i64 f0,.int .i64 f1,aA f2,.ilst 4 (Typs.av f3) false,.int .i64 g0,.int .i64 g1,aA g2,.ilst 4 (Typs.av g3) false,.int .i64 b0,.int .i64 b1,aA b2,.ilst 5 (Terms.av b3) false,.ilst 4 (Pats.av b4) false]
def FunDs.av (l:List FunD) :List AV:=map FunD.av l
structure Mod where
 name:aC
 datas:List DataD
 funs:List FunD
def Mod.av (m:Mod) :AV:=.agg [aA m.name,.ilst 2 (map DataD.av m.datas) false,.ilst 15 (FunDs.av m.funs) false]
inductive Part where
 |data (d:DataD)
 |fn (f:FunD)
def Part.av :Part→AV
 | .data d=>.iface 217 (DataD.av d)
 | .fn f=>.iface 219 (FunD.av f)
def Parts.av (l:List Part) :List AV:=map Part.av l
inductive KV where
 |row (l:List Int)
 |nil
 |val (u:Value)
def KV.av :KV→AV
 | .row l=>.ilst 1 (map aR l) false
 | .nil=>.nils
 | .val u=>.val u
structure ONode where
 op:Int
 n:Int
 kv:KV
 pats:List Pat
def ONode.av (x:ONode) :AV:=.agg [.int .i64 x.op,.int .i64 x.n,x.kv.av,.ilst 4 (Pats.av x.pats) false]
def Node.o (x:Node) :ONode:= ⟨x.op,x.n,.row x.kids,x.pats⟩
theorem aUw (l:List Node) :map ONode.av (map Node.o l) =map Node.av l:=by
 rw [List.map_map];rfl
theorem aZS :∀k:KV,keyless k.av=true
 | .row l=>by simp only [KV.av,keyless]
 | .nil=>rfl
 | .val u=>rfl
theorem bZ (x:ONode) :keyless x.av=true:=by
 simp only [ONode.av,keyless,keylessL,aZS,aBe,Bool.and_true]
theorem aHS {E:Emb}{x y:AV}(hv:∀v,VR E x v→VR E y v) :∀ {xs:List AV} {i:Nat},xs[i]?=some x→∀vs,VRs E xs vs→VRs E (xs.set i y) vs
 | [],i,h,vs,hvs=>by simp at h
 | a::xs,0,h,vs,hvs=>by
  simp only [VRs]at hvs;obtain⟨u,us,rfl,h1,h2⟩ :=hvs;simp at h;subst h;simp only [List.set_cons_zero,VRs];exact⟨u,us,rfl,hv u h1,h2⟩
 | a::xs,i+1,h,vs,hvs=>by
  simp only [VRs]at hvs;obtain⟨u,us,rfl,h1,h2⟩ :=hvs;simp only [List.getElem?_cons_succ]at h;simp only [List.set_cons_succ,VRs];exact⟨u,us,rfl,h1,aHS hv h us h2⟩
theorem aJE {E:Emb}{x:ONode}{k:KV}(hk:∀v,VR E x.kv.av v→VR E k.av v) :∀v,VR E x.av v→VR E (ONode.av ⟨x.op,x.n,k,x.pats⟩) v:=fun v h=>by
 simp only [ONode.av,VR,VRs]at h ⊢;obtain⟨us,rfl,u1,r1,rfl,q1,u2,r2,rfl,q2,u3,r3,rfl,q3,q4⟩ :=h;exact⟨_,rfl,_,_,rfl,q1,_,_,rfl,q2,_,_,rfl,hk _ q3,q4⟩
theorem aMk {E:Emb}:∀v,VR E KV.nil.av v→VR E (KV.row []).av v:=fun v h=>by
 simp only [KV.av,VR]at h;simp only [KV.av,VR,List.map_nil];exact⟨[],VRs.nil _,fun _ hu=>by(cases hu),.inl ⟨rfl,none,0,h,fun _=>rfl,fun _=>rfl⟩⟩
theorem aZb {l:List ONode}{i:Nat}{y:ONode}(h:l[i]?=some y)(hk:y.kv= .nil) :VW (map ONode.av l) (map ONode.av (l.set i ⟨y.op,y.n,.row [],y.pats⟩)) :=fun E vs hvs=>by
 have h1: (map ONode.av l)[i]?=some y.av:=by rw [List.getElem?_map,h];rfl
 rw [map_set];exact aHS (aJE (by rw [hk];exact aMk)) h1 vs hvs
theorem aZc {l:List ONode}{i:Nat}{y:ONode}{u:Value}{ks:List Int}(h:l[i]?=some y)(hk:y.kv= .val u) :VQ u 1 (map aR ks) (map ONode.av l) (map ONode.av (l.set i ⟨y.op,y.n,.row ks,y.pats⟩)) :=fun E vs hu hvs=>by
 have h1: (map ONode.av l)[i]?=some y.av:=by rw [List.getElem?_map,h];rfl
 rw [map_set];refine aHS (aJE (fun v hv=>?_)) h1 vs hvs;rw [hk]at hv;simp only [KV.av,VR]at hv;subst hv;exact hu
theorem aRt {α:Type}{f:α→AV}{l:List α}{i:Nat}{y:α}(h:l[i]?=some y) :map f l≠ [] :=fun e=>by
 cases l with
 |nil=>simp at h
 |cons _ _=>cases e
def kwL :List aC:=[(strOf [98,111,111,108]),(strOf [99,101,108,108]),(strOf [99,104,97,110]),(strOf [101,108,115,101]),(strOf [102,97,108,115,101]),(strOf [102,117,110]),(strOf [103,101,116]),(strOf [105,102]),(strOf [105,110]),(strOf [105,110,112,117,116]),(strOf [105,110,116]),(strOf [106,111,105,110]),(strOf [108,101,116]),(strOf [109,97,116,99,104]),(strOf [109,111,100,117,108,101]),(strOf [111,117,116]),(strOf [112,97,117,115,101]),(strOf [112,117,116]),(strOf [114,101,115,101,116]),(strOf [115,101,110,100]),(strOf [115,104,105,102,116]),(strOf [115,112,97,119,110]),(strOf [116,97,107,101]),(strOf [116,97,115,107]),(strOf [116,104,101,110]),(strOf [116,114,117,101]),(strOf [116,121,112,101]),(strOf [117,110,105,116])]
def aYd:TS:=dY PP 226 [] [] 0
def aUx:=(tT 0 (aYd)<|.i [rn 10,.toL 0 false [(.str 4 1819242338),(.str 4 1819043171),(.str 4 1851877475),(.str 4 1702063205),(.str 5 435728179558),(.str 3 7239014),(.str 3 7628135),(.str 2 26217),(.str 2 28265),(.str 5 500186508905),(.str 3 7630441),(.str 4 1852403562),(.str 3 7628140),(.str 5 448345170285),(.str 6 111516500389741),(.str 3 7632239),(.str 5 435728769392),(.str 3 7632240),(.str 5 499918267762),(.str 4 1684956531),(.str 5 499934390387),(.str 5 474449277043),(.str 4 1701536116),(.str 4 1802723700),(.str 4 1852139636),(.str 4 1702195828),(.str 4 1701869940),(.str 4 1953066613)]] [hr (some [(str 4 1819242338),(str 4 1819043171),(str 4 1851877475),(str 4 1702063205),(str 5 435728179558),(str 3 7239014),(str 3 7628135),(str 2 26217),(str 2 28265),(str 5 500186508905),(str 3 7630441),(str 4 1852403562),(str 3 7628140),(str 5 448345170285),(str 6 111516500389741),(str 3 7632239),(str 5 435728769392),(str 3 7632240),(str 5 499918267762),(str 4 1684956531),(str 5 499934390387),(str 5 474449277043),(str 4 1701536116),(str 4 1802723700),(str 4 1852139636),(str 4 1702195828),(str 4 1701869940),(str 4 1953066613)]),hr true]<|gu 0 0 (map aA kwL)<|gs 0 0 (.gl 0 1 0 kwL.length true)<|.i [.weak 0] []<|gz 0 0 0 1 aA kwL false<|gE 0 1 (iS kwL)) tv
def aRu (c:aC):=fun a b d e=>(tT 0 (start PP 167 [(aA c)])<|.y fun a:List aC=>gp 6 226 [] (iS a)<|fQ 1 111 [(iS a),(aA c)]<|fun b=>gE 3 0 (bV b)) a d b e tv
def aOf(a:aC):=tT 0 (start PP 86 [(aA a)])<|gd 10 6 ((a.length:Int) ≥1) (gd 5 11 ((a.length:Int) ≤8) (fQ 1 166 [(aA a)]<|fun b=>.b 2 15 b (fQ 1 167 [(aA a)]<|fun c=>gE 5 0 (bV (!c)))<|gE 7 0 (bV false))<|gE 11 0 (bV false))<|gE 16 0 (bV false)
def aUy:=fun a b c d e f g i=>aOf a|>.t d|>.t e b f|>.t g c i tv
def aUz:=fun a b c d e f=>aOf a|>.t c|>.t d b e|>.f f tv
def aUA:=fun a b c=>aOf a|>.t b|>.f c tv
def aUB:=fun a b=>aOf a|>.f b tv
def fG(a:aC):=tT 0 (start PP 165 [(aA a)])<|.b 16 4 (bP a.length (aB a) 4 1819242338) (gE 8 0 (bV true))<|.b 6 4 (bP a.length (aB a) 4 1819043171) (gE 8 0 (bV true))<|.b 6 4 (bP a.length (aB a) 4 1851877475) (gE 8 0 (bV true))<|.b 6 4 (bP a.length (aB a) 4 1702063205) (gE 8 0 (bV true))<|.b 6 4 (bP a.length (aB a) 5 435728179558) (gE 8 0 (bV true))<|.b 6 4 (bP a.length (aB a) 3 7239014) (gE 8 0 (bV true))<|.b 6 4 (bP a.length (aB a) 3 7628135) (gE 8 0 (bV true))<|.b 6 4 (bP a.length (aB a) 2 26217) (gE 8 0 (bV true))<|.b 6 4 (bP a.length (aB a) 2 28265) (gE 8 0 (bV true))<|.b 6 4 (bP a.length (aB a) 5 500186508905) (gE 8 0 (bV true))<|.b 6 4 (bP a.length (aB a) 3 7630441) (gE 8 0 (bV true))<|.b 6 4 (bP a.length (aB a) 4 1852403562) (gE 8 0 (bV true))<|.b 6 4 (bP a.length (aB a) 3 7628140) (gE 8 0 (bV true))<|.b 6 4 (bP a.length (aB a) 5 448345170285) (gE 8 0 (bV true))<|.b 6 4 (bP a.length (aB a) 6 111516500389741) (gE 8 0 (bV true))<|.b 6 4 (bP a.length (aB a) 3 7632239) (gE 8 0 (bV true))<|.b 6 4 (bP a.length (aB a) 5 435728769392) (gE 8 0 (bV true))<|.b 6 4 (bP a.length (aB a) 3 7632240) (gE 8 0 (bV true))<|.b 6 4 (bP a.length (aB a) 5 499918267762) (gE 8 0 (bV true))<|.b 6 4 (bP a.length (aB a) 4 1684956531) (gE 8 0 (bV true))<|.b 6 4 (bP a.length (aB a) 5 499934390387) (gE 8 0 (bV true))<|.b 6 4 (bP a.length (aB a) 5 474449277043) (gE 8 0 (bV true))<|.b 6 4 (bP a.length (aB a) 4 1701536116) (gE 8 0 (bV true))<|.b 6 4 (bP a.length (aB a) 4 1802723700) (gE 8 0 (bV true))<|.b 6 4 (bP a.length (aB a) 4 1852139636) (gE 8 0 (bV true))<|.b 6 4 (bP a.length (aB a) 4 1702195828) (gE 8 0 (bV true))<|.b 6 4 (bP a.length (aB a) 4 1701869940) (gE 8 0 (bV true))<|.b 5 4 (bP a.length (aB a) 4 1953066613) (gE 6 0 (bV true))<|gE 8 0 (bV false)
def aUC:=fun a b=>fG a|>.t b tv
def aUD:=fun a b c=>fG a|>.f b|>.t c tv
def aUE:=fun a b c d=>fG a|>.f b|>.f c|>.t d tv
def aUF:=fun a b c d e=>fG a|>.f b|>.f c|>.f d|>.t e tv
def aUG:=fun a b c d e f=>fG a|>.f b|>.f c|>.f d|>.f e|>.t f tv
def aUH:=fun a b c d e f g=>fG a|>.f b|>.f c|>.f d|>.f e|>.f f|>.t g tv
def aUI:=fun a b c d e f g i=>fG a|>.f b|>.f c|>.f d|>.f e|>.f f|>.f g|>.t i tv
def aUJ:=fun a b c d e f g i j=>fG a|>.f b|>.f c|>.f d|>.f e|>.f f|>.f g|>.f i|>.t j tv
def aUK:=fun a b c d e f g i j k=>fG a|>.f b|>.f c|>.f d|>.f e|>.f f|>.f g|>.f i|>.f j|>.t k tv
def aUL:=fun a b c d e f g i j k l=>fG a|>.f b|>.f c|>.f d|>.f e|>.f f|>.f g|>.f i|>.f j|>.f k|>.t l tv
def aRv:=fun a b c d e f g i j k l m=>fG a|>.f b|>.f c|>.f d|>.f e|>.f f|>.f g|>.f i|>.f j|>.f k|>.f l|>.t m tv
def aRw:=fun a b c d e f g i j k l m n=>fG a|>.f b|>.f c|>.f d|>.f e|>.f f|>.f g|>.f i|>.f j|>.f k|>.f l|>.f m|>.t n tv
def aRx:=fun a b c d e f g i j k l m n o=>fG a|>.f b|>.f c|>.f d|>.f e|>.f f|>.f g|>.f i|>.f j|>.f k|>.f l|>.f m|>.f n|>.t o tv
def aRy:=fun a b c d e f g i j k l m n o p=>fG a|>.f b|>.f c|>.f d|>.f e|>.f f|>.f g|>.f i|>.f j|>.f k|>.f l|>.f m|>.f n|>.f o|>.t p tv
def aRz:=fun a b c d e f g i j k l m n o p q=>fG a|>.f b|>.f c|>.f d|>.f e|>.f f|>.f g|>.f i|>.f j|>.f k|>.f l|>.f m|>.f n|>.f o|>.f p|>.t q tv
def aRA:=fun a b c d e f g i j k l m n o p q r=>fG a|>.f b|>.f c|>.f d|>.f e|>.f f|>.f g|>.f i|>.f j|>.f k|>.f l|>.f m|>.f n|>.f o|>.f p|>.f q|>.t r tv
def aRB:=fun a b c d e f g i j k l m n o p q r s=>fG a|>.f b|>.f c|>.f d|>.f e|>.f f|>.f g|>.f i|>.f j|>.f k|>.f l|>.f m|>.f n|>.f o|>.f p|>.f q|>.f r|>.t s tv
def aRC:=fun a b c d e f g i j k l m n o p q r s t=>fG a|>.f b|>.f c|>.f d|>.f e|>.f f|>.f g|>.f i|>.f j|>.f k|>.f l|>.f m|>.f n|>.f o|>.f p|>.f q|>.f r|>.f s|>.t t tv
def aRD:=fun a b c d e f g i j k l m n o p q r s t u=>fG a|>.f b|>.f c|>.f d|>.f e|>.f f|>.f g|>.f i|>.f j|>.f k|>.f l|>.f m|>.f n|>.f o|>.f p|>.f q|>.f r|>.f s|>.f t|>.t u tv
def aRE:=fun a b c d e f g i j k l m n o p q r s t u v=>fG a|>.f b|>.f c|>.f d|>.f e|>.f f|>.f g|>.f i|>.f j|>.f k|>.f l|>.f m|>.f n|>.f o|>.f p|>.f q|>.f r|>.f s|>.f t|>.f u|>.t v tv
def aRF:=fun a b c d e f g i j k l m n o p q r s t u v w=>fG a|>.f b|>.f c|>.f d|>.f e|>.f f|>.f g|>.f i|>.f j|>.f k|>.f l|>.f m|>.f n|>.f o|>.f p|>.f q|>.f r|>.f s|>.f t|>.f u|>.f v|>.t w tv
def aRG:=fun a b c d e f g i j k l m n o p q r s t u v w x=>fG a|>.f b|>.f c|>.f d|>.f e|>.f f|>.f g|>.f i|>.f j|>.f k|>.f l|>.f m|>.f n|>.f o|>.f p|>.f q|>.f r|>.f s|>.f t|>.f u|>.f v|>.f w|>.t x tv
def aRH:=fun a b c d e f g i j k l m n o p q r s t u v w x y=>fG a|>.f b|>.f c|>.f d|>.f e|>.f f|>.f g|>.f i|>.f j|>.f k|>.f l|>.f m|>.f n|>.f o|>.f p|>.f q|>.f r|>.f s|>.f t|>.f u|>.f v|>.f w|>.f x|>.t y tv
def aRI:=fun a b c d e f g i j k l m n o p q r s t u v w x y z=>fG a|>.f b|>.f c|>.f d|>.f e|>.f f|>.f g|>.f i|>.f j|>.f k|>.f l|>.f m|>.f n|>.f o|>.f p|>.f q|>.f r|>.f s|>.f t|>.f u|>.f v|>.f w|>.f x|>.f y|>.t z tv
def aRJ:=fun a b c d e f g i j k l m n o p q r s t u v w x y z A=>fG a|>.f b|>.f c|>.f d|>.f e|>.f f|>.f g|>.f i|>.f j|>.f k|>.f l|>.f m|>.f n|>.f o|>.f p|>.f q|>.f r|>.f s|>.f t|>.f u|>.f v|>.f w|>.f x|>.f y|>.f z|>.t A tv
def aRK:=fun a b c d e f g i j k l m n o p q r s t u v w x y z A B=>fG a|>.f b|>.f c|>.f d|>.f e|>.f f|>.f g|>.f i|>.f j|>.f k|>.f l|>.f m|>.f n|>.f o|>.f p|>.f q|>.f r|>.f s|>.f t|>.f u|>.f v|>.f w|>.f x|>.f y|>.f z|>.f A|>.t B tv
def aRL:=fun a b c d e f g i j k l m n o p q r s t u v w x y z A B C=>fG a|>.f b|>.f c|>.f d|>.f e|>.f f|>.f g|>.f i|>.f j|>.f k|>.f l|>.f m|>.f n|>.f o|>.f p|>.f q|>.f r|>.f s|>.f t|>.f u|>.f v|>.f w|>.f x|>.f y|>.f z|>.f A|>.f B|>.t C tv
def aRM:=fun a b c d e f g i j k l m n o p q r s t u v w x y z A B C D=>fG a|>.f b|>.f c|>.f d|>.f e|>.f f|>.f g|>.f i|>.f j|>.f k|>.f l|>.f m|>.f n|>.f o|>.f p|>.f q|>.f r|>.f s|>.f t|>.f u|>.f v|>.f w|>.f x|>.f y|>.f z|>.f A|>.f B|>.f C|>.t D tv
def aRN:=fun a b c d e f g i j k l m n o p q r s t u v w x y z A B C D=>fG a|>.f b|>.f c|>.f d|>.f e|>.f f|>.f g|>.f i|>.f j|>.f k|>.f l|>.f m|>.f n|>.f o|>.f p|>.f q|>.f r|>.f s|>.f t|>.f u|>.f v|>.f w|>.f x|>.f y|>.f z|>.f A|>.f B|>.f C|>.f D tv
def aOg(a:aC):=tT 0 (start PP 85 [(aA a)])<|.b 9 5 (!(bP a.length (aB a) 0 0)) (gd 5 10 ((a.length:Int) ≤8) (fQ 1 164 [(aA a)]<|fun b=>.b 2 14 b (fQ 1 165 [(aA a)]<|fun c=>gE 5 0 (bV (!c)))<|gE 7 0 (bV false))<|gE 11 0 (bV false))<|gE 16 0 (bV false)
def aUM:=fun a b c d e f g i=>aOg a|>.t d|>.t e b f|>.t g c i tv
def aUN:=fun a b c d e f=>aOg a|>.t c|>.t d b e|>.f f tv
def aUO:=fun a b c=>aOg a|>.t b|>.f c tv
def aUP:=fun a b=>aOg a|>.f b tv
mutual
def lD :Pat→Int→Int
 | .mk _ _ _ ps,left=>if left<1 then -1 else jG ps (left-1)
def jG :List Pat→Int→Int
 | [],left=>left
 |p::ps,left=>if 0≤left then jG ps (lD p left)else left
end
mutual
theorem aJF :∀ (p:Pat) (left:Int),0≤left→ -1≤lD p left∧lD p left≤left-1
 | .mk _ _ _ ps,left,h=>by
  rw [lD];split
  ·omega
  ·have:=aGc ps (left-1) (by omega);omega
theorem aGc :∀ (ps:List Pat) (left:Int),-1≤left→ -1≤jG ps left∧jG ps left≤left
 | [],left,h=>by rw [jG];omega
 | p ::ps,left,h=>by
  rw [jG];split
  · rename_i h0;have a:=aJF p left h0;have:=aGc ps (lD p left) a.1;omega
  ·omega
end
theorem aCP (f n:Int)(s:aC)(ps:List Pat)(l0:Int)(ih:∀p∈ps,∀left:Int,0≤left→left≤1000→Pure PP 186 [Pat.av p,.int .i64 left] (.int .i64 (lD p left))) :
  ∀ (t:List Pat) (i:Nat) (left:Int),ps.drop i=t→ -1≤left→ (i:Int) +left≤1000→Ends PP 0 (xX f n s ps l0 left (i:Int)).as (.ret (.int .i64 (jG t left))) (aG [] 0)
 | [],i,left,h,h1,h2=>by
  have:=bL h;rw [jG];exact aMj f n s ps l0 left i sd
 | .mk f' n' s' ps'::t,i,left,h,h1,h2=>by
  obtain⟨g1,g2,g3⟩ :=bK h;rw [jG];split
  · rename_i h0;have w:=aJF (.mk f' n' s' ps') left h0;refine(aMh f n s ps l0 left i f' n' s' ps' _ sd sd sd sd (ih _ (mem_of_getElem? g1) left h0 (by omega)) sd).ends ?_;exact aCP f n s ps l0 ih t (i+1) _ g2 w.1 (by omega)
  ·exact aMi f n s ps l0 left i sd sd
mutual
theorem wU :∀ (p:Pat) (left:Int),-1≤left→left≤1000→Pure PP 186 [Pat.av p,.int .i64 left] (.int .i64 (lD p left))
 | .mk f n s ps,left,h0,h1=>by
  refine aT (by kernel_rfl) (by simp [keylessL,tI,keyless]) rfl ?_;rw [lD];split
  ·exact aMf f n s ps left sd
  · refine(aMg f n s ps left sd sd).ends ?_;exact aCP f n s ps left (fun p hp left h0 h1=>aEr ps p hp left h0 h1) ps 0 _ rfl (by omega) (by omega)
theorem aEr :∀ (ps:List Pat),∀p∈ps,∀left:Int,0≤left→left≤1000→Pure PP 186 [Pat.av p,.int .i64 left] (.int .i64 (lD p left))
 | [],p,hp,_,_,_=>by cases hp
 | q::ps,p,hp,left,h0,h1=>by
  rcases List.mem_cons.1 hp with e|hp
  ·rw [e];exact wU q left (by omega) h1
  ·exact aEr ps p hp left h0 h1
end
mutual
def mZ :Pat→Bool
 | .mk _ _ s ps=>nU ps&&decide (s.length≤30)
def nU :List Pat→Bool
 | [] =>true
 |p::ps=>mZ p&&nU ps
end
mutual
def cR :Pat→Nat
 | .mk _ _ _ ps=>bF ps+1
def bF :List Pat→Nat
 | [] =>0
 |p::ps=>cR p+bF ps
end
theorem iG :∀ps:List Pat,ps.length≤bF ps
 | [] =>by simp [bF]
 | .mk _ _ _ qs::ps=>by have:=iG ps;simp only [bF,cR,List.length_cons];omega
mutual
theorem aEs :∀ (p:Pat) (left:Int),0≤lD p left→lD p left=left-cR p
 | .mk _ _ _ ps,left,h=>by
  rw [lD]at h ⊢;split at h
  ·omega
  · rename_i h1;rw [if_neg h1];have:=aCQ ps (left-1) h;simp only [cR];omega
theorem aCQ :∀ (ps:List Pat) (left:Int),0≤jG ps left→jG ps left=left-bF ps
 | [],left,h=>by simp [jG,bF]
 | p ::ps,left,h=>by
  rw [jG]at h ⊢;split at h
  · rename_i h1;rw [if_pos h1];have a:=aCQ ps _ h;have b:=aEs p left (by omega);simp only [bF];omega
  ·omega
end
mutual
theorem aEt :∀ (p:Pat) (left:Int),(cR p:Int) ≤left→lD p left=left-cR p
 | .mk _ _ _ ps,left,h=>by
  simp only [cR]at h ⊢;rw [lD,if_neg (by omega),aCR ps (left-1) (by omega)];omega
theorem aCR :∀ (ps:List Pat) (left:Int),(bF ps:Int) ≤left→jG ps left=left-bF ps
 | [],left,h=>by simp [jG,bF]
 | p::ps,left,h=>by
  simp only [bF]at h ⊢;rw [jG,if_pos (by omega),aEt p left (by omega),aCR ps _ (by omega)];omega
end
theorem xY (p:Pat)(left:Int) :0≤lD p left↔ (cR p:Int) ≤left:=by
 constructor
 ·intro h;have:=aEs p left h;omega
 ·intro h;rw [aEt p left h];omega
theorem wV (f n:Int)(s:aC)(ps:List Pat)(hl:ps.length<1000000)(ih:∀p∈ps,Pure PP 199 [Pat.av p] (.bool (mZ p))) :
  ∀ (t:List Pat) (i:Nat),ps.drop i=t→Ends PP 0 (nS f n s ps (i:Int)).as (.ret (.bool (nU t&&decide (s.length≤30)))) (aG [] 0)
 | [],i,h=>by
  have:=bL h;have e:decide (((length s:Nat) :Int) ≤ (30:Int)) =decide (s.length≤30) :=by congr 1;simp;omega
  rw [nU,Bool.true_and,←e];exact aFH f n s ps i sd
 | .mk f' n' s' ps'::t,i,h=>by
  obtain⟨g1,g2,g3⟩ :=bK h;have ihp:=ih _ (mem_of_getElem? g1);rw [nU];cases hb:mZ (.mk f' n' s' ps')with
  | false=>
   rw [hb]at ihp;exact aFF f n s ps i f' n' s' ps' false sd sd sd ihp rfl
  | true=>
   rw [hb]at ihp;refine(aFG f n s ps i f' n' s' ps' true sd sd sd ihp rfl sd).ends ?_;rw [Bool.true_and];exact wV f n s ps hl ih t (i+1) g2
mutual
theorem wW :∀ (p:Pat),cR p<1000000→Pure PP 199 [Pat.av p] (.bool (mZ p))
 | .mk f n s ps,h=>by
  refine aT (by kernel_rfl) (by simp [keylessL,tI]) rfl ?_;simp only [cR]at h;have:=iG ps;refine(aFE f n s ps).ends ?_;rw [mZ];exact wV f n s ps (by omega) (zS ps (by omega)) ps 0 rfl
theorem zS :∀ (ps:List Pat),bF ps<1000000→∀p∈ps,Pure PP 199 [Pat.av p] (.bool (mZ p))
 | [],_,p,hp=>by cases hp
 | q::ps,h,p,hp=>by
  simp only [bF]at h;rcases List.mem_cons.1 hp with e|hp
  ·rw [e];exact wW q (by omega)
  ·exact zS ps (by omega) p hp
end
def wX (p:Pat) :Bool:=decide (cR p≤16) &&mZ p
theorem aHT (p:Pat) :Pure PP 136 [Pat.av p] (.bool (wX p)) :=by
 refine aT (by kernel_rfl) (by simp [keylessL,tI]) rfl ?_;obtain⟨f,n,s,ps⟩ :=p;have hw:=wU (.mk f n s ps) 16 (by omega) (by omega);by_cases h:cR (.mk f n s ps) ≤16
 · have e:wX (.mk f n s ps) =mZ (.mk f n s ps) :=by simp [wX,h]
   rw [e];have hg:0≤lD (.mk f n s ps) 16:= (xY (.mk f n s ps) 16).2 (by omega);exact aJz f n s ps _ _ hw (decide_eq_true hg) (wW (.mk f n s ps) (by omega))
 · have e:wX (.mk f n s ps) =false:=by simp [wX,h]
   rw [e];refine aJA f n s ps _ hw (decide_eq_false fun g=>h ?_);have:= (xY (.mk f n s ps) 16).1 g;omega
def eX (l:List Con) :Bool:=l.all fun c=>decide (c.name.length≤40)
def hJ (l:List Pat) :Bool:=l.all wX
def aV (x:Node) :Bool:=decide (x.kids.length≤10) &&decide (x.pats.length≤10) &&hJ x.pats
def aM (p:Prog) :Bool:=decide (p.nodes.length≤320) &&decide (p.funs.length≤320) &&decide (p.cons.length≤25) &&eX p.cons&&p.nodes.all aV
mutual
theorem aZT (p:Prog)(hn:p.nodes.length≤320) :∀ (t:List Node) (i:Nat),p.nodes.drop i=t→Ends PP 0 (mF p (i:Int)).as (.ret (.bool (t.all aV))) (aG [] 0)
 | [],i,h=>by
  have:=bL h;exact aEm p i sd
 | x :: t,i,h=>by
  obtain⟨g1,g2,g3⟩ :=bK h;by_cases k1:x.kids.length≤10
  · by_cases k2:x.pats.length≤10
    · have e: (x::t).all aV= (hJ (x.pats.drop 0) &&t.all aV) :=by simp [aV,k1,k2]
      rw [e];refine(aEl p i x sd sd sd sd sd).ends ?_;have ih:=aZT p hn t (i+1) g2;clear e g1 g2 h
      suffices ∀ (u:List Pat) (k:Nat),x.pats.drop k=u→Ends PP 0 (mG p x.op x.n x.kids x.pats (k:Int) (i:Int)).as (.ret (.bool (hJ u&&t.all aV))) (aG [] 0)from this _ 0 rfl
      intro u
      induction u with
      | nil=>
       intro k hk;have:=bL hk;refine(aEp p x.op x.n x.kids x.pats k i sd sd).ends ?_;simp only [hJ,all_nil,Bool.true_and];exact ih
      | cons q u ihu=>
       intro k hk;obtain⟨q1,q2,q3⟩ :=bK hk;obtain⟨f',n',s',ps'⟩ :=q;have hp:=aHT (.mk f' n' s' ps');cases hb:wX (.mk f' n' s' ps')with
       | false=>
        rw [hb]at hp;have e: (hJ (.mk f' n' s' ps'::u) &&t.all aV) =false:=by simp [hJ,hb]
        rw [e];exact aEn p x.op x.n x.kids x.pats k i f' n' s' ps' false sd sd sd hp rfl
       | true=>
        rw [hb]at hp;have e: (hJ (.mk f' n' s' ps'::u) &&t.all aV) = (hJ u&&t.all aV) :=by simp [hJ,hb]
        rw [e];refine(aEo p x.op x.n x.kids x.pats k i f' n' s' ps' true sd sd sd hp rfl sd).ends ?_;exact ihu (k+1) q2
    · have e: (x::t).all aV=false:=by simp [aV,k2]
      rw [e];exact aEk p i x sd sd sd sd sd
  · have e: (x::t).all aV=false:=by simp [aV,k1]
    rw [e];exact aEj p i x sd sd sd sd
end
theorem aZU (p:Prog)(hc:p.cons.length≤25)(hn:p.nodes.length≤320) :∀ (t:List Con) (i:Nat),p.cons.drop i=t→Ends PP 0 (mE p (i:Int)).as (.ret (.bool (eX t&&p.nodes.all aV))) (aG [] 0)
 | [],i,h=>by
  have:=bL h;refine(aEi p i sd).ends ?_;simp only [eX,all_nil,Bool.true_and];exact aZT p hn p.nodes 0 rfl
 | c ::t,i,h=>by
  obtain⟨g1,g2,g3⟩ :=bK h;by_cases k:c.name.length≤40
  · have e: (eX (c::t) &&p.nodes.all aV) = (eX t&&p.nodes.all aV) :=by simp [eX,k]
    rw [e];refine(aEh p i c sd sd sd sd sd).ends ?_;exact aZU p hc hn t (i+1) g2
  · have e: (eX (c::t) &&p.nodes.all aV) =false:=by simp [eX,k]
    rw [e];exact aEg p i c sd sd sd sd
theorem aC7 (p:Prog) :Pure PP 50 [Prog.av p] (.bool (aM p)) :=by
 refine aT (by kernel_rfl) rfl rfl ?_;by_cases h1:p.nodes.length≤320
 · by_cases h2:p.funs.length≤320
   · by_cases h3:p.cons.length≤25
     · have e:aM p= (eX p.cons&&p.nodes.all aV) :=by simp [aM,h1,h2,h3]
       rw [e];exact(aEf p sd sd sd).ends (aZU p h3 h1 p.cons 0 rfl)
     · have e:aM p=false:=by simp [aM,h3]
       rw [e];exact aEe p sd sd sd
   · have e:aM p=false:=by simp [aM,h2]
     rw [e];exact aEd p sd sd
 · have e:aM p=false:=by simp [aM,h1]
   rw [e];exact aEc p sd
def dK(b c:Int)(d:aC)(a:List Pat)(e:List Con)(f:Bool)(g:Int):TS:=⟨(tf 187 82 [(1,(iC e)),kp 2 0,(4,(bV false)),(5,(bV f)),(6,(nI (a.length:Int))),(7,(nI g))] [kc f187 1012,kl f187 1012,.inBlock 1,kc f187 127]),[],[oC 0 [(nI b),(nI c),(aA d),(iP a)]],1⟩
def tN(d b:Int)(a:aC)(c:List Pat)(e:List Con):=tT 0 (start PP 187 [(.agg [(nI d),(nI b),(aA a),(iP c)]),(iC e)])<|gm 13 aH c<|.b 15 13 (d==1) (.b 7 19 ((c.length:Int) ==0) (.b 11 61 (b==0) (.W 13 1 [0] (dK d b a c e (bP a.length (aB a) 0 0) 0))<|.W 13 1 [0] (dK d b a c e false 0))<|.W 24 1 [0] (dK d b a c e false 0))<|.b 6 13 (d==2) (.b 7 19 ((c.length:Int) ==0) (.b 11 61 (b==0) (.W 13 1 [0] (dK d b a c e (bP a.length (aB a) 0 0) 0))<|.W 13 1 [0] (dK d b a c e false 0))<|.W 24 1 [0] (dK d b a c e false 0))<|.b 5 13 (d==5) (.b 5 19 ((c.length:Int) ==0) (.b 11 61 (b==0) (.W 13 1 [0] (dK d b a c e (bP a.length (aB a) 0 0) 0))<|.W 13 1 [0] (dK d b a c e false 0))<|.W 24 1 [0] (dK d b a c e false 0))<|.b 6 24 (d==3) (.b 5 28 ((c.length:Int) ==0) (fQ 2 117 [(nI b),(nI (-1000000000)),(nI 1000000000)]<|fun f=>.b 8 61 f (.W 13 1 [0] (dK d b a c e (bP a.length (aB a) 0 0) 0))<|.W 13 1 [0] (dK d b a c e false 0))<|.W 24 1 [0] (dK d b a c e false 0))<|.b 6 33 (d==4) (.b 5 37 ((c.length:Int) ==0) (fQ 2 117 [(nI b),(nI 0),(nI 1)]<|fun f=>.b 8 61 f (.W 13 1 [0] (dK d b a c e (bP a.length (aB a) 0 0) 0))<|.W 13 1 [0] (dK d b a c e false 0))<|.W 24 1 [0] (dK d b a c e false 0))<|.b 6 42 (d==6) (gl 5 Con.av e<|gw 1 48 ((e.length:Int) -1)<|fQ 0 117 [(nI b),(nI 0),(nI ((e.length:Int) -1))]<|fun f=>.b 1 50 f (gX Con.av 4 e b<|fun g=>.b 11 61 ((c.length:Int) ==g.args) (.W 13 1 [0] (dK d b a c e (bP a.length (aB a) 0 0) 0))<|.W 13 1 [0] (dK d b a c e false 0))<|.W 29 1 [0] (dK d b a c e false 0))<|.W 20 1 [0] (dK d b a c e false 0)
def aRO:=fun a b c d e f g i=>tN a b c d e|>.t f|>.t g|>.t i tv
def aRP:=fun a b c d e f g i=>tN a b c d e|>.t f|>.t g|>.f i tv
def aRQ:=fun a b c d e f g=>tN a b c d e|>.t f|>.f g tv
def aRR:=fun a b c d e f g i j=>tN a b c d e|>.f f|>.t g|>.t i|>.t j tv
def aRS:=fun a b c d e f g i j=>tN a b c d e|>.f f|>.t g|>.t i|>.f j tv
def aRT:=fun a b c d e f g i=>tN a b c d e|>.f f|>.t g|>.f i tv
def aRU:=fun a b c d e f g i j k=>tN a b c d e|>.f f|>.f g|>.t i|>.t j|>.t k tv
def aRV:=fun a b c d e f g i j k=>tN a b c d e|>.f f|>.f g|>.t i|>.t j|>.f k tv
def aRW:=fun a b c d e f g i j=>tN a b c d e|>.f f|>.f g|>.t i|>.f j tv
def aRX:=fun a b c d e f g i j k l m n=>tN a b c d e|>.f g|>.f i|>.f j|>.t k|>.t l f m|>.t n tv
def aOW:=fun a b c d e f g i j k l m n=>tN a b c d e|>.f g|>.f i|>.f j|>.t k|>.t l f m|>.f n tv
def aOX:=fun a b c d e f g i j k=>tN a b c d e|>.f f|>.f g|>.f i|>.t j|>.f k tv
def aOY:=fun a b c d e f g i j k l m n o=>tN a b c d e|>.f g|>.f i|>.f j|>.f k|>.t l|>.t m f n|>.t o tv
def aOZ:=fun a b c d e f g i j k l m n o=>tN a b c d e|>.f g|>.f i|>.f j|>.f k|>.t l|>.t m f n|>.f o tv
def aO0:=fun a b c d e f g i j k l=>tN a b c d e|>.f f|>.f g|>.f i|>.f j|>.t k|>.f l tv
def aO1:=fun a b c d e f g i j k l m n o p q r s t=>tN a b c d e|>.f i|>.f j|>.f k|>.f l|>.f m|>.t n o f p|>.t q g r s|>.t t tv
def aO2:=fun a b c d e f g i j k l m n o p q r s t=>tN a b c d e|>.f i|>.f j|>.f k|>.f l|>.f m|>.t n o f p|>.t q g r s|>.f t tv
def aO3:=fun a b c d e f g i j k l m n o p=>tN a b c d e|>.f g|>.f i|>.f j|>.f k|>.f l|>.t m n f o|>.f p tv
def aO4:=fun a b c d e f g i j k l=>tN a b c d e|>.f f|>.f g|>.f i|>.f j|>.f k|>.f l tv
def aZd(e f:Int)(g:aC)(b:List Pat)(d:List Con)(c:Bool)(a:Int):=tT 0 (dK e f g b d c a)<|gd 7 69 (a< (b.length:Int)) (.b 3 71 c (aHR 8 b a<|fun i j k l=>fQ 2 187 [(.agg [(nI i),(nI j),(aA k),(iP l)]),(iC d)]<|fun m=>gw 6 73 (a+1)<|.W 3 1 [0] (dK e f g b d m (a+1)))<|gE 8 1 (bV c))<|gE 11 1 (bV c)
def aRY:=fun a b c d e f g i j k l m n o p q r s=>aZd a b c d e f g|>.t n|>.t o i j k l p q m r s tv
def aRZ:=fun a b c d e f g i j=>aZd a b c d e f g|>.t i|>.f j tv
def aR0:=fun a b c d e f g i=>aZd a b c d e f g|>.f i tv
def kY(a b c:Int):=tT 0 (start PP 188 [(nI a),(nI b),(nI c)])<|.b 16 8 (a==1) (gE 8 0 (nI 0))<|.b 6 8 (a==2) (gE 8 0 (nI 0))<|.b 6 8 (a==3) (gE 8 0 (nI 0))<|.b 6 8 (a==4) (gE 8 0 (nI 0))<|.b 6 8 (a==21) (gE 8 0 (nI 0))<|.b 6 8 (a==25) (gE 8 0 (nI 0))<|.b 5 8 (a==28) (gE 6 0 (nI 0))<|.b 7 16 (a==5) (gE 8 0 (nI 1))<|.b 6 16 (a==27) (gE 8 0 (nI 1))<|.b 6 16 (a==16) (gE 8 0 (nI 1))<|.b 6 16 (a==17) (gE 8 0 (nI 1))<|.b 6 16 (a==19) (gE 8 0 (nI 1))<|.b 6 16 (a==20) (gE 8 0 (nI 1))<|.b 6 16 (a==23) (gE 8 0 (nI 1))<|.b 6 16 (a==26) (gE 8 0 (nI 1))<|.b 5 16 (a==24) (gE 6 0 (nI 1))<|.b 7 26 (a==6) (gE 8 0 (nI 2))<|.b 6 26 (a==7) (gE 8 0 (nI 2))<|.b 6 26 (a==9) (gE 8 0 (nI 2))<|.b 6 26 (a==10) (gE 8 0 (nI 2))<|.b 6 26 (a==11) (gE 8 0 (nI 2))<|.b 6 26 (a==12) (gE 8 0 (nI 2))<|.b 6 26 (a==13) (gE 8 0 (nI 2))<|.b 6 26 (a==18) (gE 8 0 (nI 2))<|.b 5 26 (a==22) (gE 6 0 (nI 2))<|.b 6 36 (a==8) (gE 6 0 (nI 3))<|.b 6 38 (a==15) (gw 5 41 (1+b)<|gE 3 0 (nI (1+b)))<|.b 6 42 (a==14) (gE 7 0 (nI c))<|gE 8 0 (nI (-1))
def aO5:=fun a b c d=>kY a b c|>.t d tv
def aO6:=fun a b c d e=>kY a b c|>.f d|>.t e tv
def aO7:=fun a b c d e f=>kY a b c|>.f d|>.f e|>.t f tv
def aO8:=fun a b c d e f g=>kY a b c|>.f d|>.f e|>.f f|>.t g tv
def aO9:=fun a b c d e f g i=>kY a b c|>.f d|>.f e|>.f f|>.f g|>.t i tv
def aPa:=fun a b c d e f g i j=>kY a b c|>.f d|>.f e|>.f f|>.f g|>.f i|>.t j tv
def aPb:=fun a b c d e f g i j k=>kY a b c|>.f d|>.f e|>.f f|>.f g|>.f i|>.f j|>.t k tv
def aPc:=fun a b c d e f g i j k l=>kY a b c|>.f d|>.f e|>.f f|>.f g|>.f i|>.f j|>.f k|>.t l tv
def aPd:=fun a b c d e f g i j k l m=>kY a b c|>.f d|>.f e|>.f f|>.f g|>.f i|>.f j|>.f k|>.f l|>.t m tv
def aPe:=fun a b c d e f g i j k l m n=>kY a b c|>.f d|>.f e|>.f f|>.f g|>.f i|>.f j|>.f k|>.f l|>.f m|>.t n tv
def aMl:=fun a b c d e f g i j k l m n o=>kY a b c|>.f d|>.f e|>.f f|>.f g|>.f i|>.f j|>.f k|>.f l|>.f m|>.f n|>.t o tv
def aMm:=fun a b c d e f g i j k l m n o p=>kY a b c|>.f d|>.f e|>.f f|>.f g|>.f i|>.f j|>.f k|>.f l|>.f m|>.f n|>.f o|>.t p tv
def aMn:=fun a b c d e f g i j k l m n o p q=>kY a b c|>.f d|>.f e|>.f f|>.f g|>.f i|>.f j|>.f k|>.f l|>.f m|>.f n|>.f o|>.f p|>.t q tv
def aMo:=fun a b c d e f g i j k l m n o p q r=>kY a b c|>.f d|>.f e|>.f f|>.f g|>.f i|>.f j|>.f k|>.f l|>.f m|>.f n|>.f o|>.f p|>.f q|>.t r tv
def aMp:=fun a b c d e f g i j k l m n o p q r s=>kY a b c|>.f d|>.f e|>.f f|>.f g|>.f i|>.f j|>.f k|>.f l|>.f m|>.f n|>.f o|>.f p|>.f q|>.f r|>.t s tv
def aMq:=fun a b c d e f g i j k l m n o p q r s t=>kY a b c|>.f d|>.f e|>.f f|>.f g|>.f i|>.f j|>.f k|>.f l|>.f m|>.f n|>.f o|>.f p|>.f q|>.f r|>.f s|>.t t tv
def aMr:=fun a b c d e f g i j k l m n o p q r s t u=>kY a b c|>.f d|>.f e|>.f f|>.f g|>.f i|>.f j|>.f k|>.f l|>.f m|>.f n|>.f o|>.f p|>.f q|>.f r|>.f s|>.f t|>.t u tv
def aMs:=fun a b c d e f g i j k l m n o p q r s t u v=>kY a b c|>.f d|>.f e|>.f f|>.f g|>.f i|>.f j|>.f k|>.f l|>.f m|>.f n|>.f o|>.f p|>.f q|>.f r|>.f s|>.f t|>.f u|>.t v tv
def aMt:=fun a b c d e f g i j k l m n o p q r s t u v w=>kY a b c|>.f d|>.f e|>.f f|>.f g|>.f i|>.f j|>.f k|>.f l|>.f m|>.f n|>.f o|>.f p|>.f q|>.f r|>.f s|>.f t|>.f u|>.f v|>.t w tv
def aMu:=fun a b c d e f g i j k l m n o p q r s t u v w x=>kY a b c|>.f d|>.f e|>.f f|>.f g|>.f i|>.f j|>.f k|>.f l|>.f m|>.f n|>.f o|>.f p|>.f q|>.f r|>.f s|>.f t|>.f u|>.f v|>.f w|>.t x tv
def aMv:=fun a b c d e f g i j k l m n o p q r s t u v w x y=>kY a b c|>.f d|>.f e|>.f f|>.f g|>.f i|>.f j|>.f k|>.f l|>.f m|>.f n|>.f o|>.f p|>.f q|>.f r|>.f s|>.f t|>.f u|>.f v|>.f w|>.f x|>.t y tv
def aMw:=fun a b c d e f g i j k l m n o p q r s t u v w x y z=>kY a b c|>.f d|>.f e|>.f f|>.f g|>.f i|>.f j|>.f k|>.f l|>.f m|>.f n|>.f o|>.f p|>.f q|>.f r|>.f s|>.f t|>.f u|>.f v|>.f w|>.f x|>.f y|>.t z tv
def aMx:=fun a b c d e f g i j k l m n o p q r s t u v w x y z A=>kY a b c|>.f d|>.f e|>.f f|>.f g|>.f i|>.f j|>.f k|>.f l|>.f m|>.f n|>.f o|>.f p|>.f q|>.f r|>.f s|>.f t|>.f u|>.f v|>.f w|>.f x|>.f y|>.f z|>.t A tv
def aMy:=fun a b c d e f g i j k l m n o p q r s t u v w x y z A B=>kY a b c|>.f d|>.f e|>.f f|>.f g|>.f i|>.f j|>.f k|>.f l|>.f m|>.f n|>.f o|>.f p|>.f q|>.f r|>.f s|>.f t|>.f u|>.f v|>.f w|>.f x|>.f y|>.f z|>.f A|>.t B tv
def aMz:=fun a b c d e f g i j k l m n o p q r s t u v w x y z A B C=>kY a b c|>.f d|>.f e|>.f f|>.f g|>.f i|>.f j|>.f k|>.f l|>.f m|>.f n|>.f o|>.f p|>.f q|>.f r|>.f s|>.f t|>.f u|>.f v|>.f w|>.f x|>.f y|>.f z|>.f A|>.f B|>.t C tv
def aMA:=fun a b c d e f g i j k l m n o p q r s t u v w x y z A B C D=>kY a b c|>.f d|>.f e|>.f f|>.f g|>.f i|>.f j|>.f k|>.f l|>.f m|>.f n|>.f o|>.f p|>.f q|>.f r|>.f s|>.f t|>.f u|>.f v|>.f w|>.f x|>.f y|>.f z|>.f A|>.f B|>.f C|>.t D tv
def aMB:=fun a b c d e f g i j k l m n o p q r s t u v w x y z A B C D F G=>kY a b c|>.f d|>.f e|>.f f|>.f g|>.f i|>.f j|>.f k|>.f l|>.f m|>.f n|>.f o|>.f p|>.f q|>.f r|>.f s|>.f t|>.f u|>.f v|>.f w|>.f x|>.f y|>.f z|>.f A|>.f B|>.f C|>.f D|>.t F G tv
def aMC:=fun a b c d e f g i j k l m n o p q r s t u v w x y z A B C D F G=>kY a b c|>.f d|>.f e|>.f f|>.f g|>.f i|>.f j|>.f k|>.f l|>.f m|>.f n|>.f o|>.f p|>.f q|>.f r|>.f s|>.f t|>.f u|>.f v|>.f w|>.f x|>.f y|>.f z|>.f A|>.f B|>.f C|>.f D|>.f F|>.t G tv
def aMD:=fun a b c d e f g i j k l m n o p q r s t u v w x y z A B C D F G=>kY a b c|>.f d|>.f e|>.f f|>.f g|>.f i|>.f j|>.f k|>.f l|>.f m|>.f n|>.f o|>.f p|>.f q|>.f r|>.f s|>.f t|>.f u|>.f v|>.f w|>.f x|>.f y|>.f z|>.f A|>.f B|>.f C|>.f D|>.f F|>.f G tv
theorem Ends.eqv {P:Program}{m:Nat}{s:AS}{v v':AV}{h':Hp}(h:Ends P m s (.ret v) h')(e:v=v') :Ends P m s (.ret v') h':=e ▸ h
theorem inB_iff {n lo hi:Int}:cN n lo hi=true↔lo≤n∧n≤hi:=by simp [cN]
theorem inB_not {n lo hi:Int}:cN n lo hi=false↔¬ (lo≤n∧n≤hi) :=by simp [cN]
theorem sdI {p:Prop}(h:p:=by first|assumption|rfl| (simp only [Int.toNat_natCast];assumption) | (simp only [decide_eq_true_eq,decide_eq_false_iff_not];omega) |omega| (apply wrap64<;>omega) | (simp_all;done) | (simp only [inB_iff,inB_not,beq_iff_eq,decide_eq_true_eq,decide_eq_false_iff_not]at *;omega)) :p:=h
theorem idT {p:Prop}(h:p:=by exact⟨_,List.getElem?_eq_getElem (by simp only [inB_iff,inB_not,beq_iff_eq,decide_eq_true_eq,decide_eq_false_iff_not]at *;omega)⟩) :p:=h
def dD (op pats args:Int) :Int:=
 if op=1∨op=2∨op=3∨op=4∨op=21∨op=25∨op=28 then 0
 else if op=5∨op=27∨op=16∨op=17∨op=19∨op=20∨op=23∨op=26∨op=24 then 1
 else if op=6∨op=7∨op=9∨op=10∨op=11∨op=12∨op=13∨op=18∨op=22 then 2
 else if op=8 then 3 else if op=15 then 1+pats else if op=14 then args else -1
theorem rKids_E (op pats args :Int)(hp:0≤pats)(hp2:pats≤1000) :Ends PP 0 (start PP 188 [.int .i64 op,.int .i64 pats,.int .i64 args]).as (.ret (.int .i64 (dD op pats args))) (aG [] 0) :=by
 cases hb1: (op== (1:Int))with
 | true=>
  exact Ends.eqv (aO5 op pats args   hb1) (by simp_all [dD])
 | false =>
  cases hb2: (op== (2:Int))with
  | true=>
   exact Ends.eqv (aO6 op pats args   hb1 hb2) (by simp_all [dD])
  | false =>
   cases hb3: (op== (3:Int))with
   | true=>
    exact Ends.eqv (aO7 op pats args   hb1 hb2 hb3) (by simp_all [dD])
   | false =>
    cases hb4: (op== (4:Int))with
    | true=>
     exact Ends.eqv (aO8 op pats args   hb1 hb2 hb3 hb4) (by simp_all [dD])
    | false =>
     cases hb5: (op== (21:Int))with
     | true=>
      exact Ends.eqv (aO9 op pats args   hb1 hb2 hb3 hb4 hb5) (by simp_all [dD])
     | false =>
      cases hb6: (op== (25:Int))with
      | true=>
       exact Ends.eqv (aPa op pats args   hb1 hb2 hb3 hb4 hb5 hb6) (by simp_all [dD])
      | false =>
       cases hb7: (op== (28:Int))with
       | true=>
        exact Ends.eqv (aPb op pats args   hb1 hb2 hb3 hb4 hb5 hb6 hb7) (by simp_all [dD])
       | false =>
        cases hb8: (op== (5:Int))with
        | true=>
         exact Ends.eqv (aPc op pats args   hb1 hb2 hb3 hb4 hb5 hb6 hb7 hb8) (by simp_all [dD])
        | false =>
         cases hb9: (op== (27:Int))with
         | true=>
          exact Ends.eqv (aPd op pats args   hb1 hb2 hb3 hb4 hb5 hb6 hb7 hb8 hb9) (by simp_all [dD])
         | false =>
          cases hb10: (op== (16:Int))with
          | true=>
           exact Ends.eqv (aPe op pats args   hb1 hb2 hb3 hb4 hb5 hb6 hb7 hb8 hb9 hb10) (by simp_all [dD])
          | false =>
           cases hb11: (op== (17:Int))with
           | true=>
            exact Ends.eqv (aMl op pats args   hb1 hb2 hb3 hb4 hb5 hb6 hb7 hb8 hb9 hb10 hb11) (by simp_all [dD])
           | false =>
            cases hb12: (op== (19:Int))with
            | true=>
             exact Ends.eqv (aMm op pats args   hb1 hb2 hb3 hb4 hb5 hb6 hb7 hb8 hb9 hb10 hb11 hb12) (by simp_all [dD])
            | false =>
             cases hb13: (op== (20:Int))with
             | true=>
              exact Ends.eqv (aMn op pats args   hb1 hb2 hb3 hb4 hb5 hb6 hb7 hb8 hb9 hb10 hb11 hb12 hb13) (by simp_all [dD])
             | false =>
              cases hb14: (op== (23:Int))with
              | true=>
               exact Ends.eqv (aMo op pats args   hb1 hb2 hb3 hb4 hb5 hb6 hb7 hb8 hb9 hb10 hb11 hb12 hb13 hb14) (by simp_all [dD])
              | false =>
               cases hb15: (op== (26:Int))with
               | true=>
                exact Ends.eqv (aMp op pats args   hb1 hb2 hb3 hb4 hb5 hb6 hb7 hb8 hb9 hb10 hb11 hb12 hb13 hb14 hb15) (by simp_all [dD])
               | false =>
                cases hb16: (op== (24:Int))with
                | true=>
                 exact Ends.eqv (aMq op pats args   hb1 hb2 hb3 hb4 hb5 hb6 hb7 hb8 hb9 hb10 hb11 hb12 hb13 hb14 hb15 hb16) (by simp_all [dD])
                | false =>
                 cases hb17: (op== (6:Int))with
                 | true=>
                  exact Ends.eqv (aMr op pats args   hb1 hb2 hb3 hb4 hb5 hb6 hb7 hb8 hb9 hb10 hb11 hb12 hb13 hb14 hb15 hb16 hb17) (by simp_all [dD])
                 | false =>
                  cases hb18: (op== (7:Int))with
                  | true=>
                   exact Ends.eqv (aMs op pats args   hb1 hb2 hb3 hb4 hb5 hb6 hb7 hb8 hb9 hb10 hb11 hb12 hb13 hb14 hb15 hb16 hb17 hb18) (by simp_all [dD])
                  | false =>
                   cases hb19: (op== (9:Int))with
                   | true=>
                    exact Ends.eqv (aMt op pats args   hb1 hb2 hb3 hb4 hb5 hb6 hb7 hb8 hb9 hb10 hb11 hb12 hb13 hb14 hb15 hb16 hb17 hb18 hb19) (by simp_all [dD])
                   | false =>
                    cases hb20: (op== (10:Int))with
                    | true=>
                     exact Ends.eqv (aMu op pats args   hb1 hb2 hb3 hb4 hb5 hb6 hb7 hb8 hb9 hb10 hb11 hb12 hb13 hb14 hb15 hb16 hb17 hb18 hb19 hb20) (by simp_all [dD])
                    | false =>
                     cases hb21: (op== (11:Int))with
                     | true=>
                      exact Ends.eqv (aMv op pats args   hb1 hb2 hb3 hb4 hb5 hb6 hb7 hb8 hb9 hb10 hb11 hb12 hb13 hb14 hb15 hb16 hb17 hb18 hb19 hb20 hb21) (by simp_all [dD])
                     | false =>
                      cases hb22: (op== (12:Int))with
                      | true=>
                       exact Ends.eqv (aMw op pats args   hb1 hb2 hb3 hb4 hb5 hb6 hb7 hb8 hb9 hb10 hb11 hb12 hb13 hb14 hb15 hb16 hb17 hb18 hb19 hb20 hb21 hb22) (by simp_all [dD])
                      | false =>
                       cases hb23: (op== (13:Int))with
                       | true=>
                        exact Ends.eqv (aMx op pats args   hb1 hb2 hb3 hb4 hb5 hb6 hb7 hb8 hb9 hb10 hb11 hb12 hb13 hb14 hb15 hb16 hb17 hb18 hb19 hb20 hb21 hb22 hb23) (by simp_all [dD])
                       | false=>
                        cases hb24: (op== (18:Int))with
                        | true=>
                         exact Ends.eqv (aMy op pats args   hb1 hb2 hb3 hb4 hb5 hb6 hb7 hb8 hb9 hb10 hb11 hb12 hb13 hb14 hb15 hb16 hb17 hb18 hb19 hb20 hb21 hb22 hb23 hb24) (by simp_all [dD])
                        | false=>
                         cases hb25: (op== (22:Int))with
                         | true=>
                          exact Ends.eqv (aMz op pats args   hb1 hb2 hb3 hb4 hb5 hb6 hb7 hb8 hb9 hb10 hb11 hb12 hb13 hb14 hb15 hb16 hb17 hb18 hb19 hb20 hb21 hb22 hb23 hb24 hb25) (by simp_all [dD])
                         | false=>
                          cases hb26: (op== (8:Int))with
                          | true=>
                           exact Ends.eqv (aMA op pats args   hb1 hb2 hb3 hb4 hb5 hb6 hb7 hb8 hb9 hb10 hb11 hb12 hb13 hb14 hb15 hb16 hb17 hb18 hb19 hb20 hb21 hb22 hb23 hb24 hb25 hb26) (by simp_all [dD])
                          | false=>
                           cases hb27: (op== (15:Int))with
                           | true=>
                            exact Ends.eqv (aMB op pats args   hb1 hb2 hb3 hb4 hb5 hb6 hb7 hb8 hb9 hb10 hb11 hb12 hb13 hb14 hb15 hb16 hb17 hb18 hb19 hb20 hb21 hb22 hb23 hb24 hb25 hb26 hb27 sdI) (by simp_all [dD])
                           | false=>
                            cases hb28: (op== (14:Int))with
                            | true=>
                             exact Ends.eqv (aMC op pats args   hb1 hb2 hb3 hb4 hb5 hb6 hb7 hb8 hb9 hb10 hb11 hb12 hb13 hb14 hb15 hb16 hb17 hb18 hb19 hb20 hb21 hb22 hb23 hb24 hb25 hb26 hb27 hb28) (by simp_all [dD])
                            | false=>
                             exact Ends.eqv (aMD op pats args   hb1 hb2 hb3 hb4 hb5 hb6 hb7 hb8 hb9 hb10 hb11 hb12 hb13 hb14 hb15 hb16 hb17 hb18 hb19 hb20 hb21 hb22 hb23 hb24 hb25 hb26 hb27 hb28) (by simp_all [dD])
theorem aME (op pats args:Int)(hp:0≤pats)(hp2:pats≤1000) :Pure PP 188 [.int .i64 op,.int .i64 pats,.int .i64 args] (.int .i64 (dD op pats args)) :=
 aT (by kernel_rfl) rfl rfl (rKids_E op pats args hp hp2)
def eI (cons:List Con)(n:Int) :Int:=match cons[n.toNat]? with
 |some c=>c.args
 |none=> -1
def cV (cons:List Con)(f n:Int)(s:aC)(k:Nat) :Bool:=
 (if f=1∨f=2∨f=5 then decide (k=0) &&decide (n=0)
 else if f=3 then decide (k=0) &&cN n (-1000000000) 1000000000
 else if f=4 then decide (k=0) &&cN n 0 1
 else if f=6 then cN n 0 ((cons.length:Int) -1) &&decide ((k:Int) =eI cons n)
 else false) &&decide (s= [])
mutual
def cS (cons:List Con) :Pat→Bool
 | .mk f n s ps=>cV cons f n s ps.length&&bX cons ps
def bX (cons:List Con) :List Pat→Bool
 | [] =>true
 |p::ps=>cS cons p&&bX cons ps
end
theorem ptT {p:Prop}(h:p:=by simp_all [cV,eI,dC]) :p:=h
theorem aZe (q_form q_n:Int)(q_text:aC)(q_parts:List Pat)(cons:List Con)(hc:cons.length≤1000)(b:Bool)(hk:∀i:Bool,i=cV cons q_form q_n q_text q_parts.length→Ends PP 0 (dK q_form q_n q_text q_parts cons i 0).as (.ret (.bool b)) (aG [] 0)) :
  Ends PP 0 (start PP 187 [Pat.av (.mk q_form q_n q_text q_parts),.ilst 2 (map Con.av cons) false]).as (.ret (.bool b)) (aG [] 0) :=by
 cases hb1: (q_form== (1:Int))with
 | true=>
  cases hb2: (((length q_parts:Nat) :Int) == (0:Int))with
  | true=>
   cases hb3: (q_n== (0:Int))with
   | true=>
    exact LeadsM.ends (aRO q_form q_n q_text q_parts cons   hb1 hb2 hb3) (hk _ (by clear hk;exact ptT))
   | false=>
    exact LeadsM.ends (aRP q_form q_n q_text q_parts cons   hb1 hb2 hb3) (hk _ (by clear hk;exact ptT))
  | false=>
   exact LeadsM.ends (aRQ q_form q_n q_text q_parts cons   hb1 hb2) (hk _ (by clear hk;exact ptT))
 | false =>
  cases hb4: (q_form== (2:Int))with
  | true=>
   cases hb5: (((length q_parts:Nat) :Int) == (0:Int))with
   | true=>
    cases hb6: (q_n== (0:Int))with
    | true=>
     exact LeadsM.ends (aRR q_form q_n q_text q_parts cons   hb1 hb4 hb5 hb6) (hk _ (by clear hk;exact ptT))
    | false=>
     exact LeadsM.ends (aRS q_form q_n q_text q_parts cons   hb1 hb4 hb5 hb6) (hk _ (by clear hk;exact ptT))
   | false=>
    exact LeadsM.ends (aRT q_form q_n q_text q_parts cons   hb1 hb4 hb5) (hk _ (by clear hk;exact ptT))
  | false =>
   cases hb7: (q_form== (5:Int))with
   | true=>
    cases hb8: (((length q_parts:Nat) :Int) == (0:Int))with
    | true=>
     cases hb9: (q_n== (0:Int))with
     | true=>
      exact LeadsM.ends (aRU q_form q_n q_text q_parts cons   hb1 hb4 hb7 hb8 hb9) (hk _ (by clear hk;exact ptT))
     | false=>
      exact LeadsM.ends (aRV q_form q_n q_text q_parts cons   hb1 hb4 hb7 hb8 hb9) (hk _ (by clear hk;exact ptT))
    | false=>
     exact LeadsM.ends (aRW q_form q_n q_text q_parts cons   hb1 hb4 hb7 hb8) (hk _ (by clear hk;exact ptT))
   | false=>
    cases hb10: (q_form== (3:Int))with
    | true=>
     cases hb11: (((length q_parts:Nat) :Int) == (0:Int))with
     | true=>
      cases hb12: (cN q_n (-1000000000) 1000000000)with
      | true=>
       exact LeadsM.ends (aRX q_form q_n q_text q_parts cons  (cN q_n (-1000000000) 1000000000) hb1 hb4 hb7 hb10 hb11 (aX q_n (-1000000000) 1000000000) hb12) (hk _ (by clear hk;exact ptT))
      | false=>
       exact LeadsM.ends (aOW q_form q_n q_text q_parts cons  (cN q_n (-1000000000) 1000000000) hb1 hb4 hb7 hb10 hb11 (aX q_n (-1000000000) 1000000000) hb12) (hk _ (by clear hk;exact ptT))
     | false=>
      exact LeadsM.ends (aOX q_form q_n q_text q_parts cons   hb1 hb4 hb7 hb10 hb11) (hk _ (by clear hk;exact ptT))
    | false=>
     cases hb13: (q_form== (4:Int))with
     | true=>
      cases hb14: (((length q_parts:Nat) :Int) == (0:Int))with
      | true=>
       cases hb15: (cN q_n 0 1)with
       | true=>
        exact LeadsM.ends (aOY q_form q_n q_text q_parts cons  (cN q_n 0 1) hb1 hb4 hb7 hb10 hb13 hb14 (aX q_n 0 1) hb15) (hk _ (by clear hk;exact ptT))
       | false=>
        exact LeadsM.ends (aOZ q_form q_n q_text q_parts cons  (cN q_n 0 1) hb1 hb4 hb7 hb10 hb13 hb14 (aX q_n 0 1) hb15) (hk _ (by clear hk;exact ptT))
      | false=>
       exact LeadsM.ends (aO0 q_form q_n q_text q_parts cons   hb1 hb4 hb7 hb10 hb13 hb14) (hk _ (by clear hk;exact ptT))
     | false=>
      cases hb16: (q_form== (6:Int))with
      | true=>
       cases hb17: (cN q_n 0 (((length cons:Nat) :Int) - (1:Int)))with
       | true=>
        obtain⟨y1,hx18⟩ :∃y,((cons)[q_n.toNat]?) =some y:=idT;cases hb19: (((length q_parts:Nat) :Int) ==y1.args)with
        | true=>
         exact LeadsM.ends (aO1 q_form q_n q_text q_parts cons  (cN q_n 0 (((length cons:Nat) :Int) - (1:Int))) y1 hb1 hb4 hb7 hb10 hb13 hb16 sdI (aX q_n 0 (((length cons:Nat) :Int) - (1:Int))) hb17 sdI hx18 hb19) (hk _ (by clear hk;exact ptT))
        | false=>
         exact LeadsM.ends (aO2 q_form q_n q_text q_parts cons  (cN q_n 0 (((length cons:Nat) :Int) - (1:Int))) y1 hb1 hb4 hb7 hb10 hb13 hb16 sdI (aX q_n 0 (((length cons:Nat) :Int) - (1:Int))) hb17 sdI hx18 hb19) (hk _ (by clear hk;exact ptT))
       | false=>
        exact LeadsM.ends (aO3 q_form q_n q_text q_parts cons  (cN q_n 0 (((length cons:Nat) :Int) - (1:Int))) hb1 hb4 hb7 hb10 hb13 hb16 sdI (aX q_n 0 (((length cons:Nat) :Int) - (1:Int))) hb17) (hk _ (by clear hk;exact ptT))
      | false=>
       exact LeadsM.ends (aO4 q_form q_n q_text q_parts cons   hb1 hb4 hb7 hb10 hb13 hb16) (hk _ (by clear hk;exact ptT))
theorem aGd (f n:Int)(s:aC)(ps:List Pat)(cons:List Con)(hl:ps.length<1000000)(ih:∀p∈ps,Pure PP 187 [Pat.av p,.ilst 2 (map Con.av cons) false] (.bool (cS cons p))) :
  ∀ (t:List Pat) (i:Nat) (b:Bool),ps.drop i=t→Ends PP 0 (dK f n s ps cons b (i:Int)).as (.ret (.bool (b&&bX cons t))) (aG [] 0)
 | [],i,b,h=>by
  have:=bL h;exact Ends.eqv (aR0 f n s ps cons b i sd) (by simp [bX])
 | .mk f' n' s' ps'::t,i,b,h=>by
  obtain⟨g1,g2,g3⟩ :=bK h;cases b with
  |false=>exact Ends.eqv (aRZ f n s ps cons false i sd rfl) (by simp)
  | true=>
   refine(aRY f n s ps cons true i f' n' s' ps' _ sd rfl sd sd (ih (.mk f' n' s' ps') (mem_of_getElem? g1)) sd).ends ?_;exact Ends.eqv (aGd f n s ps cons hl ih t (i+1) _ g2) (by simp [bX])
mutual
theorem aGe (cons:List Con)(hc:cons.length≤1000) :∀ (p:Pat),cR p<1000000→Pure PP 187 [Pat.av p,.ilst 2 (map Con.av cons) false] (.bool (cS cons p))
 | .mk f n s ps,h=>by
  refine aT (by kernel_rfl) (by simp [keylessL,tI,keyless]) rfl ?_;simp only [cR]at h;have:=iG ps;refine aZe f n s ps cons hc _ (fun i hi=>?_);subst hi;rw [cS];exact aGd f n s ps cons (by omega) (aJH cons hc ps (by omega)) ps 0 _ rfl
theorem aJH (cons:List Con)(hc:cons.length≤1000) :∀ (ps:List Pat),bF ps<1000000→∀p∈ps,Pure PP 187 [Pat.av p,.ilst 2 (map Con.av cons) false] (.bool (cS cons p))
 | [],_,p,hp=>by cases hp
 | q::ps,h,p,hp=>by
  simp only [bF]at h;rcases List.mem_cons.1 hp with e|hp
  ·rw [e];exact aGe cons hc q (by omega)
  ·exact aJH cons hc ps (by omega) p hp
end
def bS(a:Prog)(b:Node)(c:Bool)(d e:Int):TS:=⟨(tf 119 112 [kp 2 0,kp 3 1,(4,(bV false)),(5,(nI d)),(6,(bV c)),(7,(nI e))] [kc f119 1012,kl f119 1012,.inBlock 1,kc f119 127]),[],[oC 0 [(iN a.nodes),(iI a.funs),(nI a.main),(iC a.cons)],oC 1 [(nI b.op),(nI b.n),(iI b.kids),(iP b.pats)]],2⟩
def aBk(b:List Con)(c:Int)(a:List aC):TS:=⟨(tf 118 42 [(0,(iC b)),(2,(bV false)),(3,(.gl 0 1 0 a.length false)),(4,(nI c))] [kc f118 116,kl f118 116,.inBlock 0,kc f118 15]),[],[oL 0 1 (map aA a)],1⟩
def tO(a:Prog)(c:Int)(b:List Bool):TS:=⟨(tf 38 133 [kp 1 0,(2,(bV false)),(3,(nI (a.nodes.length:Int))),(4,(.gl 1 1 0 b.length true)),(5,(nI c))] [kc f38 500,kl f38 500,.inBlock 0,kc f38 63]),[],[oC 0 [(iN a.nodes),(iI a.funs),(nI a.main),(iC a.cons)],oL 1 1 (map mY b)],2⟩
def pF(a:Prog)(b:List Bool)(c:Int):TS:=⟨(tf 38 133 [kp 1 0,(2,(bV false)),(3,(nI (a.nodes.length:Int))),(4,(.gl 1 1 0 b.length true)),(6,(nI c))] [kc f38 1012,kl f38 1012,.inBlock 2,kc f38 127]),[],[oC 0 [(iN a.nodes),(iI a.funs),(nI a.main),(iC a.cons)],oL 1 1 (map mY b)],2⟩
def tP(a:Prog)(b:List Bool)(c d:Int):TS:=⟨(tf 38 133 [kp 1 0,(2,(bV false)),(3,(nI (a.nodes.length:Int))),(4,(.gl 1 1 0 b.length true)),(6,(nI d)),(7,(nI c))] [kc f38 129612,kl f38 129612,.inBlock 4,.inBlock 3,kc f38 4051,kl f38 1012,.inBlock 2,kc f38 127]),[],[oC 0 [(iN a.nodes),(iI a.funs),(nI a.main),(iC a.cons)],oL 1 1 (map mY b)],2⟩
def tQ(b:Prog)(a:List Bool)(c:Int):TS:=⟨(tf 38 133 [(2,(bV false)),(3,(nI (b.nodes.length:Int))),(4,(.gl 0 1 0 a.length true)),(9,(nI c))] [kc f38 2036,kl f38 2036,.inBlock 6,kc f38 255]),[],[oL 0 1 (map mY a)],1⟩
def nV(b:Prog)(a:Node):=tT 0 (start PP 119 [(Prog.av b),(Node.av a)])<|.b 29 13 (a.op==1) (fQ 4 117 [(nI a.n),(nI (-1000000000)),(nI 1000000000)]<|fun c=>.b 10 56 (a.op==15) (.b 4 58 c (gm 2 aH a.pats<|fQ 0 117 [(nI (a.pats.length:Int)),(nI 1),(nI 5)]<|fun d=>.W 10 2 [0,1] (bS b a d 0 0))<|.W 14 2 [0,1] (bS b a false 0 0))<|.b 4 65 c (gm 2 aH a.pats<|.W 11 2 [0,1] (bS b a ((a.pats.length:Int) ==0) 0 0))<|.W 14 2 [0,1] (bS b a false 0 0))<|.b 6 18 (a.op==2) (fQ 4 117 [(nI a.n),(nI 0),(nI 1)]<|fun c=>.b 10 56 (a.op==15) (.b 4 58 c (gm 2 aH a.pats<|fQ 0 117 [(nI (a.pats.length:Int)),(nI 1),(nI 5)]<|fun d=>.W 10 2 [0,1] (bS b a d 0 0))<|.W 14 2 [0,1] (bS b a false 0 0))<|.b 4 65 c (gm 2 aH a.pats<|.W 11 2 [0,1] (bS b a ((a.pats.length:Int) ==0) 0 0))<|.W 14 2 [0,1] (bS b a false 0 0))<|.b 6 23 (a.op==4) (gl 6 aR b.funs<|gw 1 30 (0- (b.funs.length:Int))<|fQ 0 117 [(nI a.n),(nI (0- (b.funs.length:Int))),(nI 29)]<|fun c=>.b 10 56 (a.op==15) (.b 4 58 c (gm 2 aH a.pats<|fQ 0 117 [(nI (a.pats.length:Int)),(nI 1),(nI 5)]<|fun d=>.W 10 2 [0,1] (bS b a d 0 0))<|.W 14 2 [0,1] (bS b a false 0 0))<|.b 4 65 c (gm 2 aH a.pats<|.W 11 2 [0,1] (bS b a ((a.pats.length:Int) ==0) 0 0))<|.W 14 2 [0,1] (bS b a false 0 0))<|.b 6 32 (a.op==24) (fQ 4 117 [(nI a.n),(nI 0),(nI 3)]<|fun c=>.b 10 56 (a.op==15) (.b 4 58 c (gm 2 aH a.pats<|fQ 0 117 [(nI (a.pats.length:Int)),(nI 1),(nI 5)]<|fun d=>.W 10 2 [0,1] (bS b a d 0 0))<|.W 14 2 [0,1] (bS b a false 0 0))<|.b 4 65 c (gm 2 aH a.pats<|.W 11 2 [0,1] (bS b a ((a.pats.length:Int) ==0) 0 0))<|.W 14 2 [0,1] (bS b a false 0 0))<|.b 6 37 (a.op==14) (gl 7 Con.av b.cons<|gw 1 44 ((b.cons.length:Int) -1)<|fQ 0 117 [(nI a.n),(nI 0),(nI ((b.cons.length:Int) -1))]<|fun c=>.b 6 46 c (gX Con.av 6 b.cons a.n<|fun d=>.b 12 56 (a.op==15) (.b 4 58 c (gm 2 aH a.pats<|fQ 0 117 [(nI (a.pats.length:Int)),(nI 1),(nI 5)]<|fun e=>.W 10 2 [0,1] (bS b a e d.args 0)) .x)<|.b 4 65 c (gm 2 aH a.pats<|.W 11 2 [0,1] (bS b a ((a.pats.length:Int) ==0) d.args 0)) .x)<|.b 10 56 (a.op==15) (.b 4 58 c .x<|.W 14 2 [0,1] (bS b a false 0 0))<|.b 4 65 c .x<|.W 14 2 [0,1] (bS b a false 0 0))<|.b 10 56 (a.op==15) (.b 4 58 (a.n==0) (gm 2 aH a.pats<|fQ 0 117 [(nI (a.pats.length:Int)),(nI 1),(nI 5)]<|fun c=>.W 10 2 [0,1] (bS b a c 0 0))<|.W 14 2 [0,1] (bS b a false 0 0))<|.b 4 65 (a.n==0) (gm 2 aH a.pats<|.W 11 2 [0,1] (bS b a ((a.pats.length:Int) ==0) 0 0))<|.W 14 2 [0,1] (bS b a false 0 0)
def aPf:=fun a b c d e f g i j=>nV a b|>.t e c f|>.t g|>.t i d j tv
def aPg:=fun a b c d e f g=>nV a b|>.t d c e|>.t f|>.f g tv
def aPh:=fun a b c d e f g=>nV a b|>.t d c e|>.f f|>.t g tv
def aPi:=fun a b c d e f g=>nV a b|>.t d c e|>.f f|>.f g tv
def aPj:=fun a b c d e f g i j k=>nV a b|>.f e|>.t f c g|>.t i|>.t j d k tv
def aPk:=fun a b c d e f g i=>nV a b|>.f d|>.t e c f|>.t g|>.f i tv
def aPl:=fun a b c d e f g i=>nV a b|>.f d|>.t e c f|>.f g|>.t i tv
def aPm:=fun a b c d e f g i=>nV a b|>.f d|>.t e c f|>.f g|>.f i tv
def aPn:=fun a b c d e f g i j k l m=>nV a b|>.f e|>.f f|>.t g i c j|>.t k|>.t l d m tv
def aPo:=fun a b c d e f g i j k=>nV a b|>.f d|>.f e|>.t f g c i|>.t j|>.f k tv
def aMF:=fun a b c d e f g i j k=>nV a b|>.f d|>.f e|>.t f g c i|>.f j|>.t k tv
def aMG:=fun a b c d e f g i j k=>nV a b|>.f d|>.f e|>.t f g c i|>.f j|>.f k tv
def aMH:=fun a b c d e f g i j k l m=>nV a b|>.f e|>.f f|>.f g|>.t i c j|>.t k|>.t l d m tv
def aMI:=fun a b c d e f g i j k=>nV a b|>.f d|>.f e|>.f f|>.t g c i|>.t j|>.f k tv
def aMJ:=fun a b c d e f g i j k=>nV a b|>.f d|>.f e|>.f f|>.t g c i|>.f j|>.t k tv
def aMK:=fun a b c d e f g i j k=>nV a b|>.f d|>.f e|>.f f|>.t g c i|>.f j|>.f k tv
def aML:=fun b c d e f g i j k l m n a o p q r=>nV b c|>.f g|>.f i|>.f j|>.f k|>.t l m d n|>.t a e o p|>.t q|>.t a f r tv
def aMM:=fun b c d e f g i j k l m a n o p=>nV b c|>.f f|>.f g|>.f i|>.f j|>.t k l d m|>.t a e n o|>.f p|>.t a tv
def aMN:=fun b c d e f g i j k l a m=>nV b c|>.f e|>.f f|>.f g|>.f i|>.t j k d l|>.f a|>.t m|>.f a tv
def aMO:=fun b c d e f g i j k l a m=>nV b c|>.f e|>.f f|>.f g|>.f i|>.t j k d l|>.f a|>.f m|>.f a tv
def aMP:=fun a b c d e f g i j k l=>nV a b|>.f d|>.f e|>.f f|>.f g|>.f i|>.t j|>.t k c l tv
def aMQ:=fun a b c d e f g i j=>nV a b|>.f c|>.f d|>.f e|>.f f|>.f g|>.t i|>.f j tv
def aMR:=fun a b c d e f g i j=>nV a b|>.f c|>.f d|>.f e|>.f f|>.f g|>.f i|>.t j tv
def aMS:=fun a b c d e f g i j=>nV a b|>.f c|>.f d|>.f e|>.f f|>.f g|>.f i|>.f j tv
def aR1(j:Prog)(a:Node)(i:Bool)(k b:Int):=tT 0 (bS j a i k b)<|gm 6 aH a.pats<|gd 2 76 (b< (a.pats.length:Int)) (.b 3 78 i (.o (.y fun c:Int=>.y fun d:Int=>.y fun e:aC=>.y fun f:List Pat=>.y fun g:Int=>.y fun l:Bool=>.i [rn 4,.reg (rd 3 (.ans (.idx (Pat.av (Pat.mk c d e f)))::.d::.pure (nI g)::.d::.d::.b 88 true::rd 3 (.ans (.idx (Pat.av (Pat.mk c d e f)))::rd 3 [.pure (bV l),.d,.d])))] [hA (0≤b),.a (((a.pats)[b.toNat]?) =some (Pat.mk c d e f)) (mM aH),hA (Pure PP 186 [(.agg [(nI c),(nI d),(aA e),(iP f)]),(nI 12)] (nI g)),hA (decide (g≥0) =true),hA (0≤b),.a (((a.pats)[b.toNat]?) =some (Pat.mk c d e f)) (mM aH),hA (Pure PP 187 [(.agg [(nI c),(nI d),(aA e),(iP f)]),(iC j.cons)] (bV l))]<|gw 4 80 (b+1)<|.W 3 2 [0,1] (bS j a l k (b+1)))<|.y fun c:Int=>.y fun d:Int=>.y fun e:aC=>.y fun f:List Pat=>.y fun g:Int=>.i [rn 4,.reg (rd 3 (.ans (.idx (Pat.av (Pat.mk c d e f)))::.d::.pure (nI g)::.d::.d::.b 88 false::rd 10 []))] [hA (0≤b),.a (((a.pats)[b.toNat]?) =some (Pat.mk c d e f)) (mM aH),hA (Pure PP 186 [(.agg [(nI c),(nI d),(aA e),(iP f)]),(nI 12)] (nI g)),hA (decide (g≥0) =false)]<|gw 4 80 (b+1)<|.W 3 2 [0,1] (bS j a false k (b+1)))<|.i [rn 3,.reg (.d::.d::.b 99 false::rd 13 [])] [hA (i=false)]<|gE 1 2 (bV false))<|.o (.y fun m:Int=>.i [rn 6,.reg (.d::.d::.b 99 true::.d::.d::.ans (.len (a.kids.length:Int))::rd 4 (.ans (.len (a.pats.length:Int))::.d::.pure (nI m)::rd 3 []))] [hA (i=true),hl aR a.kids,hm aH a.pats,hA (Pure PP 188 [(nI a.op),(nI (a.pats.length:Int)),(nI k)] (nI m)),.q (p:=(nI ((jI a.kids).length:Int)) = (nI (a.kids.length:Int))) (congrArg (int .i64) (aN9 _ _)),.q (p:=(nI ((jI a.kids).length:Int)) = (nI (a.kids.length:Int))) (congrArg (int .i64) (aN9 _ _)),hr (ilst 1 (jI a.kids) false),hr (ilst 1 (jI a.kids) false)]<|gE 1 2 (bV ((a.kids.length:Int) ==m)))<|.i [rn 6,.reg (.d::.d::.b 99 false::rd 13 [])] [hA (i=false)]<|gE 1 2 (bV false)
def aPp:=fun c d e f g i j k l m n o p a b q r s t=>aR1 c d e f g|>.t o|>.t p|>.1 i j k l m n a b q r a b s t tv
def aPq:=fun a b c d e f g i j k l m n o p q r=>aR1 a b c d e|>.t l|>.t m|>.2 f g i j k n o p q r tv
def aPr:=fun b c d e f g a=>aR1 b c d e f|>.t g|>.f a a tv
def aPs:=fun a b c d e f g i j=>aR1 a b c d e|>.f g|>.1 f i j tv
def aPt:=fun a b c d e f g=>aR1 a b c d e|>.f f|>.2 g tv
def aPu (a:List Con):=(tT 0 (start PP 118 [(iC a)])<|.i [rn 15,.nilL 3 1] []<|gu 0 0 (map aA ([] :List aC))<|gs 0 3 (.gl 0 1 0 ([] :List aC).length false)<|.W 0 1 [0] (aBk a 0 ([] :List aC))) ⟨kk,trivial⟩
def aR2(a:List Con)(c:Int)(d:List aC):=tT 0 (aBk a c d)<|gl 5 Con.av a<|gd 2 8 (c< (a.length:Int)) (gX Con.av 9 a c<|fun b=>fQ 2 172 [(aA b.name)]<|fun e=>.b 2 18 (!e) (gE 15 1 (bV false))<|gi Con.av 2 a c b<|fQ 2 117 [(nI b.args),(nI 0),(nI 3)]<|fun f=>.b 3 26 (!f) (gE 6 1 (bV false))<|gi Con.av 6 a c b<|ga 3 aA d [b.name]<|gw 6 10 (c+1)<|.W 3 3 [2] (aBk a (c+1) (d++ [b.name])))<|gl 5 Con.av a<|gd 2 38 ((a.length:Int) ≤20) (gz 1 39 0 1 aA d false<|fQ 0 71 [(iS d)]<|fun b=>gE 4 1 (bV b))<|gE 6 1 (bV false)
def aPv:=fun a b c d e f g i j k=>aR2 a b c|>.t f d g i e j|>.t k tv
def aPw:=fun c d e f g i j a b k l m n=>aR2 c d e|>.t j f a b g k|>.f l a b i m|>.t n tv
def aPx:=fun c d e f g i j a b k l m n o p=>aR2 c d e|>.t j f a b g k|>.f l a b i m|>.f n a b o p ⟨kk,trivial⟩
def aPy:=fun a b c d e f g=>aR2 a b c|>.f e|>.t f d g tv
def aPz:=fun a b c d e=>aR2 a b c|>.f d|>.f e tv
def aR3(a:Prog):=tT 0 (start PP 38 [(Prog.av a)])<|gl 9 Node.av a.nodes<|gd 8 15 ((a.nodes.length:Int) >300) (gE 30 1 (bV false))<|gl 2 aR a.funs<|fQ 1 117 [(nI (a.funs.length:Int)),(nI 1),(nI (a.nodes.length:Int))]<|fun b=>.b 3 23 (!b) (gE 22 1 (bV false))<|gl 4 aR a.funs<|gw 1 29 ((a.funs.length:Int) -1)<|fQ 0 117 [(nI a.main),(nI 0),(nI ((a.funs.length:Int) -1))]<|fun c=>.b 3 33 (!c) (gE 12 1 (bV false))<|fQ 2 118 [(iC a.cons)]<|fun d=>.b 3 38 (!d) (gE 6 1 (bV false))<|.i [rn 5,.mk a.nodes.length] [hr (a.nodes.length:Int),hr (a.nodes.length:Int),hA (a.nodes.length<100000)]<|.i [.lset 1 (map mY (replicate a.nodes.length false))] [.q (p:=replicate a.nodes.length (mY false) = (map mY (replicate a.nodes.length false))) (aN8 _ _ _)]<|.i [.set 40 (.gl 1 1 0 (replicate a.nodes.length false).length true)] [.q (p:=(AV.gl 1 1 0 a.nodes.length true) = (.gl 1 1 0 (replicate a.nodes.length false).length true)) (dJ (List.length_replicate ..).symm)]<|.W 9 2 [0,1] (tO a 0 (replicate a.nodes.length false))
def aJI:=fun a b=>aR3 a|>.t b tv
def aJJ:=fun a b c d e=>aR3 a|>.f c b d|>.t e tv
def aJK:=fun a b c d e f g i j=>aR3 a|>.f d b e|>.f f g c i|>.t j tv
def aJL:=fun a b c d e f g i j k l m=>aR3 a|>.f e b f|>.f g i c j|>.f k d l|>.t m tv
def aJM:=fun a b c d e f g i j k l m n=>aR3 a|>.f e b f|>.f g i c j|>.f k d l|>.f m n ⟨kk,trivial⟩
def aUQ(c:Prog)(d:Int)(a:List Bool):=tT 0 (tO c d a)<|gl 6 aR c.funs<|gd 2 45 (d< (c.funs.length:Int)) (gX aR 10 c.funs d<|fun b=>gw 3 54 ((c.nodes.length:Int) -1)<|fQ 0 117 [(nI b),(nI 0),(nI ((c.nodes.length:Int) -1))]<|fun f=>.b 2 57 (!f) (gE 16 2 (bV false))<|gi aR 4 c.funs d b<|.i [rn 1,.ans (.ix)] [hA (0≤b),hA (b< (a.length:Int))]<|.y fun e:Bool=>gj mY 0 a b.toNat e<|.b 2 66 e (gE 6 2 (bV false))<|gi aR 7 c.funs d b<|.i [rn 1,.ans (.ix)] [hA (0≤b),hA (b< (a.length:Int))]<|.i [.st (mY e) (mY true)] [.a (((a)[b.toNat]?) =some e) (jL (f:=mY)),hr (some (mY true))]<|.i [.lset 1 (map mY (set a b.toNat true))] [.q (p:=(map mY a).set (0+b.toNat) (mY true) = (map mY (set a b.toNat true))) (rE _ _ _ _)]<|.i [.set 4 (.gl 1 1 0 (set a b.toNat true).length true)] [.q (p:=(AV.gl 1 1 0 a.length true) = (.gl 1 1 0 (set a b.toNat true).length true)) (dJ (length_set ..).symm)]<|.i [.set 58 (.gl 1 1 0 (set a b.toNat true).length true)] [.q (p:=(AV.gl 1 1 0 a.length true) = (.gl 1 1 0 (set a b.toNat true).length true)) (dJ (length_set ..).symm)]<|.i [.set 67 (.gl 1 1 0 (set a b.toNat true).length true)] [.q (p:=(AV.gl 1 1 0 a.length true) = (.gl 1 1 0 (set a b.toNat true).length true)) (dJ (length_set ..).symm)]<|gw 5 47 (d+1)<|.W 3 2 [0,1] (tO c (d+1) (set a b.toNat true)))<|.W 9 2 [0,1] (pF c a 0)
def aJN:=fun a b c d e f g i j k l=>aUQ a b c|>.t f d g i j e k|>.t l tv
def aJO:=fun c d e f g i j a b k l m n o p q=>aUQ c d e|>.t j f a b k g l|>.f m a b n o i p|>.t q tv
def aJP:=fun f g i j k l m a b n o p c d e q r=>aUQ f g i|>.t m j a b n k o|>.f p a b c d l e|>.f q a b c d e r ⟨kk,trivial⟩
def aJQ:=fun a b c d=>aUQ a b c|>.f d ⟨kk,trivial⟩
def aZf(a:Prog)(c:List Bool)(b:Int):=tT 0 (pF a c b)<|gd 7 76 (b< (a.nodes.length:Int)) (.y fun d:Node=>.y fun e:Bool=>.i [rn 6,.reg (rd 4 [.ans (.idx (Node.av d)),.d,.pure (bV e),.d])] [hA (0≤b),.a (((a.nodes)[b.toNat]?) =some d) (eO (f:=Node.av)),hA (Pure PP 119 [(Prog.av a),(Node.av d)] (bV e))]<|.b 0 86 (!e) (gE 6 2 (bV false))<|.W 8 2 [0,1] (tP a c 0 b))<|.W 9 2 [1] (tQ a c 0)
def aJR:=fun a b c d e f g i j k=>aZf a b c|>.t f d e g i j|>.t k tv
def aJS:=fun a b c d e f g i j k=>aZf a b c|>.t f d e g i j|>.f k ⟨kk,trivial⟩
def aJT:=fun a b c d=>aZf a b c|>.f d ⟨kk,trivial⟩
def aUR(d:Prog)(a:List Bool)(e c:Int):=tT 0 (tP d a e c)<|gX Node.av 7 d.nodes c<|fun f=>gl 2 aR f.kids<|gd 2 95 (e< (f.kids.length:Int)) (gi Node.av 9 d.nodes c f<|gX aR 3 f.kids e<|fun b=>gw 9 109 (c+1)<|gw 2 111 ((d.nodes.length:Int) -1)<|fQ 0 117 [(nI b),(nI (c+1)),(nI ((d.nodes.length:Int) -1))]<|fun i=>.b 2 114 (!i) (gE 12 2 (bV false))<|.i [rn 2,.ans (.ix)] [hA (0≤b),hA (b< (a.length:Int))]<|.y fun g:Bool=>gj mY 0 a b.toNat g<|.b 2 119 g (gE 6 2 (bV false))<|.i [rn 5,.ans (.ix)] [hA (0≤b),hA (b< (a.length:Int))]<|.i [.st (mY g) (mY true)] [.a (((a)[b.toNat]?) =some g) (jL (f:=mY)),hr (some (mY true))]<|.i [.lset 1 (map mY (set a b.toNat true))] [.q (p:=(map mY a).set (0+b.toNat) (mY true) = (map mY (set a b.toNat true))) (rE _ _ _ _)]<|.i [.set 4 (.gl 1 1 0 (set a b.toNat true).length true)] [.q (p:=(AV.gl 1 1 0 a.length true) = (.gl 1 1 0 (set a b.toNat true).length true)) (dJ (length_set ..).symm)]<|.i [.set 115 (.gl 1 1 0 (set a b.toNat true).length true)] [.q (p:=(AV.gl 1 1 0 a.length true) = (.gl 1 1 0 (set a b.toNat true).length true)) (dJ (length_set ..).symm)]<|.i [.set 120 (.gl 1 1 0 (set a b.toNat true).length true)] [.q (p:=(AV.gl 1 1 0 a.length true) = (.gl 1 1 0 (set a b.toNat true).length true)) (dJ (length_set ..).symm)]<|gw 5 97 (e+1)<|.W 3 2 [0,1] (tP d (set a b.toNat true) (e+1) c))<|gw 6 78 (c+1)<|.W 3 2 [0,1] (pF d a (c+1))
def aJU:=fun c d e f g i j a b k l m n o p q=>aUR c d e f g a b|>.t k a b i l m n o j p|>.t q tv
def aJV:=fun c d e f g i j k a b l m n o p q r s t u v=>aUR c d e f g a b|>.t l a b i m n o p j q|>.f r s t k u|>.t v tv
def aJW:=fun f g i j k l m n a b o p q r s t u c d e v w=>aUR f g i j k a b|>.t o a b l p q r s m t|>.f u c d n e|>.f v c d e w ⟨kk,trivial⟩
def aJX:=fun a b c d e f g i j=>aUR a b c d e f g|>.f i j ⟨kk,trivial⟩
def aZg(c:Prog)(b:List Bool)(a:Int):=tT 0 (tQ c b a)<|gd 7 125 (a< (c.nodes.length:Int)) (.i [rn 8,.ans (.ix)] [hA (0≤a),hA (a< (b.length:Int))]<|.y fun d:Bool=>gj mY 0 b a.toNat d<|.b 2 132 (!d) (gE 6 1 (bV false))<|gw 6 127 (a+1)<|.W 3 1 [0] (tQ c b (a+1)))<|gE 7 1 (bV true)
def aJY:=fun a b c d e f g i j=>aZg a b c|>.t e f g d i|>.t j tv
def aJZ:=fun a b c d e f g i j k=>aZg a b c|>.t e f g d i|>.f j k ⟨kk,trivial⟩
def aJ0:=fun a b c d=>aZg a b c|>.f d tv
def fH (c:Con) :Bool:=iE c.name&&cN c.args 0 3
def bB (l:List Con) :List aC:=l.map Con.name
def wY (l:List Con) :Bool:=l.all fH&&decide (l.length≤20) &&bG (bB l)
def bH (p:Prog)(op n:Int) :Bool:=
 if op=1 then cN n (-1000000000) 1000000000
 else if op=2 then cN n 0 1
 else if op=4 then cN n (0- (p.funs.length:Int)) 29
 else if op=24 then cN n 0 3
 else if op=14 then cN n 0 ((p.cons.length:Int) -1)
 else decide (n=0)
def eJ (p:Prog)(x:Node) :Bool:=
 bH p x.op x.n&& (if x.op=15 then cN (x.pats.length:Int) 1 5 else decide (x.pats.length=0))
def eK (p:Prog)(x:Node) :Int:=if x.op=14∧cN x.n 0 ((p.cons.length:Int) -1) =true then eI p.cons x.n else 0
def gI (cons:List Con)(q:Pat) :Bool:=decide (cR q≤12) &&cS cons q
def bC (p:Prog)(x:Node) :Bool:=
 eJ p x&&x.pats.all (gI p.cons) &&decide ((x.kids.length:Int) =dD x.op x.pats.length (eK p x))
theorem fM {α:Type}(l:List α) : ((l.length:Int) ==0) =decide (l= []) :=by cases l<;>simp;omega
theorem oG {p:Prop}(h:p:=by simp_all [eJ,bH,eK,eI,fM]) :p:=h
theorem aUS (p:Prog)(x:Node)(hc:p.cons.length≤1000)(hf:p.funs.length≤1000)(b:Bool)(hk:∀ (i:Bool) (a:Int),i=eJ p x→a=eK p x→Ends PP 0 (bS p x i a 0).as (.ret (.bool b)) (aG [] 0)) :
  Ends PP 0 (start PP 119 [Prog.av p,Node.av x]).as (.ret (.bool b)) (aG [] 0) :=by
 cases hb1: (x.op== (1:Int))with
 | true=>
  cases hb2: (x.op== (15:Int))with
  | true=>
   cases hb3: (cN (x.n) (-1000000000) 1000000000)with
   | true=>
    exact LeadsM.ends (aPf p x  (cN (x.n) (-1000000000) 1000000000) (cN ((length x.pats:Nat) :Int) 1 5) hb1 (aX (x.n) (-1000000000) 1000000000) hb2 hb3 (aX ((length x.pats:Nat) :Int) 1 5)) (hk _ _ (by clear hk;exact oG) (by clear hk;exact oG))
   | false=>
    exact LeadsM.ends (aPg p x  (cN (x.n) (-1000000000) 1000000000) hb1 (aX (x.n) (-1000000000) 1000000000) hb2 hb3) (hk _ _ (by clear hk;exact oG) (by clear hk;exact oG))
  | false=>
   cases hb4: (cN (x.n) (-1000000000) 1000000000)with
   | true=>
    exact LeadsM.ends (aPh p x  (cN (x.n) (-1000000000) 1000000000) hb1 (aX (x.n) (-1000000000) 1000000000) hb2 hb4) (hk _ _ (by clear hk;exact oG) (by clear hk;exact oG))
   | false=>
    exact LeadsM.ends (aPi p x  (cN (x.n) (-1000000000) 1000000000) hb1 (aX (x.n) (-1000000000) 1000000000) hb2 hb4) (hk _ _ (by clear hk;exact oG) (by clear hk;exact oG))
 | false =>
  cases hb5: (x.op== (2:Int))with
  | true=>
   cases hb6: (x.op== (15:Int))with
   | true=>
    cases hb7: (cN (x.n) 0 1)with
    | true=>
     exact LeadsM.ends (aPj p x  (cN (x.n) 0 1) (cN ((length x.pats:Nat) :Int) 1 5) hb1 hb5 (aX (x.n) 0 1) hb6 hb7 (aX ((length x.pats:Nat) :Int) 1 5)) (hk _ _ (by clear hk;exact oG) (by clear hk;exact oG))
    | false=>
     exact LeadsM.ends (aPk p x  (cN (x.n) 0 1) hb1 hb5 (aX (x.n) 0 1) hb6 hb7) (hk _ _ (by clear hk;exact oG) (by clear hk;exact oG))
   | false=>
    cases hb8: (cN (x.n) 0 1)with
    | true=>
     exact LeadsM.ends (aPl p x  (cN (x.n) 0 1) hb1 hb5 (aX (x.n) 0 1) hb6 hb8) (hk _ _ (by clear hk;exact oG) (by clear hk;exact oG))
    | false=>
     exact LeadsM.ends (aPm p x  (cN (x.n) 0 1) hb1 hb5 (aX (x.n) 0 1) hb6 hb8) (hk _ _ (by clear hk;exact oG) (by clear hk;exact oG))
  | false=>
   cases hb9: (x.op== (4:Int))with
   | true=>
    cases hb10: (x.op== (15:Int))with
    | true=>
     cases hb11: (cN (x.n) (0- ((length p.funs:Nat) :Int)) 29)with
     | true=>
      exact LeadsM.ends (aPn p x  (cN (x.n) (0- ((length p.funs:Nat) :Int)) 29) (cN ((length x.pats:Nat) :Int) 1 5) hb1 hb5 hb9 sdI (aX (x.n) (0- ((length p.funs:Nat) :Int)) 29) hb10 hb11 (aX ((length x.pats:Nat) :Int) 1 5)) (hk _ _ (by clear hk;exact oG) (by clear hk;exact oG))
     | false=>
      exact LeadsM.ends (aPo p x  (cN (x.n) (0- ((length p.funs:Nat) :Int)) 29) hb1 hb5 hb9 sdI (aX (x.n) (0- ((length p.funs:Nat) :Int)) 29) hb10 hb11) (hk _ _ (by clear hk;exact oG) (by clear hk;exact oG))
    | false=>
     cases hb12: (cN (x.n) (0- ((length p.funs:Nat) :Int)) 29)with
     | true=>
      exact LeadsM.ends (aMF p x  (cN (x.n) (0- ((length p.funs:Nat) :Int)) 29) hb1 hb5 hb9 sdI (aX (x.n) (0- ((length p.funs:Nat) :Int)) 29) hb10 hb12) (hk _ _ (by clear hk;exact oG) (by clear hk;exact oG))
     | false=>
      exact LeadsM.ends (aMG p x  (cN (x.n) (0- ((length p.funs:Nat) :Int)) 29) hb1 hb5 hb9 sdI (aX (x.n) (0- ((length p.funs:Nat) :Int)) 29) hb10 hb12) (hk _ _ (by clear hk;exact oG) (by clear hk;exact oG))
   | false=>
    cases hb13: (x.op== (24:Int))with
    | true=>
     cases hb14: (x.op== (15:Int))with
     | true=>
      cases hb15: (cN (x.n) 0 3)with
      | true=>
       exact LeadsM.ends (aMH p x  (cN (x.n) 0 3) (cN ((length x.pats:Nat) :Int) 1 5) hb1 hb5 hb9 hb13 (aX (x.n) 0 3) hb14 hb15 (aX ((length x.pats:Nat) :Int) 1 5)) (hk _ _ (by clear hk;exact oG) (by clear hk;exact oG))
      | false=>
       exact LeadsM.ends (aMI p x  (cN (x.n) 0 3) hb1 hb5 hb9 hb13 (aX (x.n) 0 3) hb14 hb15) (hk _ _ (by clear hk;exact oG) (by clear hk;exact oG))
     | false=>
      cases hb16: (cN (x.n) 0 3)with
      | true=>
       exact LeadsM.ends (aMJ p x  (cN (x.n) 0 3) hb1 hb5 hb9 hb13 (aX (x.n) 0 3) hb14 hb16) (hk _ _ (by clear hk;exact oG) (by clear hk;exact oG))
      | false=>
       exact LeadsM.ends (aMK p x  (cN (x.n) 0 3) hb1 hb5 hb9 hb13 (aX (x.n) 0 3) hb14 hb16) (hk _ _ (by clear hk;exact oG) (by clear hk;exact oG))
    | false=>
     cases hb17: (x.op== (14:Int))with
     | true=>
      cases hb18: (cN (x.n) 0 (((length p.cons:Nat) :Int) - (1:Int)))with
      | true=>
       obtain⟨y1,hx19⟩ :∃y,((p.cons)[x.n.toNat]?) =some y:=idT;cases hb20: (x.op== (15:Int))with
       | true=>
        exact LeadsM.ends (aML p x  (cN (x.n) 0 (((length p.cons:Nat) :Int) - (1:Int))) y1 (cN ((length x.pats:Nat) :Int) 1 5) hb1 hb5 hb9 hb13 hb17 sdI (aX (x.n) 0 (((length p.cons:Nat) :Int) - (1:Int))) hb18 sdI hx19 hb20 (aX ((length x.pats:Nat) :Int) 1 5)) (hk _ _ (by clear hk;exact oG) (by clear hk;exact oG))
       | false=>
        exact LeadsM.ends (aMM p x  (cN (x.n) 0 (((length p.cons:Nat) :Int) - (1:Int))) y1 hb1 hb5 hb9 hb13 hb17 sdI (aX (x.n) 0 (((length p.cons:Nat) :Int) - (1:Int))) hb18 sdI hx19 hb20) (hk _ _ (by clear hk;exact oG) (by clear hk;exact oG))
      | false=>
       cases hb21: (x.op== (15:Int))with
       | true=>
        exact LeadsM.ends (aMN p x  (cN (x.n) 0 (((length p.cons:Nat) :Int) - (1:Int))) hb1 hb5 hb9 hb13 hb17 sdI (aX (x.n) 0 (((length p.cons:Nat) :Int) - (1:Int))) hb18 hb21) (hk _ _ (by clear hk;exact oG) (by clear hk;exact oG))
       | false=>
        exact LeadsM.ends (aMO p x  (cN (x.n) 0 (((length p.cons:Nat) :Int) - (1:Int))) hb1 hb5 hb9 hb13 hb17 sdI (aX (x.n) 0 (((length p.cons:Nat) :Int) - (1:Int))) hb18 hb21) (hk _ _ (by clear hk;exact oG) (by clear hk;exact oG))
     | false=>
      cases hb22: (x.op== (15:Int))with
      | true=>
       cases hb23: (x.n== (0:Int))with
       | true=>
        exact LeadsM.ends (aMP p x  (cN ((length x.pats:Nat) :Int) 1 5) hb1 hb5 hb9 hb13 hb17 hb22 hb23 (aX ((length x.pats:Nat) :Int) 1 5)) (hk _ _ (by clear hk;exact oG) (by clear hk;exact oG))
       | false=>
        exact LeadsM.ends (aMQ p x   hb1 hb5 hb9 hb13 hb17 hb22 hb23) (hk _ _ (by clear hk;exact oG) (by clear hk;exact oG))
      | false=>
       cases hb24: (x.n== (0:Int))with
       | true=>
        exact LeadsM.ends (aMR p x   hb1 hb5 hb9 hb13 hb17 hb22 hb24) (hk _ _ (by clear hk;exact oG) (by clear hk;exact oG))
       | false=>
        exact LeadsM.ends (aMS p x   hb1 hb5 hb9 hb13 hb17 hb22 hb24) (hk _ _ (by clear hk;exact oG) (by clear hk;exact oG))
theorem aAu (p:Prog)(x:Node)(hc:p.cons.length≤1000)(hl:x.pats.length≤10)(a:Int) :
  ∀ (t:List Pat) (i:Nat) (b:Bool),x.pats.drop i=t→Ends PP 0 (bS p x b a (i:Int)).as (.ret (.bool (b&&t.all (gI p.cons) &&decide ((x.kids.length:Int) =dD x.op x.pats.length a)))) (aG [] 0)
 | [],i,b,h=>by
  have:=bL h;cases b with
  |false=>exact Ends.eqv (aPt p x false a i sd rfl) (by simp)
  | true=>
   refine Ends.eqv (aPs p x true a i _ sd rfl (aME x.op x.pats.length a (by omega) (by omega))) ?_;simp only [all_nil,Bool.true_and,AV.bool.injEq];rfl
 | .mk f' n' s' ps'::t,i,b,h=>by
  obtain⟨g1,g2,g3⟩ :=bK h;cases b with
  |false=>exact Ends.eqv (aPr p x false a i sd rfl) (by simp)
  | true=>
   have hw:=wU (.mk f' n' s' ps') 12 (by omega) (by omega);by_cases k:cR (.mk f' n' s' ps') ≤12
   · have hg:0≤lD (.mk f' n' s' ps') 12:= (xY (.mk f' n' s' ps') 12).2 (by omega);refine(aPp p x true a i f' n' s' ps' _ _ sd rfl sd sd hw (decide_eq_true hg) (aGe p.cons hc (.mk f' n' s' ps') (by omega)) sd).ends ?_;exact Ends.eqv (aAu p x hc hl a t (i+1) _ g2) (by simp [gI,k])
   · have hg:¬lD (.mk f' n' s' ps') 12≥0:=fun g=>k (by have:= (xY (.mk f' n' s' ps') 12).1 g;omega);refine(aPq p x true a i f' n' s' ps' _ sd rfl sd sd hw (decide_eq_false hg) sd).ends ?_;exact Ends.eqv (aAu p x hc hl a t (i+1) _ g2) (by simp [gI,k])
theorem aMT (p:Prog)(x:Node)(hc:p.cons.length≤1000)(hf:p.funs.length≤1000)(hl:x.pats.length≤10) :Pure PP 119 [Prog.av p,Node.av x] (.bool (bC p x)) :=by
 refine aT (by kernel_rfl) rfl rfl (aUS p x hc hf _ fun i a hi ha=>?_);subst hi ha;exact aAu p x hc hl _ x.pats 0 _ rfl
theorem aEu (l:List Con)(hl:l.length≤1000) :∀ (t:List Con) (i:Nat),l.drop i=t→Ends PP 0 (aBk l (i:Int) (bB (l.take i))).as (.ret (.bool (t.all fH&&decide (l.length≤20) &&bG (bB l)))) (aG [] 0)
 | [],i,h=>by
  have hi:=bL h;have e:bB (l.take i) =bB l:=by rw [List.take_of_length_le hi]
  rw [e];by_cases k:l.length≤20
  ·exact Ends.eqv (aPy l i _ _ sd sd (aBi (bB l) (by simp [bB];omega))) (by simp [k])
  ·exact Ends.eqv (aPz l i _ sd sd) (by simp [k])
 | c ::t,i,h=>by
  obtain⟨g1,g2,g3⟩ :=bK h;have hg:=aJB c.name;cases k1:iE c.name with
  | false=>
   rw [k1]at hg;exact Ends.eqv (aPv l i _ c false sd sd sd hg rfl) (by simp [fH,k1])
  | true=>
   rw [k1]at hg;have hi:=aX c.args 0 3;cases k2:cN c.args 0 3 with
   | false=>
    rw [k2]at hi;exact Ends.eqv (aPw l i _ c true false sd sd sd hg rfl hi rfl) (by simp [fH,k1,k2])
   | true=>
    rw [k2]at hi;have e:bB (l.take i) ++ [c.name] =bB (l.take (i+1)) :=by
     rw [List.take_add_one,g1];simp [bB]
    refine(aPx l i (bB (l.take i)) c true true sd sd sd hg rfl hi rfl (by simp [bB];omega) sd).ends ?_;rw [e];exact Ends.eqv (aEu l hl t (i+1) g2) (by simp [fH,k1,k2])
theorem aMU (l:List Con)(hl:l.length≤1000) :Pure PP 118 [.ilst 2 (map Con.av l) false] (.bool (wY l)) :=
 aT (by kernel_rfl) rfl rfl ((aPu l).ends (aEu l hl l 0 rfl))
def marks (lo n:Int) :List Int→List Bool→Option (List Bool)
 | [],u=>some u
 |k::ks,u=>if cN k lo (n-1) =true∧u[k.toNat]?=some false then marks lo n ks (u.set k.toNat true)else none
theorem lN {lo n:Int}:∀ {ks:List Int} {u v:List Bool},marks lo n ks u=some v→v.length=u.length
 | [],u,v,h=>by simp only [marks,Option.some.injEq]at h;rw [h]
 | k::ks,u,v,h=>by
  simp only [marks]at h;split at h
  ·have:=lN h;simpa using this
  ·cases h
def cM (p:Prog) :Nat→List Node→List Bool→Option (List Bool)
 |_,[],u=>some u
 | i,x::t,u=>if bC p x=true then match marks ((i:Int) +1) (p.nodes.length:Int) x.kids u with
   |some v=>cM p (i+1) t v
   |none=>none
  else none
def allT :Option (List Bool) →Bool
 |some u=>u.all fun b=>b
 |none=>false
def dT (p:Prog) :Bool:=decide (p.nodes.length≤300) &&cN (p.funs.length:Int) 1 (p.nodes.length:Int) &&cN p.main 0 ((p.funs.length:Int) -1)
def bA (p:Prog) :Bool:=
 dT p&&wY p.cons&& (match marks 0 (p.nodes.length:Int) p.funs (replicate p.nodes.length false)with
  |some u=>allT (cM p 0 p.nodes u)
  |none=>false)
theorem rF3 (p:Prog)(u:List Bool)(hn:p.nodes.length≤1000)(hu:u.length=p.nodes.length) :∀ (t:List Bool) (i:Nat),u.drop i=t→Ends PP 0 (tQ p u (i:Int)).as (.ret (.bool (t.all fun b=>b))) (aG [] 0)
 | [],i,h=>by
  have:=bL h;exact aJ0 p u i sd
 | b::t,i,h=>by
  obtain⟨g1,g2,g3⟩ :=bK h;cases b with
  |false=>exact Ends.eqv (aJY p u i false sd sd sd sd rfl) (by simp)
  | true=>
   refine(aJZ p u i true sd sd sd sd rfl sd).ends ?_;exact Ends.eqv (rF3 p u hn hu t (i+1) g2) (by simp)
theorem aZV (p:Prog)(x:Node)(i:Nat)(hx:p.nodes[i]?=some x)(hn:p.nodes.length≤1000)(hk:x.kids.length≤1000)(K:List Bool→Bool)
  (hb:∀v:List Bool,v.length=p.nodes.length→Ends PP 0 (pF p v ((i:Int) +1)).as (.ret (.bool (K v))) (aG [] 0)) :
  ∀ (t:List Int) (k:Nat) (u:List Bool),u.length=p.nodes.length→x.kids.drop k=t→Ends PP 0 (tP p u (k:Int) (i:Int)).as (.ret (.bool (match marks ((i:Int) +1) p.nodes.length t u with|some v=>K v|none=>false))) (aG [] 0)
 | [],k,u,hu,h=>by
  have:=bL h;have hi:= (List.getElem?_eq_some_iff.1 hx).1;refine(aJX p u k i x sd sd sd sd).ends ?_;exact hb u hu
 | y ::t,k,u,hu,h=>by
  obtain⟨g1,g2,g3⟩ :=bK h;have hi:= (List.getElem?_eq_some_iff.1 hx).1;have hin:=aX y ((i:Int) +1) ((p.nodes.length:Int) -1);cases k1:cN y ((i:Int) +1) ((p.nodes.length:Int) -1)with
  | false=>
   rw [k1]at hin;exact Ends.eqv (aJU p u k i x y false sd sd sd sd sd sd sd hin rfl) (by simp [marks,k1])
  | true=>
   rw [k1]at hin;have hy:=inB_iff.1 k1;obtain⟨z,hz⟩ :∃z,u[y.toNat]?=some z:= ⟨_,List.getElem?_eq_getElem (by omega)⟩;cases z with
   | true=>
    exact Ends.eqv (aJV p u k i x y true true sd sd sd sd sd sd sd hin rfl (by omega) (by omega) hz rfl) (by simp [marks,hz])
   | false=>
    refine(aJW p u k i x y true false sd sd sd sd sd sd sd hin rfl (by omega) (by omega) hz rfl sd).ends ?_;exact Ends.eqv (aZV p x i hx hn hk K hb t (k+1) (u.set y.toNat true) (by simpa using hu) g2) (by simp [marks,k1,hz])
theorem rF1 (p:Prog)(hp:aM p=true)(hn:p.nodes.length≤1000)(hc:p.cons.length≤1000)(hf:p.funs.length≤1000) :∀ (t:List Node) (i:Nat) (u:List Bool),u.length=p.nodes.length→p.nodes.drop i=t →
  Ends PP 0 (pF p u (i:Int)).as (.ret (.bool (allT (cM p i t u)))) (aG [] 0)
 | [],i,u,hu,h=>by
  have:=bL h;refine(aJT p u i sd).ends ?_;exact rF3 p u hn hu u 0 rfl
 | x::t,i,u,hu,h=>by
  obtain⟨g1,g2,g3⟩ :=bK h;have hx:aV x=true:=by
   simp only [aM,Bool.and_eq_true]at hp;exact List.all_eq_true.1 hp.2 x (mem_of_getElem? g1)
  simp only [aV,Bool.and_eq_true,decide_eq_true_eq]at hx;have ho:=aMT p x hc hf hx.1.2;cases k:bC p x with
  | false=>
   rw [k]at ho;exact Ends.eqv (aJR p u i x false sd sd sd ho rfl) (by simp [cM,k,allT])
  | true=>
   rw [k]at ho;refine(aJS p u i x true sd sd sd ho rfl).ends ?_;refine Ends.eqv (aZV p x i g1 hn (by omega) (fun v=>allT (cM p (i+1) t v)) (fun v hv=>rF1 p hp hn hc hf t (i+1) v hv g2) x.kids 0 u hu rfl) ?_;simp only [cM,k,if_true];cases marks ((i:Int) +1) (p.nodes.length:Int) x.kids u<;>rfl
theorem rF0 (p:Prog)(hp:aM p=true)(hn:p.nodes.length≤1000)(hc:p.cons.length≤1000)(hf:p.funs.length≤1000) :∀ (t:List Int) (i:Nat) (u:List Bool),u.length=p.nodes.length→p.funs.drop i=t →
  Ends PP 0 (tO p (i:Int) u).as (.ret (.bool (match marks 0 p.nodes.length t u with|some v=>allT (cM p 0 p.nodes v) |none=>false))) (aG [] 0)
 | [],i,u,hu,h=>by
  have:=bL h;refine(aJQ p i u sd).ends ?_;exact rF1 p hp hn hc hf p.nodes 0 u hu rfl
 | y ::t,i,u,hu,h=>by
  obtain⟨g1,g2,g3⟩ :=bK h;have hin:=aX y 0 ((p.nodes.length:Int) -1);cases k1:cN y 0 ((p.nodes.length:Int) -1)with
  | false=>
   rw [k1]at hin;exact Ends.eqv (aJN p i u y false sd sd sd sd hin rfl) (by simp [marks,k1])
  | true=>
   rw [k1]at hin;have hy:=inB_iff.1 k1;obtain⟨z,hz⟩ :∃z,u[y.toNat]?=some z:= ⟨_,List.getElem?_eq_getElem (by omega)⟩;cases z with
   | true=>
    exact Ends.eqv (aJO p i u y true true sd sd sd sd hin rfl (by omega) (by omega) hz rfl) (by simp [marks,hz])
   | false=>
    refine(aJP p i u y true false sd sd sd sd hin rfl (by omega) (by omega) hz rfl sd).ends ?_;exact Ends.eqv (rF0 p hp hn hc hf t (i+1) (u.set y.toNat true) (by simpa using hu) g2) (by simp [marks,k1,hz])
theorem aBl (p:Prog)(hp:aM p=true) :Pure PP 38 [Prog.av p] (.bool (bA p)) :=by
 refine aT (by kernel_rfl) rfl rfl ?_;have hs:=hp;simp only [aM,Bool.and_eq_true,decide_eq_true_eq]at hs;obtain⟨⟨⟨⟨s1,s2⟩,s3⟩,_⟩,_⟩ :=hs;by_cases k0:p.nodes.length≤300
 · have hi1:=aX (p.funs.length:Int) 1 (p.nodes.length:Int);cases k1:cN (p.funs.length:Int) 1 (p.nodes.length:Int)with
   | false=>
    rw [k1]at hi1;exact Ends.eqv (aJJ p false sd hi1 rfl) (by simp [bA,dT,k1])
   | true=>
    rw [k1]at hi1;have hi2:=aX p.main 0 ((p.funs.length:Int) -1);cases k2:cN p.main 0 ((p.funs.length:Int) -1)with
    | false=>
     rw [k2]at hi2;exact Ends.eqv (aJK p true false sd hi1 rfl sd hi2 rfl) (by simp [bA,dT,k2])
    | true=>
     rw [k2]at hi2;have hco:=aMU p.cons (by omega);cases k3:wY p.cons with
     | false=>
      rw [k3]at hco;exact Ends.eqv (aJL p true true false sd hi1 rfl sd hi2 rfl hco rfl) (by simp [bA,k3])
     | true=>
      rw [k3]at hco;refine(aJM p true true true sd hi1 rfl sd hi2 rfl hco rfl (by omega)).ends ?_;refine Ends.eqv (rF0 p hp (by omega) (by omega) (by omega) p.funs 0 _ (by simp) rfl) ?_;have e:dT p=true:=by simp [dT,k0,k1,k2]
      simp only [bA,e,k3,Bool.true_and]
 ·exact Ends.eqv (aJI p sd) (by simp [bA,dT,k0])
def checkN (b:Bool) :Int:=if b=true then 0 else 2
def xZ(a:aC)(b:Nat):TS:=⟨(tf 164 16 [(2,(bV false)),kp 6 0] [kc f164 52,kl f164 52,.inBlock 0,kc f164 7]),[],[(0,(.siter a.length (aB a) b),false)],1⟩
def aBm(e f:Int)(g:aC)(a:List Pat)(b c d:Int):TS:=⟨(tf 281 27 [(1,(nI b)),(4,(nI 0)),(5,(nI c)),(9,(iP a)),(10,(nI (a.length:Int))),(11,(nI d))] [kc f281 116,kl f281 116,.inBlock 0,kc f281 15]),[],[],0⟩
def aZW(a b c:Int):=tT 0 (start PP 241 [(nI a),(nI b),(nI c)])<|gd 10 10 (a≥b) (gE 7 0 (bV (decide (a≤c))))<|gE 7 0 (bV false)
def aUT:=fun a b c d=>aZW a b c|>.t d tv
def aUU:=fun a b c d=>aZW a b c|>.f d tv
def aR4 (b:Int):=fun a c=>(tT 0 (start PP 301 [(nI b)])<|fQ 7 241 [(nI b),(nI (-1000000000)),(nI 1000000000)]<|fun a=>gE 3 0 (bV a)) a c tv
def aMV (a:aC):=(tT 0 (start PP 164 [(aA a)])<|.W 12 1 [0] (xZ a 0)) tv
def aUV(a:aC)(b:Nat):=tT 0 (xZ a b)<|.o (.y fun c:Nat=>.y fun d:Nat=>.i [rn 2,.nxt c d] [hA (b<a.length),hA (aLF a.length (aB a) b=some (c,d))]<|gd 16 12 (((c:Nat) :Int) <97) (gE 10 1 (bV false))<|gd 4 15 (((c:Nat) :Int) >122) (gE 6 1 (bV false))<|.W 4 1 [0] (xZ a (Nat.add b d)))<|.i [rn 2,.nxtE] [hA (a.length≤b)]<|gE 10 1 (bV true)
def aMW:=fun a b c d e f g=>aUV a b|>.1 c d e f|>.t g tv
def aMX:=fun a b c d e f g i=>aUV a b|>.1 c d e f|>.f g|>.t i tv
def aMY:=fun a b c d e f g i=>aUV a b|>.1 c d e f|>.f g|>.f i tv
def aMZ:=fun a b c=>aUV a b|>.2 c tv
def aR5(a:aC):=tT 0 (start PP 231 [(aA a)])<|.b 9 5 (!(bP a.length (aB a) 0 0)) (gd 5 10 ((a.length:Int) ≤8) (.y fun b:UInt8=>.i [rn 1,.ans (.ev (.int .u8 ((b.toNat:Nat) :Int)))] [.q (p:=0≤ (0:Int)) (by decide),.a ((a)[0]?=some b) (p':=(0:Int) < (a.length:Int)) (fun h=>(aB9 (k:= (0:Int)) (by decide) h)),.a ((a)[0]?=some b) (p':=int .u8 ((mod (div (aB a) (pow 256 (0:Int).toNat)) 256:Nat) :Int) = (.int .u8 ((b.toNat:Nat) :Int))) (fun h=>(aCa (k:= (0:Int)) h))]<|gd 3 15 (((b.toNat:Nat) :Int) ≥65) (.i [rn 1,.ans (.ev (.int .u8 ((b.toNat:Nat) :Int)))] [.q (p:=0≤ (0:Int)) (by decide),.a ((a)[0]?=some b) (p':=(0:Int) < (a.length:Int)) (fun h=>(aB9 (k:= (0:Int)) (by decide) h)),.a ((a)[0]?=some b) (p':=int .u8 ((mod (div (aB a) (pow 256 (0:Int).toNat)) 256:Nat) :Int) = (.int .u8 ((b.toNat:Nat) :Int))) (fun h=>(aCa (k:= (0:Int)) h))]<|gd 3 20 (((b.toNat:Nat) :Int) ≤90) (.i [rn 1,.ans (.ev (aA (drop 1 a)))] [.a (1≤length a) (p':=nR PP 9 (aA a) (some (nI 1)) none (aA (drop 1 a))) (fun h=>(aCL (k:= (1:Int)) (by kernel_rfl) (by decide) h))]<|fQ 0 164 [(aA (drop 1 a))]<|fun c=>gE 4 0 (bV c))<|gE 7 0 (bV false))<|gE 12 0 (bV false))<|gE 17 0 (bV false))<|gE 22 0 (bV false)
def aM0:=fun b c d e f a g i j k=>aR5 b|>.t e|>.t f c a a|>.t g a a|>.t i j d k tv
def aM1:=fun b c d e a f g=>aR5 b|>.t d|>.t e c a a|>.t f a a|>.f g tv
def aM2:=fun b c d e a f=>aR5 b|>.t d|>.t e c a a|>.f f tv
def aM3:=fun a b c=>aR5 a|>.t b|>.f c tv
def aM4:=fun a b=>aR5 a|>.f b tv
def aZX(a:Con):=tT 0 (start PP 243 [(.agg [(aA a.name),(nI a.args)])])<|fQ 9 231 [(aA a.name)]<|fun b=>.b 1 6 b (fQ 2 241 [(nI a.args),(nI 0),(nI 3)]<|fun c=>gE 4 1 (bV c))<|gE 7 1 (bV false)
def aR6:=fun a b c d e f=>aZX a b d|>.t e c f tv
def aR7:=fun a b c d=>aZX a b c|>.f d tv
def aPA(c:Prog)(a:Node):=tT 0 (start PP 283 [(Prog.av c),(Node.av a)])<|.b 18 7 (a.op==1) (fQ 5 301 [(nI a.n)]<|fun b=>gE 3 2 (bV b))<|.b 6 12 (a.op==2) (fQ 5 241 [(nI a.n),(nI 0),(nI 1)]<|fun b=>gE 3 2 (bV b))<|.b 6 17 (a.op==24) (fQ 5 241 [(nI a.n),(nI 0),(nI 3)]<|fun b=>gE 3 2 (bV b))<|.b 6 22 (a.op==4) (gl 8 aR c.funs<|gw 1 30 (0- (c.funs.length:Int))<|fQ 0 241 [(nI a.n),(nI (0- (c.funs.length:Int))),(nI 29)]<|fun b=>gE 3 2 (bV b))<|.b 6 32 (a.op==14) (gE 6 2 (bV true))<|gE 11 2 (bV (a.n==0))
def aJ1:=fun a b c d e=>aPA a b|>.t d c e tv
def aJ2:=fun a b c d e f=>aPA a b|>.f d|>.t e c f tv
def aJ3:=fun a b c d e f g=>aPA a b|>.f d|>.f e|>.t f c g tv
def aJ4:=fun a b c d e f g i j=>aPA a b|>.f d|>.f e|>.f f|>.t g i c j tv
def aJ5:=fun a b c d e f g=>aPA a b|>.f c|>.f d|>.f e|>.f f|>.t g tv
def aJ6:=fun a b c d e f g=>aPA a b|>.f c|>.f d|>.f e|>.f f|>.f g tv
def aPB (b c:Int)(d:aC)(a:List Pat)(e:Int):=(tT 0 (start PP 281 [(.agg [(nI b),(nI c),(aA d),(iP a)]),(nI e)])<|gm 14 aH a<|.W 4 1 [] (aBm b c d a e 1 0)) tv
def aZh(e f:Int)(g:aC)(d:List Pat)(b a c:Int):=tT 0 (aBm e f g d b a c)<|gd 5 12 (c< (d.length:Int)) (aHR 6 d c<|fun j k l m=>gd 11 17 (a>b) (gE 8 1 (nI a))<|gw 8 22 (b-a)<|gpI 0 281 [(.agg [(nI j),(nI k),(aA l),(iP m)]),(nI (b-a))]<|fun i=>gw 1 24 (a+i)<|gw 5 25 (c+1)<|.W 3 1 [] (aBm e f g d b (a+i) (c+1)))<|gE 8 0 (nI a)
def aPC:=fun a b c d e f g i j k l m n o p=>aZh a b c d e f g|>.t m i j k l n o|>.t p tv
def aPD:=fun a b c d e f g i j k l m n o p q r s t u=>aZh a b c d e f g|>.t n i j k l o p|>.f q r m s t u tv
def aPE:=fun a b c d e f g i=>aZh a b c d e f g|>.f i tv
def aAv(d:Prog)(e c:Int)(f:aC)(a:List Pat):=tT 0 (start PP 282 [(Prog.av d),(.agg [(nI e),(nI c),(aA f),(iP a)])])<|.b 13 8 (!(bP f.length (aB f) 0 0)) (gE 14 2 (bV false))<|fQ 4 284 [(iP a),(.func 282 [(Prog.av d)] [])]<|fun i=>.b 3 15 (!i) (gE 6 2 (bV false))<|.b 15 18 (e==1) (.b 9 25 (c==0) (gm 2 aH a<|gE 5 2 (bV ((a.length:Int) ==0)))<|gE 8 2 (bV false))<|.b 6 18 (e==2) (.b 9 25 (c==0) (gm 2 aH a<|gE 5 2 (bV ((a.length:Int) ==0)))<|gE 8 2 (bV false))<|.b 5 18 (e==5) (.b 7 25 (c==0) (gm 2 aH a<|gE 5 2 (bV ((a.length:Int) ==0)))<|gE 8 2 (bV false))<|.b 6 31 (e==3) (fQ 5 301 [(nI c)]<|fun b=>.b 1 36 b (gm 2 aH a<|gE 5 2 (bV ((a.length:Int) ==0)))<|gE 8 2 (bV false))<|.b 6 42 (e==4) (fQ 5 241 [(nI c),(nI 0),(nI 1)]<|fun b=>.b 1 47 b (gm 2 aH a<|gE 5 2 (bV ((a.length:Int) ==0)))<|gE 8 2 (bV false))<|.b 6 53 (e==6) (.o (.y fun b:Bool=>.y fun g:Con=>.i [rn 2,.reg (rd 5 (.ans (.len (d.cons.length:Int))::.d::.pure (bV b)::.d::.b 63 true::.d::.d::.ans (.len (a.length:Int))::rd 5 (.ans (.idx (Con.av g))::rd 5 [])))] [hl Con.av d.cons,hA (Pure PP 241 [(nI c),(nI 0),(nI (IntKind.i64.wrap ((d.cons.length:Int) -1)))] (bV b)),hA (b=true),hm aH a,hA (0≤c),.a (((d.cons)[c.toNat]?) =some g) (eO (f:=Con.av))]<|gE 1 2 (bV ((a.length:Int) ==g.args)))<|.y fun b:Bool=>.i [rn 2,.reg (rd 5 (.ans (.len (d.cons.length:Int))::.d::.pure (bV b)::.d::.b 63 false::rd 14 []))] [hl Con.av d.cons,hA (Pure PP 241 [(nI c),(nI 0),(nI (IntKind.i64.wrap ((d.cons.length:Int) -1)))] (bV b)),hA (b=false)]<|gE 1 2 (bV false))<|gE 8 2 (bV false)
def aR8:=fun a b c d e f=>aAv a b c d e|>.t f tv
def aR9:=fun a b c d e f g i j=>aAv a b c d e|>.f g f i|>.t j tv
def aSa:=fun a b c d e f g i j k l=>aAv a b c d e|>.f g f i|>.f j|>.t k|>.t l tv
def aSb:=fun a b c d e f g i j k l=>aAv a b c d e|>.f g f i|>.f j|>.t k|>.f l tv
def aSc:=fun a b c d e f g i j k l m=>aAv a b c d e|>.f g f i|>.f j|>.f k|>.t l|>.t m tv
def aSd:=fun a b c d e f g i j k l m=>aAv a b c d e|>.f g f i|>.f j|>.f k|>.t l|>.f m tv
def aSe:=fun a b c d e f g i j k l m n=>aAv a b c d e|>.f g f i|>.f j|>.f k|>.f l|>.t m|>.t n tv
def aSf:=fun a b c d e f g i j k l m n=>aAv a b c d e|>.f g f i|>.f j|>.f k|>.f l|>.t m|>.f n tv
def aSg:=fun a b c d e f g i j k l m n o p q=>aAv a b c d e|>.f i f j|>.f k|>.f l|>.f m|>.f n|>.t o g p|>.t q tv
def aSh:=fun a b c d e f g i j k l m n o p q=>aAv a b c d e|>.f i f j|>.f k|>.f l|>.f m|>.f n|>.t o g p|>.f q tv
def aPF:=fun a b c d e f g i j k l m n o p q r=>aAv a b c d e|>.f i f j|>.f k|>.f l|>.f m|>.f n|>.f o|>.t p g q|>.t r tv
def aPG:=fun a b c d e f g i j k l m n o p q r=>aAv a b c d e|>.f i f j|>.f k|>.f l|>.f m|>.f n|>.f o|>.t p g q|>.f r tv
def aPH:=fun a b c d e f g i j k l m n o p q r s t u v=>aAv a b c d e|>.f j f k|>.f l|>.f m|>.f n|>.f o|>.f p|>.f q|>.t r|>.1 g i s t u v tv
def aPI:=fun a b c d e f g i j k l m n o p q r s=>aAv a b c d e|>.f i f j|>.f k|>.f l|>.f m|>.f n|>.f o|>.f p|>.t q|>.2 g r s tv
def aPJ:=fun a b c d e f g i j k l m n o p=>aAv a b c d e|>.f g f i|>.f j|>.f k|>.f l|>.f m|>.f n|>.f o|>.f p tv
def kZ(a:Int):=tT 0 (start PP 279 [(nI a)])<|.b 16 4 (a==1) (gE 9 0 (.iface 334 (nI 0)))<|.b 6 4 (a==2) (gE 9 0 (.iface 334 (nI 0)))<|.b 6 4 (a==3) (gE 9 0 (.iface 334 (nI 0)))<|.b 6 4 (a==4) (gE 9 0 (.iface 334 (nI 0)))<|.b 6 4 (a==21) (gE 9 0 (.iface 334 (nI 0)))<|.b 6 4 (a==25) (gE 9 0 (.iface 334 (nI 0)))<|.b 5 4 (a==28) (gE 7 0 (.iface 334 (nI 0)))<|.b 7 13 (a==5) (gE 9 0 (.iface 334 (nI 1)))<|.b 6 13 (a==27) (gE 9 0 (.iface 334 (nI 1)))<|.b 6 13 (a==16) (gE 9 0 (.iface 334 (nI 1)))<|.b 6 13 (a==17) (gE 9 0 (.iface 334 (nI 1)))<|.b 6 13 (a==19) (gE 9 0 (.iface 334 (nI 1)))<|.b 6 13 (a==20) (gE 9 0 (.iface 334 (nI 1)))<|.b 6 13 (a==23) (gE 9 0 (.iface 334 (nI 1)))<|.b 6 13 (a==24) (gE 9 0 (.iface 334 (nI 1)))<|.b 5 13 (a==26) (gE 7 0 (.iface 334 (nI 1)))<|.b 7 24 (a==6) (gE 9 0 (.iface 334 (nI 2)))<|.b 6 24 (a==7) (gE 9 0 (.iface 334 (nI 2)))<|.b 6 24 (a==9) (gE 9 0 (.iface 334 (nI 2)))<|.b 6 24 (a==10) (gE 9 0 (.iface 334 (nI 2)))<|.b 6 24 (a==11) (gE 9 0 (.iface 334 (nI 2)))<|.b 6 24 (a==12) (gE 9 0 (.iface 334 (nI 2)))<|.b 6 24 (a==13) (gE 9 0 (.iface 334 (nI 2)))<|.b 6 24 (a==18) (gE 9 0 (.iface 334 (nI 2)))<|.b 5 24 (a==22) (gE 7 0 (.iface 334 (nI 2)))<|.b 6 35 (a==8) (gE 7 0 (.iface 334 (nI 3)))<|.b 6 38 (a==14) (gE 8 0 (.iface 335 (.agg [])))<|.b 6 42 (a==15) (gE 8 0 (.iface 317 (.agg [])))<|gE 8 0 .nili
def aJ7:=fun a b=>kZ a|>.t b tv
def aJ8:=fun a b c=>kZ a|>.f b|>.t c tv
def aJ9:=fun a b c d=>kZ a|>.f b|>.f c|>.t d tv
def aKa:=fun a b c d e=>kZ a|>.f b|>.f c|>.f d|>.t e tv
def aKb:=fun a b c d e f=>kZ a|>.f b|>.f c|>.f d|>.f e|>.t f tv
def aKc:=fun a b c d e f g=>kZ a|>.f b|>.f c|>.f d|>.f e|>.f f|>.t g tv
def aKd:=fun a b c d e f g i=>kZ a|>.f b|>.f c|>.f d|>.f e|>.f f|>.f g|>.t i tv
def aKe:=fun a b c d e f g i j=>kZ a|>.f b|>.f c|>.f d|>.f e|>.f f|>.f g|>.f i|>.t j tv
def aKf:=fun a b c d e f g i j k=>kZ a|>.f b|>.f c|>.f d|>.f e|>.f f|>.f g|>.f i|>.f j|>.t k tv
def aKg:=fun a b c d e f g i j k l=>kZ a|>.f b|>.f c|>.f d|>.f e|>.f f|>.f g|>.f i|>.f j|>.f k|>.t l tv
def aHV:=fun a b c d e f g i j k l m=>kZ a|>.f b|>.f c|>.f d|>.f e|>.f f|>.f g|>.f i|>.f j|>.f k|>.f l|>.t m tv
def aHW:=fun a b c d e f g i j k l m n=>kZ a|>.f b|>.f c|>.f d|>.f e|>.f f|>.f g|>.f i|>.f j|>.f k|>.f l|>.f m|>.t n tv
def aHX:=fun a b c d e f g i j k l m n o=>kZ a|>.f b|>.f c|>.f d|>.f e|>.f f|>.f g|>.f i|>.f j|>.f k|>.f l|>.f m|>.f n|>.t o tv
def aHY:=fun a b c d e f g i j k l m n o p=>kZ a|>.f b|>.f c|>.f d|>.f e|>.f f|>.f g|>.f i|>.f j|>.f k|>.f l|>.f m|>.f n|>.f o|>.t p tv
def aHZ:=fun a b c d e f g i j k l m n o p q=>kZ a|>.f b|>.f c|>.f d|>.f e|>.f f|>.f g|>.f i|>.f j|>.f k|>.f l|>.f m|>.f n|>.f o|>.f p|>.t q tv
def aH0:=fun a b c d e f g i j k l m n o p q r=>kZ a|>.f b|>.f c|>.f d|>.f e|>.f f|>.f g|>.f i|>.f j|>.f k|>.f l|>.f m|>.f n|>.f o|>.f p|>.f q|>.t r tv
def aH1:=fun a b c d e f g i j k l m n o p q r s=>kZ a|>.f b|>.f c|>.f d|>.f e|>.f f|>.f g|>.f i|>.f j|>.f k|>.f l|>.f m|>.f n|>.f o|>.f p|>.f q|>.f r|>.t s tv
def aH2:=fun a b c d e f g i j k l m n o p q r s t=>kZ a|>.f b|>.f c|>.f d|>.f e|>.f f|>.f g|>.f i|>.f j|>.f k|>.f l|>.f m|>.f n|>.f o|>.f p|>.f q|>.f r|>.f s|>.t t tv
def aH3:=fun a b c d e f g i j k l m n o p q r s t u=>kZ a|>.f b|>.f c|>.f d|>.f e|>.f f|>.f g|>.f i|>.f j|>.f k|>.f l|>.f m|>.f n|>.f o|>.f p|>.f q|>.f r|>.f s|>.f t|>.t u tv
def aH4:=fun a b c d e f g i j k l m n o p q r s t u v=>kZ a|>.f b|>.f c|>.f d|>.f e|>.f f|>.f g|>.f i|>.f j|>.f k|>.f l|>.f m|>.f n|>.f o|>.f p|>.f q|>.f r|>.f s|>.f t|>.f u|>.t v tv
def aH5:=fun a b c d e f g i j k l m n o p q r s t u v w=>kZ a|>.f b|>.f c|>.f d|>.f e|>.f f|>.f g|>.f i|>.f j|>.f k|>.f l|>.f m|>.f n|>.f o|>.f p|>.f q|>.f r|>.f s|>.f t|>.f u|>.f v|>.t w tv
def aH6:=fun a b c d e f g i j k l m n o p q r s t u v w x=>kZ a|>.f b|>.f c|>.f d|>.f e|>.f f|>.f g|>.f i|>.f j|>.f k|>.f l|>.f m|>.f n|>.f o|>.f p|>.f q|>.f r|>.f s|>.f t|>.f u|>.f v|>.f w|>.t x tv
def aH7:=fun a b c d e f g i j k l m n o p q r s t u v w x y=>kZ a|>.f b|>.f c|>.f d|>.f e|>.f f|>.f g|>.f i|>.f j|>.f k|>.f l|>.f m|>.f n|>.f o|>.f p|>.f q|>.f r|>.f s|>.f t|>.f u|>.f v|>.f w|>.f x|>.t y tv
def aH8:=fun a b c d e f g i j k l m n o p q r s t u v w x y z=>kZ a|>.f b|>.f c|>.f d|>.f e|>.f f|>.f g|>.f i|>.f j|>.f k|>.f l|>.f m|>.f n|>.f o|>.f p|>.f q|>.f r|>.f s|>.f t|>.f u|>.f v|>.f w|>.f x|>.f y|>.t z tv
def aH9:=fun a b c d e f g i j k l m n o p q r s t u v w x y z A=>kZ a|>.f b|>.f c|>.f d|>.f e|>.f f|>.f g|>.f i|>.f j|>.f k|>.f l|>.f m|>.f n|>.f o|>.f p|>.f q|>.f r|>.f s|>.f t|>.f u|>.f v|>.f w|>.f x|>.f y|>.f z|>.t A tv
def aIa:=fun a b c d e f g i j k l m n o p q r s t u v w x y z A B=>kZ a|>.f b|>.f c|>.f d|>.f e|>.f f|>.f g|>.f i|>.f j|>.f k|>.f l|>.f m|>.f n|>.f o|>.f p|>.f q|>.f r|>.f s|>.f t|>.f u|>.f v|>.f w|>.f x|>.f y|>.f z|>.f A|>.t B tv
def aIb:=fun a b c d e f g i j k l m n o p q r s t u v w x y z A B C=>kZ a|>.f b|>.f c|>.f d|>.f e|>.f f|>.f g|>.f i|>.f j|>.f k|>.f l|>.f m|>.f n|>.f o|>.f p|>.f q|>.f r|>.f s|>.f t|>.f u|>.f v|>.f w|>.f x|>.f y|>.f z|>.f A|>.f B|>.t C tv
def aIc:=fun a b c d e f g i j k l m n o p q r s t u v w x y z A B C D=>kZ a|>.f b|>.f c|>.f d|>.f e|>.f f|>.f g|>.f i|>.f j|>.f k|>.f l|>.f m|>.f n|>.f o|>.f p|>.f q|>.f r|>.f s|>.f t|>.f u|>.f v|>.f w|>.f x|>.f y|>.f z|>.f A|>.f B|>.f C|>.t D tv
def aId:=fun a b c d e f g i j k l m n o p q r s t u v w x y z A B C D=>kZ a|>.f b|>.f c|>.f d|>.f e|>.f f|>.f g|>.f i|>.f j|>.f k|>.f l|>.f m|>.f n|>.f o|>.f p|>.f q|>.f r|>.f s|>.f t|>.f u|>.f v|>.f w|>.f x|>.f y|>.f z|>.f A|>.f B|>.f C|>.f D tv
def aDj(a:List Pat)(b:Prog)(c:Int):TS:=⟨(tf 316 19 [(0,(iP a)),(1,(.func 303 [] [(.ptr 0 0)])),(4,(nI 0)),(7,(nI (a.length:Int))),(8,(nI c))] [kc f316 52,kl f316 52,.inBlock 0,kc f316 7]),[(tf 302 9 [(4,(bV false)),(5,(iP a)),(6,(.func 303 [] [(.ptr 0 0)]))] [ko f302 6 2,kc f302 7]),(tf 284 9 [(4,(bV false)),(5,(iP a)),(6,(.func 303 [] [(.ptr 0 0)]))] [ko f284 6 2,kc f284 7])],[oC 0 [(.func 282 [(Prog.av b)] [])]],1⟩
def rJ(b:Prog)(a:Node)(c:Int):TS:=⟨(tf 316 19 [(0,(iP a.pats)),(1,(.func 303 [] [(.ptr 0 0)])),(4,(nI 0)),(7,(nI (a.pats.length:Int))),(8,(nI c))] [kc f316 52,kl f316 52,.inBlock 0,kc f316 7]),[(tf 302 9 [(4,(bV false)),(5,(iP a.pats)),(6,(.func 303 [] [(.ptr 0 0)]))] [ko f302 6 2,kc f302 7]),(tf 284 9 [(4,(bV false)),(5,(iP a.pats)),(6,(.func 303 [] [(.ptr 0 0)]))] [ko f284 6 2,kc f284 7]),(tf 248 35 [(4,(bV false)),(29,(bV true)),(31,(iP a.pats)),(32,(.func 280 [] [(.ptr 1 0)]))] [ko f248 62 13,kc f248 63])],[oC 0 [(.func 280 [] [(.ptr 1 0)])],oC 1 [(iN b.nodes),(iI b.funs),(nI b.main),(iC b.cons)]],2⟩
def tR(a:List aC)(c:Int)(b:List (aC×Bool)):TS:=⟨(tf 244 21 [(0,(iS a)),(2,(bV false)),(3,(.map 0)),(7,(iS a)),(8,(nI (a.length:Int))),(9,(nI c))] [kc f244 116,kl f244 116,.inBlock 0,kc f244 15]),[],[(0,(.map (aD aA mY 0 b) b.length),true)],1⟩
def aSi (a:List Pat)(b:Prog):=(tT 0 (start PP 284 [(iP a),(.func 282 [(Prog.av b)] [])])<|gm 27 aH a<|.W 4 1 [0] (aDj a b 0)) tv
def aZi(b:List Pat)(c:Prog)(a:Int):=tT 0 (aDj b c a)<|gd 5 9 (a< (b.length:Int)) (aHR 14 b a<|fun d e f g=>fQ 11 282 [(Prog.av c),(.agg [(nI d),(nI e),(aA f),(iP g)])]<|fun i=>.b 6 16 (!i) (gE 17 2 (bV (!(decide (a≥0)))))<|gw 5 18 (a+1)<|.W 3 2 [0] (aDj b c (a+1)))<|gE 17 1 (bV true)
def aSj:=fun a b c d e f g i j k l m n=>aZi a b c|>.t j d e f g k l i m|>.t n tv
def aSk:=fun a b c d e f g i j k l m n o=>aZi a b c|>.t j d e f g k l i m|>.f n o tv
def aSl:=fun a b c d=>aZi a b c|>.f d tv
def aCc(b:Prog)(a:Node):=tT 0 (start PP 248 [(Prog.av b),(Node.av a)])<|.o (gp 10 279 [(nI a.op)] (.iface 317 (.agg []))<|gm 44 aH a.pats<|fQ 0 241 [(nI (a.pats.length:Int)),(nI 1),(nI 5)]<|fun c=>.b 1 11 c (gl 2 aR a.kids<|gm 2 aH a.pats<|gw 1 18 (1+ (a.pats.length:Int))<|.b 7 24 ((a.kids.length:Int) == (1+ (a.pats.length:Int))) (fQ 2 283 [(Prog.av b),(Node.av a)]<|fun d=>.b 2 29 d (gm 31 aH a.pats<|.W 4 6 [5,0] (rJ b a 0))<|gE 8 5 (bV false))<|gE 13 5 (bV false))<|gE 27 5 (bV false))<|.o (gp 10 279 [(nI a.op)] (.iface 335 (.agg []))<|gm 24 aH a.pats<|gd 2 14 ((a.pats.length:Int) >0) (gE 6 2 (bV false))<|.o (.y fun c:Bool=>.y fun d:Con=>.i [rn 22,.reg (rd 5 (.ans (.len (b.cons.length:Int))::.d::.pure (bV c)::.d::.b 15 true::.d::.d::.ans (.len (a.kids.length:Int))::rd 5 (.ans (.idx (Con.av d))::rd 5 [])))] [hl Con.av b.cons,hA (Pure PP 241 [(nI a.n),(nI 0),(nI (IntKind.i64.wrap ((b.cons.length:Int) -1)))] (bV c)),hA (c=true),hl aR a.kids,hA (0≤a.n),.a (((b.cons)[a.n.toNat]?) =some d) (eO (f:=Con.av))]<|.b 3 24 ((a.kids.length:Int) ==d.args) (fQ 2 283 [(Prog.av b),(Node.av a)]<|fun f=>.b 2 29 f (gm 31 aH a.pats<|.W 4 6 [5,0] (rJ b a 0)) .x)<|gE 13 5 (bV false))<|.y fun c:Bool=>.i [rn 22,.reg (rd 5 (.ans (.len (b.cons.length:Int))::.d::.pure (bV c)::.d::.b 15 false::rd 14 []))] [hl Con.av b.cons,hA (Pure PP 241 [(nI a.n),(nI 0),(nI (IntKind.i64.wrap ((b.cons.length:Int) -1)))] (bV c)),hA (c=false)]<|gE 16 5 (bV false))<|.o (.y fun e:Int=>gp 10 279 [(nI a.op)] (.iface 334 (nI e))<|gm 24 aH a.pats<|gd 2 14 ((a.pats.length:Int) >0) (gE 6 2 (bV false))<|gl 24 aR a.kids<|.b 7 24 ((a.kids.length:Int) ==e) (fQ 2 283 [(Prog.av b),(Node.av a)]<|fun d=>.b 2 29 d (gm 31 aH a.pats<|.W 4 5 [4,0] (rJ b a 0))<|gE 8 4 (bV false))<|gE 13 4 (bV false))<|gp 10 279 [(nI a.op)] (.nili)<|gE 18 2 (bV false)
def aPK:=fun a b c d e f g i j k l=>aCc a b|>.1 e c f|>.t g i|>.t j d k|>.t l tv
def aPL:=fun a b c d e f g i j k l=>aCc a b|>.1 e c f|>.t g i|>.t j d k|>.f l tv
def aPM:=fun a b c d e f g i=>aCc a b|>.1 d c e|>.t f g|>.f i tv
def aPN:=fun a b c d e f=>aCc a b|>.1 d c e|>.f f tv
def aPO:=fun a b c d=>aCc a b|>.2|>.1 c|>.t d tv
def aPP:=fun a b c d e f g i j k l m n o=>aCc a b|>.2|>.1 f|>.f g|>.1 c d i j k l|>.t m e n|>.t o tv
def aPQ:=fun a b c d e f g i j k l=>aCc a b|>.2|>.1 e|>.f f|>.1 c d g i j k|>.f l tv
def aPR:=fun a b c d e f g=>aCc a b|>.2|>.1 d|>.f e|>.2 c f g tv
def aPS:=fun a b c d e=>aCc a b|>.2|>.2|>.1 c d|>.t e tv
def aM5:=fun a b c d e f g i j=>aCc a b|>.2|>.2|>.1 c e|>.f f|>.t g d i|>.t j tv
def aM6:=fun a b c d e f g i j=>aCc a b|>.2|>.2|>.1 c e|>.f f|>.t g d i|>.f j tv
def aM7:=fun a b c d e f=>aCc a b|>.2|>.2|>.1 c d|>.f e|>.f f tv
def aM8:=fun a b c=>aCc a b|>.2|>.2|>.2 c tv
def aUW(c:Prog)(b:Node)(a:Int):=tT 0 (rJ c b a)<|gd 5 9 (a< (b.pats.length:Int)) (aHR 14 b.pats a<|fun d e f g=>gpI 20 281 [(.agg [(nI d),(nI e),(aA f),(iP g)]),(nI 12)]<|fun i=>gd 2 7 (i≤12) (fQ 2 282 [(Prog.av c),(.agg [(nI d),(nI e),(aA f),(iP g)])]<|fun j=>.b 11 16 (!j) (gE 22 4 (bV (!(decide (a≥0)))))<|gw 5 18 (a+1)<|.W 3 4 [0,1] (rJ c b (a+1)))<|gE 36 4 (bV (!(decide (a≥0)))))<|gE 22 2 (bV true)
def aPT:=fun a b c d e f g i j k l m n o p q=>aUW a b c|>.t k d e f g l m i n|>.t o j p|>.t q tv
def aPU:=fun a b c d e f g i j k l m n o p q r=>aUW a b c|>.t k d e f g l m i n|>.t o j p|>.f q r tv
def aPV:=fun a b c d e f g i j k l m n=>aUW a b c|>.t j d e f g k l i m|>.f n tv
def aPW:=fun a b c d=>aUW a b c|>.f d tv
def aKh (a:List aC):=(tT 0 (start PP 244 [(iS a)])<|.i [rn 7,.mset 0 (aD aA mY 0 ([] :List (aC×Bool))) ([] :List (aC×Bool)).length] [hr (aD aA mY 0 ([] :List (aC×Bool))),hr (length ([] :List (aC×Bool)))]<|gl 6 aA a<|.W 4 1 [0] (tR a 0 ([] :List (aC×Bool)))) ⟨aO (fun _=>rfl) (fun _=>rfl) _ _ _,trivial⟩
def aZY(b:List aC)(d:Int)(a:List (aC×Bool)):=tT 0 (tR b d a)<|gd 5 10 (d< (b.length:Int)) (gX aA 6 b d<|fun c=>.i [rn 6,.mput (aD aA mY 0 (bT c true a)) (bT c true a).length] [.q (p:=tB (aD aA mY 0 a) a.length (aA c) (mY true) =some ((aD aA mY 0 (bT c true a)),length (bT c true a))) (aHP gC _ _ _)]<|gw 4 15 (d+1)<|.W 3 1 [0] (tR b (d+1) (bT c true a)))<|.i [rn 6,sI 17 (a.length:Int)] [.q (p:=(nI ((aD aA mY 0 a).length:Int)) = (nI (a.length:Int))) (aRf _ _ _)]<|gl 1 aA b<|gE 4 1 (bV ((a.length:Int) == (b.length:Int)))
def aKi:=fun a b c d e f g i=>aZY a b c|>.t e d f g i ⟨aO (fun _=>rfl) (fun _=>rfl) _ _ _,trivial⟩
def aKj:=fun a b c d=>aZY a b c|>.f d tv
def aDk(a:List Node)(b:Prog)(c:Int):TS:=⟨(tf 194 19 [(0,(iN a)),(1,(.func 278 [] [(.ptr 0 0)])),(4,(nI 0)),(7,(nI (a.length:Int))),(8,(nI c))] [kc f194 52,kl f194 52,.inBlock 0,kc f194 7]),[(tf 124 9 [(4,(bV false)),(5,(iN a)),(6,(.func 278 [] [(.ptr 0 0)]))] [ko f124 6 2,kc f124 7]),(tf 247 9 [(4,(bV false)),(5,(iN a)),(6,(.func 278 [] [(.ptr 0 0)]))] [ko f247 6 2,kc f247 7])],[oC 0 [(.func 248 [(Prog.av b)] [])]],1⟩
def aDl(a:List Con)(b:Int):TS:=⟨(tf 223 19 [(0,(iC a)),(1,(.func 277 [] [(.ptr 0 0)])),(4,(nI 0)),(7,(nI (a.length:Int))),(8,(nI b))] [kc f223 52,kl f223 52,.inBlock 0,kc f223 7]),[(tf 276 9 [(4,(bV false)),(5,(iC a)),(6,(.func 277 [] [(.ptr 0 0)]))] [ko f276 6 2,kc f276 7]),(tf 242 9 [(4,(bV false)),(5,(iC a)),(6,(.func 277 [] [(.ptr 0 0)]))] [ko f242 6 2,kc f242 7])],[oC 0 [(.func 243 [] [])]],1⟩
def aDm(a:List Int)(b:Int):TS:=⟨(tf 304 19 [(0,(.ilst 1 (jI a) true)),(1,(.func 286 [] [(.ptr 0 0)])),(4,(nI 0)),(7,(nI (a.length:Int))),(8,(nI b))] [kc f304 52,kl f304 52,.inBlock 0,kc f304 7]),[(tf 285 9 [(4,(bV false)),(5,(.ilst 1 (jI a) true)),(6,(.func 286 [] [(.ptr 0 0)]))] [ko f285 6 2,kc f285 7]),(tf 249 9 [(4,(bV false)),(5,(.ilst 1 (jI a) true)),(6,(.func 286 [] [(.ptr 0 0)]))] [ko f249 6 2,kc f249 7])],[oC 0 [(.func 250 [] [])]],1⟩
def aDn(a:List Con)(c:Int)(b:List aC):TS:=⟨(tf 245 22 [(1,(.func 246 [] [])),(4,.nils),(5,(.gl 0 1 0 b.length false)),(8,(iC a)),(9,(nI (a.length:Int))),(10,(nI c))] [kc f245 116,kl f245 116,.inBlock 0,kc f245 15]),[],[oL 0 1 (map aA b)],1⟩
def tU(a:Prog)(c:Int)(b:List Int):TS:=⟨(tf 200 128 [kp 1 0,(2,(bV false)),(3,(nI (a.nodes.length:Int))),(4,(.gl 1 1 0 b.length true)),(77,(iI a.funs)),(78,(nI (a.funs.length:Int))),(79,(nI c))] [kc f200 1012,kl f200 1012,.inBlock 0,kc f200 127]),[],[oC 0 [(iN a.nodes),(iI a.funs),(nI a.main),(iC a.cons)],oL 1 1 (jI b)],2⟩
def pG(a:Prog)(b:List Int)(c:Int):TS:=⟨(tf 200 128 [(2,(bV false)),(3,(nI (a.nodes.length:Int))),(4,(.gl 0 1 0 b.length true)),(97,(iN a.nodes)),(98,(nI (a.nodes.length:Int))),(99,(nI c))] [kc f200 2036,kl f200 2036,.inBlock 2,kc f200 255]),[],[oL 0 1 (jI b)],1⟩
def tV(a:Prog)(c:List Int)(d:Int)(b:List Int)(e f g:Int):TS:=⟨(tf 200 128 [(2,(bV false)),(3,(nI (a.nodes.length:Int))),(4,(.gl 0 1 0 b.length true)),(7,(nI f)),(97,(iN a.nodes)),(98,(nI (a.nodes.length:Int))),(99,(nI g)),(105,(iI c)),(106,(nI d)),(107,(nI e))] [kc f200 521420,kl f200 521420,.inBlock 4,.inBlock 3,kc f200 16295,kl f200 2036,.inBlock 2,kc f200 255]),[],[oL 0 1 (jI b)],1⟩
def aSm (a:List Node)(b:Prog):=(tT 0 (start PP 247 [(iN a),(.func 248 [(Prog.av b)] [])])<|gl 27 Node.av a<|.W 4 1 [0] (aDk a b 0)) tv
def aZj(b:List Node)(c:Prog)(a:Int):=tT 0 (aDk b c a)<|gd 5 9 (a< (b.length:Int)) (gX Node.av 14 b a<|fun d=>fQ 11 248 [(Prog.av c),(Node.av d)]<|fun e=>.b 6 16 (!e) (gE 17 2 (bV (!(decide (a≥0)))))<|gw 5 18 (a+1)<|.W 3 2 [0] (aDk b c (a+1)))<|gE 17 1 (bV true)
def aSn:=fun a b c d e f g i j k=>aZj a b c|>.t f d g i e j|>.t k tv
def aSo:=fun a b c d e f g i j k l=>aZj a b c|>.t f d g i e j|>.f k l tv
def aSp:=fun a b c d=>aZj a b c|>.f d tv
def aSq (a:List Con):=(tT 0 (start PP 242 [(iC a),(.func 243 [] [])])<|gl 27 Con.av a<|.W 4 1 [0] (aDl a 0)) tv
def aZk(b:List Con)(a:Int):=tT 0 (aDl b a)<|gd 5 9 (a< (b.length:Int)) (gX Con.av 14 b a<|fun c=>fQ 11 243 [(.agg [(aA c.name),(nI c.args)])]<|fun d=>.b 6 16 (!d) (gE 17 2 (bV (!(decide (a≥0)))))<|gw 5 18 (a+1)<|.W 3 2 [0] (aDl b (a+1)))<|gE 17 1 (bV true)
def aSr:=fun a b c d e f g i j=>aZk a b|>.t e c f g d i|>.t j tv
def aSs:=fun a b c d e f g i j k=>aZk a b|>.t e c f g d i|>.f j k tv
def aSt:=fun a b c=>aZk a b|>.f c tv
def aSu (a:List Int):=(tT 0 (start PP 249 [(.ilst 1 (jI a) true),(.func 250 [] [])])<|gl 27 aR a<|.W 4 1 [0] (aDm a 0)) tv
def aZl(b:List Int)(a:Int):=tT 0 (aDm b a)<|gd 5 9 (a< (b.length:Int)) (gX aR 14 b a<|fun c=>.b 29 16 (!(c==1)) (gE 17 1 (bV (!(decide (a≥0)))))<|gw 5 18 (a+1)<|.W 3 1 [0] (aDm b (a+1)))<|gE 17 1 (bV true)
def aSv:=fun a b c d e f g=>aZl a b|>.t d c e f|>.t g tv
def aSw:=fun a b c d e f g i=>aZl a b|>.t d c e f|>.f g i tv
def aSx:=fun a b c=>aZl a b|>.f c tv
def aSy (a:List Con):=(tT 0 (start PP 245 [(iC a),(.func 246 [] [])])<|gl 12 Con.av a<|.i [rn 4,.nilL 5 1] []<|gu 0 0 (map aA ([] :List aC))<|gs 0 5 (.gl 0 1 0 ([] :List aC).length false)<|.W 0 1 [0] (aDn a 0 ([] :List aC))) ⟨kk,trivial⟩
def aZZ(c:List Con)(a:Int)(b:List aC):=tT 0 (aDn c a b)<|gd 5 11 (a< (c.length:Int)) (gX Con.av 6 c a<|fun d=>ga 23 aA b [d.name]<|gw 5 20 (a+1)<|.W 3 5 [4] (aDn c (a+1) (b++ [d.name])))<|gz 8 4 0 1 aA b false<|gE 0 1 (iS b)
def aSz:=fun a b c d e f g i j=>aZZ a b c|>.t e d f g i j ⟨kk,trivial⟩
def aSA:=fun a b c d=>aZZ a b c|>.f d tv
def aIe(a:Prog):=tT 0 (start PP 200 [(Prog.av a)])<|gl 10 Node.av a.nodes<|gd 8 17 ((a.nodes.length:Int) >300) (gE 40 1 (bV false))<|gl 3 aR a.funs<|gd 3 24 ((a.funs.length:Int) <1) (gE 33 1 (bV false))<|gl 3 aR a.funs<|gd 4 32 ((a.funs.length:Int) > (a.nodes.length:Int)) (gE 25 1 (bV false))<|gl 3 Con.av a.cons<|gd 3 39 ((a.cons.length:Int) >20) (gE 18 1 (bV false))<|gl 6 aR a.funs<|gw 1 47 ((a.funs.length:Int) - (1:Int))<|fQ 0 241 [(nI a.main),(nI 0),(nI ((a.funs.length:Int) - (1:Int)))]<|fun c=>.b 3 50 (!c) (gE 6 1 (bV false))<|fQ 8 242 [(iC a.cons),(.func 243 [] [])]<|fun d=>.b 2 56 (!d) (gE 23 1 (bV false))<|.y fun b:List aC=>gp 3 245 [(iC a.cons),(.func 246 [] [])] (iS b)<|fQ 0 244 [(iS b)]<|fun e=>.b 3 64 (!e) (gE 15 1 (bV false))<|fQ 5 247 [(iN a.nodes),(.func 248 [(Prog.av a)] [])]<|fun f=>.b 3 72 (!f) (gE 6 1 (bV false))<|.i [rn 5,.mk a.nodes.length] [hr ((a.nodes.length:Nat) :Int),hr ((a.nodes.length:Nat) :Int),hA (a.nodes.length<100000)]<|.i [.lset 1 (jI (replicate a.nodes.length (0:Int)))] [.q (p:=replicate a.nodes.length (aR (0:Int)) = (jI (replicate a.nodes.length (0:Int)))) (aN8 _ _ _)]<|.i [.set 74 (.gl 1 1 0 (replicate a.nodes.length (0:Int)).length true)] [.q (p:=(AV.gl 1 1 0 a.nodes.length true) = (.gl 1 1 0 (replicate a.nodes.length (0:Int)).length true)) (dJ (List.length_replicate ..).symm)]<|gl 8 aR a.funs<|.W 4 2 [0,1] (tU a 0 (replicate a.nodes.length (0:Int)))
def aKk:=fun a b=>aIe a|>.t b tv
def aKl:=fun a b c=>aIe a|>.f b|>.t c tv
def aKm:=fun a b c d=>aIe a|>.f b|>.f c|>.t d tv
def aKn:=fun a b c d e=>aIe a|>.f b|>.f c|>.f d|>.t e tv
def aKo:=fun a b c d e f g i j=>aIe a|>.f c|>.f d|>.f e|>.f f g b i|>.t j tv
def aKp:=fun a b c d e f g i j k l m=>aIe a|>.f d|>.f e|>.f f|>.f g i b j|>.f k c l|>.t m tv
def aKq:=fun a b c d e f g i j k l m n o p q r=>aIe a|>.f f|>.f g|>.f i|>.f j k b l|>.f m c n|>.f o d p e q|>.t r tv
def aKr:=fun a b c d e f g i j k l m n o p q r s t u=>aIe a|>.f g|>.f i|>.f j|>.f k l b m|>.f n c o|>.f p d q e r|>.f s f t|>.t u tv
def aKs:=fun a b c d e f g i j k l m n o p q r s t u v=>aIe a|>.f g|>.f i|>.f j|>.f k l b m|>.f n c o|>.f p d q e r|>.f s f t|>.f u v ⟨kk,trivial⟩
def aZm(d:Prog)(e:Int)(a:List Int):=tT 0 (tU d e a)<|gd 5 80 (e< (d.funs.length:Int)) (gX aR 6 d.funs e<|fun b=>gw 9 85 ((d.nodes.length:Int) -1)<|fQ 0 241 [(nI b),(nI 0),(nI ((d.nodes.length:Int) -1))]<|fun f=>.b 2 87 (!f) (gE 6 2 (bV false))<|.i [rn 5,.ans (.ix)] [hA (0≤b),hA (b< (a.length:Int))]<|.y fun c:Int=>gj aR 0 a b.toNat c<|gw 1 92 (c+1)<|.i [.ans (.ix)] [hA (0≤b),hA (b< (a.length:Int))]<|.i [.st (aR c) (aR (c+1))] [.a (((a)[b.toNat]?) =some c) (jL (f:=aR)),hr (some (aR (c+1)))]<|.i [.lset 1 (jI (set a b.toNat (c+1)))] [.q (p:=(jI a).set (0+b.toNat) (aR (c+1)) = (jI (set a b.toNat (c+1)))) (rE _ _ _ _)]<|.i [.set 4 (.gl 1 1 0 (set a b.toNat (c+1)).length true)] [.q (p:=(AV.gl 1 1 0 a.length true) = (.gl 1 1 0 (set a b.toNat (c+1)).length true)) (dJ (length_set ..).symm)]<|.i [.set 88 (.gl 1 1 0 (set a b.toNat (c+1)).length true)] [.q (p:=(AV.gl 1 1 0 a.length true) = (.gl 1 1 0 (set a b.toNat (c+1)).length true)) (dJ (length_set ..).symm)]<|gw 4 94 (e+1)<|.W 3 2 [0,1] (tU d (e+1) (set a b.toNat (c+1))))<|gl 8 Node.av d.nodes<|.W 4 2 [1] (pG d a 0)
def aKt:=fun a b c d e f g i j k l=>aZm a b c|>.t f d g i j e k|>.t l tv
def aKu:=fun d e f g i j k l m n o p a b c q r=>aZm d e f|>.t k g l m n i o|>.f p a b j c q a b c r ⟨kk,trivial⟩
def aKv:=fun a b c d=>aZm a b c|>.f d ⟨kk,trivial⟩
def aZ0(c:Prog)(d:List Int)(a:Int):=tT 0 (pG c d a)<|gd 5 100 (a< (c.nodes.length:Int)) (gX Node.av 7 c.nodes a<|fun b=>gl 9 aR b.kids<|.W 4 2 [0] (tV c b.kids (b.kids.length:Int) d 0 a a))<|gz 5 126 0 1 aR d true<|fQ 0 249 [(.ilst 1 (jI d) true),(.func 250 [] [])]<|fun b=>gE 3 1 (bV b)
def aKw:=fun a b c d e f g=>aZ0 a b c|>.t e d f g ⟨kk,trivial⟩
def aKx:=fun a b c d e f=>aZ0 a b c|>.f e d f tv
def aZn(d:Prog)(i:List Int)(j:Int)(a:List Int)(e f g:Int):=tT 0 (tV d i j a e f g)<|gd 5 108 (e<j) (gX aR 6 i e<|fun b=>gw 9 113 (f+1)<|gw 2 115 ((d.nodes.length:Int) -1)<|fQ 0 241 [(nI b),(nI (f+1)),(nI ((d.nodes.length:Int) -1))]<|fun k=>.b 2 117 (!k) (gE 6 1 (bV false))<|.i [rn 5,.ans (.ix)] [hA (0≤b),hA (b< (a.length:Int))]<|.y fun c:Int=>gj aR 0 a b.toNat c<|gw 1 122 (c+1)<|.i [.ans (.ix)] [hA (0≤b),hA (b< (a.length:Int))]<|.i [.st (aR c) (aR (c+1))] [.a (((a)[b.toNat]?) =some c) (jL (f:=aR)),hr (some (aR (c+1)))]<|.i [.lset 0 (jI (set a b.toNat (c+1)))] [.q (p:=(jI a).set (0+b.toNat) (aR (c+1)) = (jI (set a b.toNat (c+1)))) (rE _ _ _ _)]<|.i [.set 4 (.gl 0 1 0 (set a b.toNat (c+1)).length true)] [.q (p:=(AV.gl 0 1 0 a.length true) = (.gl 0 1 0 (set a b.toNat (c+1)).length true)) (dJ (length_set ..).symm)]<|.i [.set 118 (.gl 0 1 0 (set a b.toNat (c+1)).length true)] [.q (p:=(AV.gl 0 1 0 a.length true) = (.gl 0 1 0 (set a b.toNat (c+1)).length true)) (dJ (length_set ..).symm)]<|gw 4 124 (e+1)<|.W 3 1 [0] (tV d i j (set a b.toNat (c+1)) (e+1) f g))<|gw 5 125 (g+1)<|.W 3 1 [0] (pG d a (g+1))
def aKy:=fun a b c d e f g i j k l m n o p q=>aZn a b c d e f g|>.t k i l m n o j p|>.t q tv
def aKz:=fun d e f g i j k l m n o p q r s t u a b c v w=>aZn d e f g i j k|>.t o l p q r s m t|>.f u a b n c v a b c w ⟨kk,trivial⟩
def aKA:=fun a b c d e f g i j=>aZn a b c d e f g|>.f i j ⟨kk,trivial⟩
def aZ1(a:Prog):=tT 0 (start PP 138 [(Prog.av a)])<|fQ 10 200 [(Prog.av a)]<|fun b=>.b 2 6 (!b) (gE 6 1 (nI 2))<|gE 7 1 (nI 0)
def aM9:=fun a b c d=>aZ1 a b c|>.t d tv
def aNa:=fun a b c d=>aZ1 a b c|>.f d tv
theorem fJ (n lo hi:Int) :Pure PP 241 [.int .i64 n,.int .i64 lo,.int .i64 hi] (.bool (cN n lo hi)) :=by
 refine aT (by kernel_rfl) rfl rfl ?_;by_cases h:n≥lo
 · have e:cN n lo hi=decide (n≤hi) :=by unfold cN;rw [decide_eq_true (show lo≤n from h),Bool.true_and]
   rw [e];exact aUT n lo hi (decide_eq_true h)
 · have e:cN n lo hi=false:=by unfold cN;rw [decide_eq_false (show ¬lo≤n from h),Bool.false_and]
   rw [e];exact aUU n lo hi (decide_eq_false h)
theorem aCd (n:Int) :Pure PP 301 [.int .i64 n] (.bool (cN n (-1000000000) 1000000000)) :=
 aT (by kernel_rfl) rfl rfl (aR4 n _ (fJ n _ _))
theorem aPX (b:ByteArray)(i:Nat)(h:128≤ (b.get! i).toNat) :128≤ (Utf8.decode b i).1:=by
 unfold Utf8.decode Utf8.runeError;simp only [add_zero];rw [if_neg (show ¬ (b.get! i).toNat<0x80 by omega)]
 repeat' split
 all_goals first
  |assumption
  | (simp_all;done)
  | (rename_i q;simp only [Bool.and_eq_true,decide_eq_true_eq,ge_iff_le]at q;simp only;omega)
theorem aUX {s:aC}{i:Nat}{c:UInt8}(h:s[i]?=some c) :∃r d,aLF (length s) (aB s) i=some (r,d) ∧ (c.toNat<128→r=c.toNat∧d=1) ∧ (128≤c.toNat→128≤r) :=by
 have hi:= (List.getElem?_eq_some_iff.1 h).1;have hb:=byte_at h;unfold aLF;have e1:blt i (length s) =true:=by rw [cP];exact decide_eq_true hi
 have e2:mod (div (aB s) (pow 256 i)) 256=c.toNat:=hb;rw [e1,e2];simp only [cond];by_cases k:c.toNat<128
 · have e3:blt c.toNat 128=true:=by rw [cP];exact decide_eq_true k
   rw [e3];exact⟨_,_,rfl,fun _=> ⟨rfl,rfl⟩,fun g=>by omega⟩
 · have e3:blt c.toNat 128=false:=by rw [cP];exact decide_eq_false k
   rw [e3];refine⟨_,_,rfl,fun g=>by omega,fun _=>?_⟩;have hn:aQ (length s) (aB s) =s:=fC s;rw [hn];have hg: ((⟨⟨s⟩⟩ :ByteArray).get! (i+0)).toNat=c.toNat:=by
    simp only [add_zero,ByteArray.get!];have: (⟨s⟩ :Array UInt8)[i]! =c:=by
     rw [Array.getElem!_eq_getD,Array.getD_eq_getD_getElem?,show(⟨s⟩ :Array UInt8) =s.toArray from rfl,List.getElem?_toArray,h];rfl
    rw [this]
   exact aPX _ _ (by rw [add_zero]at hg;rw [hg];omega)
theorem aCS (s:aC) :∀ (t:aC) (i:Nat),s.drop i=t→Ends PP 0 (xZ s i).as (.ret (.bool (gG t))) (aG [] 0)
 | [],i,h=>aMZ s i (bL h)
 | c :: t,i,h=>by
  obtain⟨h1,h2,h3⟩ :=bK h;obtain⟨r,d,q1,q2,q3⟩ :=aUX h1;by_cases g1:c.toNat<97
  · have:= (q2 (by omega)).1;exact Ends.eqv (aMW s i r d h3 q1 sd) (by simp [gG,tM];omega)
  · by_cases g2:122<c.toNat
    · have hr:122<r:=by
       by_cases k:c.toNat<128
       ·have:= (q2 k).1;omega
       ·have:=q3 (by omega);omega
      exact Ends.eqv (aMX s i r d h3 q1 sd sd) (by simp [gG,tM];omega)
    · obtain⟨rfl,rfl⟩ :=q2 (by omega);refine(aMY s i _ _ h3 q1 sd sd).ends ?_;have e:tM c=true:=by simp [tM];omega
      exact Ends.eqv (aCS s t (i+1) h2) (by simp [gG,e])
theorem aCT (s:aC) :Pure PP 164 [aA s] (.bool (gG s)) :=
 aT (by kernel_rfl) rfl rfl ((aMV s).ends (aCS s s 0 rfl))
theorem aKB (s:aC) :Pure PP 231 [aA s] (.bool (iE s)) :=by
 refine aT (by kernel_rfl) rfl rfl ?_
 match s with
 | [] =>exact aM4 [] rfl
 | c ::t=>
  have h0: (!(bP (length (c::t)) (aB (c::t)) 0 0)) =true:=by rw [dC];rfl
  by_cases g0: (c::t).length≤8
  · have g0': (decide (((length (c::t) :Nat) :Int) ≤ (8:Int))) =true:=sd;by_cases g1:65≤c.toNat
    · by_cases g2:c.toNat≤90
      ·exact Ends.eqv (aM0 (c::t) c _ h0 g0' rfl sd sd (by simp) (aCT t)) (by simp only [iE,decide_eq_true g0,decide_eq_true g1,decide_eq_true g2,Bool.true_and])
      ·exact Ends.eqv (aM1 (c::t) c h0 g0' rfl sd sd) (by simp only [iE,decide_eq_false g2,Bool.and_false,Bool.false_and])
    ·exact Ends.eqv (aM2 (c::t) c h0 g0' rfl sd) (by simp only [iE,decide_eq_false g1,Bool.and_false,Bool.false_and])
  ·exact Ends.eqv (aM3 (c::t) h0 sd) (by simp only [iE,decide_eq_false g0,Bool.false_and])
theorem aPY (c:Con) :Pure PP 243 [Con.av c] (.bool (fH c)) :=by
 refine aT (by kernel_rfl) rfl rfl ?_;have hg:=aKB c.name;cases k:iE c.name with
 |false=>rw [k]at hg;exact Ends.eqv (aR7 c false hg rfl) (by simp [fH,k])
 |true=>rw [k]at hg;exact Ends.eqv (aR6 c true _ hg rfl (fJ _ _ _)) (by simp [fH,k])
def nH (p:Prog)(x:Node) :Bool:=if x.op=14 then true else bH p x.op x.n
theorem aPZ (p:Prog)(x:Node)(hf:p.funs.length≤1000) :Ends PP 0 (start PP 283 [Prog.av p,Node.av x]).as (.ret (.bool (nH p x))) (aG [] 0) :=by
 cases hb1: (x.op== (1:Int))with
 | true=>
  exact Ends.eqv (aJ1 p x  (cN (x.n) (-1000000000) 1000000000) hb1 (aCd (x.n))) (by simp_all [nH,bH] <;>rfl)
 | false=>
  cases hb2: (x.op== (2:Int))with
  | true=>
   exact Ends.eqv (aJ2 p x  (cN (x.n) 0 1) hb1 hb2 (fJ (x.n) 0 1)) (by simp_all [nH,bH] <;>rfl)
  | false=>
   cases hb3: (x.op== (24:Int))with
   | true=>
    exact Ends.eqv (aJ3 p x  (cN (x.n) 0 3) hb1 hb2 hb3 (fJ (x.n) 0 3)) (by simp_all [nH,bH] <;>rfl)
   | false=>
    cases hb4: (x.op== (4:Int))with
    | true=>
     exact Ends.eqv (aJ4 p x  (cN (x.n) (0- ((length p.funs:Nat) :Int)) 29) hb1 hb2 hb3 hb4 sdI (fJ (x.n) (0- ((length p.funs:Nat) :Int)) 29)) (by simp_all [nH,bH] <;>rfl)
    | false=>
     cases hb5: (x.op== (14:Int))with
     | true=>
      exact Ends.eqv (aJ5 p x   hb1 hb2 hb3 hb4 hb5) (by simp_all [nH,bH] <;>rfl)
     | false=>
      exact Ends.eqv (aJ6 p x   hb1 hb2 hb3 hb4 hb5) (by simp_all [nH,bH] <;>rfl)
theorem aIf (p:Prog)(x:Node)(hf:p.funs.length≤1000) :Pure PP 283 [Prog.av p,Node.av x] (.bool (nH p x)) :=
 aT (by kernel_rfl) rfl rfl (aPZ p x hf)
mutual
def pH :Pat→Int→Int
 | .mk _ _ _ ps,most=>lO ps most 1
def lO :List Pat→Int→Int→Int
 | [],_,n=>n
 |p::ps,most,n=>if n>most then n else lO ps most (n+pH p (most-n))
end
mutual
theorem aEv :∀ (p:Pat) (m:Int),0≤m→1≤pH p m∧pH p m≤m+1
 | .mk _ _ _ ps,m,h=>by rw [pH];exact aGf ps m 1 (by omega) (by omega)
theorem aGf :∀ (ps:List Pat) (m n:Int),1≤n→n≤m+1→1≤lO ps m n∧lO ps m n≤m+1
 | [],m,n,h1,h2=>by rw [lO];omega
 | p ::ps,m,n,h1,h2=>by
  rw [lO];split
  ·omega
  · have a:=aEv p (m-n) (by omega);exact aGf ps m _ (by omega) (by omega)
end
mutual
theorem aKC :∀ (p:Pat) (m:Int),0≤m→ ((cR p:Int) ≤m→pH p m=cR p) ∧ (m<cR p→m<pH p m)
 | .mk _ _ _ ps,m,h=>by
  have:=aGg ps m 1 (by omega);simp only [pH,cR];constructor
  ·intro g;have:=this.1 (by omega);omega
  ·intro g;exact this.2 (by omega)
theorem aGg :∀ (ps:List Pat) (m n:Int),n≤m+1→ (n+bF ps≤m→lO ps m n=n+bF ps) ∧ (m<n+bF ps→m<lO ps m n)
 | [],m,n,h=>by simp only [lO,bF];omega
 | p ::ps,m,n,h=>by
  simp only [lO,bF];split
  ·omega
  · rename_i k;have a:=aKC p (m-n) (by omega);have l:=aEv p (m-n) (by omega);have b:=aGg ps m (n+pH p (m-n)) (by omega);constructor
    · intro g;have:=a.1 (by omega);have:=b.1 (by omega);omega
    · intro g;refine b.2 ?_;by_cases q: (cR p:Int) ≤m-n
      ·have:=a.1 q;omega
      ·have:=a.2 (by omega);omega
end
theorem aGh (p:Pat)(m:Int)(h:0≤m) :pH p m≤m↔ (cR p:Int) ≤m:=by
 have:=aKC p m h;constructor
 · intro g;by_cases k: (cR p:Int) ≤m
   ·exact k
   ·have:=this.2 (by omega);omega
 ·intro g;have:=this.1 g;omega
theorem aEw (f n:Int)(s:aC)(ps:List Pat)(m:Int)(hm:m≤1000)(ih:∀p∈ps,∀m:Int,0≤m→m≤1000→Pure PP 281 [Pat.av p,.int .i64 m] (.int .i64 (pH p m))) :
  ∀ (t:List Pat) (i:Nat) (k:Int),ps.drop i=t→ (i:Int) +1≤k→k≤m+1→Ends PP 0 (aBm f n s ps m k (i:Int)).as (.ret (.int .i64 (lO t m k))) (aG [] 0)
 | [],i,k,h,h1,h2=>by
  have:=bL h;rw [lO];exact aPE f n s ps m k i sd
 | .mk f' n' s' ps'::t,i,k,h,h1,h2=>by
  obtain⟨g1,g2,g3⟩ :=bK h;rw [lO];split
  ·exact aPC f n s ps m k i f' n' s' ps' sd sd sd sd
  · rename_i hk;have l:=aEv (.mk f' n' s' ps') (m-k) (by omega);refine(aPD f n s ps m k i f' n' s' ps' _ sd sd sd sd sd (ih (.mk f' n' s' ps') (mem_of_getElem? g1) (m-k) (by omega) (by omega)) sd sd).ends ?_;exact aEw f n s ps m hm ih t (i+1) _ g2 (by omega) (by omega)
mutual
theorem aEx :∀ (p:Pat) (m:Int),0≤m→m≤1000→Pure PP 281 [Pat.av p,.int .i64 m] (.int .i64 (pH p m))
 | .mk f n s ps,m,h0,h1=>by
  refine aT (by kernel_rfl) (by simp [keylessL,tI,keyless]) rfl ?_;rw [pH];refine(aPB f n s ps m).ends ?_;exact aEw f n s ps m h1 (aGi ps) ps 0 1 rfl (by omega) (by omega)
theorem aGi :∀ (ps:List Pat),∀p∈ps,∀m:Int,0≤m→m≤1000→Pure PP 281 [Pat.av p,.int .i64 m] (.int .i64 (pH p m))
 | [],p,hp,_,_,_=>by cases hp
 | q::ps,p,hp,m,h0,h1=>by
  rcases List.mem_cons.1 hp with e|hp
  ·rw [e];exact aEx q m h0 h1
  ·exact aGi ps p hp m h0 h1
end
end
end Go.Hb
