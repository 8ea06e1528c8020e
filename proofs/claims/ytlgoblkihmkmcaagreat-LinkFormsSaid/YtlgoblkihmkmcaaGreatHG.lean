/- A machine on abstract values, its soundness, ways, plain laws. -/
import Derived.Test.YtlgoblkihmkmcaaGreatHF
set_option linter.defProp false
set_option linter.unusedVariables false
set_option linter.unusedSimpArgs false
set_option linter.unusedSectionVars false
set_option maxRecDepth 100000
set_option maxHeartbeats 2000000
namespace Go.Hb
open AV (ilst int keyless keylessL str)
open List (all_nil drop length length_set map map_set mem_of_getElem? replicate set)
open Nat (add_zero blt div mod pow)
open Go.Proofs Tryz
noncomputable section
section
variable {P :Program}
theorem throws_at {f : Nat} {args : List AV} {ch : List (AV×Bool)}(hb:oN P f=true)(hk:keylessL args=true)(hv:∀x∈ch,keyless x.1=true)(he:Ends P 0 (start P f args).as (.pan ch) (aG [] 0)) :wO P f args ch:=fun h=>by
 unfold oN at hb;split at hb
 · rename_i fn hf;split at hb
   · rename_i c hc;have hg:fE P h (.enter f args) =some ⟨f,fU .leaf 0 args,max fn.ntmps args.length,[.code c],[],.run,.normal,none⟩ :=by simp [fE,eI,hf,hc]
     refine⟨_,hg,fun hm E fr ccs w fr' fs r cl base=>?_⟩;simp only at fs;rw [fs.nil_inv];have f1:FR E.p (start P f args).as.fr fr:=by
      have e1: (start P f args).as.fr= ⟨f,mkT ((List.range args.length).zip args),max fn.ntmps args.length,[.code c],[],.run,.normal,none⟩ :=by simp [start,hf,hc,TS.as,TF.fr]
      rw [e1];refine⟨fr'.fn,⟨fr'.tm.1,fun t a e=>?_⟩,?_,?_,fr'.mode,fr'.kind,?_⟩
      · have h1:=aGm (aB8 e);have hlt:= (List.getElem?_eq_some_iff.1 h1).1;have h2: (fU .leaf 0 args).at t=some a:=by
         unfold fU;rw [dG,if_pos hlt];exact h1
        obtain⟨cv,g1,g2⟩ :=fr'.tm.2 t a h2;exact⟨cv,g1,eW (keylessL_mem.1 hk a (mem_of_getElem? h1)) g2⟩
      · have:=fr'.todo;simpa [IRs,IR]using this
      · have:=fr'.defers;simpa [DRs]using this
      · have:=fr'.round;simpa [RR]using this
     have e2 : (start P f args).as.cs = [] := by unfold start;split; · split<;>rfl
                                                 ·rfl
     have e3 : (start P f args).as.h = ⟨.leaf, 0⟩ := by unfold start;split; · split<;>rfl
                                                        ·rfl
     obtain⟨cl',w',E',g1,⟨cv,rfl,g2⟩,g3,g4⟩ :=he (Nat.zero_le _) E.p fr [] w f1 (by rw [e2];rfl) (by rw [e3];exact aGl r) cl base;rw [e3]at g4;obtain⟨q1,q2⟩ :=aGn r g3 g4;exact⟨_,w',_,g1,⟨cv,rfl,CR.of_p (E:= ⟨E.loc,E'.imm⟩) (show CR (Emb.p ⟨E.loc,E'.imm⟩) ch cv from aCc (E:=E') hv g2)⟩,q1,q2⟩
   ·cases hb
 ·cases hb
end
inductive Typ where
 |mk (sort n:Int) (text:aA) (parts:List Typ)
mutual
def Typ.av :Typ→AV
 | .mk f n t ps=>.agg [.int .i64 f,.int .i64 n,aD t,.ilst 4 (Typs.av ps) false]
def Typs.av :List Typ→List AV
 | [] =>[]
 |p::ps=>Typ.av p::Typs.av ps
end
theorem dU :∀l,Typs.av l=map Typ.av l
 | [] =>rfl
 |p::ps=>by rw [Typs.av,dU ps];rfl
mutual
theorem aAg :∀p,keyless (Typ.av p) =true
 | .mk f n t ps=>by simp [Typ.av,keyless,keylessL,aD]
theorem aS2 :∀l,keylessL (Typs.av l) =true
 | [] =>rfl
 |p::ps=>by rw [Typs.av,keylessL,aAg p,aS2 ps];rfl
end
inductive Term where
 |mk (op n:Int) (text:aA) (kids:List Term) (pats:List Pat)
mutual
def Term.av :Term→AV
 | .mk o n t ks ps=>.agg [.int .i64 o,.int .i64 n,aD t,.ilst 5 (Terms.av ks) false,.ilst 4 (Pats.av ps) false]
def Terms.av :List Term→List AV
 | [] =>[]
 |p::ps=>Term.av p::Terms.av ps
end
theorem dA :∀l,Terms.av l=map Term.av l
 | [] =>rfl
 |p::ps=>by rw [Terms.av,dA ps];rfl
mutual
theorem jX :∀p,keyless (Term.av p) =true
 | .mk o n t ks ps=>by simp [Term.av,keyless,keylessL,aD]
theorem aRs :∀l,keylessL (Terms.av l) =true
 | [] =>rfl
 |p::ps=>by rw [Terms.av,keylessL,jX p,aRs ps];rfl
end
noncomputable abbrev aL9 (n:Nat)(l:List Typ)(i:Int)(a:Int→Int→aA→List Typ→Tr) :Tr:=.y fun p=>.y fun q=>.y fun r=>.y fun s=>giF dU n l i (.mk p q r s) (a p q r s)
noncomputable abbrev aER (n:Nat)(l:List Term)(i:Int)(a:Int→Int→aA→List Term→List Pat→Tr) :Tr:=.y fun p=>.y fun q=>.y fun r=>.y fun s=>.y fun t=>giF dA n l i (.mk p q r s t) (a p q r s t)
structure ConD where
 name:aA
 args:List Typ
def ConD.av (c:ConD) :AV:=.agg [aD c.name,.ilst 4 (Typs.av c.args) false]
structure DataD where
 name:aA
 cons:List ConD
def DataD.av (d:DataD) :AV:=.agg [aD d.name,.ilst 2 (map ConD.av d.cons) false]
inductive FunD where
 |mk (name param:aA) (frm to:Typ) (body:Term)
def FunD.av :FunD→AV
 | .mk n p (.mk f0 f1 f2 f3) (.mk g0 g1 g2 g3) (.mk b0 b1 b2 b3 b4) =>.agg [aD n,aD p,.int .i64 f0,.int .i64 f1,aD f2,.ilst 4 (Typs.av f3) false,.int .i64 g0,.int .i64 g1,aD g2,.ilst 4 (Typs.av g3) false,.int .i64 b0,.int .i64 b1,aD b2,.ilst 5 (Terms.av b3) false,.ilst 4 (Pats.av b4) false]
def FunDs.av (l:List FunD) :List AV:=map FunD.av l
theorem cN :∀l,FunDs.av l=map FunD.av l:=fun _=>rfl
theorem aWB :∀f,keyless (FunD.av f) =true
 | .mk n p (.mk f0 f1 f2 f3) (.mk g0 g1 g2 g3) (.mk b0 b1 b2 b3 b4) =>by simp [FunD.av,keyless,keylessL,aD]
structure Mod where
 name:aA
 datas:List DataD
 funs:List FunD
def Mod.av (m:Mod) :AV:=.agg [aD m.name,.ilst 2 (map DataD.av m.datas) false,.ilst 15 (FunDs.av m.funs) false]
inductive Part where
 |data (d:DataD)
 |fn (f:FunD)
def Part.av :Part→AV
 | .data d=>.iface 177 (DataD.av d)
 | .fn f=>.iface 179 (FunD.av f)
def Parts.av (l:List Part) :List AV:=map Part.av l
theorem qR :∀l,Parts.av l=map Part.av l:=fun _=>rfl
theorem aJY :∀x,keyless (Part.av x) =true
 | .data d=>by simp [Part.av,DataD.av,keyless,keylessL,aD]
 | .fn f=>by simp only [Part.av,keyless];exact aWB f
theorem aAh {l:List Part}:keylessL (Parts.av l) =true:=aI _ aJY _
inductive KV where
 |row (l:List Int)
 |nil
 |val (u:Value)
def KV.av :KV→AV
 | .row l=>.ilst 1 (map bM l) false
 | .nil=>.nils
 | .val u=>.val u
structure ONode where
 op:Int
 n:Int
 kv:KV
 pats:List Pat
def ONode.av (x:ONode) :AV:=.agg [.int .i64 x.op,.int .i64 x.n,x.kv.av,.ilst 4 (Pats.av x.pats) false]
def Node.o (x:Node) :ONode:= ⟨x.op,x.n,.row x.kids,x.pats⟩
theorem aJZ (l:List Node) :map ONode.av (map Node.o l) =map Node.av l:=by
 rw [List.map_map];rfl
theorem bAr :∀k:KV,keyless k.av=true
 | .row l=>by simp only [KV.av,keyless]
 | .nil=>rfl
 | .val u=>rfl
theorem bE (x:ONode) :keyless x.av=true:=by
 simp only [ONode.av,keyless,keylessL,bAr,aC8,Bool.and_true]
theorem aJ0 {E:Emb}{x y:AV}(hv:∀v,VR E x v→VR E y v) :∀ {xs:List AV} {i:Nat},xs[i]?=some x→∀vs,VRs E xs vs→VRs E (xs.set i y) vs
 | [],i,h,vs,hvs=>by simp at h
 | a::xs,0,h,vs,hvs=>by
  simp only [VRs]at hvs;obtain⟨u,us,rfl,h1,h2⟩ :=hvs;simp at h;subst h;simp only [List.set_cons_zero,VRs];exact⟨u,us,rfl,hv u h1,h2⟩
 | a::xs,i+1,h,vs,hvs=>by
  simp only [VRs]at hvs;obtain⟨u,us,rfl,h1,h2⟩ :=hvs;simp only [List.getElem?_cons_succ]at h;simp only [List.set_cons_succ,VRs];exact⟨u,us,rfl,h1,aJ0 hv h us h2⟩
theorem aMa {E:Emb}{x:ONode}{k:KV}(hk:∀v,VR E x.kv.av v→VR E k.av v) :∀v,VR E x.av v→VR E (ONode.av ⟨x.op,x.n,k,x.pats⟩) v:=fun v h=>by
 simp only [ONode.av,VR,VRs]at h ⊢;obtain⟨us,rfl,u1,r1,rfl,q1,u2,r2,rfl,q2,u3,r3,rfl,q3,q4⟩ :=h;exact⟨_,rfl,_,_,rfl,q1,_,_,rfl,q2,_,_,rfl,hk _ q3,q4⟩
theorem aOl {E:Emb}:∀v,VR E KV.nil.av v→VR E (KV.row []).av v:=fun v h=>by
 simp only [KV.av,VR]at h;simp only [KV.av,VR,List.map_nil];exact⟨[],VRs.nil _,fun _ hu=>by(cases hu),.inl ⟨rfl,none,0,h,fun _=>rfl,fun _=>rfl⟩⟩
theorem aS3 {l:List ONode}{i:Nat}{y:ONode}(h:l[i]?=some y)(hk:y.kv= .nil) :VW (map ONode.av l) (map ONode.av (l.set i ⟨y.op,y.n,.row [],y.pats⟩)) :=fun E vs hvs=>by
 have h1: (map ONode.av l)[i]?=some y.av:=by rw [List.getElem?_map,h];rfl
 rw [map_set];exact aJ0 (aMa (by rw [hk];exact aOl)) h1 vs hvs
theorem aZx {l:List ONode}{i:Nat}{y:ONode}{u:Value}{ks:List Int}(h:l[i]?=some y)(hk:y.kv= .val u) :VQ u 1 (map bM ks) (map ONode.av l) (map ONode.av (l.set i ⟨y.op,y.n,.row ks,y.pats⟩)) :=fun E vs hu hvs=>by
 have h1: (map ONode.av l)[i]?=some y.av:=by rw [List.getElem?_map,h];rfl
 rw [map_set];refine aJ0 (aMa (fun v hv=>?_)) h1 vs hvs;rw [hk]at hv;simp only [KV.av,VR]at hv;subst hv;exact hu
theorem aS4 {α:Type}{f:α→AV}{l:List α}{i:Nat}{y:α}(h:l[i]?=some y) :map f l≠ [] :=fun e=>by
 cases l with
 |nil=>simp at h
 |cons _ _=>cases e
def kwL :List aA:=[strOf [98,111,111,108],strOf [99,101,108,108],strOf [99,104,97,110],strOf [101,108,115,101],strOf [102,97,108,115,101],strOf [102,117,110],strOf [103,101,116],strOf [105,102],strOf [105,110],strOf [105,110,112,117,116],strOf [105,110,116],strOf [106,111,105,110],strOf [108,101,116],strOf [109,97,116,99,104],strOf [109,111,100,117,108,101],strOf [111,117,116],strOf [112,97,117,115,101],strOf [112,117,116],strOf [114,101,115,101,116],strOf [115,101,110,100],strOf [115,104,105,102,116],strOf [115,112,97,119,110],strOf [116,97,107,101],strOf [116,97,115,107],strOf [116,104,101,110],strOf [116,114,117,101],strOf [116,121,112,101],strOf [117,110,105,116]]
def aX1:TS:=bH PP 166 [] [] 0
def aWC:=(tT 0 (aX1)<|.i [rn 10,.toL 0 false [.str 4 1819242338,.str 4 1819043171,.str 4 1851877475,.str 4 1702063205,.str 5 435728179558,.str 3 7239014,.str 3 7628135,.str 2 26217,.str 2 28265,.str 5 500186508905,.str 3 7630441,.str 4 1852403562,.str 3 7628140,.str 5 448345170285,.str 6 111516500389741,.str 3 7632239,.str 5 435728769392,.str 3 7632240,.str 5 499918267762,.str 4 1684956531,.str 5 499934390387,.str 5 474449277043,.str 4 1701536116,.str 4 1802723700,.str 4 1852139636,.str 4 1702195828,.str 4 1701869940,.str 4 1953066613]] [hr (some [str 4 1819242338,str 4 1819043171,str 4 1851877475,str 4 1702063205,str 5 435728179558,str 3 7239014,str 3 7628135,str 2 26217,str 2 28265,str 5 500186508905,str 3 7630441,str 4 1852403562,str 3 7628140,str 5 448345170285,str 6 111516500389741,str 3 7632239,str 5 435728769392,str 3 7632240,str 5 499918267762,str 4 1684956531,str 5 499934390387,str 5 474449277043,str 4 1701536116,str 4 1802723700,str 4 1852139636,str 4 1702195828,str 4 1701869940,str 4 1953066613]),hr true]<|gu 0 0 (map aD kwL)<|gs 0 0 (.gl 0 1 0 kwL.length true)<|.i [.weak 0] []<|gz 0 0 0 1 aD kwL false<|gE 0 1 (iS kwL)) tv
def aS5 (c:aA):=fun a b d e=>(tT 0 (start PP 115 [aD c])<|.y fun a:List aA=>gp 6 166 [] (iS a)<|cD 1 64 [iS a,aD c]<|fun b=>gE 3 0 (bV b)) a d b e tv
def aPG(a:aA):=tT 0 (start PP 39 [aD a])<|gd 10 6 ((a.length:Int) ≥1) (gd 5 11 ((a.length:Int) ≤8) (cD 1 114 [aD a]<|fun b=>.b 2 15 b (cD 1 115 [aD a]<|fun c=>gE 5 0 (bV (!c)))<|gE 7 0 (bV false))<|gE 11 0 (bV false))<|gE 16 0 (bV false)
def aX2(a b c:Int):=tT 0 (start PP 40 [nI a,nI b,nI c])<|gd 10 10 (a≥b) (gE 7 0 (bV (decide (a≤c))))<|gE 7 0 (bV false)
def iE(a:aA):=tT 0 (start PP 162 [aD a])<|.b 16 4 (bB a.length (aC a) 4 1819242338) (gE 8 0 (bV true))<|.b 6 4 (bB a.length (aC a) 4 1819043171) (gE 8 0 (bV true))<|.b 6 4 (bB a.length (aC a) 4 1851877475) (gE 8 0 (bV true))<|.b 6 4 (bB a.length (aC a) 4 1702063205) (gE 8 0 (bV true))<|.b 6 4 (bB a.length (aC a) 5 435728179558) (gE 8 0 (bV true))<|.b 6 4 (bB a.length (aC a) 3 7239014) (gE 8 0 (bV true))<|.b 6 4 (bB a.length (aC a) 3 7628135) (gE 8 0 (bV true))<|.b 6 4 (bB a.length (aC a) 2 26217) (gE 8 0 (bV true))<|.b 6 4 (bB a.length (aC a) 2 28265) (gE 8 0 (bV true))<|.b 6 4 (bB a.length (aC a) 5 500186508905) (gE 8 0 (bV true))<|.b 6 4 (bB a.length (aC a) 3 7630441) (gE 8 0 (bV true))<|.b 6 4 (bB a.length (aC a) 4 1852403562) (gE 8 0 (bV true))<|.b 6 4 (bB a.length (aC a) 3 7628140) (gE 8 0 (bV true))<|.b 6 4 (bB a.length (aC a) 5 448345170285) (gE 8 0 (bV true))<|.b 6 4 (bB a.length (aC a) 6 111516500389741) (gE 8 0 (bV true))<|.b 6 4 (bB a.length (aC a) 3 7632239) (gE 8 0 (bV true))<|.b 6 4 (bB a.length (aC a) 5 435728769392) (gE 8 0 (bV true))<|.b 6 4 (bB a.length (aC a) 3 7632240) (gE 8 0 (bV true))<|.b 6 4 (bB a.length (aC a) 5 499918267762) (gE 8 0 (bV true))<|.b 6 4 (bB a.length (aC a) 4 1684956531) (gE 8 0 (bV true))<|.b 6 4 (bB a.length (aC a) 5 499934390387) (gE 8 0 (bV true))<|.b 6 4 (bB a.length (aC a) 5 474449277043) (gE 8 0 (bV true))<|.b 6 4 (bB a.length (aC a) 4 1701536116) (gE 8 0 (bV true))<|.b 6 4 (bB a.length (aC a) 4 1802723700) (gE 8 0 (bV true))<|.b 6 4 (bB a.length (aC a) 4 1852139636) (gE 8 0 (bV true))<|.b 6 4 (bB a.length (aC a) 4 1702195828) (gE 8 0 (bV true))<|.b 6 4 (bB a.length (aC a) 4 1701869940) (gE 8 0 (bV true))<|.b 5 4 (bB a.length (aC a) 4 1953066613) (gE 6 0 (bV true))<|gE 8 0 (bV false)
def aPH(a:aA):=tT 0 (start PP 107 [aD a])<|.b 9 5 (!(bB a.length (aC a) 0 0)) (gd 5 10 ((a.length:Int) ≤8) (cD 1 161 [aD a]<|fun b=>.b 2 14 b (cD 1 162 [aD a]<|fun c=>gE 5 0 (bV (!c)))<|gE 7 0 (bV false))<|gE 11 0 (bV false))<|gE 16 0 (bV false)
mutual
def mR :Pat→Int→Int
 | .mk _ _ _ ps,left=>if left<1 then -1 else kS ps (left-1)
def kS :List Pat→Int→Int
 | [],left=>left
 |p::ps,left=>if 0≤left then kS ps (mR p left)else left
end
mutual
theorem aMb :∀ (p:Pat) (left:Int),0≤left→ -1≤mR p left∧mR p left≤left-1
 | .mk _ _ _ ps,left,h=>by
  rw [mR];split
  ·omega
  ·have:=aIl ps (left-1) (by omega);omega
theorem aIl :∀ (ps:List Pat) (left:Int),-1≤left→ -1≤kS ps left∧kS ps left≤left
 | [],left,h=>by rw [kS];omega
 | p ::ps,left,h=>by
  rw [kS];split
  · rename_i h0;have a:=aMb p left h0;have:=aIl ps (mR p left) a.1;omega
  ·omega
end
theorem aES (f n:Int)(s:aA)(ps:List Pat)(l0:Int)(ih:∀p∈ps,∀left:Int,0≤left→left≤1000→Pure PP 155 [Pat.av p,.int .i64 left] (.int .i64 (mR p left))) :
  ∀ (t:List Pat) (i:Nat) (left:Int),ps.drop i=t→ -1≤left→ (i:Int) +left≤1000→Ends PP 0 (aAU f n s ps l0 left (i:Int)).as (.ret (.int .i64 (kS t left))) (aG [] 0)
 | [],i,left,h,h1,h2=>by
  have:=aZ h;rw [kS];exact aZv f n s ps l0 left i|>.f sd tv
 | .mk f' n' s' ps'::t,i,left,h,h1,h2=>by
  obtain⟨g1,g2,g3⟩ :=aY h;rw [kS];split
  · rename_i h0;have w:=aMb (.mk f' n' s' ps') left h0;refine(aZv f n s ps l0 left i|>.t sd|>.t sd f' n' s' ps' sd sd _ (ih _ (mem_of_getElem? g1) left h0 (by omega)) sd tv).ends ?_;exact aES f n s ps l0 ih t (i+1) _ g2 w.1 (by omega)
  ·exact aZv f n s ps l0 left i|>.t sd|>.f sd tv
mutual
theorem sY :∀ (p:Pat) (left:Int),-1≤left→left≤1000→Pure PP 155 [Pat.av p,.int .i64 left] (.int .i64 (mR p left))
 | .mk f n s ps,left,h0,h1=>by
  refine aP (by kernel_rfl) (by simp [keylessL,lO,keyless]) rfl ?_;rw [mR];split
  ·exact bAp f n s ps left|>.t sd tv
  · refine(bAp f n s ps left|>.f sd sd tv).ends ?_;exact aES f n s ps left (fun p hp left h0 h1=>aGt ps p hp left h0 h1) ps 0 _ rfl (by omega) (by omega)
theorem aGt :∀ (ps:List Pat),∀p∈ps,∀left:Int,0≤left→left≤1000→Pure PP 155 [Pat.av p,.int .i64 left] (.int .i64 (mR p left))
 | [],p,hp,_,_,_=>by cases hp
 | q::ps,p,hp,left,h0,h1=>by
  rcases List.mem_cons.1 hp with e|hp
  ·rw [e];exact sY q left (by omega) h1
  ·exact aGt ps p hp left h0 h1
end
mutual
def aAi :Pat→Bool
 | .mk _ _ s ps=>aDd ps&&decide (s.length≤30)
def aDd :List Pat→Bool
 | [] =>true
 |p::ps=>aAi p&&aDd ps
end
mutual
def bA :Pat→Nat
 | .mk _ _ _ ps=>aQ ps+1
def aQ :List Pat→Nat
 | [] =>0
 |p::ps=>bA p+aQ ps
end
theorem dN :∀ps:List Pat,ps.length≤aQ ps
 | [] =>by simp [aQ]
 | .mk _ _ _ qs::ps=>by have:=dN ps;simp only [aQ,bA,List.length_cons];omega
mutual
theorem aGu :∀ (p:Pat) (left:Int),0≤mR p left→mR p left=left-bA p
 | .mk _ _ _ ps,left,h=>by
  rw [mR]at h ⊢;split at h
  ·omega
  · rename_i h1;rw [if_neg h1];have:=aET ps (left-1) h;simp only [bA];omega
theorem aET :∀ (ps:List Pat) (left:Int),0≤kS ps left→kS ps left=left-aQ ps
 | [],left,h=>by simp [kS,aQ]
 | p ::ps,left,h=>by
  rw [kS]at h ⊢;split at h
  · rename_i h1;rw [if_pos h1];have a:=aET ps _ h;have b:=aGu p left (by omega);simp only [aQ];omega
  ·omega
end
mutual
theorem aGv :∀ (p:Pat) (left:Int),(bA p:Int) ≤left→mR p left=left-bA p
 | .mk _ _ _ ps,left,h=>by
  simp only [bA]at h ⊢;rw [mR,if_neg (by omega),aEU ps (left-1) (by omega)];omega
theorem aEU :∀ (ps:List Pat) (left:Int),(aQ ps:Int) ≤left→kS ps left=left-aQ ps
 | [],left,h=>by simp [kS,aQ]
 | p::ps,left,h=>by
  simp only [aQ]at h ⊢;rw [kS,if_pos (by omega),aGv p left (by omega),aEU ps _ (by omega)];omega
end
theorem uO (p:Pat)(left:Int) :0≤mR p left↔ (bA p:Int) ≤left:=by
 constructor
 ·intro h;have:=aGu p left h;omega
 ·intro h;rw [aGv p left h];omega
theorem aAj (f n:Int)(s:aA)(ps:List Pat)(hl:ps.length<1000000)(ih:∀p∈ps,Pure PP 185 [Pat.av p] (.bool (aAi p))) :
  ∀ (t:List Pat) (i:Nat),ps.drop i=t→Ends PP 0 (qF f n s ps (i:Int)).as (.ret (.bool (aDd t&&decide (s.length≤30)))) (aG [] 0)
 | [],i,h=>by
  have:=aZ h;have e:decide (((length s:Nat) :Int) ≤ (30:Int)) =decide (s.length≤30) :=by congr 1;simp;omega
  rw [aDd,Bool.true_and,←e];exact aZw f n s ps i|>.f sd tv
 | .mk f' n' s' ps'::t,i,h=>by
  obtain⟨g1,g2,g3⟩ :=aY h;have ihp:=ih _ (mem_of_getElem? g1);rw [aDd];cases hb:aAi (.mk f' n' s' ps')
  case false=>
   rw [hb]at ihp;exact aZw f n s ps i|>.t sd f' n' s' ps' sd sd false ihp|>.t rfl tv
  rw [hb]at ihp;refine(aZw f n s ps i|>.t sd f' n' s' ps' sd sd true ihp|>.f rfl sd tv).ends ?_;rw [Bool.true_and];exact aAj f n s ps hl ih t (i+1) g2
mutual
theorem aAk :∀ (p:Pat),bA p<1000000→Pure PP 185 [Pat.av p] (.bool (aAi p))
 | .mk f n s ps,h=>by
  refine aP (by kernel_rfl) (by simp [keylessL,lO]) rfl ?_;simp only [bA]at h;have:=dN ps;refine(aHO f n s ps).ends ?_;rw [aAi];exact aAj f n s ps (by omega) (aBL ps (by omega)) ps 0 rfl
theorem aBL :∀ (ps:List Pat),aQ ps<1000000→∀p∈ps,Pure PP 185 [Pat.av p] (.bool (aAi p))
 | [],_,p,hp=>by cases hp
 | q::ps,h,p,hp=>by
  simp only [aQ]at h;rcases List.mem_cons.1 hp with e|hp
  ·rw [e];exact aAk q (by omega)
  ·exact aBL ps (by omega) p hp
end
def mS (p:Pat) :Bool:=decide (bA p≤16) &&aAi p
theorem aDe (p:Pat) :Pure PP 138 [Pat.av p] (.bool (mS p)) :=by
 refine aP (by kernel_rfl) (by simp [keylessL,lO]) rfl ?_;obtain⟨f,n,s,ps⟩ :=p;have hw:=sY (.mk f n s ps) 16 (by omega) (by omega);by_cases h:bA (.mk f n s ps) ≤16
 · have e:mS (.mk f n s ps) =aAi (.mk f n s ps) :=by simp [mS,h]
   rw [e];have hg:0≤mR (.mk f n s ps) 16:= (uO (.mk f n s ps) 16).2 (by omega);exact bAq f n s ps _ hw|>.t (decide_eq_true hg) _ (aAk (.mk f n s ps) (by omega)) tv
 · have e:mS (.mk f n s ps) =false:=by simp [mS,h]
   rw [e];refine aL5 f n s ps _ hw (decide_eq_false fun g=>h ?_);have:= (uO (.mk f n s ps) 16).1 g;omega
def kJ (l:List Con) :Bool:=l.all fun c=>decide (c.name.length≤40)
def kK (l:List Pat) :Bool:=l.all mS
def cE (x:Node) :Bool:=decide (x.kids.length≤10) &&decide (x.pats.length≤10) &&kK x.pats
def aW (p:Prog) :Bool:=decide (p.nodes.length≤320) &&decide (p.funs.length≤320) &&decide (p.cons.length≤25) &&kJ p.cons&&p.nodes.all cE
mutual
theorem bAs (p:Prog)(hn:p.nodes.length≤320) :∀ (t:List Node) (i:Nat),p.nodes.drop i=t→Ends PP 0 (oK p (i:Int)).as (.ret (.bool (t.all cE))) (aG [] 0)
 | [],i,h=>by
  have:=aZ h;exact aPC p i|>.f sd tv
 | x :: t,i,h=>by
  obtain⟨g1,g2,g3⟩ :=aY h;by_cases k1:x.kids.length≤10
  · by_cases k2:x.pats.length≤10
    · have e: (x::t).all cE= (kK (x.pats.drop 0) &&t.all cE) :=by simp [cE,k1,k2]
      rw [e];refine(aPC p i|>.t sd x sd sd|>.f sd|>.f sd tv).ends ?_;have ih:=bAs p hn t (i+1) g2;clear e g1 g2 h
      suffices ∀ (u:List Pat) (k:Nat),x.pats.drop k=u→Ends PP 0 (oM p x.op x.n x.kids x.pats (k:Int) (i:Int)).as (.ret (.bool (kK u&&t.all cE))) (aG [] 0)from this _ 0 rfl
      intro u
      induction u with
      | nil=>
       intro k hk;have:=aZ hk;refine(aSY p x.op x.n x.kids x.pats k i|>.f sd sd tv).ends ?_;simp only [kK,all_nil,Bool.true_and];exact ih
      | cons q u ihu=>
       intro k hk;obtain⟨q1,q2,q3⟩ :=aY hk;obtain⟨f',n',s',ps'⟩ :=q;have hp:=aDe (.mk f' n' s' ps');cases hb:mS (.mk f' n' s' ps')
       case false=>
        rw [hb]at hp;have e: (kK (.mk f' n' s' ps'::u) &&t.all cE) =false:=by simp [kK,hb]
        rw [e];exact aSY p x.op x.n x.kids x.pats k i|>.t sd f' n' s' ps' sd sd false hp|>.t rfl tv
       rw [hb]at hp;have e: (kK (.mk f' n' s' ps'::u) &&t.all cE) = (kK u&&t.all cE) :=by simp [kK,hb]
       rw [e];refine(aSY p x.op x.n x.kids x.pats k i|>.t sd f' n' s' ps' sd sd true hp|>.f rfl sd tv).ends ?_;exact ihu (k+1) q2
    · have e: (x::t).all cE=false:=by simp [cE,k2]
      rw [e];exact aPC p i|>.t sd x sd sd|>.f sd|>.t sd tv
  · have e: (x::t).all cE=false:=by simp [cE,k1]
    rw [e];exact aPC p i|>.t sd x sd sd|>.t sd tv
end
theorem bAt (p:Prog)(hc:p.cons.length≤25)(hn:p.nodes.length≤320) :∀ (t:List Con) (i:Nat),p.cons.drop i=t→Ends PP 0 (oJ p (i:Int)).as (.ret (.bool (kJ t&&p.nodes.all cE))) (aG [] 0)
 | [],i,h=>by
  have:=aZ h;refine(aSX p i|>.f sd tv).ends ?_;simp only [kJ,all_nil,Bool.true_and];exact bAs p hn p.nodes 0 rfl
 | c ::t,i,h=>by
  obtain⟨g1,g2,g3⟩ :=aY h;by_cases k:c.name.length≤40
  · have e: (kJ (c::t) &&p.nodes.all cE) = (kJ t&&p.nodes.all cE) :=by simp [kJ,k]
    rw [e];refine(aSX p i|>.t sd c sd sd|>.f sd sd tv).ends ?_;exact bAt p hc hn t (i+1) g2
  · have e: (kJ (c::t) &&p.nodes.all cE) =false:=by simp [kJ,k]
    rw [e];exact aSX p i|>.t sd c sd sd|>.t sd tv
theorem aFh (p:Prog) :Pure PP 76 [Prog.av p] (.bool (aW p)) :=by
 refine aP (by kernel_rfl) rfl rfl ?_;by_cases h1:p.nodes.length≤320
 · by_cases h2:p.funs.length≤320
   · by_cases h3:p.cons.length≤25
     · have e:aW p= (kJ p.cons&&p.nodes.all cE) :=by simp [aW,h1,h2,h3]
       rw [e];exact(aWz p|>.f sd|>.f sd|>.f sd tv).ends (bAt p h3 h1 p.cons 0 rfl)
     · have e:aW p=false:=by simp [aW,h3]
       rw [e];exact aWz p|>.f sd|>.f sd|>.t sd tv
   · have e:aW p=false:=by simp [aW,h2]
     rw [e];exact aWz p|>.f sd|>.t sd tv
 · have e:aW p=false:=by simp [aW,h1]
   rw [e];exact aWz p|>.t sd tv
def eP(b c:Int)(d:aA)(a:List Pat)(e:List Con)(f:Bool)(g:Int):TS:=⟨tf 156 82 [(1,iC e),kp 2 0,(4,bV false),(5,bV f),(6,nI (a.length:Int)),(7,nI g)] [kc f156 1012,kl f156 1012,.inBlock 1,kc f156 127],[],[oC 0 [nI b,nI c,aD d,iP a]],1⟩
def bCF(d b:Int)(a:aA)(c:List Pat)(e:List Con):=tT 0 (start PP 156 [.agg [nI d,nI b,aD a,iP c],iC e])<|gm 13 aF c<|.b 15 13 (d==1) (.b 7 19 ((c.length:Int) ==0) (.b 11 61 (b==0) (.W 13 1 [0] (eP d b a c e (bB a.length (aC a) 0 0) 0))<|.W 13 1 [0] (eP d b a c e false 0))<|.W 24 1 [0] (eP d b a c e false 0))<|.b 6 13 (d==2) (.b 7 19 ((c.length:Int) ==0) (.b 11 61 (b==0) (.W 13 1 [0] (eP d b a c e (bB a.length (aC a) 0 0) 0))<|.W 13 1 [0] (eP d b a c e false 0))<|.W 24 1 [0] (eP d b a c e false 0))<|.b 5 13 (d==5) (.b 5 19 ((c.length:Int) ==0) (.b 11 61 (b==0) (.W 13 1 [0] (eP d b a c e (bB a.length (aC a) 0 0) 0))<|.W 13 1 [0] (eP d b a c e false 0))<|.W 24 1 [0] (eP d b a c e false 0))<|.b 6 24 (d==3) (.b 5 28 ((c.length:Int) ==0) (cD 2 94 [nI b,nI (-1000000000),nI 1000000000]<|fun f=>.b 8 61 f (.W 13 1 [0] (eP d b a c e (bB a.length (aC a) 0 0) 0))<|.W 13 1 [0] (eP d b a c e false 0))<|.W 24 1 [0] (eP d b a c e false 0))<|.b 6 33 (d==4) (.b 5 37 ((c.length:Int) ==0) (cD 2 94 [nI b,nI 0,nI 1]<|fun f=>.b 8 61 f (.W 13 1 [0] (eP d b a c e (bB a.length (aC a) 0 0) 0))<|.W 13 1 [0] (eP d b a c e false 0))<|.W 24 1 [0] (eP d b a c e false 0))<|.b 6 42 (d==6) (gl 5 Con.av e<|gw 1 48 ((e.length:Int) -1)<|cD 0 94 [nI b,nI 0,nI ((e.length:Int) -1)]<|fun f=>.b 1 50 f (gX Con.av 4 e b<|fun g=>.b 11 61 ((c.length:Int) ==g.args) (.W 13 1 [0] (eP d b a c e (bB a.length (aC a) 0 0) 0))<|.W 13 1 [0] (eP d b a c e false 0))<|.W 29 1 [0] (eP d b a c e false 0))<|.W 20 1 [0] (eP d b a c e false 0)
def aZy(e f:Int)(g:aA)(b:List Pat)(d:List Con)(c:Bool)(a:Int):=tT 0 (eP e f g b d c a)<|gd 7 69 (a< (b.length:Int)) (.b 3 71 c (wY 8 b a<|fun i j k l=>cD 2 156 [.agg [nI i,nI j,aD k,iP l],iC d]<|fun m=>gw 6 73 (a+1)<|.W 3 1 [0] (eP e f g b d m (a+1)))<|gE 8 1 (bV c))<|gE 11 1 (bV c)
def bCG(a b c:Int):=tT 0 (start PP 157 [nI a,nI b,nI c])<|.b 16 8 (a==1) (gE 8 0 (nI 0))<|.b 6 8 (a==2) (gE 8 0 (nI 0))<|.b 6 8 (a==3) (gE 8 0 (nI 0))<|.b 6 8 (a==4) (gE 8 0 (nI 0))<|.b 6 8 (a==21) (gE 8 0 (nI 0))<|.b 6 8 (a==25) (gE 8 0 (nI 0))<|.b 5 8 (a==28) (gE 6 0 (nI 0))<|.b 7 16 (a==5) (gE 8 0 (nI 1))<|.b 6 16 (a==27) (gE 8 0 (nI 1))<|.b 6 16 (a==16) (gE 8 0 (nI 1))<|.b 6 16 (a==17) (gE 8 0 (nI 1))<|.b 6 16 (a==19) (gE 8 0 (nI 1))<|.b 6 16 (a==20) (gE 8 0 (nI 1))<|.b 6 16 (a==23) (gE 8 0 (nI 1))<|.b 6 16 (a==26) (gE 8 0 (nI 1))<|.b 5 16 (a==24) (gE 6 0 (nI 1))<|.b 7 26 (a==6) (gE 8 0 (nI 2))<|.b 6 26 (a==7) (gE 8 0 (nI 2))<|.b 6 26 (a==9) (gE 8 0 (nI 2))<|.b 6 26 (a==10) (gE 8 0 (nI 2))<|.b 6 26 (a==11) (gE 8 0 (nI 2))<|.b 6 26 (a==12) (gE 8 0 (nI 2))<|.b 6 26 (a==13) (gE 8 0 (nI 2))<|.b 6 26 (a==18) (gE 8 0 (nI 2))<|.b 5 26 (a==22) (gE 6 0 (nI 2))<|.b 6 36 (a==8) (gE 6 0 (nI 3))<|.b 6 38 (a==15) (gw 5 41 (1+b)<|gE 3 0 (nI (1+b)))<|.b 6 42 (a==14) (gE 7 0 (nI c))<|gE 8 0 (nI (-1))
theorem Ends.eqv {P:Program}{m:Nat}{s:AS}{v v':AV}{h':Hp}(h:Ends P m s (.ret v) h')(e:v=v') :Ends P m s (.ret v') h':=e ▸ h
theorem inB_iff {n lo hi:Int}:bG n lo hi=true↔lo≤n∧n≤hi:=by simp [bG]
theorem inB_not {n lo hi:Int}:bG n lo hi=false↔¬ (lo≤n∧n≤hi) :=by simp [bG]
theorem sdI {p:Prop}(h:p:=by first|assumption|rfl| (simp only [Int.toNat_natCast];assumption) | (simp only [decide_eq_true_eq,decide_eq_false_iff_not];omega) |omega| (apply wrap64<;>omega) | (simp_all;done) | (simp only [inB_iff,inB_not,beq_iff_eq,decide_eq_true_eq,decide_eq_false_iff_not]at *;omega)) :p:=h
theorem idT {p:Prop}(h:p:=by exact⟨_,List.getElem?_eq_getElem (by simp only [inB_iff,inB_not,beq_iff_eq,decide_eq_true_eq,decide_eq_false_iff_not]at *;omega)⟩) :p:=h
def eG (op pats args:Int) :Int:=
 if op=1∨op=2∨op=3∨op=4∨op=21∨op=25∨op=28 then 0
 else if op=5∨op=27∨op=16∨op=17∨op=19∨op=20∨op=23∨op=26∨op=24 then 1
 else if op=6∨op=7∨op=9∨op=10∨op=11∨op=12∨op=13∨op=18∨op=22 then 2
 else if op=8 then 3 else if op=15 then 1+pats else if op=14 then args else -1
theorem aWD (op pats args:Int)(hp:0≤pats)(hp2:pats≤1000) :Ends PP 0 (start PP 157 [.int .i64 op,.int .i64 pats,.int .i64 args]).as (.ret (.int .i64 (eG op pats args))) (aG [] 0) :=by
 have T0:=bCG op pats args;cases hb1: (op== (1:Int))
 case true=>exact Ends.eqv (T0|>.t hb1 tv) (by clear T0;simp_all [eG])
 replace T0:=T0.f hb1;cases hb2: (op== (2:Int))
 case true=>exact Ends.eqv (T0|>.t hb2 tv) (by clear T0;simp_all [eG])
 replace T0:=T0.f hb2;cases hb3: (op== (3:Int))
 case true=>exact Ends.eqv (T0|>.t hb3 tv) (by clear T0;simp_all [eG])
 replace T0:=T0.f hb3;cases hb4: (op== (4:Int))
 case true=>exact Ends.eqv (T0|>.t hb4 tv) (by clear T0;simp_all [eG])
 replace T0:=T0.f hb4;cases hb5: (op== (21:Int))
 case true=>exact Ends.eqv (T0|>.t hb5 tv) (by clear T0;simp_all [eG])
 replace T0:=T0.f hb5;cases hb6: (op== (25:Int))
 case true=>exact Ends.eqv (T0|>.t hb6 tv) (by clear T0;simp_all [eG])
 replace T0:=T0.f hb6;cases hb7: (op== (28:Int))
 case true=>exact Ends.eqv (T0|>.t hb7 tv) (by clear T0;simp_all [eG])
 replace T0:=T0.f hb7;cases hb8: (op== (5:Int))
 case true=>exact Ends.eqv (T0|>.t hb8 tv) (by clear T0;simp_all [eG])
 replace T0:=T0.f hb8;cases hb9: (op== (27:Int))
 case true=>exact Ends.eqv (T0|>.t hb9 tv) (by clear T0;simp_all [eG])
 replace T0:=T0.f hb9;cases hb10: (op== (16:Int))
 case true=>exact Ends.eqv (T0|>.t hb10 tv) (by clear T0;simp_all [eG])
 replace T0:=T0.f hb10;cases hb11: (op== (17:Int))
 case true=>exact Ends.eqv (T0|>.t hb11 tv) (by clear T0;simp_all [eG])
 replace T0:=T0.f hb11;cases hb12: (op== (19:Int))
 case true=>exact Ends.eqv (T0|>.t hb12 tv) (by clear T0;simp_all [eG])
 replace T0:=T0.f hb12;cases hb13: (op== (20:Int))
 case true=>exact Ends.eqv (T0|>.t hb13 tv) (by clear T0;simp_all [eG])
 replace T0:=T0.f hb13;cases hb14: (op== (23:Int))
 case true=>exact Ends.eqv (T0|>.t hb14 tv) (by clear T0;simp_all [eG])
 replace T0:=T0.f hb14;cases hb15: (op== (26:Int))
 case true=>exact Ends.eqv (T0|>.t hb15 tv) (by clear T0;simp_all [eG])
 replace T0:=T0.f hb15;cases hb16: (op== (24:Int))
 case true=>exact Ends.eqv (T0|>.t hb16 tv) (by clear T0;simp_all [eG])
 replace T0:=T0.f hb16;cases hb17: (op== (6:Int))
 case true=>exact Ends.eqv (T0|>.t hb17 tv) (by clear T0;simp_all [eG])
 replace T0:=T0.f hb17;cases hb18: (op== (7:Int))
 case true=>exact Ends.eqv (T0|>.t hb18 tv) (by clear T0;simp_all [eG])
 replace T0:=T0.f hb18;cases hb19: (op== (9:Int))
 case true=>exact Ends.eqv (T0|>.t hb19 tv) (by clear T0;simp_all [eG])
 replace T0:=T0.f hb19;cases hb20: (op== (10:Int))
 case true=>exact Ends.eqv (T0|>.t hb20 tv) (by clear T0;simp_all [eG])
 replace T0:=T0.f hb20;cases hb21: (op== (11:Int))
 case true=>exact Ends.eqv (T0|>.t hb21 tv) (by clear T0;simp_all [eG])
 replace T0:=T0.f hb21;cases hb22: (op== (12:Int))
 case true=>exact Ends.eqv (T0|>.t hb22 tv) (by clear T0;simp_all [eG])
 replace T0:=T0.f hb22;cases hb23: (op== (13:Int))
 case true=>exact Ends.eqv (T0|>.t hb23 tv) (by clear T0;simp_all [eG])
 replace T0:=T0.f hb23;cases hb24: (op== (18:Int))
 case true=>exact Ends.eqv (T0|>.t hb24 tv) (by clear T0;simp_all [eG])
 replace T0:=T0.f hb24;cases hb25: (op== (22:Int))
 case true=>exact Ends.eqv (T0|>.t hb25 tv) (by clear T0;simp_all [eG])
 replace T0:=T0.f hb25;cases hb26: (op== (8:Int))
 case true=>exact Ends.eqv (T0|>.t hb26 tv) (by clear T0;simp_all [eG])
 replace T0:=T0.f hb26;cases hb27: (op== (15:Int))
 case true=>exact Ends.eqv (T0|>.t hb27 sdI tv) (by clear T0;simp_all [eG])
 cases hb28: (op== (14:Int))
 case true=>exact Ends.eqv (T0|>.f hb27|>.t hb28 tv) (by clear T0;simp_all [eG])
 exact Ends.eqv (T0|>.f hb27|>.f hb28 tv) (by clear T0;simp_all [eG])
theorem aOm (op pats args:Int)(hp:0≤pats)(hp2:pats≤1000) :Pure PP 157 [.int .i64 op,.int .i64 pats,.int .i64 args] (.int .i64 (eG op pats args)) :=
 aP (by kernel_rfl) rfl rfl (aWD op pats args hp hp2)
def gI (cons:List Con)(n:Int) :Int:=match cons[n.toNat]? with
 |some c=>c.args
 |none=> -1
def fG (cons:List Con)(f n:Int)(s:aA)(k:Nat) :Bool:=
 (if f=1∨f=2∨f=5 then decide (k=0) &&decide (n=0)
 else if f=3 then decide (k=0) &&bG n (-1000000000) 1000000000
 else if f=4 then decide (k=0) &&bG n 0 1
 else if f=6 then bG n 0 ((cons.length:Int) -1) &&decide ((k:Int) =gI cons n)
 else false) &&decide (s= [])
mutual
def fC (cons:List Con) :Pat→Bool
 | .mk f n s ps=>fG cons f n s ps.length&&dO cons ps
def dO (cons:List Con) :List Pat→Bool
 | [] =>true
 |p::ps=>fC cons p&&dO cons ps
end
theorem ptT {p:Prop}(h:p:=by simp_all [fG,gI,aB]) :p:=h
theorem aZz (t8 w8:Int)(t7:aA)(t5:List Pat)(cons:List Con)(hc:cons.length≤1000)(b:Bool)(hk:∀i:Bool,i=fG cons t8 w8 t7 t5.length→Ends PP 0 (eP t8 w8 t7 t5 cons i 0).as (.ret (.bool b)) (aG [] 0)) :
  Ends PP 0 (start PP 156 [Pat.av (.mk t8 w8 t7 t5),.ilst 2 (map Con.av cons) false]).as (.ret (.bool b)) (aG [] 0) :=by
 have T0:=bCF t8 w8 t7 t5 cons;cases hb1: (t8== (1:Int))
 case true=>
  replace T0:=T0.t hb1;cases hb2: (((length t5:Nat) :Int) == (0:Int))
  case true=>
   cases hb3: (w8== (0:Int))
   case true=>exact LeadsM.ends (T0|>.t hb2|>.t hb3 tv) (hk _ (by clear hk;exact ptT))
   exact LeadsM.ends (T0|>.t hb2|>.f hb3 tv) (hk _ (by clear hk;exact ptT))
  exact LeadsM.ends (T0|>.f hb2 tv) (hk _ (by clear hk;exact ptT))
 replace T0:=T0.f hb1;cases hb4: (t8== (2:Int))
 case true=>
  replace T0:=T0.t hb4;cases hb5: (((length t5:Nat) :Int) == (0:Int))
  case true=>
   cases hb6: (w8== (0:Int))
   case true=>exact LeadsM.ends (T0|>.t hb5|>.t hb6 tv) (hk _ (by clear hk;exact ptT))
   exact LeadsM.ends (T0|>.t hb5|>.f hb6 tv) (hk _ (by clear hk;exact ptT))
  exact LeadsM.ends (T0|>.f hb5 tv) (hk _ (by clear hk;exact ptT))
 replace T0:=T0.f hb4;cases hb7: (t8== (5:Int))
 case true=>
  replace T0:=T0.t hb7;cases hb8: (((length t5:Nat) :Int) == (0:Int))
  case true=>
   cases hb9: (w8== (0:Int))
   case true=>exact LeadsM.ends (T0|>.t hb8|>.t hb9 tv) (hk _ (by clear hk;exact ptT))
   exact LeadsM.ends (T0|>.t hb8|>.f hb9 tv) (hk _ (by clear hk;exact ptT))
  exact LeadsM.ends (T0|>.f hb8 tv) (hk _ (by clear hk;exact ptT))
 replace T0:=T0.f hb7;cases hb10: (t8== (3:Int))
 case true=>
  replace T0:=T0.t hb10;cases hb11: (((length t5:Nat) :Int) == (0:Int))
  case true=>
   cases hb12: (bG w8 (-1000000000) 1000000000)
   case true=>exact LeadsM.ends (T0|>.t hb11 (bG w8 (-1000000000) 1000000000) (bI w8 (-1000000000) 1000000000)|>.t hb12 tv) (hk _ (by clear hk;exact ptT))
   exact LeadsM.ends (T0|>.t hb11 (bG w8 (-1000000000) 1000000000) (bI w8 (-1000000000) 1000000000)|>.f hb12 tv) (hk _ (by clear hk;exact ptT))
  exact LeadsM.ends (T0|>.f hb11 tv) (hk _ (by clear hk;exact ptT))
 replace T0:=T0.f hb10;cases hb13: (t8== (4:Int))
 case true=>
  replace T0:=T0.t hb13;cases hb14: (((length t5:Nat) :Int) == (0:Int))
  case true=>
   cases hb15: (bG w8 0 1)
   case true=>exact LeadsM.ends (T0|>.t hb14 (bG w8 0 1) (bI w8 0 1)|>.t hb15 tv) (hk _ (by clear hk;exact ptT))
   exact LeadsM.ends (T0|>.t hb14 (bG w8 0 1) (bI w8 0 1)|>.f hb15 tv) (hk _ (by clear hk;exact ptT))
  exact LeadsM.ends (T0|>.f hb14 tv) (hk _ (by clear hk;exact ptT))
 replace T0:=T0.f hb13;cases hb16: (t8== (6:Int))
 case true=>
  cases hb17: (bG w8 0 (((length cons:Nat) :Int) - (1:Int)))
  case true=>
   obtain⟨y1,hx18⟩ :∃y,((cons)[w8.toNat]?) =some y:=idT;cases hb19: (((length t5:Nat) :Int) ==y1.args)
   case true=>exact LeadsM.ends (T0|>.t hb16 sdI (bG w8 0 (((length cons:Nat) :Int) - (1:Int))) (bI w8 0 (((length cons:Nat) :Int) - (1:Int)))|>.t hb17 y1 sdI hx18|>.t hb19 tv) (hk _ (by clear hk;exact ptT))
   exact LeadsM.ends (T0|>.t hb16 sdI (bG w8 0 (((length cons:Nat) :Int) - (1:Int))) (bI w8 0 (((length cons:Nat) :Int) - (1:Int)))|>.t hb17 y1 sdI hx18|>.f hb19 tv) (hk _ (by clear hk;exact ptT))
  exact LeadsM.ends (T0|>.t hb16 sdI (bG w8 0 (((length cons:Nat) :Int) - (1:Int))) (bI w8 0 (((length cons:Nat) :Int) - (1:Int)))|>.f hb17 tv) (hk _ (by clear hk;exact ptT))
 exact LeadsM.ends (T0|>.f hb16 tv) (hk _ (by clear hk;exact ptT))
theorem aIn (f n:Int)(s:aA)(ps:List Pat)(cons:List Con)(hl:ps.length<1000000)(ih:∀p∈ps,Pure PP 156 [Pat.av p,.ilst 2 (map Con.av cons) false] (.bool (fC cons p))) :
  ∀ (t:List Pat) (i:Nat) (b:Bool),ps.drop i=t→Ends PP 0 (eP f n s ps cons b (i:Int)).as (.ret (.bool (b&&dO cons t))) (aG [] 0)
 | [],i,b,h=>by
  have:=aZ h;exact Ends.eqv (aZy f n s ps cons b i|>.f sd tv) (by simp [dO])
 | .mk f' n' s' ps'::t,i,b,h=>by
  obtain⟨g1,g2,g3⟩ :=aY h;cases b
  case false=>exact Ends.eqv (aZy f n s ps cons false i|>.t sd|>.f rfl tv) (by simp)
  refine(aZy f n s ps cons true i|>.t sd|>.t rfl f' n' s' ps' sd sd _ (ih (.mk f' n' s' ps') (mem_of_getElem? g1)) sd tv).ends ?_;exact Ends.eqv (aIn f n s ps cons hl ih t (i+1) _ g2) (by simp [dO])
mutual
theorem aIo (cons:List Con)(hc:cons.length≤1000) :∀ (p:Pat),bA p<1000000→Pure PP 156 [Pat.av p,.ilst 2 (map Con.av cons) false] (.bool (fC cons p))
 | .mk f n s ps,h=>by
  refine aP (by kernel_rfl) (by simp [keylessL,lO,keyless]) rfl ?_;simp only [bA]at h;have:=dN ps;refine aZz f n s ps cons hc _ (fun i hi=>?_);subst hi;rw [fC];exact aIn f n s ps cons (by omega) (aMc cons hc ps (by omega)) ps 0 _ rfl
theorem aMc (cons:List Con)(hc:cons.length≤1000) :∀ (ps:List Pat),aQ ps<1000000→∀p∈ps,Pure PP 156 [Pat.av p,.ilst 2 (map Con.av cons) false] (.bool (fC cons p))
 | [],_,p,hp=>by cases hp
 | q::ps,h,p,hp=>by
  simp only [aQ]at h;rcases List.mem_cons.1 hp with e|hp
  ·rw [e];exact aIo cons hc q (by omega)
  ·exact aMc cons hc ps (by omega) p hp
end
def cG(a:Prog)(b:Node)(c:Bool)(d e:Int):TS:=⟨tf 96 112 [kp 2 0,kp 3 1,(4,bV false),(5,nI d),(6,bV c),(7,nI e)] [kc f96 1012,kl f96 1012,.inBlock 1,kc f96 127],[],[oC 0 [iN a.nodes,iI a.funs,nI a.main,iC a.cons],oC 1 [nI b.op,nI b.n,iI b.kids,iP b.pats]],2⟩
def aDf(b:List Con)(c:Int)(a:List aA):TS:=⟨tf 95 42 [(0,iC b),(2,bV false),(3,.gl 0 1 0 a.length false),(4,nI c)] [kc f95 116,kl f95 116,.inBlock 0,kc f95 15],[],[oL 0 1 (map aD a)],1⟩
def xB(a:Prog)(c:Int)(b:List Bool):TS:=⟨tf 22 133 [kp 1 0,(2,bV false),(3,nI (a.nodes.length:Int)),(4,.gl 1 1 0 b.length true),(5,nI c)] [kc f22 500,kl f22 500,.inBlock 0,kc f22 63],[],[oC 0 [iN a.nodes,iI a.funs,nI a.main,iC a.cons],oL 1 1 (map kP b)],2⟩
def rF(a:Prog)(b:List Bool)(c:Int):TS:=⟨tf 22 133 [kp 1 0,(2,bV false),(3,nI (a.nodes.length:Int)),(4,.gl 1 1 0 b.length true),(6,nI c)] [kc f22 1012,kl f22 1012,.inBlock 2,kc f22 127],[],[oC 0 [iN a.nodes,iI a.funs,nI a.main,iC a.cons],oL 1 1 (map kP b)],2⟩
def xC(a:Prog)(b:List Bool)(c d:Int):TS:=⟨tf 22 133 [kp 1 0,(2,bV false),(3,nI (a.nodes.length:Int)),(4,.gl 1 1 0 b.length true),(6,nI d),(7,nI c)] [kc f22 129612,kl f22 129612,.inBlock 4,.inBlock 3,kc f22 4051,kl f22 1012,.inBlock 2,kc f22 127],[],[oC 0 [iN a.nodes,iI a.funs,nI a.main,iC a.cons],oL 1 1 (map kP b)],2⟩
def xE(b:Prog)(a:List Bool)(c:Int):TS:=⟨tf 22 133 [(2,bV false),(3,nI (b.nodes.length:Int)),(4,.gl 0 1 0 a.length true),(9,nI c)] [kc f22 2036,kl f22 2036,.inBlock 6,kc f22 255],[],[oL 0 1 (map kP a)],1⟩
def bCH(b:Prog)(a:Node):=tT 0 (start PP 96 [Prog.av b,Node.av a])<|.b 29 13 (a.op==1) (cD 4 94 [nI a.n,nI (-1000000000),nI 1000000000]<|fun c=>.b 10 56 (a.op==15) (.b 4 58 c (gm 2 aF a.pats<|cD 0 94 [nI (a.pats.length:Int),nI 1,nI 5]<|fun d=>.W 10 2 [0,1] (cG b a d 0 0))<|.W 14 2 [0,1] (cG b a false 0 0))<|.b 4 65 c (gm 2 aF a.pats<|.W 11 2 [0,1] (cG b a ((a.pats.length:Int) ==0) 0 0))<|.W 14 2 [0,1] (cG b a false 0 0))<|.b 6 18 (a.op==2) (cD 4 94 [nI a.n,nI 0,nI 1]<|fun c=>.b 10 56 (a.op==15) (.b 4 58 c (gm 2 aF a.pats<|cD 0 94 [nI (a.pats.length:Int),nI 1,nI 5]<|fun d=>.W 10 2 [0,1] (cG b a d 0 0))<|.W 14 2 [0,1] (cG b a false 0 0))<|.b 4 65 c (gm 2 aF a.pats<|.W 11 2 [0,1] (cG b a ((a.pats.length:Int) ==0) 0 0))<|.W 14 2 [0,1] (cG b a false 0 0))<|.b 6 23 (a.op==4) (gl 6 bM b.funs<|gw 1 30 (0- (b.funs.length:Int))<|cD 0 94 [nI a.n,nI (0- (b.funs.length:Int)),nI 29]<|fun c=>.b 10 56 (a.op==15) (.b 4 58 c (gm 2 aF a.pats<|cD 0 94 [nI (a.pats.length:Int),nI 1,nI 5]<|fun d=>.W 10 2 [0,1] (cG b a d 0 0))<|.W 14 2 [0,1] (cG b a false 0 0))<|.b 4 65 c (gm 2 aF a.pats<|.W 11 2 [0,1] (cG b a ((a.pats.length:Int) ==0) 0 0))<|.W 14 2 [0,1] (cG b a false 0 0))<|.b 6 32 (a.op==24) (cD 4 94 [nI a.n,nI 0,nI 3]<|fun c=>.b 10 56 (a.op==15) (.b 4 58 c (gm 2 aF a.pats<|cD 0 94 [nI (a.pats.length:Int),nI 1,nI 5]<|fun d=>.W 10 2 [0,1] (cG b a d 0 0))<|.W 14 2 [0,1] (cG b a false 0 0))<|.b 4 65 c (gm 2 aF a.pats<|.W 11 2 [0,1] (cG b a ((a.pats.length:Int) ==0) 0 0))<|.W 14 2 [0,1] (cG b a false 0 0))<|.b 6 37 (a.op==14) (gl 7 Con.av b.cons<|gw 1 44 ((b.cons.length:Int) -1)<|cD 0 94 [nI a.n,nI 0,nI ((b.cons.length:Int) -1)]<|fun c=>.b 6 46 c (gX Con.av 6 b.cons a.n<|fun d=>.b 12 56 (a.op==15) (.b 4 58 c (gm 2 aF a.pats<|cD 0 94 [nI (a.pats.length:Int),nI 1,nI 5]<|fun e=>.W 10 2 [0,1] (cG b a e d.args 0)) .x)<|.b 4 65 c (gm 2 aF a.pats<|.W 11 2 [0,1] (cG b a ((a.pats.length:Int) ==0) d.args 0)) .x)<|.b 10 56 (a.op==15) (.b 4 58 c .x<|.W 14 2 [0,1] (cG b a false 0 0))<|.b 4 65 c .x<|.W 14 2 [0,1] (cG b a false 0 0))<|.b 10 56 (a.op==15) (.b 4 58 (a.n==0) (gm 2 aF a.pats<|cD 0 94 [nI (a.pats.length:Int),nI 1,nI 5]<|fun c=>.W 10 2 [0,1] (cG b a c 0 0))<|.W 14 2 [0,1] (cG b a false 0 0))<|.b 4 65 (a.n==0) (gm 2 aF a.pats<|.W 11 2 [0,1] (cG b a ((a.pats.length:Int) ==0) 0 0))<|.W 14 2 [0,1] (cG b a false 0 0)
def aS6(j:Prog)(a:Node)(i:Bool)(k b:Int):=tT 0 (cG j a i k b)<|gm 6 aF a.pats<|gd 2 76 (b< (a.pats.length:Int)) (.b 3 78 i (.o (.y fun c:Int=>.y fun d:Int=>.y fun e:aA=>.y fun f:List Pat=>.y fun g:Int=>.y fun l:Bool=>.i [rn 4,.reg (rd 3 (.ans (.idx (Pat.av (Pat.mk c d e f)))::.d::.pure (nI g)::.d::.d::.b 88 true::rd 3 (.ans (.idx (Pat.av (Pat.mk c d e f)))::rd 3 [.pure (bV l),.d,.d])))] [hA (0≤b),.a (((a.pats)[b.toNat]?) =some (Pat.mk c d e f)) (fQ aF),hA (Pure PP 155 [.agg [nI c,nI d,aD e,iP f],nI 12] (nI g)),hA (decide (g≥0) =true),hA (0≤b),.a (((a.pats)[b.toNat]?) =some (Pat.mk c d e f)) (fQ aF),hA (Pure PP 156 [.agg [nI c,nI d,aD e,iP f],iC j.cons] (bV l))]<|gw 4 80 (b+1)<|.W 3 2 [0,1] (cG j a l k (b+1)))<|.y fun c:Int=>.y fun d:Int=>.y fun e:aA=>.y fun f:List Pat=>.y fun g:Int=>.i [rn 4,.reg (rd 3 (.ans (.idx (Pat.av (Pat.mk c d e f)))::.d::.pure (nI g)::.d::.d::.b 88 false::rd 10 []))] [hA (0≤b),.a (((a.pats)[b.toNat]?) =some (Pat.mk c d e f)) (fQ aF),hA (Pure PP 155 [.agg [nI c,nI d,aD e,iP f],nI 12] (nI g)),hA (decide (g≥0) =false)]<|gw 4 80 (b+1)<|.W 3 2 [0,1] (cG j a false k (b+1)))<|.i [rn 3,.reg (.d::.d::.b 99 false::rd 13 [])] [hA (i=false)]<|gE 1 2 (bV false))<|.o (.y fun m:Int=>.i [rn 6,.reg (.d::.d::.b 99 true::.d::.d::.ans (.len (a.kids.length:Int))::rd 4 (.ans (.len (a.pats.length:Int))::.d::.pure (nI m)::rd 3 []))] [hA (i=true),hl bM a.kids,hm aF a.pats,hA (Pure PP 157 [nI a.op,nI (a.pats.length:Int),nI k] (nI m)),.q (p:=(nI ((jI a.kids).length:Int)) = (nI (a.kids.length:Int))) (congrArg (int .i64) (aSR _ _)),.q (p:=(nI ((jI a.kids).length:Int)) = (nI (a.kids.length:Int))) (congrArg (int .i64) (aSR _ _)),hr (ilst 1 (jI a.kids) false),hr (ilst 1 (jI a.kids) false)]<|gE 1 2 (bV ((a.kids.length:Int) ==m)))<|.i [rn 6,.reg (.d::.d::.b 99 false::rd 13 [])] [hA (i=false)]<|gE 1 2 (bV false)
def aRt (a:List Con):=(tT 0 (start PP 95 [iC a])<|.i [rn 15,.nilL 3 1] []<|gu 0 0 (map aD ([] :List aA))<|gs 0 3 (.gl 0 1 0 ([] :List aA).length false)<|.W 0 1 [0] (aDf a 0 ([] :List aA))) ⟨kk,trivial⟩
def aS7(a:List Con)(c:Int)(d:List aA):=tT 0 (aDf a c d)<|gl 5 Con.av a<|gd 2 8 (c< (a.length:Int)) (gX Con.av 9 a c<|fun b=>cD 2 116 [aD b.name]<|fun e=>.b 2 18 (!e) (gE 15 1 (bV false))<|gi Con.av 2 a c b<|cD 2 94 [nI b.args,nI 0,nI 3]<|fun f=>.b 3 26 (!f) (gE 6 1 (bV false))<|gi Con.av 6 a c b<|ga 3 aD d [b.name]<|gw 6 10 (c+1)<|.W 3 3 [2] (aDf a (c+1) (d++ [b.name])))<|gl 5 Con.av a<|gd 2 38 ((a.length:Int) ≤20) (gz 1 39 0 1 aD d false<|cD 0 62 [iS d]<|fun b=>gE 4 1 (bV b))<|gE 6 1 (bV false)
def aS8(a:Prog):=tT 0 (start PP 22 [Prog.av a])<|gl 9 Node.av a.nodes<|gd 8 15 ((a.nodes.length:Int) >300) (gE 30 1 (bV false))<|gl 2 bM a.funs<|cD 1 94 [nI (a.funs.length:Int),nI 1,nI (a.nodes.length:Int)]<|fun b=>.b 3 23 (!b) (gE 22 1 (bV false))<|gl 4 bM a.funs<|gw 1 29 ((a.funs.length:Int) -1)<|cD 0 94 [nI a.main,nI 0,nI ((a.funs.length:Int) -1)]<|fun c=>.b 3 33 (!c) (gE 12 1 (bV false))<|cD 2 95 [iC a.cons]<|fun d=>.b 3 38 (!d) (gE 6 1 (bV false))<|.i [rn 5,.mk a.nodes.length] [hr (a.nodes.length:Int),hr (a.nodes.length:Int),hA (a.nodes.length<100000)]<|.i [.lset 1 (map kP (replicate a.nodes.length false))] [.q (p:=replicate a.nodes.length (kP false) = (map kP (replicate a.nodes.length false))) (aPB _ _ _)]<|.i [.set 40 (.gl 1 1 0 (replicate a.nodes.length false).length true)] [.q (p:=(AV.gl 1 1 0 a.nodes.length true) = (.gl 1 1 0 (replicate a.nodes.length false).length true)) (dH (List.length_replicate ..).symm)]<|.W 9 2 [0,1] (xB a 0 (replicate a.nodes.length false))
def aWE(c:Prog)(d:Int)(a:List Bool):=tT 0 (xB c d a)<|gl 6 bM c.funs<|gd 2 45 (d< (c.funs.length:Int)) (gX bM 10 c.funs d<|fun b=>gw 3 54 ((c.nodes.length:Int) -1)<|cD 0 94 [nI b,nI 0,nI ((c.nodes.length:Int) -1)]<|fun f=>.b 2 57 (!f) (gE 16 2 (bV false))<|gi bM 4 c.funs d b<|.i [rn 1,.ans (.ix)] [hA (0≤b),hA (b< (a.length:Int))]<|.y fun e:Bool=>gj kP 0 a b.toNat e<|.b 2 66 e (gE 6 2 (bV false))<|gi bM 7 c.funs d b<|.i [rn 1,.ans (.ix)] [hA (0≤b),hA (b< (a.length:Int))]<|.i [.st (kP e) (kP true)] [.a (((a)[b.toNat]?) =some e) (jQ (f:=kP)),hr (some (kP true))]<|.i [.lset 1 (map kP (set a b.toNat true))] [.q (p:=(map kP a).set (0+b.toNat) (kP true) = (map kP (set a b.toNat true))) (pA _ _ _ _)]<|.i [.set 4 (.gl 1 1 0 (set a b.toNat true).length true)] [.q (p:=(AV.gl 1 1 0 a.length true) = (.gl 1 1 0 (set a b.toNat true).length true)) (dH (length_set ..).symm)]<|.i [.set 58 (.gl 1 1 0 (set a b.toNat true).length true)] [.q (p:=(AV.gl 1 1 0 a.length true) = (.gl 1 1 0 (set a b.toNat true).length true)) (dH (length_set ..).symm)]<|.i [.set 67 (.gl 1 1 0 (set a b.toNat true).length true)] [.q (p:=(AV.gl 1 1 0 a.length true) = (.gl 1 1 0 (set a b.toNat true).length true)) (dH (length_set ..).symm)]<|gw 5 47 (d+1)<|.W 3 2 [0,1] (xB c (d+1) (set a b.toNat true)))<|.W 9 2 [0,1] (rF c a 0)
def aZA(a:Prog)(c:List Bool)(b:Int):=tT 0 (rF a c b)<|gd 7 76 (b< (a.nodes.length:Int)) (.y fun d:Node=>.y fun e:Bool=>.i [rn 6,.reg (rd 4 [.ans (.idx (Node.av d)),.d,.pure (bV e),.d])] [hA (0≤b),.a (((a.nodes)[b.toNat]?) =some d) (fF (f:=Node.av)),hA (Pure PP 96 [Prog.av a,Node.av d] (bV e))]<|.b 0 86 (!e) (gE 6 2 (bV false))<|.W 8 2 [0,1] (xC a c 0 b))<|.W 9 2 [1] (xE a c 0)
def aWF(d:Prog)(a:List Bool)(e c:Int):=tT 0 (xC d a e c)<|gX Node.av 7 d.nodes c<|fun f=>gl 2 bM f.kids<|gd 2 95 (e< (f.kids.length:Int)) (gi Node.av 9 d.nodes c f<|gX bM 3 f.kids e<|fun b=>gw 9 109 (c+1)<|gw 2 111 ((d.nodes.length:Int) -1)<|cD 0 94 [nI b,nI (c+1),nI ((d.nodes.length:Int) -1)]<|fun i=>.b 2 114 (!i) (gE 12 2 (bV false))<|.i [rn 2,.ans (.ix)] [hA (0≤b),hA (b< (a.length:Int))]<|.y fun g:Bool=>gj kP 0 a b.toNat g<|.b 2 119 g (gE 6 2 (bV false))<|.i [rn 5,.ans (.ix)] [hA (0≤b),hA (b< (a.length:Int))]<|.i [.st (kP g) (kP true)] [.a (((a)[b.toNat]?) =some g) (jQ (f:=kP)),hr (some (kP true))]<|.i [.lset 1 (map kP (set a b.toNat true))] [.q (p:=(map kP a).set (0+b.toNat) (kP true) = (map kP (set a b.toNat true))) (pA _ _ _ _)]<|.i [.set 4 (.gl 1 1 0 (set a b.toNat true).length true)] [.q (p:=(AV.gl 1 1 0 a.length true) = (.gl 1 1 0 (set a b.toNat true).length true)) (dH (length_set ..).symm)]<|.i [.set 115 (.gl 1 1 0 (set a b.toNat true).length true)] [.q (p:=(AV.gl 1 1 0 a.length true) = (.gl 1 1 0 (set a b.toNat true).length true)) (dH (length_set ..).symm)]<|.i [.set 120 (.gl 1 1 0 (set a b.toNat true).length true)] [.q (p:=(AV.gl 1 1 0 a.length true) = (.gl 1 1 0 (set a b.toNat true).length true)) (dH (length_set ..).symm)]<|gw 5 97 (e+1)<|.W 3 2 [0,1] (xC d (set a b.toNat true) (e+1) c))<|gw 6 78 (c+1)<|.W 3 2 [0,1] (rF d a (c+1))
def aZB(c:Prog)(b:List Bool)(a:Int):=tT 0 (xE c b a)<|gd 7 125 (a< (c.nodes.length:Int)) (.i [rn 8,.ans (.ix)] [hA (0≤a),hA (a< (b.length:Int))]<|.y fun d:Bool=>gj kP 0 b a.toNat d<|.b 2 132 (!d) (gE 6 1 (bV false))<|gw 6 127 (a+1)<|.W 3 1 [0] (xE c b (a+1)))<|gE 7 1 (bV true)
def jK (c:Con) :Bool:=cP c.name&&bG c.args 0 3
def bO (l:List Con) :List aA:=l.map Con.name
def aCe (l:List Con) :Bool:=l.all jK&&decide (l.length≤20) &&cU (bO l)
def fH (p:Prog)(op n:Int) :Bool:=
 if op=1 then bG n (-1000000000) 1000000000
 else if op=2 then bG n 0 1
 else if op=4 then bG n (0- (p.funs.length:Int)) 29
 else if op=24 then bG n 0 3
 else if op=14 then bG n 0 ((p.cons.length:Int) -1)
 else decide (n=0)
def pC (p:Prog)(x:Node) :Bool:=
 fH p x.op x.n&& (if x.op=15 then bG (x.pats.length:Int) 1 5 else decide (x.pats.length=0))
def mT (p:Prog)(x:Node) :Int:=if x.op=14∧bG x.n 0 ((p.cons.length:Int) -1) =true then gI p.cons x.n else 0
def jY (cons:List Con)(q:Pat) :Bool:=decide (bA q≤12) &&fC cons q
def cY (p:Prog)(x:Node) :Bool:=
 pC p x&&x.pats.all (jY p.cons) &&decide ((x.kids.length:Int) =eG x.op x.pats.length (mT p x))
theorem iQ {α:Type}(l:List α) : ((l.length:Int) ==0) =decide (l= []) :=by cases l<;>simp;omega
theorem qS {p:Prop}(h:p:=by simp_all [pC,fH,mT,gI,iQ]) :p:=h
theorem aWG (p:Prog)(x:Node)(hc:p.cons.length≤1000)(hf:p.funs.length≤1000)(b:Bool)(hk:∀ (i:Bool) (a:Int),i=pC p x→a=mT p x→Ends PP 0 (cG p x i a 0).as (.ret (.bool b)) (aG [] 0)) :
  Ends PP 0 (start PP 96 [Prog.av p,Node.av x]).as (.ret (.bool b)) (aG [] 0) :=by
 have T0:=bCH p x;cases hb1: (x.op== (1:Int))
 case true=>
  cases hb2: (x.op== (15:Int))
  case true=>
   cases hb3: (bG (x.n) (-1000000000) 1000000000)
   case true=>exact LeadsM.ends (T0|>.t hb1 (bG (x.n) (-1000000000) 1000000000) (bI (x.n) (-1000000000) 1000000000)|>.t hb2|>.t hb3 (bG ((length x.pats:Nat) :Int) 1 5) (bI ((length x.pats:Nat) :Int) 1 5) tv) (hk _ _ (by clear hk;exact qS) (by clear hk;exact qS))
   exact LeadsM.ends (T0|>.t hb1 (bG (x.n) (-1000000000) 1000000000) (bI (x.n) (-1000000000) 1000000000)|>.t hb2|>.f hb3 tv) (hk _ _ (by clear hk;exact qS) (by clear hk;exact qS))
  cases hb4: (bG (x.n) (-1000000000) 1000000000)
  case true=>exact LeadsM.ends (T0|>.t hb1 (bG (x.n) (-1000000000) 1000000000) (bI (x.n) (-1000000000) 1000000000)|>.f hb2|>.t hb4 tv) (hk _ _ (by clear hk;exact qS) (by clear hk;exact qS))
  exact LeadsM.ends (T0|>.t hb1 (bG (x.n) (-1000000000) 1000000000) (bI (x.n) (-1000000000) 1000000000)|>.f hb2|>.f hb4 tv) (hk _ _ (by clear hk;exact qS) (by clear hk;exact qS))
 replace T0:=T0.f hb1;cases hb5: (x.op== (2:Int))
 case true=>
  cases hb6: (x.op== (15:Int))
  case true=>
   cases hb7: (bG (x.n) 0 1)
   case true=>exact LeadsM.ends (T0|>.t hb5 (bG (x.n) 0 1) (bI (x.n) 0 1)|>.t hb6|>.t hb7 (bG ((length x.pats:Nat) :Int) 1 5) (bI ((length x.pats:Nat) :Int) 1 5) tv) (hk _ _ (by clear hk;exact qS) (by clear hk;exact qS))
   exact LeadsM.ends (T0|>.t hb5 (bG (x.n) 0 1) (bI (x.n) 0 1)|>.t hb6|>.f hb7 tv) (hk _ _ (by clear hk;exact qS) (by clear hk;exact qS))
  cases hb8: (bG (x.n) 0 1)
  case true=>exact LeadsM.ends (T0|>.t hb5 (bG (x.n) 0 1) (bI (x.n) 0 1)|>.f hb6|>.t hb8 tv) (hk _ _ (by clear hk;exact qS) (by clear hk;exact qS))
  exact LeadsM.ends (T0|>.t hb5 (bG (x.n) 0 1) (bI (x.n) 0 1)|>.f hb6|>.f hb8 tv) (hk _ _ (by clear hk;exact qS) (by clear hk;exact qS))
 replace T0:=T0.f hb5;cases hb9: (x.op== (4:Int))
 case true=>
  cases hb10: (x.op== (15:Int))
  case true=>
   cases hb11: (bG (x.n) (0- ((length p.funs:Nat) :Int)) 29)
   case true=>exact LeadsM.ends (T0|>.t hb9 sdI (bG (x.n) (0- ((length p.funs:Nat) :Int)) 29) (bI (x.n) (0- ((length p.funs:Nat) :Int)) 29)|>.t hb10|>.t hb11 (bG ((length x.pats:Nat) :Int) 1 5) (bI ((length x.pats:Nat) :Int) 1 5) tv) (hk _ _ (by clear hk;exact qS) (by clear hk;exact qS))
   exact LeadsM.ends (T0|>.t hb9 sdI (bG (x.n) (0- ((length p.funs:Nat) :Int)) 29) (bI (x.n) (0- ((length p.funs:Nat) :Int)) 29)|>.t hb10|>.f hb11 tv) (hk _ _ (by clear hk;exact qS) (by clear hk;exact qS))
  cases hb12: (bG (x.n) (0- ((length p.funs:Nat) :Int)) 29)
  case true=>exact LeadsM.ends (T0|>.t hb9 sdI (bG (x.n) (0- ((length p.funs:Nat) :Int)) 29) (bI (x.n) (0- ((length p.funs:Nat) :Int)) 29)|>.f hb10|>.t hb12 tv) (hk _ _ (by clear hk;exact qS) (by clear hk;exact qS))
  exact LeadsM.ends (T0|>.t hb9 sdI (bG (x.n) (0- ((length p.funs:Nat) :Int)) 29) (bI (x.n) (0- ((length p.funs:Nat) :Int)) 29)|>.f hb10|>.f hb12 tv) (hk _ _ (by clear hk;exact qS) (by clear hk;exact qS))
 replace T0:=T0.f hb9;cases hb13: (x.op== (24:Int))
 case true=>
  cases hb14: (x.op== (15:Int))
  case true=>
   cases hb15: (bG (x.n) 0 3)
   case true=>exact LeadsM.ends (T0|>.t hb13 (bG (x.n) 0 3) (bI (x.n) 0 3)|>.t hb14|>.t hb15 (bG ((length x.pats:Nat) :Int) 1 5) (bI ((length x.pats:Nat) :Int) 1 5) tv) (hk _ _ (by clear hk;exact qS) (by clear hk;exact qS))
   exact LeadsM.ends (T0|>.t hb13 (bG (x.n) 0 3) (bI (x.n) 0 3)|>.t hb14|>.f hb15 tv) (hk _ _ (by clear hk;exact qS) (by clear hk;exact qS))
  cases hb16: (bG (x.n) 0 3)
  case true=>exact LeadsM.ends (T0|>.t hb13 (bG (x.n) 0 3) (bI (x.n) 0 3)|>.f hb14|>.t hb16 tv) (hk _ _ (by clear hk;exact qS) (by clear hk;exact qS))
  exact LeadsM.ends (T0|>.t hb13 (bG (x.n) 0 3) (bI (x.n) 0 3)|>.f hb14|>.f hb16 tv) (hk _ _ (by clear hk;exact qS) (by clear hk;exact qS))
 replace T0:=T0.f hb13;cases hb17: (x.op== (14:Int))
 case true=>
  cases hb18: (bG (x.n) 0 (((length p.cons:Nat) :Int) - (1:Int)))
  case true=>
   obtain⟨y1,hx19⟩ :∃y,((p.cons)[x.n.toNat]?) =some y:=idT;cases hb20: (x.op== (15:Int))
   case true=>exact LeadsM.ends (T0|>.t hb17 sdI (bG (x.n) 0 (((length p.cons:Nat) :Int) - (1:Int))) (bI (x.n) 0 (((length p.cons:Nat) :Int) - (1:Int)))|>.t hb18 y1 sdI hx19|>.t hb20|>.t hb18 (bG ((length x.pats:Nat) :Int) 1 5) (bI ((length x.pats:Nat) :Int) 1 5) tv) (hk _ _ (by clear hk;exact qS) (by clear hk;exact qS))
   exact LeadsM.ends (T0|>.t hb17 sdI (bG (x.n) 0 (((length p.cons:Nat) :Int) - (1:Int))) (bI (x.n) 0 (((length p.cons:Nat) :Int) - (1:Int)))|>.t hb18 y1 sdI hx19|>.f hb20|>.t hb18 tv) (hk _ _ (by clear hk;exact qS) (by clear hk;exact qS))
  cases hb21: (x.op== (15:Int))
  case true=>exact LeadsM.ends (T0|>.t hb17 sdI (bG (x.n) 0 (((length p.cons:Nat) :Int) - (1:Int))) (bI (x.n) 0 (((length p.cons:Nat) :Int) - (1:Int)))|>.f hb18|>.t hb21|>.f hb18 tv) (hk _ _ (by clear hk;exact qS) (by clear hk;exact qS))
  exact LeadsM.ends (T0|>.t hb17 sdI (bG (x.n) 0 (((length p.cons:Nat) :Int) - (1:Int))) (bI (x.n) 0 (((length p.cons:Nat) :Int) - (1:Int)))|>.f hb18|>.f hb21|>.f hb18 tv) (hk _ _ (by clear hk;exact qS) (by clear hk;exact qS))
 replace T0:=T0.f hb17;cases hb22: (x.op== (15:Int))
 case true=>
  cases hb23: (x.n== (0:Int))
  case true=>exact LeadsM.ends (T0|>.t hb22|>.t hb23 (bG ((length x.pats:Nat) :Int) 1 5) (bI ((length x.pats:Nat) :Int) 1 5) tv) (hk _ _ (by clear hk;exact qS) (by clear hk;exact qS))
  exact LeadsM.ends (T0|>.t hb22|>.f hb23 tv) (hk _ _ (by clear hk;exact qS) (by clear hk;exact qS))
 cases hb24: (x.n== (0:Int))
 case true=>exact LeadsM.ends (T0|>.f hb22|>.t hb24 tv) (hk _ _ (by clear hk;exact qS) (by clear hk;exact qS))
 exact LeadsM.ends (T0|>.f hb22|>.f hb24 tv) (hk _ _ (by clear hk;exact qS) (by clear hk;exact qS))
theorem aCf (p:Prog)(x:Node)(hc:p.cons.length≤1000)(hl:x.pats.length≤10)(a:Int) :
  ∀ (t:List Pat) (i:Nat) (b:Bool),x.pats.drop i=t→Ends PP 0 (cG p x b a (i:Int)).as (.ret (.bool (b&&t.all (jY p.cons) &&decide ((x.kids.length:Int) =eG x.op x.pats.length a)))) (aG [] 0)
 | [],i,b,h=>by
  have:=aZ h;cases b
  case false=>exact Ends.eqv (aS6 p x false a i|>.f sd|>.2 rfl tv) (by simp)
  refine Ends.eqv (aS6 p x true a i|>.f sd|>.1 _ rfl (aOm x.op x.pats.length a (by omega) (by omega)) tv) ?_;simp only [all_nil,Bool.true_and,AV.bool.injEq];rfl
 | .mk f' n' s' ps'::t,i,b,h=>by
  obtain⟨g1,g2,g3⟩ :=aY h;cases b
  case false=>exact Ends.eqv (aS6 p x false a i|>.t sd|>.f rfl rfl tv) (by simp)
  have hw:=sY (.mk f' n' s' ps') 12 (by omega) (by omega);by_cases k:bA (.mk f' n' s' ps') ≤12
  · have hg:0≤mR (.mk f' n' s' ps') 12:= (uO (.mk f' n' s' ps') 12).2 (by omega);refine(aS6 p x true a i|>.t sd|>.t rfl|>.1 f' n' s' ps' _ _ sd sd hw (decide_eq_true hg) sd sd (aIo p.cons hc (.mk f' n' s' ps') (by omega)) sd tv).ends ?_;exact Ends.eqv (aCf p x hc hl a t (i+1) _ g2) (by simp [jY,k])
  · have hg:¬mR (.mk f' n' s' ps') 12≥0:=fun g=>k (by have:= (uO (.mk f' n' s' ps') 12).1 g;omega);refine(aS6 p x true a i|>.t sd|>.t rfl|>.2 f' n' s' ps' _ sd sd hw (decide_eq_false hg) sd tv).ends ?_;exact Ends.eqv (aCf p x hc hl a t (i+1) _ g2) (by simp [jY,k])
theorem aOn (p:Prog)(x:Node)(hc:p.cons.length≤1000)(hf:p.funs.length≤1000)(hl:x.pats.length≤10) :Pure PP 96 [Prog.av p,Node.av x] (.bool (cY p x)) :=by
 refine aP (by kernel_rfl) rfl rfl (aWG p x hc hf _ fun i a hi ha=>?_);subst hi ha;exact aCf p x hc hl _ x.pats 0 _ rfl
theorem aGw (l:List Con)(hl:l.length≤1000) :∀ (t:List Con) (i:Nat),l.drop i=t→Ends PP 0 (aDf l (i:Int) (bO (l.take i))).as (.ret (.bool (t.all jK&&decide (l.length≤20) &&cU (bO l)))) (aG [] 0)
 | [],i,h=>by
  have hi:=aZ h;have e:bO (l.take i) =bO l:=by rw [List.take_of_length_le hi]
  rw [e];by_cases k:l.length≤20
  ·exact Ends.eqv (aS7 l i _|>.f sd|>.t sd _ (mQ (bO l) (by simp [bO];omega)) tv) (by simp [k])
  ·exact Ends.eqv (aS7 l i _|>.f sd|>.f sd tv) (by simp [k])
 | c::t,i,h=>by
  obtain⟨g1,g2,g3⟩ :=aY h;have hg:=mB c.name;cases k1:cP c.name
  case false=>
   rw [k1]at hg;exact Ends.eqv (aS7 l i _|>.t sd c sd sd false hg|>.t rfl tv) (by simp [jK,k1])
  rw [k1]at hg;have hi:=bI c.args 0 3;cases k2:bG c.args 0 3
  case false=>
   rw [k2]at hi;exact Ends.eqv (aS7 l i _|>.t sd c sd sd true hg|>.f rfl sd sd false hi|>.t rfl tv) (by simp [jK,k1,k2])
  rw [k2]at hi;have e:bO (l.take i) ++ [c.name] =bO (l.take (i+1)) :=by
   rw [List.take_add_one,g1];simp [bO]
  refine(aS7 l i (bO (l.take i))|>.t sd c sd sd true hg|>.f rfl sd sd true hi|>.f rfl sd sd (by simp [bO];omega) sd ⟨kk,trivial⟩).ends ?_;rw [e];exact Ends.eqv (aGw l hl t (i+1) g2) (by simp [jK,k1,k2])
theorem aOo (l:List Con)(hl:l.length≤1000) :Pure PP 95 [.ilst 2 (map Con.av l) false] (.bool (aCe l)) :=
 aP (by kernel_rfl) rfl rfl ((aRt l).ends (aGw l hl l 0 rfl))
def marks (lo n:Int) :List Int→List Bool→Option (List Bool)
 | [],u=>some u
 |k::ks,u=>if bG k lo (n-1) =true∧u[k.toNat]?=some false then marks lo n ks (u.set k.toNat true)else none
theorem uP {lo n:Int}:∀ {ks:List Int} {u v:List Bool},marks lo n ks u=some v→v.length=u.length
 | [],u,v,h=>by simp only [marks,Option.some.injEq]at h;rw [h]
 | k::ks,u,v,h=>by
  simp only [marks]at h;split at h
  ·have:=uP h;simpa using this
  ·cases h
def eD (p:Prog) :Nat→List Node→List Bool→Option (List Bool)
 |_,[],u=>some u
 | i,x::t,u=>if cY p x=true then match marks ((i:Int) +1) (p.nodes.length:Int) x.kids u with
   |some v=>eD p (i+1) t v
   |none=>none
  else none
def allT :Option (List Bool) →Bool
 |some u=>u.all fun b=>b
 |none=>false
def fS (p:Prog) :Bool:=decide (p.nodes.length≤300) &&bG (p.funs.length:Int) 1 (p.nodes.length:Int) &&bG p.main 0 ((p.funs.length:Int) -1)
def bP (p:Prog) :Bool:=
 fS p&&aCe p.cons&& (match marks 0 (p.nodes.length:Int) p.funs (replicate p.nodes.length false)with
  |some u=>allT (eD p 0 p.nodes u)
  |none=>false)
theorem rF3 (p:Prog)(u:List Bool)(hn:p.nodes.length≤1000)(hu:u.length=p.nodes.length) :∀ (t:List Bool) (i:Nat),u.drop i=t→Ends PP 0 (xE p u (i:Int)).as (.ret (.bool (t.all fun b=>b))) (aG [] 0)
 | [],i,h=>by
  have:=aZ h;exact aZB p u i|>.f sd tv
 | b::t,i,h=>by
  obtain⟨g1,g2,g3⟩ :=aY h;cases b
  case false=>exact Ends.eqv (aZB p u i|>.t sd sd sd false sd|>.t rfl tv) (by simp)
  refine(aZB p u i|>.t sd sd sd true sd|>.f rfl sd ⟨kk,trivial⟩).ends ?_;exact Ends.eqv (rF3 p u hn hu t (i+1) g2) (by simp)
theorem bAu (p:Prog)(x:Node)(i:Nat)(hx:p.nodes[i]?=some x)(hn:p.nodes.length≤1000)(hk:x.kids.length≤1000)(K:List Bool→Bool)
  (hb:∀v:List Bool,v.length=p.nodes.length→Ends PP 0 (rF p v ((i:Int) +1)).as (.ret (.bool (K v))) (aG [] 0)) :
  ∀ (t:List Int) (k:Nat) (u:List Bool),u.length=p.nodes.length→x.kids.drop k=t→Ends PP 0 (xC p u (k:Int) (i:Int)).as (.ret (.bool (match marks ((i:Int) +1) p.nodes.length t u with|some v=>K v|none=>false))) (aG [] 0)
 | [],k,u,hu,h=>by
  have:=aZ h;have hi:= (List.getElem?_eq_some_iff.1 hx).1;refine(aWF p u k i x sd sd|>.f sd sd ⟨kk,trivial⟩).ends ?_;exact hb u hu
 | y::t,k,u,hu,h=>by
  obtain⟨g1,g2,g3⟩ :=aY h;have hi:= (List.getElem?_eq_some_iff.1 hx).1;have hin:=bI y ((i:Int) +1) ((p.nodes.length:Int) -1);cases k1:bG y ((i:Int) +1) ((p.nodes.length:Int) -1)
  case false=>
   rw [k1]at hin;exact Ends.eqv (aWF p u k i x sd sd|>.t sd sd sd y sd sd sd sd false hin|>.t rfl tv) (by simp [marks,k1])
  rw [k1]at hin;have hy:=inB_iff.1 k1;obtain⟨z,hz⟩ :∃z,u[y.toNat]?=some z:= ⟨_,List.getElem?_eq_getElem (by omega)⟩;cases z
  case true=>exact Ends.eqv (aWF p u k i x sd sd|>.t sd sd sd y sd sd sd sd true hin|>.f rfl (by omega) (by omega) true hz|>.t rfl tv) (by simp [marks,hz])
  refine(aWF p u k i x sd sd|>.t sd sd sd y sd sd sd sd true hin|>.f rfl (by omega) (by omega) false hz|>.f rfl (by omega) (by omega) hz sd ⟨kk,trivial⟩).ends ?_;exact Ends.eqv (bAu p x i hx hn hk K hb t (k+1) (u.set y.toNat true) (by simpa using hu) g2) (by simp [marks,k1,hz])
theorem rF1 (p:Prog)(hp:aW p=true)(hn:p.nodes.length≤1000)(hc:p.cons.length≤1000)(hf:p.funs.length≤1000) :∀ (t:List Node) (i:Nat) (u:List Bool),u.length=p.nodes.length→p.nodes.drop i=t →
  Ends PP 0 (rF p u (i:Int)).as (.ret (.bool (allT (eD p i t u)))) (aG [] 0)
 | [],i,u,hu,h=>by
  have:=aZ h;refine(aZA p u i|>.f sd ⟨kk,trivial⟩).ends ?_;exact rF3 p u hn hu u 0 rfl
 | x::t,i,u,hu,h=>by
  obtain⟨g1,g2,g3⟩ :=aY h;have hx:cE x=true:=by
   simp only [aW,Bool.and_eq_true]at hp;exact List.all_eq_true.1 hp.2 x (mem_of_getElem? g1)
  simp only [cE,Bool.and_eq_true,decide_eq_true_eq]at hx;have ho:=aOn p x hc hf hx.1.2;cases k:cY p x
  case false=>
   rw [k]at ho;exact Ends.eqv (aZA p u i|>.t sd x false sd sd ho|>.t rfl tv) (by simp [eD,k,allT])
  rw [k]at ho;refine(aZA p u i|>.t sd x true sd sd ho|>.f rfl ⟨kk,trivial⟩).ends ?_;refine Ends.eqv (bAu p x i g1 hn (by omega) (fun v=>allT (eD p (i+1) t v)) (fun v hv=>rF1 p hp hn hc hf t (i+1) v hv g2) x.kids 0 u hu rfl) ?_;simp only [eD,k,if_true];cases marks ((i:Int) +1) (p.nodes.length:Int) x.kids u<;>rfl
theorem rF0 (p:Prog)(hp:aW p=true)(hn:p.nodes.length≤1000)(hc:p.cons.length≤1000)(hf:p.funs.length≤1000) :∀ (t:List Int) (i:Nat) (u:List Bool),u.length=p.nodes.length→p.funs.drop i=t →
  Ends PP 0 (xB p (i:Int) u).as (.ret (.bool (match marks 0 p.nodes.length t u with|some v=>allT (eD p 0 p.nodes v) |none=>false))) (aG [] 0)
 | [],i,u,hu,h=>by
  have:=aZ h;refine(aWE p i u|>.f sd ⟨kk,trivial⟩).ends ?_;exact rF1 p hp hn hc hf p.nodes 0 u hu rfl
 | y::t,i,u,hu,h=>by
  obtain⟨g1,g2,g3⟩ :=aY h;have hin:=bI y 0 ((p.nodes.length:Int) -1);cases k1:bG y 0 ((p.nodes.length:Int) -1)
  case false=>
   rw [k1]at hin;exact Ends.eqv (aWE p i u|>.t sd y sd sd sd false hin|>.t rfl tv) (by simp [marks,k1])
  rw [k1]at hin;have hy:=inB_iff.1 k1;obtain⟨z,hz⟩ :∃z,u[y.toNat]?=some z:= ⟨_,List.getElem?_eq_getElem (by omega)⟩;cases z
  case true=>exact Ends.eqv (aWE p i u|>.t sd y sd sd sd true hin|>.f rfl sd sd (by omega) (by omega) true hz|>.t rfl tv) (by simp [marks,hz])
  refine(aWE p i u|>.t sd y sd sd sd true hin|>.f rfl sd sd (by omega) (by omega) false hz|>.f rfl sd sd (by omega) (by omega) hz sd ⟨kk,trivial⟩).ends ?_;exact Ends.eqv (rF0 p hp hn hc hf t (i+1) (u.set y.toNat true) (by simpa using hu) g2) (by simp [marks,k1,hz])
theorem aDg (p:Prog)(hp:aW p=true) :Pure PP 22 [Prog.av p] (.bool (bP p)) :=by
 refine aP (by kernel_rfl) rfl rfl ?_;have hs:=hp;simp only [aW,Bool.and_eq_true,decide_eq_true_eq]at hs;obtain⟨⟨⟨⟨s1,s2⟩,s3⟩,_⟩,_⟩ :=hs;by_cases k0:p.nodes.length≤300
 · have hi1:=bI (p.funs.length:Int) 1 (p.nodes.length:Int);cases k1:bG (p.funs.length:Int) 1 (p.nodes.length:Int)
   case false=>
    rw [k1]at hi1;exact Ends.eqv (aS8 p|>.f sd false hi1|>.t rfl tv) (by simp [bP,fS,k1])
   rw [k1]at hi1;have hi2:=bI p.main 0 ((p.funs.length:Int) -1);cases k2:bG p.main 0 ((p.funs.length:Int) -1)
   case false=>
    rw [k2]at hi2;exact Ends.eqv (aS8 p|>.f sd true hi1|>.f rfl sd false hi2|>.t rfl tv) (by simp [bP,fS,k2])
   rw [k2]at hi2;have hco:=aOo p.cons (by omega);cases k3:aCe p.cons
   case false=>
    rw [k3]at hco;exact Ends.eqv (aS8 p|>.f sd true hi1|>.f rfl sd true hi2|>.f rfl false hco|>.t rfl tv) (by simp [bP,k3])
   rw [k3]at hco;refine(aS8 p|>.f sd true hi1|>.f rfl sd true hi2|>.f rfl true hco|>.f rfl (by omega) ⟨kk,trivial⟩).ends ?_;refine Ends.eqv (rF0 p hp (by omega) (by omega) (by omega) p.funs 0 _ (by simp) rfl) ?_;have e:fS p=true:=by simp [fS,k0,k1,k2]
   simp only [bP,e,k3,Bool.true_and]
 ·exact Ends.eqv (aS8 p|>.t sd tv) (by simp [bP,fS,k0])
def checkN (b:Bool) :Int:=if b=true then 0 else 2
def aAV(a:aA)(b:Nat):TS:=⟨tf 161 16 [(2,bV false),kp 6 0] [kc f161 52,kl f161 52,.inBlock 0,kc f161 7],[],[(0,.siter a.length (aC a) b,false)],1⟩
def aDh(e f:Int)(g:aA)(a:List Pat)(b c d:Int):TS:=⟨tf 257 27 [(1,nI b),(4,nI 0),(5,nI c),(9,iP a),(10,nI (a.length:Int)),(11,nI d)] [kc f257 116,kl f257 116,.inBlock 0,kc f257 15],[],[],0⟩
def bAv(a b c:Int):=tT 0 (start PP 222 [nI a,nI b,nI c])<|gd 10 10 (a≥b) (gE 7 0 (bV (decide (a≤c))))<|gE 7 0 (bV false)
def aS9 (b:Int):=fun a c=>(tT 0 (start PP 275 [nI b])<|cD 7 222 [nI b,nI (-1000000000),nI 1000000000]<|fun a=>gE 3 0 (bV a)) a c tv
def aOp (a:aA):=(tT 0 (start PP 161 [aD a])<|.W 12 1 [0] (aAV a 0)) tv
def aWH(a:aA)(b:Nat):=tT 0 (aAV a b)<|.o (.y fun c:Nat=>.y fun d:Nat=>.i [rn 2,.nxt c d] [hA (b<a.length),hA (aNR a.length (aC a) b=some (c,d))]<|gd 16 12 (((c:Nat) :Int) <97) (gE 10 1 (bV false))<|gd 4 15 (((c:Nat) :Int) >122) (gE 6 1 (bV false))<|.W 4 1 [0] (aAV a (Nat.add b d)))<|.i [rn 2,.nxtE] [hA (a.length≤b)]<|gE 10 1 (bV true)
def aTa(a:aA):=tT 0 (start PP 171 [aD a])<|.b 9 5 (!(bB a.length (aC a) 0 0)) (gd 5 10 ((a.length:Int) ≤8) (.y fun b:UInt8=>.i [rn 1,.ans (.ev (.int .u8 ((b.toNat:Nat) :Int)))] [.q (p:=0≤ (0:Int)) (by decide),.a ((a)[0]?=some b) (p':=(0:Int) < (a.length:Int)) (fun h=>(aEc (k:= (0:Int)) (by decide) h)),.a ((a)[0]?=some b) (p':=int .u8 ((mod (div (aC a) (pow 256 (0:Int).toNat)) 256:Nat) :Int) = (.int .u8 ((b.toNat:Nat) :Int))) (fun h=>(aEd (k:= (0:Int)) h))]<|gd 3 15 (((b.toNat:Nat) :Int) ≥65) (.i [rn 1,.ans (.ev (.int .u8 ((b.toNat:Nat) :Int)))] [.q (p:=0≤ (0:Int)) (by decide),.a ((a)[0]?=some b) (p':=(0:Int) < (a.length:Int)) (fun h=>(aEc (k:= (0:Int)) (by decide) h)),.a ((a)[0]?=some b) (p':=int .u8 ((mod (div (aC a) (pow 256 (0:Int).toNat)) 256:Nat) :Int) = (.int .u8 ((b.toNat:Nat) :Int))) (fun h=>(aEd (k:= (0:Int)) h))]<|gd 3 20 (((b.toNat:Nat) :Int) ≤90) (.i [rn 1,.ans (.ev (aD (drop 1 a)))] [.a (1≤length a) (p':=aL1 PP 9 (aD a) (some (nI 1)) none (aD (drop 1 a))) (fun h=>(aEN (k:= (1:Int)) (by kernel_rfl) (by decide) h))]<|cD 0 161 [aD (drop 1 a)]<|fun c=>gE 4 0 (bV c))<|gE 7 0 (bV false))<|gE 12 0 (bV false))<|gE 17 0 (bV false))<|gE 22 0 (bV false)
def bAw(a:Con):=tT 0 (start PP 224 [.agg [aD a.name,nI a.args]])<|cD 9 171 [aD a.name]<|fun b=>.b 1 6 b (cD 2 222 [nI a.args,nI 0,nI 3]<|fun c=>gE 4 1 (bV c))<|gE 7 1 (bV false)
def aRu(c:Prog)(a:Node):=tT 0 (start PP 259 [Prog.av c,Node.av a])<|.b 18 7 (a.op==1) (cD 5 275 [nI a.n]<|fun b=>gE 3 2 (bV b))<|.b 6 12 (a.op==2) (cD 5 222 [nI a.n,nI 0,nI 1]<|fun b=>gE 3 2 (bV b))<|.b 6 17 (a.op==24) (cD 5 222 [nI a.n,nI 0,nI 3]<|fun b=>gE 3 2 (bV b))<|.b 6 22 (a.op==4) (gl 8 bM c.funs<|gw 1 30 (0- (c.funs.length:Int))<|cD 0 222 [nI a.n,nI (0- (c.funs.length:Int)),nI 29]<|fun b=>gE 3 2 (bV b))<|.b 6 32 (a.op==14) (gE 6 2 (bV true))<|gE 11 2 (bV (a.n==0))
def aRv (b c:Int)(d:aA)(a:List Pat)(e:Int):=(tT 0 (start PP 257 [.agg [nI b,nI c,aD d,iP a],nI e])<|gm 14 aF a<|.W 4 1 [] (aDh b c d a e 1 0)) tv
def aZC(e f:Int)(g:aA)(d:List Pat)(b a c:Int):=tT 0 (aDh e f g d b a c)<|gd 5 12 (c< (d.length:Int)) (wY 6 d c<|fun j k l m=>gd 11 17 (a>b) (gE 8 1 (nI a))<|gw 8 22 (b-a)<|gpI 0 257 [.agg [nI j,nI k,aD l,iP m],nI (b-a)]<|fun i=>gw 1 24 (a+i)<|gw 5 25 (c+1)<|.W 3 1 [] (aDh e f g d b (a+i) (c+1)))<|gE 8 0 (nI a)
def bCI(d:Prog)(e c:Int)(f:aA)(a:List Pat):=tT 0 (start PP 258 [Prog.av d,.agg [nI e,nI c,aD f,iP a]])<|.b 13 8 (!(bB f.length (aC f) 0 0)) (gE 14 2 (bV false))<|cD 4 260 [iP a,.func 258 [Prog.av d] []]<|fun i=>.b 3 15 (!i) (gE 6 2 (bV false))<|.b 15 18 (e==1) (.b 9 25 (c==0) (gm 2 aF a<|gE 5 2 (bV ((a.length:Int) ==0)))<|gE 8 2 (bV false))<|.b 6 18 (e==2) (.b 9 25 (c==0) (gm 2 aF a<|gE 5 2 (bV ((a.length:Int) ==0)))<|gE 8 2 (bV false))<|.b 5 18 (e==5) (.b 7 25 (c==0) (gm 2 aF a<|gE 5 2 (bV ((a.length:Int) ==0)))<|gE 8 2 (bV false))<|.b 6 31 (e==3) (cD 5 275 [nI c]<|fun b=>.b 1 36 b (gm 2 aF a<|gE 5 2 (bV ((a.length:Int) ==0)))<|gE 8 2 (bV false))<|.b 6 42 (e==4) (cD 5 222 [nI c,nI 0,nI 1]<|fun b=>.b 1 47 b (gm 2 aF a<|gE 5 2 (bV ((a.length:Int) ==0)))<|gE 8 2 (bV false))<|.b 6 53 (e==6) (.o (.y fun b:Bool=>.y fun g:Con=>.i [rn 2,.reg (rd 5 (.ans (.len (d.cons.length:Int))::.d::.pure (bV b)::.d::.b 63 true::.d::.d::.ans (.len (a.length:Int))::rd 5 (.ans (.idx (Con.av g))::rd 5 [])))] [hl Con.av d.cons,hA (Pure PP 222 [nI c,nI 0,nI (IntKind.i64.wrap ((d.cons.length:Int) -1))] (bV b)),hA (b=true),hm aF a,hA (0≤c),.a (((d.cons)[c.toNat]?) =some g) (fF (f:=Con.av))]<|gE 1 2 (bV ((a.length:Int) ==g.args)))<|.y fun b:Bool=>.i [rn 2,.reg (rd 5 (.ans (.len (d.cons.length:Int))::.d::.pure (bV b)::.d::.b 63 false::rd 14 []))] [hl Con.av d.cons,hA (Pure PP 222 [nI c,nI 0,nI (IntKind.i64.wrap ((d.cons.length:Int) -1))] (bV b)),hA (b=false)]<|gE 1 2 (bV false))<|gE 8 2 (bV false)
def bCJ(a:Int):=tT 0 (start PP 255 [nI a])<|.b 16 4 (a==1) (gE 9 0 (.iface 322 (nI 0)))<|.b 6 4 (a==2) (gE 9 0 (.iface 322 (nI 0)))<|.b 6 4 (a==3) (gE 9 0 (.iface 322 (nI 0)))<|.b 6 4 (a==4) (gE 9 0 (.iface 322 (nI 0)))<|.b 6 4 (a==21) (gE 9 0 (.iface 322 (nI 0)))<|.b 6 4 (a==25) (gE 9 0 (.iface 322 (nI 0)))<|.b 5 4 (a==28) (gE 7 0 (.iface 322 (nI 0)))<|.b 7 13 (a==5) (gE 9 0 (.iface 322 (nI 1)))<|.b 6 13 (a==27) (gE 9 0 (.iface 322 (nI 1)))<|.b 6 13 (a==16) (gE 9 0 (.iface 322 (nI 1)))<|.b 6 13 (a==17) (gE 9 0 (.iface 322 (nI 1)))<|.b 6 13 (a==19) (gE 9 0 (.iface 322 (nI 1)))<|.b 6 13 (a==20) (gE 9 0 (.iface 322 (nI 1)))<|.b 6 13 (a==23) (gE 9 0 (.iface 322 (nI 1)))<|.b 6 13 (a==24) (gE 9 0 (.iface 322 (nI 1)))<|.b 5 13 (a==26) (gE 7 0 (.iface 322 (nI 1)))<|.b 7 24 (a==6) (gE 9 0 (.iface 322 (nI 2)))<|.b 6 24 (a==7) (gE 9 0 (.iface 322 (nI 2)))<|.b 6 24 (a==9) (gE 9 0 (.iface 322 (nI 2)))<|.b 6 24 (a==10) (gE 9 0 (.iface 322 (nI 2)))<|.b 6 24 (a==11) (gE 9 0 (.iface 322 (nI 2)))<|.b 6 24 (a==12) (gE 9 0 (.iface 322 (nI 2)))<|.b 6 24 (a==13) (gE 9 0 (.iface 322 (nI 2)))<|.b 6 24 (a==18) (gE 9 0 (.iface 322 (nI 2)))<|.b 5 24 (a==22) (gE 7 0 (.iface 322 (nI 2)))<|.b 6 35 (a==8) (gE 7 0 (.iface 322 (nI 3)))<|.b 6 38 (a==14) (gE 8 0 (.iface 323 (.agg [])))<|.b 6 42 (a==15) (gE 8 0 (.iface 305 (.agg [])))<|gE 8 0 .nili
def aFv(a:List Pat)(b:Prog)(c:Int):TS:=⟨tf 291 19 [(0,iP a),(1,.func 277 [] [.ptr 0 0]),(4,nI 0),(7,nI (a.length:Int)),(8,nI c)] [kc f291 52,kl f291 52,.inBlock 0,kc f291 7],[tf 276 9 [(4,bV false),(5,iP a),(6,.func 277 [] [.ptr 0 0])] [ko f276 6 2,kc f276 7],tf 260 9 [(4,bV false),(5,iP a),(6,.func 277 [] [.ptr 0 0])] [ko f260 6 2,kc f260 7]],[oC 0 [.func 258 [Prog.av b] []]],1⟩
def uQ(b:Prog)(a:Node)(c:Int):TS:=⟨tf 291 19 [(0,iP a.pats),(1,.func 277 [] [.ptr 0 0]),(4,nI 0),(7,nI (a.pats.length:Int)),(8,nI c)] [kc f291 52,kl f291 52,.inBlock 0,kc f291 7],[tf 276 9 [(4,bV false),(5,iP a.pats),(6,.func 277 [] [.ptr 0 0])] [ko f276 6 2,kc f276 7],tf 260 9 [(4,bV false),(5,iP a.pats),(6,.func 277 [] [.ptr 0 0])] [ko f260 6 2,kc f260 7],tf 229 35 [(4,bV false),(29,bV true),(31,iP a.pats),(32,.func 256 [] [.ptr 1 0])] [ko f229 62 13,kc f229 63]],[oC 0 [.func 256 [] [.ptr 1 0]],oC 1 [iN b.nodes,iI b.funs,nI b.main,iC b.cons]],2⟩
def xF(a:List aA)(c:Int)(b:List (aA×Bool)):TS:=⟨tf 225 21 [(0,iS a),(2,bV false),(3,.map 0),(7,iS a),(8,nI (a.length:Int)),(9,nI c)] [kc f225 116,kl f225 116,.inBlock 0,kc f225 15],[],[(0,.map (aK aD kP 0 b) b.length,true)],1⟩
def aTb (a:List Pat)(b:Prog):=(tT 0 (start PP 260 [iP a,.func 258 [Prog.av b] []])<|gm 27 aF a<|.W 4 1 [0] (aFv a b 0)) tv
def aZD(b:List Pat)(c:Prog)(a:Int):=tT 0 (aFv b c a)<|gd 5 9 (a< (b.length:Int)) (wY 14 b a<|fun d e f g=>cD 11 258 [Prog.av c,.agg [nI d,nI e,aD f,iP g]]<|fun i=>.b 6 16 (!i) (gE 17 2 (bV (!(decide (a≥0)))))<|gw 5 18 (a+1)<|.W 3 2 [0] (aFv b c (a+1)))<|gE 17 1 (bV true)
def aEf(b:Prog)(a:Node):=tT 0 (start PP 229 [Prog.av b,Node.av a])<|.o (gp 10 255 [nI a.op] (.iface 305 (.agg []))<|gm 44 aF a.pats<|cD 0 222 [nI (a.pats.length:Int),nI 1,nI 5]<|fun c=>.b 1 11 c (gl 2 bM a.kids<|gm 2 aF a.pats<|gw 1 18 (1+ (a.pats.length:Int))<|.b 7 24 ((a.kids.length:Int) == (1+ (a.pats.length:Int))) (cD 2 259 [Prog.av b,Node.av a]<|fun d=>.b 2 29 d (gm 31 aF a.pats<|.W 4 6 [5,0] (uQ b a 0))<|gE 8 5 (bV false))<|gE 13 5 (bV false))<|gE 27 5 (bV false))<|.o (gp 10 255 [nI a.op] (.iface 323 (.agg []))<|gm 24 aF a.pats<|gd 2 14 ((a.pats.length:Int) >0) (gE 6 2 (bV false))<|.o (.y fun c:Bool=>.y fun d:Con=>.i [rn 22,.reg (rd 5 (.ans (.len (b.cons.length:Int))::.d::.pure (bV c)::.d::.b 15 true::.d::.d::.ans (.len (a.kids.length:Int))::rd 5 (.ans (.idx (Con.av d))::rd 5 [])))] [hl Con.av b.cons,hA (Pure PP 222 [nI a.n,nI 0,nI (IntKind.i64.wrap ((b.cons.length:Int) -1))] (bV c)),hA (c=true),hl bM a.kids,hA (0≤a.n),.a (((b.cons)[a.n.toNat]?) =some d) (fF (f:=Con.av))]<|.b 3 24 ((a.kids.length:Int) ==d.args) (cD 2 259 [Prog.av b,Node.av a]<|fun f=>.b 2 29 f (gm 31 aF a.pats<|.W 4 6 [5,0] (uQ b a 0)) .x)<|gE 13 5 (bV false))<|.y fun c:Bool=>.i [rn 22,.reg (rd 5 (.ans (.len (b.cons.length:Int))::.d::.pure (bV c)::.d::.b 15 false::rd 14 []))] [hl Con.av b.cons,hA (Pure PP 222 [nI a.n,nI 0,nI (IntKind.i64.wrap ((b.cons.length:Int) -1))] (bV c)),hA (c=false)]<|gE 16 5 (bV false))<|.o (.y fun e:Int=>gp 10 255 [nI a.op] (.iface 322 (nI e))<|gm 24 aF a.pats<|gd 2 14 ((a.pats.length:Int) >0) (gE 6 2 (bV false))<|gl 24 bM a.kids<|.b 7 24 ((a.kids.length:Int) ==e) (cD 2 259 [Prog.av b,Node.av a]<|fun d=>.b 2 29 d (gm 31 aF a.pats<|.W 4 5 [4,0] (uQ b a 0))<|gE 8 4 (bV false))<|gE 13 4 (bV false))<|gp 10 255 [nI a.op] (.nili)<|gE 18 2 (bV false)
def aWI(c:Prog)(b:Node)(a:Int):=tT 0 (uQ c b a)<|gd 5 9 (a< (b.pats.length:Int)) (wY 14 b.pats a<|fun d e f g=>gpI 20 257 [.agg [nI d,nI e,aD f,iP g],nI 12]<|fun i=>gd 2 7 (i≤12) (cD 2 258 [Prog.av c,.agg [nI d,nI e,aD f,iP g]]<|fun j=>.b 11 16 (!j) (gE 22 4 (bV (!(decide (a≥0)))))<|gw 5 18 (a+1)<|.W 3 4 [0,1] (uQ c b (a+1)))<|gE 36 4 (bV (!(decide (a≥0)))))<|gE 22 2 (bV true)
def aMd (a:List aA):=(tT 0 (start PP 225 [iS a])<|.i [rn 7,.mset 0 (aK aD kP 0 ([] :List (aA×Bool))) ([] :List (aA×Bool)).length] [hr (aK aD kP 0 ([] :List (aA×Bool))),hr (length ([] :List (aA×Bool)))]<|gl 6 aD a<|.W 4 1 [0] (xF a 0 ([] :List (aA×Bool)))) ⟨aH (fun _=>rfl) (fun _=>rfl) _ _ _,trivial⟩
def bAx(b:List aA)(d:Int)(a:List (aA×Bool)):=tT 0 (xF b d a)<|gd 5 10 (d< (b.length:Int)) (gX aD 6 b d<|fun c=>.i [rn 6,.mput (aK aD kP 0 (bS c true a)) (bS c true a).length] [.q (p:=iU (aK aD kP 0 a) a.length (aD c) (kP true) =some (aK aD kP 0 (bS c true a),length (bS c true a))) (wU iO _ _ _)]<|gw 4 15 (d+1)<|.W 3 1 [0] (xF b (d+1) (bS c true a)))<|.i [rn 6,sI 17 (a.length:Int)] [.q (p:=(nI ((aK aD kP 0 a).length:Int)) = (nI (a.length:Int))) (aGs _ _ _)]<|gl 1 aD b<|gE 4 1 (bV ((a.length:Int) == (b.length:Int)))
def aFw(a:List Node)(b:Prog)(c:Int):TS:=⟨tf 146 19 [(0,iN a),(1,.func 254 [] [.ptr 0 0]),(4,nI 0),(7,nI (a.length:Int)),(8,nI c)] [kc f146 52,kl f146 52,.inBlock 0,kc f146 7],[tf 83 9 [(4,bV false),(5,iN a),(6,.func 254 [] [.ptr 0 0])] [ko f83 6 2,kc f83 7],tf 228 9 [(4,bV false),(5,iN a),(6,.func 254 [] [.ptr 0 0])] [ko f228 6 2,kc f228 7]],[oC 0 [.func 229 [Prog.av b] []]],1⟩
def aFx(a:List Con)(b:Int):TS:=⟨tf 180 19 [(0,iC a),(1,.func 253 [] [.ptr 0 0]),(4,nI 0),(7,nI (a.length:Int)),(8,nI b)] [kc f180 52,kl f180 52,.inBlock 0,kc f180 7],[tf 252 9 [(4,bV false),(5,iC a),(6,.func 253 [] [.ptr 0 0])] [ko f252 6 2,kc f252 7],tf 223 9 [(4,bV false),(5,iC a),(6,.func 253 [] [.ptr 0 0])] [ko f223 6 2,kc f223 7]],[oC 0 [.func 224 [] []]],1⟩
def aFy(a:List Int)(b:Int):TS:=⟨tf 278 19 [(0,.ilst 1 (jI a) true),(1,.func 262 [] [.ptr 0 0]),(4,nI 0),(7,nI (a.length:Int)),(8,nI b)] [kc f278 52,kl f278 52,.inBlock 0,kc f278 7],[tf 261 9 [(4,bV false),(5,.ilst 1 (jI a) true),(6,.func 262 [] [.ptr 0 0])] [ko f261 6 2,kc f261 7],tf 230 9 [(4,bV false),(5,.ilst 1 (jI a) true),(6,.func 262 [] [.ptr 0 0])] [ko f230 6 2,kc f230 7]],[oC 0 [.func 231 [] []]],1⟩
def aFz(a:List Con)(c:Int)(b:List aA):TS:=⟨tf 226 22 [(1,.func 227 [] []),(4,.nils),(5,.gl 0 1 0 b.length false),(8,iC a),(9,nI (a.length:Int)),(10,nI c)] [kc f226 116,kl f226 116,.inBlock 0,kc f226 15],[],[oL 0 1 (map aD b)],1⟩
def xG(a:Prog)(c:Int)(b:List Int):TS:=⟨tf 190 128 [kp 1 0,(2,bV false),(3,nI (a.nodes.length:Int)),(4,.gl 1 1 0 b.length true),(77,iI a.funs),(78,nI (a.funs.length:Int)),(79,nI c)] [kc f190 1012,kl f190 1012,.inBlock 0,kc f190 127],[],[oC 0 [iN a.nodes,iI a.funs,nI a.main,iC a.cons],oL 1 1 (jI b)],2⟩
def rG(a:Prog)(b:List Int)(c:Int):TS:=⟨tf 190 128 [(2,bV false),(3,nI (a.nodes.length:Int)),(4,.gl 0 1 0 b.length true),(97,iN a.nodes),(98,nI (a.nodes.length:Int)),(99,nI c)] [kc f190 2036,kl f190 2036,.inBlock 2,kc f190 255],[],[oL 0 1 (jI b)],1⟩
def xH(a:Prog)(c:List Int)(d:Int)(b:List Int)(e f g:Int):TS:=⟨tf 190 128 [(2,bV false),(3,nI (a.nodes.length:Int)),(4,.gl 0 1 0 b.length true),(7,nI f),(97,iN a.nodes),(98,nI (a.nodes.length:Int)),(99,nI g),(105,iI c),(106,nI d),(107,nI e)] [kc f190 521420,kl f190 521420,.inBlock 4,.inBlock 3,kc f190 16295,kl f190 2036,.inBlock 2,kc f190 255],[],[oL 0 1 (jI b)],1⟩
def aTc (a:List Node)(b:Prog):=(tT 0 (start PP 228 [iN a,.func 229 [Prog.av b] []])<|gl 27 Node.av a<|.W 4 1 [0] (aFw a b 0)) tv
def aZE(b:List Node)(c:Prog)(a:Int):=tT 0 (aFw b c a)<|gd 5 9 (a< (b.length:Int)) (gX Node.av 14 b a<|fun d=>cD 11 229 [Prog.av c,Node.av d]<|fun e=>.b 6 16 (!e) (gE 17 2 (bV (!(decide (a≥0)))))<|gw 5 18 (a+1)<|.W 3 2 [0] (aFw b c (a+1)))<|gE 17 1 (bV true)
def aTd (a:List Con):=(tT 0 (start PP 223 [iC a,.func 224 [] []])<|gl 27 Con.av a<|.W 4 1 [0] (aFx a 0)) tv
def aZF(b:List Con)(a:Int):=tT 0 (aFx b a)<|gd 5 9 (a< (b.length:Int)) (gX Con.av 14 b a<|fun c=>cD 11 224 [.agg [aD c.name,nI c.args]]<|fun d=>.b 6 16 (!d) (gE 17 2 (bV (!(decide (a≥0)))))<|gw 5 18 (a+1)<|.W 3 2 [0] (aFx b (a+1)))<|gE 17 1 (bV true)
def aTe (a:List Int):=(tT 0 (start PP 230 [.ilst 1 (jI a) true,.func 231 [] []])<|gl 27 bM a<|.W 4 1 [0] (aFy a 0)) tv
def aZG(b:List Int)(a:Int):=tT 0 (aFy b a)<|gd 5 9 (a< (b.length:Int)) (gX bM 14 b a<|fun c=>.b 29 16 (!(c==1)) (gE 17 1 (bV (!(decide (a≥0)))))<|gw 5 18 (a+1)<|.W 3 1 [0] (aFy b (a+1)))<|gE 17 1 (bV true)
def aTf (a:List Con):=(tT 0 (start PP 226 [iC a,.func 227 [] []])<|gl 12 Con.av a<|.i [rn 4,.nilL 5 1] []<|gu 0 0 (map aD ([] :List aA))<|gs 0 5 (.gl 0 1 0 ([] :List aA).length false)<|.W 0 1 [0] (aFz a 0 ([] :List aA))) ⟨kk,trivial⟩
def bAy(c:List Con)(a:Int)(b:List aA):=tT 0 (aFz c a b)<|gd 5 11 (a< (c.length:Int)) (gX Con.av 6 c a<|fun d=>ga 23 aD b [d.name]<|gw 5 20 (a+1)<|.W 3 5 [4] (aFz c (a+1) (b++ [d.name])))<|gz 8 4 0 1 aD b false<|gE 0 1 (iS b)
def aJ2(a:Prog):=tT 0 (start PP 190 [Prog.av a])<|gl 10 Node.av a.nodes<|gd 8 17 ((a.nodes.length:Int) >300) (gE 40 1 (bV false))<|gl 3 bM a.funs<|gd 3 24 ((a.funs.length:Int) <1) (gE 33 1 (bV false))<|gl 3 bM a.funs<|gd 4 32 ((a.funs.length:Int) > (a.nodes.length:Int)) (gE 25 1 (bV false))<|gl 3 Con.av a.cons<|gd 3 39 ((a.cons.length:Int) >20) (gE 18 1 (bV false))<|gl 6 bM a.funs<|gw 1 47 ((a.funs.length:Int) - (1:Int))<|cD 0 222 [nI a.main,nI 0,nI ((a.funs.length:Int) - (1:Int))]<|fun c=>.b 3 50 (!c) (gE 6 1 (bV false))<|cD 8 223 [iC a.cons,.func 224 [] []]<|fun d=>.b 2 56 (!d) (gE 23 1 (bV false))<|.y fun b:List aA=>gp 3 226 [iC a.cons,.func 227 [] []] (iS b)<|cD 0 225 [iS b]<|fun e=>.b 3 64 (!e) (gE 15 1 (bV false))<|cD 5 228 [iN a.nodes,.func 229 [Prog.av a] []]<|fun f=>.b 3 72 (!f) (gE 6 1 (bV false))<|.i [rn 5,.mk a.nodes.length] [hr ((a.nodes.length:Nat) :Int),hr ((a.nodes.length:Nat) :Int),hA (a.nodes.length<100000)]<|.i [.lset 1 (jI (replicate a.nodes.length (0:Int)))] [.q (p:=replicate a.nodes.length (bM (0:Int)) = (jI (replicate a.nodes.length (0:Int)))) (aPB _ _ _)]<|.i [.set 74 (.gl 1 1 0 (replicate a.nodes.length (0:Int)).length true)] [.q (p:=(AV.gl 1 1 0 a.nodes.length true) = (.gl 1 1 0 (replicate a.nodes.length (0:Int)).length true)) (dH (List.length_replicate ..).symm)]<|gl 8 bM a.funs<|.W 4 2 [0,1] (xG a 0 (replicate a.nodes.length (0:Int)))
def aMe:=fun a b=>aJ2 a|>.t b tv
def aMf:=fun a b c=>aJ2 a|>.f b|>.t c tv
def aMg:=fun a b c d=>aJ2 a|>.f b|>.f c|>.t d tv
def aMh:=fun a b c d e=>aJ2 a|>.f b|>.f c|>.f d|>.t e tv
def aMi:=fun a b c d e f g i j=>aJ2 a|>.f c|>.f d|>.f e|>.f f g b i|>.t j tv
def aMj:=fun a b c d e f g i j k l m=>aJ2 a|>.f d|>.f e|>.f f|>.f g i b j|>.f k c l|>.t m tv
def aMk:=fun a b c d e f g i j k l m n o p q r=>aJ2 a|>.f f|>.f g|>.f i|>.f j k b l|>.f m c n|>.f o d p e q|>.t r tv
def aMl:=fun a b c d e f g i j k l m n o p q r s t u=>aJ2 a|>.f g|>.f i|>.f j|>.f k l b m|>.f n c o|>.f p d q e r|>.f s f t|>.t u tv
def aMm:=fun a b c d e f g i j k l m n o p q r s t u v=>aJ2 a|>.f g|>.f i|>.f j|>.f k l b m|>.f n c o|>.f p d q e r|>.f s f t|>.f u v ⟨kk,trivial⟩
def aZH(d:Prog)(e:Int)(a:List Int):=tT 0 (xG d e a)<|gd 5 80 (e< (d.funs.length:Int)) (gX bM 6 d.funs e<|fun b=>gw 9 85 ((d.nodes.length:Int) -1)<|cD 0 222 [nI b,nI 0,nI ((d.nodes.length:Int) -1)]<|fun f=>.b 2 87 (!f) (gE 6 2 (bV false))<|.i [rn 5,.ans (.ix)] [hA (0≤b),hA (b< (a.length:Int))]<|.y fun c:Int=>gj bM 0 a b.toNat c<|gw 1 92 (c+1)<|.i [.ans (.ix)] [hA (0≤b),hA (b< (a.length:Int))]<|.i [.st (bM c) (bM (c+1))] [.a (((a)[b.toNat]?) =some c) (jQ (f:=bM)),hr (some (bM (c+1)))]<|.i [.lset 1 (jI (set a b.toNat (c+1)))] [.q (p:=(jI a).set (0+b.toNat) (bM (c+1)) = (jI (set a b.toNat (c+1)))) (pA _ _ _ _)]<|.i [.set 4 (.gl 1 1 0 (set a b.toNat (c+1)).length true)] [.q (p:=(AV.gl 1 1 0 a.length true) = (.gl 1 1 0 (set a b.toNat (c+1)).length true)) (dH (length_set ..).symm)]<|.i [.set 88 (.gl 1 1 0 (set a b.toNat (c+1)).length true)] [.q (p:=(AV.gl 1 1 0 a.length true) = (.gl 1 1 0 (set a b.toNat (c+1)).length true)) (dH (length_set ..).symm)]<|gw 4 94 (e+1)<|.W 3 2 [0,1] (xG d (e+1) (set a b.toNat (c+1))))<|gl 8 Node.av d.nodes<|.W 4 2 [1] (rG d a 0)
def bAz(c:Prog)(d:List Int)(a:Int):=tT 0 (rG c d a)<|gd 5 100 (a< (c.nodes.length:Int)) (gX Node.av 7 c.nodes a<|fun b=>gl 9 bM b.kids<|.W 4 2 [0] (xH c b.kids (b.kids.length:Int) d 0 a a))<|gz 5 126 0 1 bM d true<|cD 0 230 [.ilst 1 (jI d) true,.func 231 [] []]<|fun b=>gE 3 1 (bV b)
def aZI(d:Prog)(i:List Int)(j:Int)(a:List Int)(e f g:Int):=tT 0 (xH d i j a e f g)<|gd 5 108 (e<j) (gX bM 6 i e<|fun b=>gw 9 113 (f+1)<|gw 2 115 ((d.nodes.length:Int) -1)<|cD 0 222 [nI b,nI (f+1),nI ((d.nodes.length:Int) -1)]<|fun k=>.b 2 117 (!k) (gE 6 1 (bV false))<|.i [rn 5,.ans (.ix)] [hA (0≤b),hA (b< (a.length:Int))]<|.y fun c:Int=>gj bM 0 a b.toNat c<|gw 1 122 (c+1)<|.i [.ans (.ix)] [hA (0≤b),hA (b< (a.length:Int))]<|.i [.st (bM c) (bM (c+1))] [.a (((a)[b.toNat]?) =some c) (jQ (f:=bM)),hr (some (bM (c+1)))]<|.i [.lset 0 (jI (set a b.toNat (c+1)))] [.q (p:=(jI a).set (0+b.toNat) (bM (c+1)) = (jI (set a b.toNat (c+1)))) (pA _ _ _ _)]<|.i [.set 4 (.gl 0 1 0 (set a b.toNat (c+1)).length true)] [.q (p:=(AV.gl 0 1 0 a.length true) = (.gl 0 1 0 (set a b.toNat (c+1)).length true)) (dH (length_set ..).symm)]<|.i [.set 118 (.gl 0 1 0 (set a b.toNat (c+1)).length true)] [.q (p:=(AV.gl 0 1 0 a.length true) = (.gl 0 1 0 (set a b.toNat (c+1)).length true)) (dH (length_set ..).symm)]<|gw 4 124 (e+1)<|.W 3 1 [0] (xH d i j (set a b.toNat (c+1)) (e+1) f g))<|gw 5 125 (g+1)<|.W 3 1 [0] (rG d a (g+1))
def bAA(a:Prog):=tT 0 (start PP 141 [Prog.av a])<|cD 10 190 [Prog.av a]<|fun b=>.b 2 6 (!b) (gE 6 1 (nI 2))<|gE 7 1 (nI 0)
def aOq:=fun a b c d=>bAA a b c|>.t d tv
def aOr:=fun a b c d=>bAA a b c|>.f d tv
theorem iF (n lo hi:Int) :Pure PP 222 [.int .i64 n,.int .i64 lo,.int .i64 hi] (.bool (bG n lo hi)) :=by
 refine aP (by kernel_rfl) rfl rfl ?_;by_cases h:n≥lo
 · have e:bG n lo hi=decide (n≤hi) :=by unfold bG;rw [decide_eq_true (show lo≤n from h),Bool.true_and]
   rw [e];exact bAv n lo hi|>.t (decide_eq_true h) tv
 · have e:bG n lo hi=false:=by unfold bG;rw [decide_eq_false (show ¬lo≤n from h),Bool.false_and]
   rw [e];exact bAv n lo hi|>.f (decide_eq_false h) tv
theorem aEg (n:Int) :Pure PP 275 [.int .i64 n] (.bool (bG n (-1000000000) 1000000000)) :=
 aP (by kernel_rfl) rfl rfl (aS9 n _ (iF n _ _))
theorem aRw (b:ByteArray)(i:Nat)(h:128≤ (b.get! i).toNat) :128≤ (Utf8.decode b i).1:=by
 unfold Utf8.decode Utf8.runeError;simp only [add_zero];rw [if_neg (show ¬ (b.get! i).toNat<0x80 by omega)]
 repeat' split
 all_goals first
  |assumption
  | (simp_all;done)
  | (rename_i q;simp only [Bool.and_eq_true,decide_eq_true_eq,ge_iff_le]at q;simp only;omega)
theorem aWJ {s:aA}{i:Nat}{c:UInt8}(h:s[i]?=some c) :∃r d,aNR (length s) (aC s) i=some (r,d) ∧ (c.toNat<128→r=c.toNat∧d=1) ∧ (128≤c.toNat→128≤r) :=by
 have hi:= (List.getElem?_eq_some_iff.1 h).1;have hb:=byte_at h;unfold aNR;have e1:blt i (length s) =true:=by rw [dQ];exact decide_eq_true hi
 have e2:mod (div (aC s) (pow 256 i)) 256=c.toNat:=hb;rw [e1,e2];simp only [cond];by_cases k:c.toNat<128
 · have e3:blt c.toNat 128=true:=by rw [dQ];exact decide_eq_true k
   rw [e3];exact⟨_,_,rfl,fun _=> ⟨rfl,rfl⟩,fun g=>by omega⟩
 · have e3:blt c.toNat 128=false:=by rw [dQ];exact decide_eq_false k
   rw [e3];refine⟨_,_,rfl,fun g=>by omega,fun _=>?_⟩;have hn:bC (length s) (aC s) =s:=hR s;rw [hn];have hg: ((⟨⟨s⟩⟩ :ByteArray).get! (i+0)).toNat=c.toNat:=by
    simp only [add_zero,ByteArray.get!];have: (⟨s⟩ :Array UInt8)[i]! =c:=by
     rw [Array.getElem!_eq_getD,Array.getD_eq_getD_getElem?,show(⟨s⟩ :Array UInt8) =s.toArray from rfl,List.getElem?_toArray,h];rfl
    rw [this]
   exact aRw _ _ (by rw [add_zero]at hg;rw [hg];omega)
theorem aEV (s:aA) :∀ (t:aA) (i:Nat),s.drop i=t→Ends PP 0 (aAV s i).as (.ret (.bool (jJ t))) (aG [] 0)
 | [],i,h=>aWH s i|>.2 (aZ h) tv
 | c :: t,i,h=>by
  obtain⟨h1,h2,h3⟩ :=aY h;obtain⟨r,d,q1,q2,q3⟩ :=aWJ h1;by_cases g1:c.toNat<97
  · have:= (q2 (by omega)).1;exact Ends.eqv (aWH s i|>.1 r d h3 q1|>.t sd tv) (by simp [jJ,xA];omega)
  · by_cases g2:122<c.toNat
    · have hr:122<r:=by
       by_cases k:c.toNat<128
       ·have:= (q2 k).1;omega
       ·have:=q3 (by omega);omega
      exact Ends.eqv (aWH s i|>.1 r d h3 q1|>.f sd|>.t sd tv) (by simp [jJ,xA];omega)
    · obtain⟨rfl,rfl⟩ :=q2 (by omega);refine(aWH s i|>.1 _ _ h3 q1|>.f sd|>.f sd tv).ends ?_;have e:xA c=true:=by simp [xA];omega
      exact Ends.eqv (aEV s t (i+1) h2) (by simp [jJ,e])
theorem aEW (s:aA) :Pure PP 161 [aD s] (.bool (jJ s)) :=
 aP (by kernel_rfl) rfl rfl ((aOp s).ends (aEV s s 0 rfl))
theorem iG (s:aA) :Pure PP 171 [aD s] (.bool (cP s)) :=by
 refine aP (by kernel_rfl) rfl rfl ?_
 match s with
 | [] =>exact aTa []|>.f rfl tv
 | c ::t=>
  have h0: (!(bB (length (c::t)) (aC (c::t)) 0 0)) =true:=by rw [aB];rfl
  by_cases g0: (c::t).length≤8
  · have g0': (decide (((length (c::t) :Nat) :Int) ≤ (8:Int))) =true:=sd;by_cases g1:65≤c.toNat
    · by_cases g2:c.toNat≤90
      ·exact Ends.eqv (aTa (c::t)|>.t h0|>.t g0' c rfl rfl|>.t sd rfl rfl|>.t sd (by simp) _ (aEW t) tv) (by simp only [cP,decide_eq_true g0,decide_eq_true g1,decide_eq_true g2,Bool.true_and])
      ·exact Ends.eqv (aTa (c::t)|>.t h0|>.t g0' c rfl rfl|>.t sd rfl rfl|>.f sd tv) (by simp only [cP,decide_eq_false g2,Bool.and_false,Bool.false_and])
    ·exact Ends.eqv (aTa (c::t)|>.t h0|>.t g0' c rfl rfl|>.f sd tv) (by simp only [cP,decide_eq_false g1,Bool.and_false,Bool.false_and])
  ·exact Ends.eqv (aTa (c::t)|>.t h0|>.f sd tv) (by simp only [cP,decide_eq_false g0,Bool.false_and])
theorem aRx (c:Con) :Pure PP 224 [Con.av c] (.bool (jK c)) :=by
 refine aP (by kernel_rfl) rfl rfl ?_;have hg:=iG c.name;cases k:cP c.name
 case false=>rw [k]at hg;exact Ends.eqv (bAw c false hg|>.f rfl tv) (by simp [jK,k])
 rw [k]at hg;exact Ends.eqv (bAw c true hg|>.t rfl _ (iF _ _ _) tv) (by simp [jK,k])
def pU (p:Prog)(x:Node) :Bool:=if x.op=14 then true else fH p x.op x.n
theorem aRy (p:Prog)(x:Node)(hf:p.funs.length≤1000) :Ends PP 0 (start PP 259 [Prog.av p,Node.av x]).as (.ret (.bool (pU p x))) (aG [] 0) :=by
 cases hb1: (x.op== (1:Int))
 case true=>exact Ends.eqv (aRu p x|>.t hb1 (bG (x.n) (-1000000000) 1000000000) (aEg (x.n)) tv) (by simp_all [pU,fH] <;>rfl)
 cases hb2: (x.op== (2:Int))
 case true=>exact Ends.eqv (aRu p x|>.f hb1|>.t hb2 (bG (x.n) 0 1) (iF (x.n) 0 1) tv) (by simp_all [pU,fH] <;>rfl)
 cases hb3: (x.op== (24:Int))
 case true=>exact Ends.eqv (aRu p x|>.f hb1|>.f hb2|>.t hb3 (bG (x.n) 0 3) (iF (x.n) 0 3) tv) (by simp_all [pU,fH] <;>rfl)
 cases hb4: (x.op== (4:Int))
 case true=>exact Ends.eqv (aRu p x|>.f hb1|>.f hb2|>.f hb3|>.t hb4 sdI (bG (x.n) (0- ((length p.funs:Nat) :Int)) 29) (iF (x.n) (0- ((length p.funs:Nat) :Int)) 29) tv) (by simp_all [pU,fH] <;>rfl)
 cases hb5: (x.op== (14:Int))
 case true=>exact Ends.eqv (aRu p x|>.f hb1|>.f hb2|>.f hb3|>.f hb4|>.t hb5 tv) (by simp_all [pU,fH] <;>rfl)
 exact Ends.eqv (aRu p x|>.f hb1|>.f hb2|>.f hb3|>.f hb4|>.f hb5 tv) (by simp_all [pU,fH] <;>rfl)
theorem aJ3 (p:Prog)(x:Node)(hf:p.funs.length≤1000) :Pure PP 259 [Prog.av p,Node.av x] (.bool (pU p x)) :=
 aP (by kernel_rfl) rfl rfl (aRy p x hf)
mutual
def rH :Pat→Int→Int
 | .mk _ _ _ ps,most=>nS ps most 1
def nS :List Pat→Int→Int→Int
 | [],_,n=>n
 |p::ps,most,n=>if n>most then n else nS ps most (n+rH p (most-n))
end
mutual
theorem aGx :∀ (p:Pat) (m:Int),0≤m→1≤rH p m∧rH p m≤m+1
 | .mk _ _ _ ps,m,h=>by rw [rH];exact aIp ps m 1 (by omega) (by omega)
theorem aIp :∀ (ps:List Pat) (m n:Int),1≤n→n≤m+1→1≤nS ps m n∧nS ps m n≤m+1
 | [],m,n,h1,h2=>by rw [nS];omega
 | p ::ps,m,n,h1,h2=>by
  rw [nS];split
  ·omega
  · have a:=aGx p (m-n) (by omega);exact aIp ps m _ (by omega) (by omega)
end
mutual
theorem aMn :∀ (p:Pat) (m:Int),0≤m→ ((bA p:Int) ≤m→rH p m=bA p) ∧ (m<bA p→m<rH p m)
 | .mk _ _ _ ps,m,h=>by
  have:=aIq ps m 1 (by omega);simp only [rH,bA];constructor
  ·intro g;have:=this.1 (by omega);omega
  ·intro g;exact this.2 (by omega)
theorem aIq :∀ (ps:List Pat) (m n:Int),n≤m+1→ (n+aQ ps≤m→nS ps m n=n+aQ ps) ∧ (m<n+aQ ps→m<nS ps m n)
 | [],m,n,h=>by simp only [nS,aQ];omega
 | p ::ps,m,n,h=>by
  simp only [nS,aQ];split
  ·omega
  · rename_i k;have a:=aMn p (m-n) (by omega);have l:=aGx p (m-n) (by omega);have b:=aIq ps m (n+rH p (m-n)) (by omega);constructor
    · intro g;have:=a.1 (by omega);have:=b.1 (by omega);omega
    · intro g;refine b.2 ?_;by_cases q: (bA p:Int) ≤m-n
      ·have:=a.1 q;omega
      ·have:=a.2 (by omega);omega
end
theorem aIr (p:Pat)(m:Int)(h:0≤m) :rH p m≤m↔ (bA p:Int) ≤m:=by
 have:=aMn p m h;constructor
 · intro g;by_cases k: (bA p:Int) ≤m
   ·exact k
   ·have:=this.2 (by omega);omega
 ·intro g;have:=this.1 g;omega
theorem aGy (f n:Int)(s:aA)(ps:List Pat)(m:Int)(hm:m≤1000)(ih:∀p∈ps,∀m:Int,0≤m→m≤1000→Pure PP 257 [Pat.av p,.int .i64 m] (.int .i64 (rH p m))) :
  ∀ (t:List Pat) (i:Nat) (k:Int),ps.drop i=t→ (i:Int) +1≤k→k≤m+1→Ends PP 0 (aDh f n s ps m k (i:Int)).as (.ret (.int .i64 (nS t m k))) (aG [] 0)
 | [],i,k,h,h1,h2=>by
  have:=aZ h;rw [nS];exact aZC f n s ps m k i|>.f sd tv
 | .mk f' n' s' ps'::t,i,k,h,h1,h2=>by
  obtain⟨g1,g2,g3⟩ :=aY h;rw [nS];split
  ·exact aZC f n s ps m k i|>.t sd f' n' s' ps' sd sd|>.t sd tv
  · rename_i hk;have l:=aGx (.mk f' n' s' ps') (m-k) (by omega);refine(aZC f n s ps m k i|>.t sd f' n' s' ps' sd sd|>.f sd sd _ (ih (.mk f' n' s' ps') (mem_of_getElem? g1) (m-k) (by omega) (by omega)) sd sd tv).ends ?_;exact aGy f n s ps m hm ih t (i+1) _ g2 (by omega) (by omega)
mutual
theorem aGz :∀ (p:Pat) (m:Int),0≤m→m≤1000→Pure PP 257 [Pat.av p,.int .i64 m] (.int .i64 (rH p m))
 | .mk f n s ps,m,h0,h1=>by
  refine aP (by kernel_rfl) (by simp [keylessL,lO,keyless]) rfl ?_;rw [rH];refine(aRv f n s ps m).ends ?_;exact aGy f n s ps m h1 (aIs ps) ps 0 1 rfl (by omega) (by omega)
theorem aIs :∀ (ps:List Pat),∀p∈ps,∀m:Int,0≤m→m≤1000→Pure PP 257 [Pat.av p,.int .i64 m] (.int .i64 (rH p m))
 | [],p,hp,_,_,_=>by cases hp
 | q::ps,p,hp,m,h0,h1=>by
  rcases List.mem_cons.1 hp with e|hp
  ·rw [e];exact aGz q m h0 h1
  ·exact aIs ps p hp m h0 h1
end
end
end Go.Hb
