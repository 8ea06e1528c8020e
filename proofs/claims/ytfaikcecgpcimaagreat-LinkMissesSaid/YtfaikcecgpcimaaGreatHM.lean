/- A machine on abstract values, its soundness, ways, plain laws. -/
import Derived.Test.YtfaikcecgpcimaaGreatHF
import Derived.Test.YtfaikcecgpcimaaGreatHG
import Derived.Test.YtfaikcecgpcimaaGreatHH
import Derived.Test.YtfaikcecgpcimaaGreatHL
set_option linter.defProp false
set_option linter.unusedVariables false
set_option linter.unusedSimpArgs false
set_option linter.unusedSectionVars false
set_option maxRecDepth 100000
set_option maxHeartbeats 4000000
namespace Go.Hb
open List (length map)
open Go.Proofs Tryz
noncomputable section
mutual
theorem aOf {cons:List Con}{mc mc' mc2:List (Int×Int)}(h:∀n:Int,0≤n→n<cons.length→lU mc2 n=lU mc' (lU mc n)) :∀q:Pat,cY cons q=true→vU mc' (vU mc q) =vU mc2 q
 | .mk f n s ps,g=>by
  rw [cY,Bool.and_eq_true]at g;rw [vU,vU,vU,yN h ps g.2];by_cases hf:f=6
  · subst hf;have g1:=g.1;unfold dF at g1;simp [cS]at g1;rw [if_pos rfl,if_pos rfl,if_pos rfl,h n g1.1.1.1 (by omega)]
  ·rw [if_neg hf,if_neg hf,if_neg hf]
theorem yN {cons:List Con}{mc mc' mc2:List (Int×Int)}(h:∀n:Int,0≤n→n<cons.length→lU mc2 n=lU mc' (lU mc n)) :∀ps:List Pat,bY cons ps=true→fN mc' (fN mc ps) =fN mc2 ps
 | [],_=>rfl
 | q::ps,g=>by
  rw [bY,Bool.and_eq_true]at g;rw [fN,fN,fN,aOf h q g.1,yN h ps g.2]
end
theorem aQ6 {p:Prog}{x:Node}(h:bD p x=true) : (x.op=4→ -(p.funs.length:Int) ≤x.n) ∧ (x.op=14→0≤x.n∧x.n<p.cons.length) ∧bY p.cons x.pats=true:=by
 simp only [bD,hX,Bool.and_eq_true]at h;obtain⟨⟨⟨h1,_⟩,h2⟩,_⟩ :=h;refine⟨fun e=>?_,fun e=>?_,yH fun q hq=>?_⟩
 · rw [e]at h1;simp [bW,cS]at h1;omega
 · rw [e]at h1;simp [bW,cS]at h1;omega
 · have:=List.all_eq_true.1 h2 q hq;simp only [fJ,Bool.and_eq_true]at this;exact this.2
structure Comp (p:Prog) (mf mc:List (Int×Int)) (to:List Int) (mf' mc':List (Int×Int)) (to':List Int) (mf2 mc2:List (Int×Int)) (to2:List Int) :Prop where
 f0:∀i:Int,0≤i→i<p.funs.length→0≤lU mf i
 f:∀i:Int,0≤i→i<p.funs.length→lU mf2 i=lU mf' (lU mf i)
 c:∀i:Int,0≤i→i<p.cons.length→lU mc2 i=lU mc' (lU mc i)
 t:∀ (i:Nat) (k:Int),(dQ p)[i]?=some k→kB to2 k=kB to' (kB to k)
theorem Comp.node {p:Prog}{mf mc mf' mc' mf2 mc2:List (Int×Int)}{to to' to2:List Int}(h:Comp p mf mc to mf' mc' to' mf2 mc2 to2)(hp:Fm p){k:Int}(hk:k∈dQ p) :kR mf' mc' to' (kR mf mc to (nodeAt p k)) =kR mf2 mc2 to2 (nodeAt p k) :=by
 have hr:=hp.into k hk;obtain⟨x,hx⟩ :∃x,p.nodes[k.toNat]?=some x:= ⟨_,List.getElem?_eq_getElem (by omega)⟩;rw [pG hx];obtain⟨h4,h14,hps⟩ :=aQ6 (hp.node _ x hx).1;unfold kR;simp only [Node.mk.injEq,List.map_map,true_and];refine⟨?_,List.map_congr_left fun c hc=>?_,yN h.c _ hps⟩
 · unfold bN;by_cases e4:x.op=4
   · rw [if_pos e4,if_pos e4,if_pos e4];by_cases hn:0≤x.n
     ·rw [if_pos hn,if_pos hn,if_pos hn]
     · have:=h4 e4;have h0:=h.f0 (-1-x.n) (by omega) (by omega);have h1:=h.f (-1-x.n) (by omega) (by omega);rw [if_neg hn,if_neg hn,if_neg (by omega),h1];congr 2;omega
   · rw [if_neg e4,if_neg e4,if_neg e4];by_cases e14:x.op=14
     · have:=h14 e14;rw [if_pos e14,if_pos e14,if_pos e14,h.c x.n this.1 this.2]
     ·rw [if_neg e14,if_neg e14,if_neg e14]
 · have:= (hp.fine.node _ _ hx).2.2 c hc;obtain⟨i,hi⟩ :=aI8 hp (k:=c) (by omega) (by omega);exact(h.t i c hi).symm
theorem Laid.slice {a p:Prog}{off:Nat}{mf mc:List (Int×Int)}{to:List Int}(h:Laid a off p mf mc to)(F:Node→Node) : ((List.range (dQ p).length).map fun i=>F (nodeAt a ((off+i:Nat) :Int))) = (dQ p).map fun k=>F (kR mf mc to (nodeAt p k)) :=by
 refine List.ext_getElem? (fun i=>?_);rw [List.getElem?_map,List.getElem?_map];by_cases hi:i< (dQ p).length
 · have e: (dQ p)[i]?=some (dQ p)[i] :=List.getElem?_eq_getElem hi;rw [List.getElem?_range hi,e];simp only [Option.map_some];rw [pG (p:=a) (k:= ((off+i:Nat) :Int)) (by rw [Int.toNat_natCast];exact h.node i _ e)]
 ·rw [List.getElem?_eq_none (by simp;omega),List.getElem?_eq_none (by omega)];rfl
section
variable {p q r:Prog}
end
structure PlOk (p:Prog) (n:Nat) :Prop where
 low:30≤n
 big:n≤900000
 kid:∀ (a:Nat) (x:Node) (sz:Int) (i:Nat),(aK7 p)[a]?=some sz→p.nodes[a]?=some x→i<x.kids.length→sz+aIT x i≤n
 own:∀ (a:Nat) (x:Node) (sz:Int),(aK7 p)[a]?=some sz→p.nodes[a]?=some x→x.op=5∨x.op=27∨x.op=7→sz<n
def KidLe (p:Prog)(b:Int)(P:Nat→Prop) :Prop:=∀ (c:Nat) (x:Node) (s:Int) (i:Nat),P c→ (aK7 p)[c]?=some s→p.nodes[c]?=some x→i<x.kids.length→s+aIT x i≤b
theorem KidLe.mono {p:Prog}{b b':Int}{P:Nat→Prop}(h:KidLe p b P)(hb:b≤b') :KidLe p b' P:=fun c x s i a1 a2 a3 a4=>by
 have:=h c x s i a1 a2 a3 a4;omega
theorem Pure.val {P:Program}{f:Nat}{args:List AV}{v v':AV}(h:Pure P f args v)(hv:∀E cv,VR E v cv→VR E v' cv) :Pure P f args v':=fun hp=>by
 obtain⟨g,hg,he⟩ :=h hp;exact⟨g,hg,Ends.val he hv⟩
section
variable {P :Program}
end
inductive KVD where
 |row (l:List ConD)
 |nil
 |val (u:Value)
def KVD.av :KVD→AV
 | .row l=>.ilst 2 (map ConD.av l) false
 | .nil=>.nils
 | .val u=>.val u
structure ODat where
 name:aB
 kv:KVD
def ODat.av (x:ODat) :AV:=.agg [aD x.name,x.kv.av]
def DataD.o (x:DataD) :ODat:= ⟨x.name,.row x.cons⟩
mutual
def pnP (cs:List Con) :Pat→Pat
 | .mk f n s ps=>.mk f (if f=6 then gZ s cs 0 else n) [] (aWI cs ps)
def aWI (cs:List Con) :List Pat→List Pat
 | [] =>[]
 |p::ps=>pnP cs p::aWI cs ps
end
abbrev BHc (fs:List aB)(cs:List Con)(b n:Nat) :AObj:=.cells (putCells .leaf 0 [.ilst 1 (map aD fs) false,.ilst 2 (map Con.av cs) false,.gl b 4 0 n false]) 3 [] false
abbrev BH (fs:List aB)(cs:List Con)(L:List ONode) :List (Nat×AObj×Bool) :=[(0,BHc fs cs 1 (length L),false),(1,OL L,true)]
def aXr (fs:List aB)(cs:List Con)(env:List aB)(o n:Int)(s:aB) :Int:=
 if o=14 then gZ s cs 0 else if o=4 then(if aLa env s<0 then IntKind.i64.wrap (-1-aLa fs s)else aLa env s)else n
mutual
def aTt (fs:List aB)(cs:List Con) :Term→List aB→Nat→List Node
 | .mk o n s ks ps,env,a=> ⟨o,aXr fs cs env o n s,(aMg fs cs o s ps ks 0 env (a+1)).1,aWI cs ps⟩ :: (aMg fs cs o s ps ks 0 env (a+1)).2
def aMg (fs:List aB)(cs:List Con)(o:Int)(s:aB)(ps:List Pat) :List Term→Nat→List aB→Nat→List Int×List Node
 | [],_,_,_=> ([],[])
 |t::ts,i,env,a=> (((a:Nat) :Int) :: (aMg fs cs o s ps ts (i+1) env (a+ (aTt fs cs t (env++aLb o s ps i) a).length)).1,aTt fs cs t (env++aLb o s ps i) a++ (aMg fs cs o s ps ts (i+1) env (a+ (aTt fs cs t (env++aLb o s ps i) a).length)).2)
end
def PUS (fs:List aB)(cs:List Con)(t:Term)(env:List aB)(L:List ONode)(ns:List Node) :Prop:=
 aBr PP 1 (.enter 114 [.ptr 0 0,Term.av t,.ilst 1 (map aD env) false]) (aF (BH fs cs L) 2) (.ret (.int .i64 ((length L:Nat) :Int))) (aF (BH fs cs (L++map Node.o ns)) 2)
section
variable (fs :List aB) (cs:List Con) (L:List ONode) (o n:Int) (s:aB) (ks:List Term) (ps:List Pat) (env:List aB)
variable (hkl :ks.length≤900) (h15:o=15→ks.length≤ps.length+1) (hps:∀p∈ps,dM p≤1000) (he:env.length≤900000)
 (ih:∀t∈ks,∀ (e:List aB) (M:List ONode),e.length≤env.length+1000→M.length+aVl t≤1000000→PUS fs cs t e M (aTt fs cs t e M.length))
include hkl h15 hps he ih
end
section
variable {P :Program}
end
end
end Go.Hb
