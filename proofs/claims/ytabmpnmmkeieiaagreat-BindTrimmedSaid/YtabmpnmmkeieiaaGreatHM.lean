/-
  OWN WORK (V95, V66, Q2, H29, V96): a machine on abstract values, its soundness, ways through the text (the ways WRITTEN BY A PROGRAM), plain laws.
-/
import Derived.Test.YtabmpnmmkeieiaaGreatHF
import Derived.Test.YtabmpnmmkeieiaaGreatHJ
import Derived.Test.YtabmpnmmkeieiaaGreatHL
set_option linter.unusedVariables false
set_option linter.unusedSimpArgs false
set_option linter.unusedSectionVars false
set_option maxRecDepth 100000
namespace Go.Hb
open Go.Proofs
set_option maxHeartbeats 2000000
noncomputable section
section
variable {p :Prog}
theorem aLg (k op n:Int)(kids:List Int)(pats:List Pat)(N:Int→List Int)(hl:kids.length≤1000000)(hk:∀c∈kids,aE PP 21 [PA p,.int .i64 c] (.ilst 1 (List.map aB (N c)) false)) :∀ (t:List Int) (i:Nat) (acc:List Int),kids.drop i=t→i≤kids.length→ (acc++ (t.map N).flatten).length≤1000000 →
  Ends PP 0 (aAa p k op n kids pats acc (i:Int)).as (.ret (.ilst 1 (List.map aB (acc++ (t.map N).flatten)) false)) (aA [] 0)
 | [],i,acc,h,hi,hb=>by
  have:=cD h
  rw [List.map_nil,List.flatten_nil,List.append_nil]
  exact aVu p k op n kids pats acc i sd
 | c::t,i,acc,h,hi,hb=>by
  obtain⟨g1,g2,g3⟩ :=cA h
  rw [List.map_cons,List.flatten_cons,←List.append_assoc]at hb ⊢
  refine(aVt p k op n kids pats acc i c (N c) sd sd sd (hk c (List.mem_of_getElem? g1)) (by simp at hb ⊢;omega) sd).ends ?_
  exact aLg k op n kids pats N hl hk t (i+1) (acc++N c) g2 (by omega) hb
theorem aE2 (hp:FineP p)(hnm:∀ (i:Nat) (x:Node),p.nodes[i]?=some x→x.op=4→x.n<0→ -1000000000≤x.n) :∀ (f:Nat) (k:Int),0≤k→k<p.nodes.length→p.nodes.length-k.toNat≤f→ (kC p f k).length≤1000000→aE PP 21 [PA p,.int .i64 k] (.ilst 1 (List.map aB (kC p f k)) false)
 |0,k,h0,h1,hf,_=>by omega
 | f + 1,k,h0,h1,hf,hb=>by
  obtain⟨x,hx⟩ :∃x,p.nodes[k.toNat]?=some x:= ⟨_,List.getElem?_eq_getElem (by omega)⟩
  obtain⟨_,hkl,hks⟩ :=hp.node _ _ hx
  have e:kC p (f+1) k=oI x++ (x.kids.map (kC p f)).flatten:=by rw [kC,hx]
  rw [e]at hb ⊢
  have hbk:∀c∈x.kids,(kC p f c).length≤1000000:=fun c hc=>by
   have:=List.Sublist.length_le (List.sublist_flatten_of_mem (List.mem_map.2 ⟨c,hc,rfl⟩ :kC p f c∈x.kids.map (kC p f)))
   rw [List.length_append]at hb
   omega
  refine rV (s:=aOu p k) (by kernel_rfl) (by kernel_rfl) (by simp [AV.keylessL,AV.keyless]) (by simp [AV.keyless]) ?_
  have L:=fun acc hb=>aLg (p:=p) k x.op x.n x.kids x.pats (kC p f) (by omega) (fun c hc=>by
   have:=hks c hc
   exact aE2 hp hnm f c (by omega) this.2 (by omega) (hbk c hc)) x.kids 0 acc rfl (Nat.zero_le _) hb
  unfold oI at hb ⊢
  by_cases h4:x.op=4
  · by_cases hn:x.n<0
    · have:=hnm _ _ hx h4 hn
      rw [if_pos ⟨h4,hn⟩]at hb ⊢
      exact(aVq p k x h0 hx (by simp [h4]) (by simp [hn]) sd).ends (L _ hb)
    · rw [if_neg (fun g=>hn g.2)]at hb ⊢
      exact(aVr p k x h0 hx (by simp [h4]) (by simp;omega)).ends (L _ hb)
  · rw [if_neg (fun g=>h4 g.1)]at hb ⊢
    exact(aVs p k x h0 hx (by simp [h4])).ends (L _ hb)
theorem aLh (l:List Int)(n:Int)(hl:l.length≤1000000) :∀ (t:List Int) (i:Nat),l.drop i=t→Ends PP 1 (aBV l n (i:Int)).as (.ret (.bool (decide (n∈t)))) (aA [(0,.lst 1 (List.map aB l),true)] 1)
 | [],i,h=>by
  have:=cD h
  exact aVy l n i sd
 | x ::t,i,h=>by
  obtain⟨g1,g2,g3⟩ :=cA h
  by_cases e:x=n
  · rw [show decide (n∈x::t) =true by simp [e]]
    exact aVw l n i x sd sd sd sd (by simp [e])
  · rw [show decide (n∈x::t) =decide (n∈t)by
     have:¬n=x:=fun h=>e h.symm
     simp [this]]
    exact(aVx l n i x sd sd sd sd (by simp [e]) sd).ends (aLh l n hl t (i+1) g2)
theorem aTi (l:List Int)(n:Int)(hl:l.length≤1000000) :Spec PP (.enter 22 [.gl 0 1 0 (List.length l) false,.int .i64 n]) (aA [(0,.lst 1 (List.map aB l),true)] 1) (.ret (.bool (decide (n∈l)))) (aA [(0,.lst 1 (List.map aB l),true)] 1) :=
 ⟨(aWf l n).as.fr,by kernel_rfl,Eq.mp (by kernel_rfl) ((aVv l n).ends (aLh l n hl l 0 rfl))⟩
theorem aVE {α:Type}(a:List α)(x:α)(t:List α) : (a++x::t)[a.length]?=some x:=by simp
theorem aVF {α:Type}(a:List α)(x y:α)(t:List α) : (a++x::t).set a.length y= (a++ [y]) ++t:=by simp
theorem aLi (f:Int)(hn:p.nodes.length≤1000000) :∀ (t:List Node) (i:Nat) (a:List Node),p.nodes.drop i=t→i≤p.nodes.length→a.length=i →
  LeadsM PP 0 (rE p f (i:Int) (a++t)).as (rE p f (p.nodes.length:Int) (a++t.map maskN)).as
 | [],i,a,h,hi,ha=>by
  have:=cD h
  obtain rfl:i=p.nodes.length:=by omega
  exact LeadsM.refl _
 | x ::t,i,a,h,hi,ha=>by
  obtain⟨g1,g2,g3⟩ :=cA h
  have hg: (a++x::t)[((i:Nat) :Int).toNat]?=some x:=by rw [Int.toNat_natCast,←ha];exact aVE a x t
  have hm:∀y,(a++x::t).set ((i:Nat) :Int).toNat y= (a++ [y]) ++t:=fun y=>by rw [Int.toNat_natCast,←ha];exact aVF a x y t
  have L:=fun y=>aLi f hn t (i+1) (a++ [y]) g2 (by omega) (by simp [ha])
  rw [List.map_cons,show a++maskN x::t.map maskN= (a++ [maskN x]) ++t.map maskN by simp]
  refine LeadsM.trans ?_ (L (maskN x))
  by_cases h4:x.op=4
  · by_cases h0:x.n<0
    · have e:=aVA p f i (a++x::t) x sd sd sd hg (by simp [h4]) (by simp [h0]) sd
      rw [hm]at e
      unfold maskN
      rw [if_pos ⟨h4,h0⟩]
      exact e
    · unfold maskN
      rw [if_neg (fun g=>h0 g.2),List.append_assoc]
      exact aVB p f i (a++x::t) x sd sd sd hg (by simp [h4]) (by simp;omega) sd
  · unfold maskN
    rw [if_neg (fun g=>h4 g.1),List.append_assoc]
    exact aVC p f i (a++x::t) x sd sd sd hg (by simp [h4]) sd
theorem aE3 (h:Fs p){f r:Int}(h0:0≤f)(hr:p.funs[f.toNat]?=some r) :aE PP 23 [PA p,.int .i64 f] (PA (lC p r)) :=by
 have hs:=h.fine.small
 have hf:=h.fine.fsmall
 have hc:=h.head.2.2.2.2.2.1
 refine rV (s:=aWg p f) (by kernel_rfl) (by kernel_rfl) (by simp [AV.keylessL,AV.keyless]) (by simp [AV.keylessL,AV.keyless]) (((aVz p f (by omega) (by omega)).trans (aLi f (by omega) p.nodes 0 [] rfl (Nat.zero_le _) rfl)).ends ?_)
 exact aVD p f (p.nodes.length:Int) (p.nodes.map maskN) r (lC p r) (by simp) h0 hr (List.length_map ..) (aNj (p:=fD p r) (by simp [fD]) (by show p.cons.length<1000000;omega) (aLe h (List.mem_of_getElem? hr)))
end
end
end Go.Hb
namespace Go.Hb
open Go.Proofs
theorem Fs.fitp {p:Prog}(h:Fs p) :FitP p:= ⟨by have:=h.fine.small;omega,by have:=h.fine.fsmall;omega,by have:=h.cons;omega,fun x hx=>by
 obtain⟨i,hi⟩ :=List.mem_iff_getElem?.1 hx
 exact h.fit i x hi⟩
mutual
def aLj (l:List Con) :Pat→Pat
 | .mk f n s ps=>match(if f=6∧0≤n∧n<l.length then l[n.toNat]? else none)with
  |some c=>.mk f 0 c.name (aAb l ps)
  |none=>.mk f n s (aAb l ps)
def aAb (l:List Con) :List Pat→List Pat
 | [] =>[]
 |p::ps=>aLj l p::aAb l ps
end
mutual
theorem aNB {cons l l':List Con}{mc mc':List (Int×Int)}(h:∀n:Int,0≤n→n<cons.length→∃d,0≤eX mc n∧0≤eX mc' n∧l[(eX mc n).toNat]?=some d∧l'[(eX mc' n).toNat]?=some d) :∀q:Pat,dM cons q=true→aLj l (kG mc q) =aLj l' (kG mc' q)
 | .mk f n s ps,g=>by
  rw [dM,Bool.and_eq_true]at g
  rw [kG,kG,aLj,aLj,aCz h ps g.2]
  by_cases hf:f=6
  · subst hf
    have g1:=g.1
    unfold dT at g1
    simp [dU]at g1
    obtain⟨d,h0,h1,h2,h3⟩ :=h n g1.1.1.1 (by omega)
    have l2:= (List.getElem?_eq_some_iff.1 h2).1
    have l3:= (List.getElem?_eq_some_iff.1 h3).1
    rw [if_pos rfl,if_pos rfl,if_pos ⟨rfl,h0,by omega⟩,if_pos ⟨rfl,h1,by omega⟩,h2,h3]
  ·rw [if_neg hf,if_neg hf,if_neg (fun h=>hf h.1),if_neg (fun h=>hf h.1)]
theorem aCz {cons l l':List Con}{mc mc':List (Int×Int)}(h:∀n:Int,0≤n→n<cons.length→∃d,0≤eX mc n∧0≤eX mc' n∧l[(eX mc n).toNat]?=some d∧l'[(eX mc' n).toNat]?=some d) :∀ps:List Pat,cH cons ps=true→aAb l (bS mc ps) =aAb l' (bS mc' ps)
 | [],_=>rfl
 | q::ps,g=>by
  rw [cH,Bool.and_eq_true]at g
  rw [bS,bS,aAb,aAb,aNB h q g.1,aCz h ps g.2]
end
end Go.Hb
namespace Go.Hb
open Go.Proofs
variable {P :Program}
theorem cL {f:Nat}{args:List AV}{b:Bool}{cargs:List Value}{t:TS}(hl:LeadsM P 0 (start P f args).as t.as)(L:List Pf)(is:List Ins)(w:World)(hv:VRs (embOf w) args cargs)(hb:tD P f=true:=by kernel_rfl)(hk:AV.keylessL args=true:=by kernel_rfl)(h0:aWS P is t=some (.bool b,f,L.map Pf.p) :=by kernel_rfl) :
    Calls P f ⟨cargs⟩ w fun e w'=>e= .returned (.bool b) ∧GrownO w w':=aCI hb hk hl h0 (aNW L) w hv
end Go.Hb
namespace Go.Hb
open Go.Proofs
noncomputable abbrev hY (p:Prog) :Nat×AObj×Bool:= (0,(.cells (putCells .leaf 0 [(iN p.nodes),(iI p.funs),(nI p.main),(iC p.cons)]) 4 [] false),false)
noncomputable abbrev hZ (c1_0:List Node)(c1_1:List Int)(c1_2:Int)(c1_3:List Con) :Nat×AObj×Bool:= (1,(.cells (putCells .leaf 0 [(iN c1_0),(iI c1_1),(nI c1_2),(iC c1_3)]) 4 [] false),false)
noncomputable def aLk (p:Prog) :TS:=eU PP 5 [(Prog.av p)] [] 0
noncomputable def aE4 (p:Prog)(c1_0:List Node)(c1_1:List Int)(c1_2:Int)(c1_3:List Con)(i8:Int)(l2:List Int) :TS:=
 {fr:={fn:=5,nt:=150,sl:=[(1,(.ptr 0 0)),(2,(bV false)),(3,(.ptr 1 0)),(7,(.gl 2 1 0 l2.length false)),(8,(nI i8))],todo:=[.code (cd Tryz.f5 [1,1,1,1,1,1,1,0,1,0,0]),.inLoop (cd Tryz.f5 [1,1,1,1,1,1,1,0,1,0,0]),.inBlock 0,.code (cd Tryz.f5 [1,1,1,1,1,1,1,1])]},cs:=[],hp:=[hY p,hZ c1_0 c1_1 c1_2 c1_3,(2,(.lst 1 (jI l2)),true)],nb:=3}
noncomputable def aBW (p:Prog)(vy2:List Int)(c1_0:List Node)(c1_1:List Int)(c1_2:Int)(c1_3:List Con)(k10:Int)(l2:List Int)(i8:Int) :TS:=
 {fr:={fn:=5,nt:=150,sl:=[(1,(.ptr 0 0)),(2,(bV false)),(3,(.ptr 1 0)),(7,(.gl 2 1 0 l2.length false)),(8,(nI i8)),(9,(iI vy2)),(10,(nI k10))],todo:=[.code (cd Tryz.f5 [1,1,1,1,1,1,1,0,1,0,0,1,0,0,1,1,0,0]),.inLoop (cd Tryz.f5 [1,1,1,1,1,1,1,0,1,0,0,1,0,0,1,1,0,0]),.inBlock 2,.inBlock 1,.code (cd Tryz.f5 [1,1,1,1,1,1,1,0,1,0,0,1,1]),.inLoop (cd Tryz.f5 [1,1,1,1,1,1,1,0,1,0,0]),.inBlock 0,.code (cd Tryz.f5 [1,1,1,1,1,1,1,1])]},cs:=[],hp:=[hY p,hZ c1_0 c1_1 c1_2 c1_3,(2,(.lst 1 (jI l2)),true)],nb:=3}
noncomputable def aAc (p:Prog)(c1_0:List Node)(c1_1:List Int)(c1_2:Int)(c1_3:List Con)(i12 at11:Int)(l2:List Int) :TS:=
 {fr:={fn:=5,nt:=150,sl:=[(1,(.ptr 0 0)),(2,(bV false)),(3,(.ptr 1 0)),(7,(.gl 2 1 0 l2.length false)),(11,(nI at11)),(12,(nI i12))],todo:=[.code (cd Tryz.f5 [1,1,1,1,1,1,1,1,1,1,0,1,0,0]),.inLoop (cd Tryz.f5 [1,1,1,1,1,1,1,1,1,1,0,1,0,0]),.inBlock 4,.code (cd Tryz.f5 [1,1,1,1,1,1,1,1,1,1,1])]},cs:=[],hp:=[hY p,hZ c1_0 c1_1 c1_2 c1_3,(2,(.lst 1 (jI l2)),true)],nb:=3}
noncomputable def aNC (p:Prog)(vy2:List Int)(c1_0:List Node)(c1_1:List Int)(c1_2:Int)(c1_3:List Con)(i8 k10:Int)(l2:List Int) :TS:=
 {fr:={fn:=5,nt:=150,sl:=[(1,(.ptr 0 0)),(2,(bV false)),(3,(.ptr 1 0)),(7,(.gl 2 1 0 l2.length false)),(8,(nI i8)),(9,(iI vy2)),(10,(nI k10))],todo:=[.code (cd Tryz.f5 [1,1,1,1,1,1,1,0,1,0,0,1,0,0,1,1,0,0,1,0,0,0]),.code (cd Tryz.f5 [1,1,1,1,1,1,1,0,1,0,0,1,0,0,1,1,0,0,1,0,0,1]),.inBlock 3,.code (cd Tryz.f5 [1,1,1,1,1,1,1,0,1,0,0,1,0,0,1,1,0,0,1,1]),.inLoop (cd Tryz.f5 [1,1,1,1,1,1,1,0,1,0,0,1,0,0,1,1,0,0]),.inBlock 2,.inBlock 1,.code (cd Tryz.f5 [1,1,1,1,1,1,1,0,1,0,0,1,1]),.inLoop (cd Tryz.f5 [1,1,1,1,1,1,1,0,1,0,0]),.inBlock 0,.code (cd Tryz.f5 [1,1,1,1,1,1,1,1])]},cs:=[],hp:=[hY p,hZ c1_0 c1_1 c1_2 c1_3,(2,(.lst 1 (jI l2)),true)],nb:=3}
noncomputable def aIv (p:Prog)(c1_0:List Node)(c1_1:List Int)(c1_2:Int)(c1_3:List Con)(at11 i12:Int)(l2:List Int) :TS:=
 {fr:={fn:=5,nt:=150,sl:=[(1,(.ptr 0 0)),(2,(bV false)),(3,(.ptr 1 0)),(7,(.gl 2 1 0 l2.length false)),(11,(nI at11)),(12,(nI i12))],todo:=[.code (cd Tryz.f5 [1,1,1,1,1,1,1,1,1,1,0,1,0,0,1,0,0,0,0]),.code (cd Tryz.f5 [1,1,1,1,1,1,1,1,1,1,0,1,0,0,1,0,0,0,1]),.code (cd Tryz.f5 [1,1,1,1,1,1,1,1,1,1,0,1,0,0,1,0,0,1]),.inBlock 5,.code (cd Tryz.f5 [1,1,1,1,1,1,1,1,1,1,0,1,0,0,1,1]),.inLoop (cd Tryz.f5 [1,1,1,1,1,1,1,1,1,1,0,1,0,0]),.inBlock 4,.code (cd Tryz.f5 [1,1,1,1,1,1,1,1,1,1,1])]},cs:=[],hp:=[hY p,hZ c1_0 c1_1 c1_2 c1_3,(2,(.lst 1 (jI l2)),true)],nb:=3}
theorem aVG (p:Prog)(y0 y1:Bool)(h0:aE PP 17 [(Prog.av p)] (bV y0))(h1: (!y0) =true)(h2:aE PP 9 [] (bV y1))(hl:LeadsM PP 0 (start PP 5 [Prog.av p]).as (aLk p).as) :
  ∀ (w:World) (cargs:List Value),VRs (embOf w) [Prog.av p] cargs→Calls PP 5 ⟨cargs⟩ w fun e w'=>e= .returned (.bool y1) ∧GrownO w w':=
 fun w cargs hv=>cL hl [qp h0,qp h1,qp h2] [rn 9,pB y0,rn 2,bt 16,rn 8,pB y1,rn 3] w hv
theorem aVH (p:Prog)(y0 y1 y2:Bool)(h0:aE PP 17 [(Prog.av p)] (bV y0))(h1: (!y0) =false)(h2:aE PP 18 [(Prog.av p)] (bV y1))(h3: (!y1) =true)(h4:aE PP 9 [] (bV y2))(hl:LeadsM PP 0 (start PP 5 [Prog.av p]).as (aLk p).as) :
  ∀ (w:World) (cargs:List Value),VRs (embOf w) [Prog.av p] cargs→Calls PP 5 ⟨cargs⟩ w fun e w'=>e= .returned (.bool y2) ∧GrownO w w':=
 fun w cargs hv=>cL hl [qp h0,qp h1,qp h2,qp h3,qp h4] [rn 9,pB y0,rn 2,bf 16,rn 1,pB y1,rn 3,bt 20,rn 3,pB y2,rn 3] w hv
theorem aVI (p:Prog)(y0 y1:Bool)(y2:Prog)(y3:Int)(y4 y5:Bool)(y6:Prog)(y7:Int)(y8:Bool)(h0:aE PP 17 [(Prog.av p)] (bV y0))(h1: (!y0) =false)(h2:aE PP 18 [(Prog.av p)] (bV y1))(h3: (!y1) =false)(h4:aE PP 19 [(Prog.av p)] (.tup [(Prog.av y2),(nI y3)]))(h5: (y3 != (0:Int)) =false)(h6:aE PP 17 [(Prog.av y2)] (bV y4))(h7: (!y4) =false)(h8:aE PP 18 [(Prog.av y2)] (bV y5))(h9: (!y5) =false)(h10:decide ((y2.funs.length:Int) > (p.funs.length:Int)) =false)(h11: ((y2.cons.length:Int) != (p.cons.length:Int)) =false)(h12:aE PP 19 [(Prog.av y2)] (.tup [(Prog.av y6),(nI y7)]))(h13: (y7 != (0:Int)) =false)(h14:aE PP 12 [(Prog.av y6),(Prog.av y2)] (bV y8))(h15: (!y8) =false) :
  LeadsM PP 0 (aLk p).as (aE4 p y2.nodes y2.funs y2.main y2.cons 0 [p.main]).as:=
 wW 4 [0,1,3] [qp h0,qp h1,qp h2,qp h3,qp h4,qp h5,qp h6,qp h7,qp h8,qp h9,ql aB y2.funs,ql aB p.funs,qp h10,ql Con.av y2.cons,ql Con.av p.cons,qp h11,qp h12,qp h13,qp h14,qp h15,qp (p:=getCells (putCells .leaf 0 [(nI p.main)]) 0 (1*1) =some [(nI p.main)]) rfl,qp (p:=cV [(nI p.main)] =true) rfl,qp (p:=[(nI p.main)] = (jI [p.main])) rfl,qp (p:= (AV.gl 3 1 0 1 true) = (.gl 3 1 0 [p.main].length true)) rfl] [rn 9,pB y0,rn 2,bf 16,rn 1,pB y1,rn 3,bf 20,rn 5,.pure (.tup [(Prog.av y2),(nI y3)]),rn 13,bf 29,rn 1,pB y4,rn 3,bf 34,rn 1,pB y5,rn 3,bf 39,rn 2,aL y2.funs,rn 2,aL p.funs,rn 3,bf 48,rn 2,aL y2.cons,rn 2,aL p.cons,rn 3,bf 56,rn 5,.pure (.tup [(Prog.av y6),(nI y7)]),rn 13,bf 64,rn 2,pB y8,rn 3,bf 69,rn 28,.toL 7 false [(nI p.main)],.lset 3 (jI [p.main]),.set 7 (.gl 3 1 0 [p.main].length true),.weak 7] ⟨kk,trivial⟩
theorem aVJ (p:Prog)(c1_0:List Node)(c1_1:List Int)(c1_2:Int)(c1_3:List Con)(i8:Int)(l2:List Int)(y0 y1:Int)(y2:List Int)(h0:decide (i8< ((l2.length:Nat) :Int)) =true)(h1:0≤i8)(h2:i8< ((l2.length:Nat) :Int))(h3: ((l2)[i8.toNat]?) =some y0)(h4:0≤y0)(h5: ((p.funs)[y0.toNat]?) =some y1)(h6:aE PP 21 [(Prog.av p),(nI y1)] (iI y2)) :
  LeadsM PP 0 (aE4 p c1_0 c1_1 c1_2 c1_3 i8 l2).as (aBW p y2 c1_0 c1_1 c1_2 c1_3 0 l2 i8).as:=
 wW 3 [0,1,2] [qp h0,qp h1,qp h2,qh aB h3,qp h4,qg aB h5,qp h6] [rn 8,bt 77,rn 5,.reg [.d,.d,.d,.d,.d,.ans (.ix),.ans (.idx (aB y0)),.ans (.idx (aB y1)),.d,.pure (iI y2),.d],rn 6] ⟨kk,trivial⟩
theorem aVK (p:Prog)(c1_0:List Node)(c1_1:List Int)(c1_2:Int)(c1_3:List Con)(i8:Int)(l2:List Int)(h0:decide (i8< ((l2.length:Nat) :Int)) =false)(h1: ((c1_1.length:Int) != ((l2.length:Nat) :Int)) =false) :
  LeadsM PP 0 (aE4 p c1_0 c1_1 c1_2 c1_3 i8 l2).as (aAc p c1_0 c1_1 c1_2 c1_3 0 0 l2).as:=
 wW 3 [0,1,2] [qp h0,ql aB c1_1,qp h1] [rn 8,bf 77,rn 7,aL c1_1,rn 4,bf 115,rn 13] ⟨kk,trivial⟩
theorem aVL (p:Prog)(vy2:List Int)(c1_0:List Node)(c1_1:List Int)(c1_2:Int)(c1_3:List Con)(k10:Int)(l2:List Int)(i8:Int)(h0:decide (k10< (vy2.length:Int)) =true) :
  LeadsM PP 0 (aBW p vy2 c1_0 c1_1 c1_2 c1_3 k10 l2 i8).as (aNC p vy2 c1_0 c1_1 c1_2 c1_3 i8 k10 l2).as:=
 wW 3 [0,1,2] [ql aB vy2,qp h0] [rn 5,aL vy2,rn 2,bt 93,rn 5] ⟨kk,trivial⟩
theorem aVM (p:Prog)(vy2:List Int)(c1_0:List Node)(c1_1:List Int)(c1_2:Int)(c1_3:List Con)(k10:Int)(l2:List Int)(i8:Int)(h0:decide (k10< (vy2.length:Int)) =false)(h1: (IntKind.i64.wrap (i8+ (1:Int))) = (i8+ (1:Int))) :
  LeadsM PP 0 (aBW p vy2 c1_0 c1_1 c1_2 c1_3 k10 l2 i8).as (aE4 p c1_0 c1_1 c1_2 c1_3 (i8+ (1:Int)) l2).as:=
 wW 3 [0,1,2] [ql aB vy2,qp h0,qp (congrArg (AV.int .i64) h1)] [rn 5,aL vy2,rn 2,bf 93,rn 6,sI 79 (i8+ (1:Int)),rn 3] ⟨kk,trivial⟩
theorem aVN (p:Prog)(c1_0:List Node)(c1_1:List Int)(c1_2:Int)(c1_3:List Con)(i12 at11:Int)(l2:List Int)(h0:decide (i12< (p.funs.length:Int)) =true) :
  LeadsM PP 0 (aAc p c1_0 c1_1 c1_2 c1_3 i12 at11 l2).as (aIv p c1_0 c1_1 c1_2 c1_3 at11 i12 l2).as:=
 wW 3 [0,1,2] [ql aB p.funs,qp h0] [rn 6,aL p.funs,rn 2,bt 120,rn 6] ⟨kk,trivial⟩
theorem aVO (p:Prog)(c1_0:List Node)(c1_1:List Int)(c1_2:Int)(c1_3:List Con)(i12 at11:Int)(l2:List Int)(y0:Bool)(h0:decide (i12< (p.funs.length:Int)) =false)(h1:aE PP 9 [] (bV y0))(hl:LeadsM PP 0 (start PP 5 [Prog.av p]).as (aAc p c1_0 c1_1 c1_2 c1_3 i12 at11 l2).as) :
  ∀ (w:World) (cargs:List Value),VRs (embOf w) [Prog.av p] cargs→Calls PP 5 ⟨cargs⟩ w fun e w'=>e= .returned (.bool y0) ∧GrownO w w':=
 fun w cargs hv=>cL hl [ql aB p.funs,qp h0,qp h1] [rn 6,aL p.funs,rn 2,bf 120,rn 4,pB y0,rn 3] w hv
theorem aVP (p:Prog)(vy2:List Int)(c1_0:List Node)(c1_1:List Int)(c1_2:Int)(c1_3:List Con)(i8 k10:Int)(l2:List Int)(y0:Int)(hb1:Bool)(h0:0≤k10)(h1: ((vy2)[k10.toNat]?) =some y0)(h2:Spec PP (.enter 22 [(.gl 2 1 0 l2.length false),(nI y0)]) (aA [hY p,hZ c1_0 c1_1 c1_2 c1_3,(2,(.lst 1 (jI l2)),true)] 3) (.ret (bV hb1)) (aA [hY p,hZ c1_0 c1_1 c1_2 c1_3,(2,(.lst 1 (jI l2)),true)] 3))(h3: (!hb1) =true)(h4:List.length (l2++ [y0]) ≤1000000)(h5: (IntKind.i64.wrap (k10+ (1:Int))) = (k10+ (1:Int))) :
  LeadsM PP 0 (aNC p vy2 c1_0 c1_1 c1_2 c1_3 i8 k10 l2).as (aBW p vy2 c1_0 c1_1 c1_2 c1_3 (k10+ (1:Int)) (l2++ [y0]) i8).as:=
 wW 5 [0,1,4] [qp h0,qg aB h1,qp h2,qp h3,qp h0,qg aB h1,qp (gK aB l2),qp h4,qp (gP aB l2 [y0]),qp (gQ aB l2 [y0]),qp (congrArg (AV.int .i64) h5)] [rn 4,aI (aB y0),rn 1,.call (bV hb1) (aA [hY p,hZ c1_0 c1_1 c1_2 c1_3,(2,(.lst 1 (jI l2)),true)] 3),rn 2,bt 102,rn 5,aI (aB y0),rn 2,.app (jI (l2++ [y0])) (l2++ [y0]).length,rn 6,sI 95 (k10+ (1:Int)),rn 3] ⟨kk,trivial⟩
theorem aVQ (p:Prog)(vy2:List Int)(c1_0:List Node)(c1_1:List Int)(c1_2:Int)(c1_3:List Con)(i8 k10:Int)(l2:List Int)(y0:Int)(hb1:Bool)(h0:0≤k10)(h1: ((vy2)[k10.toNat]?) =some y0)(h2:Spec PP (.enter 22 [(.gl 2 1 0 l2.length false),(nI y0)]) (aA [hY p,hZ c1_0 c1_1 c1_2 c1_3,(2,(.lst 1 (jI l2)),true)] 3) (.ret (bV hb1)) (aA [hY p,hZ c1_0 c1_1 c1_2 c1_3,(2,(.lst 1 (jI l2)),true)] 3))(h3: (!hb1) =false)(h4: (IntKind.i64.wrap (k10+ (1:Int))) = (k10+ (1:Int))) :
  LeadsM PP 0 (aNC p vy2 c1_0 c1_1 c1_2 c1_3 i8 k10 l2).as (aBW p vy2 c1_0 c1_1 c1_2 c1_3 (k10+ (1:Int)) l2 i8).as:=
 wW 3 [0,1,2] [qp h0,qg aB h1,qp h2,qp h3,qp (congrArg (AV.int .i64) h4)] [rn 4,aI (aB y0),rn 1,.call (bV hb1) (aA [hY p,hZ c1_0 c1_1 c1_2 c1_3,(2,(.lst 1 (jI l2)),true)] 3),rn 2,bf 102,rn 6,sI 95 (k10+ (1:Int)),rn 3] ⟨kk,trivial⟩
theorem aVR (p:Prog)(c1_0:List Node)(c1_1:List Int)(c1_2:Int)(c1_3:List Con)(at11 i12:Int)(l2:List Int)(hb0:Bool)(h0:Spec PP (.enter 22 [(.gl 2 1 0 l2.length false),(nI i12)]) (aA [hY p,hZ c1_0 c1_1 c1_2 c1_3,(2,(.lst 1 (jI l2)),true)] 3) (.ret (bV hb0)) (aA [hY p,hZ c1_0 c1_1 c1_2 c1_3,(2,(.lst 1 (jI l2)),true)] 3))(h1: (!hb0) =true)(h2: (IntKind.i64.wrap (i12+ (1:Int))) = (i12+ (1:Int))) :
  LeadsM PP 0 (aIv p c1_0 c1_1 c1_2 c1_3 at11 i12 l2).as (aAc p c1_0 c1_1 c1_2 c1_3 (i12+ (1:Int)) at11 l2).as:=
 wW 3 [0,1,2] [qp h0,qp h1,qp (congrArg (AV.int .i64) h2)] [rn 3,.call (bV hb0) (aA [hY p,hZ c1_0 c1_1 c1_2 c1_3,(2,(.lst 1 (jI l2)),true)] 3),rn 2,bt 126,rn 5,sI 122 (i12+ (1:Int)),rn 3] ⟨kk,trivial⟩
theorem aVS (p:Prog)(c1_0:List Node)(c1_1:List Int)(c1_2:Int)(c1_3:List Con)(at11 i12:Int)(l2:List Int)(hb0:Bool)(y1 y2:Prog)(y3:Bool)(h0:Spec PP (.enter 22 [(.gl 2 1 0 l2.length false),(nI i12)]) (aA [hY p,hZ c1_0 c1_1 c1_2 c1_3,(2,(.lst 1 (jI l2)),true)] 3) (.ret (bV hb0)) (aA [hY p,hZ c1_0 c1_1 c1_2 c1_3,(2,(.lst 1 (jI l2)),true)] 3))(h1: (!hb0) =false)(h2: (i12==p.main) =true)(h3: (c1_2 != at11) =false)(h4:aE PP 23 [(Prog.av p),(nI i12)] (Prog.av y1))(h5:aE PP 23 [(.agg [(iN c1_0),(iI c1_1),(nI c1_2),(iC c1_3)]),(nI at11)] (Prog.av y2))(h6:aE PP 12 [(Prog.av y1),(Prog.av y2)] (bV y3))(h7: (!y3) =false)(h8: (IntKind.i64.wrap (at11+ (1:Int))) = (at11+ (1:Int)))(h9: (IntKind.i64.wrap (i12+ (1:Int))) = (i12+ (1:Int))) :
  LeadsM PP 0 (aIv p c1_0 c1_1 c1_2 c1_3 at11 i12 l2).as (aAc p c1_0 c1_1 c1_2 c1_3 (i12+ (1:Int)) (at11+ (1:Int)) l2).as:=
 wW 3 [0,1,2] [qp h0,qp h1,qp h2,qp h3,qp h4,qp h5,qp h6,qr (AV.agg [(iN c1_0),(iI c1_1),(nI c1_2),(iC c1_3)]),qr (AV.agg [(iN c1_0),(iI c1_1),(nI c1_2),(iC c1_3)]),qp h7,qp (congrArg (AV.int .i64) h8),qp (congrArg (AV.int .i64) h9)] [rn 3,.call (bV hb0) (aA [hY p,hZ c1_0 c1_1 c1_2 c1_3,(2,(.lst 1 (jI l2)),true)] 3),rn 2,bf 126,rn 4,.reg [.d,.d,.d,.d,.d,.b 131 true,.d,.d,.d,.d,.d,.d,.b 137 false,.d,.d,.pure (Prog.av y1),.d,.d,.pure (Prog.av y2),.pure (bV y3),.d,.d],bf 146,rn 5,sI 148 (at11+ (1:Int)),rn 6,sI 122 (i12+ (1:Int)),rn 3] ⟨kk,trivial⟩
theorem aVT (p:Prog)(c1_0:List Node)(c1_1:List Int)(c1_2:Int)(c1_3:List Con)(at11 i12:Int)(l2:List Int)(hb0:Bool)(y1 y2:Prog)(y3:Bool)(h0:Spec PP (.enter 22 [(.gl 2 1 0 l2.length false),(nI i12)]) (aA [hY p,hZ c1_0 c1_1 c1_2 c1_3,(2,(.lst 1 (jI l2)),true)] 3) (.ret (bV hb0)) (aA [hY p,hZ c1_0 c1_1 c1_2 c1_3,(2,(.lst 1 (jI l2)),true)] 3))(h1: (!hb0) =false)(h2: (i12==p.main) =false)(h3:aE PP 23 [(Prog.av p),(nI i12)] (Prog.av y1))(h4:aE PP 23 [(.agg [(iN c1_0),(iI c1_1),(nI c1_2),(iC c1_3)]),(nI at11)] (Prog.av y2))(h5:aE PP 12 [(Prog.av y1),(Prog.av y2)] (bV y3))(h6: (!y3) =false)(h7: (IntKind.i64.wrap (at11+ (1:Int))) = (at11+ (1:Int)))(h8: (IntKind.i64.wrap (i12+ (1:Int))) = (i12+ (1:Int))) :
  LeadsM PP 0 (aIv p c1_0 c1_1 c1_2 c1_3 at11 i12 l2).as (aAc p c1_0 c1_1 c1_2 c1_3 (i12+ (1:Int)) (at11+ (1:Int)) l2).as:=
 wW 3 [0,1,2] [qp h0,qp h1,qp h2,qp h3,qp h4,qp h5,qr (AV.agg [(iN c1_0),(iI c1_1),(nI c1_2),(iC c1_3)]),qr (AV.agg [(iN c1_0),(iI c1_1),(nI c1_2),(iC c1_3)]),qp h6,qp (congrArg (AV.int .i64) h7),qp (congrArg (AV.int .i64) h8)] [rn 3,.call (bV hb0) (aA [hY p,hZ c1_0 c1_1 c1_2 c1_3,(2,(.lst 1 (jI l2)),true)] 3),rn 2,bf 126,rn 4,.reg [.d,.d,.d,.d,.d,.b 131 false,.d,.d,.d,.d,.d,.d,.d,.d,.pure (Prog.av y1),.d,.d,.pure (Prog.av y2),.pure (bV y3),.d,.d],bf 146,rn 5,sI 148 (at11+ (1:Int)),rn 6,sI 122 (i12+ (1:Int)),rn 3] ⟨kk,trivial⟩
end Go.Hb
namespace Go.Hb
open Go.Proofs
set_option maxHeartbeats 2000000
noncomputable section
section
variable {p :Prog}
abbrev TC0 (p q:Prog)(i:Int)(l:List Int) :TS:=aE4 p q.nodes q.funs q.main q.cons i l
abbrev TC1 (p q:Prog)(vy:List Int)(k:Int)(l:List Int)(i:Int) :TS:=aBW p vy q.nodes q.funs q.main q.cons k l i
abbrev TC2 (p q:Prog)(i a:Int)(l:List Int) :TS:=aAc p q.nodes q.funs q.main q.cons i a l
theorem aE5 (q:Prog)(l:List Int)(n:Int)(hl:l.length≤1000000) :Spec PP (.enter 22 [.gl 2 1 0 (List.length l) false,.int .i64 n]) (aA [(0,lO p,false),(1,lO q,false),(2,.lst 1 (List.map aB l),true)] 3) (.ret (.bool (decide (n∈l)))) (aA [(0,lO p,false),(1,lO q,false),(2,.lst 1 (List.map aB l),true)] 3) :=
 fS (ks:=[2]) (aTi l n hl) (by kernel_rfl) rfl (by kernel_rfl) (by kernel_rfl) ⟨aD _ (fun _=>rfl) _,trivial⟩ (by kernel_rfl) ⟨aD _ (fun _=>rfl) _,trivial⟩ (by kernel_rfl) (by kernel_rfl) (by kernel_rfl) (by kernel_rfl) (by kernel_rfl) (by kernel_rfl) (by kernel_rfl) (by kernel_rfl)
theorem aE6 (q:Prog)(vy:List Int)(i:Nat)(hi:i≤1000000)(hv:vy.length≤1000000) :∀ (t:List Int) (j:Nat) (l:List Int),vy.drop j=t→ (addN l t).length≤1000000→LeadsM PP 0 (TC1 p q vy (j:Int) l (i:Int)).as (TC0 p q ((i+1:Nat) :Int) (addN l t)).as
 | [],j,l,h,hb=>by
  have:=cD h
  exact aVM p vy q.nodes q.funs q.main q.cons j l i sd sd
 | y ::t,j,l,h,hb=>by
  obtain⟨g1,g2,g3⟩ :=cA h
  have h1:=aVL p vy q.nodes q.funs q.main q.cons j l i sd
  rw [addN]at hb ⊢
  obtain⟨s,hs⟩ :=wL t (if y∈l then l else l++ [y])
  have hlen:=congrArg List.length hs
  rw [List.length_append]at hlen
  by_cases hy:y∈l
  · rw [if_pos hy]at hb hlen ⊢
    have hl:l.length≤1000000:=by omega
    exact h1.trans ((aVQ p vy q.nodes q.funs q.main q.cons i j l y (decide (y∈l)) sd sd (aE5 q l y hl) (by simp [hy]) sd).trans (aE6 q vy i hi hv t (j+1) l g2 hb))
  · rw [if_neg hy]at hb hlen ⊢
    have hl: (l++ [y]).length≤1000000:=by omega
    exact h1.trans ((aVP p vy q.nodes q.funs q.main q.cons i j l y (decide (y∈l)) sd sd (aE5 q l y (by simp at hl;omega)) (by simp [hy]) hl sd).trans (aE6 q vy i hi hv t (j+1) (l++ [y]) g2 hb))
theorem aTj (h:Fs p){k:Int}(hk:k∈p.funs) : (pre p p.nodes.length k).length≤p.nodes.length:=by
 have h1:= (rX (pre p p.nodes.length) (List.singleton_sublist.2 hk)).length_le
 have h2:=aTd h.toFm
 unfold kJ at h2
 simp only [List.map_cons,List.map_nil,List.flatten_cons,List.flatten_nil,List.append_nil]at h1
 omega
theorem aTk (h:Fs p){x:Int}(h0:0≤x)(h1:x<p.funs.length) :∃r,p.funs[x.toNat]?=some r∧aE PP 21 [PA p,.int .i64 r] (.ilst 1 (List.map aB (rowP p x)) false) ∧ (rowP p x).length≤1000:=by
 obtain⟨r,hr⟩ :∃r,p.funs[x.toNat]?=some r:= ⟨_,List.getElem?_eq_getElem (by omega)⟩
 have hm:=List.mem_of_getElem? hr
 obtain⟨r0,r1⟩ :=h.fine.funs r hm
 have e:rowP p x=kC p p.nodes.length r:=by
  unfold rowP
  rw [List.getD_eq_getElem?_getD,hr];rfl
 have hl:=aOp p p.nodes.length r
 have:=aTj h hm
 have:=h.fine.small
 rw [e]
 exact⟨r,hr,aE2 h.fine (fun i x hx h4 h0=>by
  have:=iT (by have:=h.fine.fsmall;omega) (h.node _ _ hx).1 h4 h0
  have:=h.fine.fsmall
  omega) p.nodes.length r r0 r1 (by omega) (by omega),by omega⟩
theorem aLl (h:Fs p)(q:Prog) :∀ (k:Nat) (l:List Int) (i:Nat),l.Nodup→ (∀x∈l,0≤x∧x<p.funs.length) →i≤l.length→p.funs.length<i+k →
  LeadsM PP 0 (TC0 p q (i:Int) l).as (TC0 p q (((bfs (rowP p) k l i).length:Nat) :Int) (bfs (rowP p) k l i)).as
 | 0,l,i,hn,hr,hi,hk=>by
  have:=aBb hn hr
  omega
 | k +1,l,i,hn,hr,hi,hk=>by
  have hl:=aBb hn hr
  have hfs:=h.fine.fsmall
  rw [bfs]
  cases hx:l[i]? with
  | none=>
   have:=List.getElem?_eq_none_iff.1 hx
   obtain rfl:i=l.length:=by omega
   exact LeadsM.refl _
  | some x=>
   have hlt:= (List.getElem?_eq_some_iff.1 hx).1
   have hx2:=hr x (List.mem_of_getElem? hx)
   obtain⟨r,hr1,hr2,hr3⟩ :=aTk h hx2.1 hx2.2
   have hn':=zZ (rowP p x) l hn
   have hr':∀y∈addN l (rowP p x),0≤y∧y<p.funs.length:=fun y hy=>by
    rcases(nS _ _ y).1 hy with a|a
    ·exact hr y a
    ·exact row_in h hx2.1 hx2.2 y a
   have hl':=aBb hn' hr'
   obtain⟨s,hs⟩ :=wL (rowP p x) l
   have h1:=aVJ p q.nodes q.funs q.main q.cons i l x r (rowP p x) sd sd sd sd hx2.1 hr1 hr2
   have h2:=aE6 (p:=p) q (rowP p x) i (by omega) (by omega) (rowP p x) 0 l rfl (by omega)
   exact h1.trans (h2.trans (aLl h q k (addN l (rowP p x)) (i+1) hn' hr' (by rw [hs,List.length_append];omega) (by omega)))
theorem aQr (h:Fs p){r:Int}(hr:r∈p.funs) :FitP (lC p r) :=by
 have:=aTj h hr
 have:=h.fine.small
 obtain⟨r0,r1⟩ :=h.fine.funs r hr
 refine⟨by simp only [lC,List.length_map];omega,by simp [lC],h.fitp.cons,fun y hy=>?_⟩
 obtain⟨k,hk,rfl⟩ :=List.mem_map.1 hy
 have hkin:k∈kJ p:=List.mem_flatten.2 ⟨_,List.mem_map.2 ⟨r,hr,rfl⟩,hk⟩
 obtain⟨k0,k1⟩ :=h.into k hkin
 obtain⟨x,hx⟩ :∃x,p.nodes[k.toNat]?=some x:= ⟨_,List.getElem?_eq_getElem (by omega)⟩
 rw [eB hx]
 have hf:=h.fit _ x hx
 exact⟨by simpa [cU,nC]using hf.1,by simpa [cU,zU,tU]using hf.2⟩
theorem aBX (h:Fs p)(R:List Int)(hR:R.length≤1000000)(hmem:∀d:Nat,(d:Int) ∈R↔ (bT p)[d]?=some true) :∀ (t:List Bool) (i:Nat) (n:Int),(bT p).drop i=t→ (eC (bT p) 0).drop i=eC t n→0≤n→n≤i→i≤p.funs.length →
  ∃n',LeadsM PP 0 (TC2 p (aY p) (i:Int) n R).as (TC2 p (aY p) ((p.funs.length:Nat) :Int) n' R).as
 | [],i,n,ht,hrk,hn,hni,hi=>by
  have h1:=cD ht
  rw [(iF h).len]at h1
  obtain rfl:i=p.funs.length:=by omega
  exact⟨n,LeadsM.refl _⟩
 | b ::t,i,n,ht,hrk,hn,hni,hi=>by
  have g:=lQ h
  have hfs:=h.fine.fsmall
  obtain⟨g1,g2,g3⟩ :=cA ht
  rw [eC]at hrk
  obtain⟨k1,k2,k3⟩ :=cA hrk
  rw [(iF h).len]at g3
  have h0:=aVN p (aY p).nodes (aY p).funs (aY p).main (aY p).cons i n R sd
  have hm:=hmem i
  rw [g1]at hm
  cases b with
  | false=>
   have hno:¬ (i:Int) ∈R:=fun hh=>by cases hm.1 hh
   obtain⟨n',ih⟩ :=aBX h R hR hmem t (i+1) n g2 k2 hn (by omega) (by omega)
   exact⟨n',h0.trans ((aVR p (aY p).nodes (aY p).funs (aY p).main (aY p).cons n i R (decide ((i:Int) ∈R)) (aE5 (aY p) R i hR) (by simp [hno]) sd).trans ih)⟩
  | true=>
   have hyes: (i:Int) ∈R:=hm.2 rfl
   obtain⟨n',ih⟩ :=aBX h R hR hmem t (i+1) (n+1) g2 k2 (by omega) (by omega) (by omega)
   obtain⟨r,hr⟩ :∃r,p.funs[i]?=some r:= ⟨_,List.getElem?_eq_getElem g3⟩
   obtain⟨q0,q1,q2⟩ :=aBS h g1
   rw [if_pos rfl]at q2
   rw [k1]at q1
   cases q1
   have hreach:=rY h g1 hr
   rw [q2]at hreach
   have hfT: (aY p).funs[n.toNat]?=some (cB (nR p) r) :=by
    show((fsT p).map _)[n.toNat]?=_
    rw [List.getElem?_map,hreach.2];rfl
   have hrT:=List.mem_of_getElem? hreach.2
   have hrm:=List.mem_of_getElem? hr
   have a1:=aE3 h (f:= (i:Int)) (r:=r) (by omega) (by rw [Int.toNat_natCast];exact hr)
   have a2:=aE3 g hn hfT
   rw [aNz h hrT]at a2
   have a3:=aEP (lC p r) (aQr h hrm)
   by_cases hmn: (i:Int) =p.main
   · have hmain: (aY p).main=n:=by
      show eX (zW p) p.main=n
      rw [←hmn,q2]
     exact⟨n',h0.trans ((aVS p (aY p).nodes (aY p).funs (aY p).main (aY p).cons n i R (decide ((i:Int) ∈R)) (lC p r) (lC p r) true (aE5 (aY p) R i hR) (by simp [hyes]) (by simp [hmn]) (by simp [hmain]) a1 a2 a3 (by simp) sd sd).trans ih)⟩
   ·exact⟨n',h0.trans ((aVT p (aY p).nodes (aY p).funs (aY p).main (aY p).cons n i R (decide ((i:Int) ∈R)) (lC p r) (lC p r) true (aE5 (aY p) R i hR) (by simp [hyes]) (by simp [hmn]) a1 a2 a3 (by simp) sd sd).trans ih)⟩
end
theorem lTrimmed_calls (p:Prog)(hk:aE PP 9 [] (.bool true))(w:World)(cargs:List Value)(hv:VRs (embOf w) [Prog.av p] cargs) :
  Calls Tryz.prog 5 ⟨cargs⟩ w fun e w'=>e= .returned (.bool true) ∧GrownO w w':=by
 have hs0:LeadsM PP 0 (start PP 5 [Prog.av p]).as (aLk p).as:=by
  have e: (start PP 5 [Prog.av p]).as= (aLk p).as:=by kernel_rfl
  rw [e]
  exact LeadsM.refl _
 have h0:=tX p
 cases hs:aP p with
 | false=>
  rw [hs]at h0
  exact aVG p false true h0 (by rfl) hk hs0 w cargs hv
 | true=>
  rw [hs]at h0
  have h1:=aAP p hs
  cases hf:bJ p with
  | false=>
   rw [hf]at h1
   exact aVH p true false true h0 (by rfl) h1 (by rfl) hk hs0 w cargs hv
  | true=>
   rw [hf]at h1
   have h:=Fs.of hs hf
   have g:=lQ h
   have t1:=aLf h
   have t2:=aLf g
   rw [aQp h]at t2
   have s1:=tX (aY p)
   rw [g.sm]at s1
   have f1:=aAP (aY p) g.sm
   rw [g.fo]at f1
   have c1:=aEP (aY p) g.fitp
   have hfew:=aNA p
   have hm:=fX h.fo
   have hfs:=h.fine.fsmall
   obtain⟨b1,b2,b3⟩ :=aGJ h
   have hbl:=aVo h
   have w0:=aVI p true true (aY p) 0 true true (aY p) 0 true h0 (by rfl) h1 (by rfl) t1 (by rfl) s1 (by rfl) f1 (by rfl) (by simp;omega) (by simp [aY]) t2 (by rfl) c1 (by rfl)
   have w1:=aLl h (aY p) (p.funs.length+1) [p.main] 0 (by simp) (fun x hx=>by rw [List.mem_singleton.1 hx];exact hm) (Nat.zero_le _) (by omega)
   change LeadsM PP 0 _ (TC0 p (aY p) (((aCH p).length:Nat) :Int) (aCH p)).as at w1
   have w2:=aVK p (aY p).nodes (aY p).funs (aY p).main (aY p).cons ((aCH p).length:Int) (aCH p) (by simp) (by simp [hbl])
   have hbm:=aBb b1 b2
   obtain⟨n',w3⟩ :=aBX h (aCH p) (by omega) b3 (bT p) 0 0 rfl rfl (by omega) (by omega) (Nat.zero_le _)
   exact aVO p (aY p).nodes (aY p).funs (aY p).main (aY p).cons ((p.funs.length:Nat) :Int) n' (aCH p) true (by simp) hk (hs0.trans (w0.trans (w1.trans (w2.trans w3)))) w cargs hv
end
end Go.Hb
