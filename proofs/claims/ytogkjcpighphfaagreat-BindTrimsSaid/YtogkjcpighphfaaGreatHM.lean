/-
  OWN WORK (H14, V45, V87, V19, V67, Q2, H28, V88): a machine on abstract values, its soundness, ways through the text (the ways WRITTEN BY A PROGRAM), plain laws.
-/
import Derived.Test.YtogkjcpighphfaaGreatHF
import Derived.Test.YtogkjcpighphfaaGreatHK
import Derived.Test.YtogkjcpighphfaaGreatHL
set_option linter.unusedVariables false
set_option linter.unusedSimpArgs false
set_option linter.unusedSectionVars false
set_option maxRecDepth 100000
namespace Go.Hb
open Go.Proofs
noncomputable def rsI_c0 (a:List Int)(i5:Int) :TS:=
 {fr:={fn:=37,nt:=26,sl:=[(0,(iI a)),(1,(iI a)),(4,(bV false)),(5,(nI i5))],todo:=[.code (cd Tryz.f37 [1,1,0,1,0,0]),.inLoop (cd Tryz.f37 [1,1,0,1,0,0]),.inBlock 0,.code (cd Tryz.f37 [1,1,1])]},cs:=[],hp:=[],nb:=0}
theorem rsI_E_1 (a:List Int)(h0: ((a.length:Int) != (a.length:Int)) =false) :
  LeadsM PP 0 (start PP 37 [(iI a),(iI a)]).as (rsI_c0 a 0).as:=
 wW 0 [] [ql avI a,ql avI a,qp h0] [rn 8,aL a,rn 1,aL a,rn 2,bf 10,rn 9] trivial
theorem rsI_0_1 (a:List Int)(i5 y0:Int)(h0:decide (i5< (a.length:Int)) =true)(h1:0≤i5)(h2: ((a)[i5.toNat]?) =some y0)(h3: (y0 != y0) =false)(h4: (IntKind.i64.wrap (i5+ (1:Int))) = (i5+ (1:Int))) :
  LeadsM PP 0 (rsI_c0 a i5).as (rsI_c0 a (i5+ (1:Int))).as:=
 wW 0 [] [ql avI a,qp h0,qp h1,qg avI h2,qp h1,qg avI h2,qp h3,qp (congrArg (AV.int .i64) h4)] [rn 5,aL a,rn 2,bt 14,rn 5,.reg [.d,.d,.ans (.idx (avI y0)),.d,.d,.d,.ans (.idx (avI y0)),.d,.d],bf 25,rn 6,sI 16 (i5+ (1:Int)),rn 3] trivial
theorem rsI_0_2 (a:List Int)(i5:Int)(h0:decide (i5< (a.length:Int)) =false) :
  Ends PP 0 (rsI_c0 a i5).as (.ret (bV true)) (hpOf [] 0) :=
 wE 0 [] [ql avI a,qp h0] [rn 5,aL a,rn 2,bf 14,rn 7] trivial
noncomputable def rsP_c0 (q_form q_n:Int)(q_text:Str)(q_parts:List Pat)(i5:Int) :TS:=
 {fr:={fn:=96,nt:=53,sl:=[(2,(.ptr 0 0)),(3,(.ptr 1 0)),(4,(bV false)),(5,(nI i5))],todo:=[.code (cd Tryz.f96 [1,1,0,1,0,0]),.inLoop (cd Tryz.f96 [1,1,0,1,0,0]),.inBlock 0,.code (cd Tryz.f96 [1,1,1])]},cs:=[],hp:=[(0,(.cells (putCells .leaf 0 [(nI q_form),(nI q_n),(avS q_text),(iP q_parts)]) 4 [] false),false),(1,(.cells (putCells .leaf 0 [(nI q_form),(nI q_n),(avS q_text),(iP q_parts)]) 4 [] false),false)],nb:=2}
theorem rsP_E_4 (q_form q_n:Int)(q_text:Str)(q_parts:List Pat)(h0: (q_form != q_form) =false)(h1: (q_n != q_n) =false)(h2: (!(strEq q_text.length (bytesNat q_text) q_text.length (bytesNat q_text))) =false)(h3: ((q_parts.length:Int) != (q_parts.length:Int)) =false) :
  LeadsM PP 0 (start PP 96 [(.agg [(nI q_form),(nI q_n),(avS q_text),(iP q_parts)]),(.agg [(nI q_form),(nI q_n),(avS q_text),(iP q_parts)])]).as (rsP_c0 q_form q_n q_text q_parts 0).as:=
 wW 2 [0,1] [qp h0,qp h1,qp h2,qlP q_parts,qlP q_parts,qp h3] [rn 15,bf 11,rn 7,bf 18,rn 7,bf 25,rn 2,aL q_parts,rn 2,aL q_parts,rn 3,bf 33,rn 9] trivial
theorem rsP_0_1 (q_form q_n:Int)(q_text:Str)(q_parts:List Pat)(i5 y_form0 y_n1:Int)(y_text2:Str)(y_parts3:List Pat)(y4:Bool)(h0:decide (i5< (q_parts.length:Int)) =true)(h1:0≤i5)(h2: ((q_parts)[i5.toNat]?) =some (Pat.mk y_form0 y_n1 y_text2 y_parts3))(h3:Pure PP 96 [(.agg [(nI y_form0),(nI y_n1),(avS y_text2),(iP y_parts3)]),(.agg [(nI y_form0),(nI y_n1),(avS y_text2),(iP y_parts3)])] (bV y4))(h4: (!y4) =false)(h5: (IntKind.i64.wrap (i5+ (1:Int))) = (i5+ (1:Int))) :
  LeadsM PP 0 (rsP_c0 q_form q_n q_text q_parts i5).as (rsP_c0 q_form q_n q_text q_parts (i5+ (1:Int))).as:=
 wW 2 [0,1] [qlP q_parts,qp h0,qp h1,qgP h2,qp h1,qgP h2,qp h3,qp h4,qp (congrArg (AV.int .i64) h5)] [rn 6,aL q_parts,rn 2,bt 38,rn 5,.reg [.d,.d,.d,.ans (.idx (Pat.av (Pat.mk y_form0 y_n1 y_text2 y_parts3))),.d,.d,.d,.d,.ans (.idx (Pat.av (Pat.mk y_form0 y_n1 y_text2 y_parts3))),.d,.pure (bV y4),.d],bf 52,rn 6,sI 40 (i5+ (1:Int)),rn 3] trivial
theorem rsP_0_2 (q_form q_n:Int)(q_text:Str)(q_parts:List Pat)(i5:Int)(h0:decide (i5< (q_parts.length:Int)) =false) :
  Ends PP 0 (rsP_c0 q_form q_n q_text q_parts i5).as (.ret (bV true)) (hpOf [] 0) :=
 wE 2 [] [qlP q_parts,qp h0] [rn 6,aL q_parts,rn 2,bf 38,rn 7] trivial
noncomputable def rsN_c0 (x:Node)(i5:Int) :TS:=
 {fr:={fn:=43,nt:=54,sl:=[(2,(.ptr 0 0)),(3,(.ptr 1 0)),(4,(bV false)),(5,(nI i5))],todo:=[.code (cd Tryz.f43 [1,1,0,1,0,0]),.inLoop (cd Tryz.f43 [1,1,0,1,0,0]),.inBlock 0,.code (cd Tryz.f43 [1,1,1])]},cs:=[],hp:=[(0,(.cells (putCells .leaf 0 [(nI x.op),(nI x.n),(iI x.kids),(iP x.pats)]) 4 [] false),false),(1,(.cells (putCells .leaf 0 [(nI x.op),(nI x.n),(iI x.kids),(iP x.pats)]) 4 [] false),false)],nb:=2}
theorem rsN_E_4 (x:Node)(y0:Bool)(h0: (x.op != x.op) =false)(h1: (x.n != x.n) =false)(h2:Pure PP 37 [(iI x.kids),(iI x.kids)] (bV y0))(h3: (!y0) =false)(h4: ((x.pats.length:Int) != (x.pats.length:Int)) =false) :
  LeadsM PP 0 (start PP 43 [(Node.av x),(Node.av x)]).as (rsN_c0 x 0).as:=
 wW 2 [0,1] [qp h0,qp h1,qp h2,qp h3,qlP x.pats,qlP x.pats,qp h4] [rn 15,bf 11,rn 7,bf 18,rn 4,pB y0,rn 3,bf 26,rn 2,aL x.pats,rn 2,aL x.pats,rn 3,bf 34,rn 9] trivial
theorem rsN_0_1 (x:Node)(i5 y_form0 y_n1:Int)(y_text2:Str)(y_parts3:List Pat)(y4:Bool)(h0:decide (i5< (x.pats.length:Int)) =true)(h1:0≤i5)(h2: ((x.pats)[i5.toNat]?) =some (Pat.mk y_form0 y_n1 y_text2 y_parts3))(h3:Pure PP 96 [(.agg [(nI y_form0),(nI y_n1),(avS y_text2),(iP y_parts3)]),(.agg [(nI y_form0),(nI y_n1),(avS y_text2),(iP y_parts3)])] (bV y4))(h4: (!y4) =false)(h5: (IntKind.i64.wrap (i5+ (1:Int))) = (i5+ (1:Int))) :
  LeadsM PP 0 (rsN_c0 x i5).as (rsN_c0 x (i5+ (1:Int))).as:=
 wW 2 [0,1] [qlP x.pats,qp h0,qp h1,qgP h2,qp h1,qgP h2,qp h3,qp h4,qp (congrArg (AV.int .i64) h5)] [rn 6,aL x.pats,rn 2,bt 39,rn 5,.reg [.d,.d,.d,.ans (.idx (Pat.av (Pat.mk y_form0 y_n1 y_text2 y_parts3))),.d,.d,.d,.d,.ans (.idx (Pat.av (Pat.mk y_form0 y_n1 y_text2 y_parts3))),.d,.pure (bV y4),.d],bf 53,rn 6,sI 41 (i5+ (1:Int)),rn 3] trivial
theorem rsN_0_2 (x:Node)(i5:Int)(h0:decide (i5< (x.pats.length:Int)) =false) :
  Ends PP 0 (rsN_c0 x i5).as (.ret (bV true)) (hpOf [] 0) :=
 wE 2 [] [qlP x.pats,qp h0] [rn 6,aL x.pats,rn 2,bf 39,rn 7] trivial
noncomputable def rsS_c0 (p:Prog)(i5:Int) :TS:=
 {fr:={fn:=19,nt:=75,sl:=[(2,(.ptr 0 0)),(3,(.ptr 1 0)),(4,(bV false)),(5,(nI i5))],todo:=[.code (cd Tryz.f19 [1,1,0,1,0,0]),.inLoop (cd Tryz.f19 [1,1,0,1,0,0]),.inBlock 0,.code (cd Tryz.f19 [1,1,1])]},cs:=[],hp:=[(0,(.cells (putCells .leaf 0 [(iN p.nodes),(iI p.funs),(nI p.main),(iC p.cons)]) 4 [] false),false),(1,(.cells (putCells .leaf 0 [(iN p.nodes),(iI p.funs),(nI p.main),(iC p.cons)]) 4 [] false),false)],nb:=2}
noncomputable def rsS_c1 (p:Prog)(i6:Int) :TS:=
 {fr:={fn:=19,nt:=75,sl:=[(2,(.ptr 0 0)),(3,(.ptr 1 0)),(4,(bV false)),(6,(nI i6))],todo:=[.code (cd Tryz.f19 [1,1,1,0,1,0,0]),.inLoop (cd Tryz.f19 [1,1,1,0,1,0,0]),.inBlock 2,.code (cd Tryz.f19 [1,1,1,1])]},cs:=[],hp:=[(0,(.cells (putCells .leaf 0 [(iN p.nodes),(iI p.funs),(nI p.main),(iC p.cons)]) 4 [] false),false),(1,(.cells (putCells .leaf 0 [(iN p.nodes),(iI p.funs),(nI p.main),(iC p.cons)]) 4 [] false),false)],nb:=2}
theorem rsS_E_4 (p:Prog)(y0:Bool)(h0: ((p.nodes.length:Int) != (p.nodes.length:Int)) =false)(h1:Pure PP 37 [(iI p.funs),(iI p.funs)] (bV y0))(h2: (!y0) =false)(h3: (p.main != p.main) =false)(h4: ((p.cons.length:Int) != (p.cons.length:Int)) =false) :
  LeadsM PP 0 (start PP 19 [(Prog.av p),(Prog.av p)]).as (rsS_c0 p 0).as:=
 wW 2 [0,1] [ql Node.av p.nodes,ql Node.av p.nodes,qp h0,qp h1,qp h2,qp h3,ql Con.av p.cons,ql Con.av p.cons,qp h4] [rn 11,aL p.nodes,rn 2,aL p.nodes,rn 2,bf 14,rn 4,pB y0,rn 3,bf 22,rn 7,bf 29,rn 2,aL p.cons,rn 2,aL p.cons,rn 3,bf 37,rn 9] trivial
theorem rsS_0_1 (p:Prog)(i5:Int)(y0:Con)(h0:decide (i5< (p.cons.length:Int)) =true)(h1:0≤i5)(h2: ((p.cons)[i5.toNat]?) =some y0)(h3: (!((strEq y0.name.length (bytesNat y0.name) y0.name.length (bytesNat y0.name)) && ((y0.args==y0.args) &&true))) =false)(h4: (IntKind.i64.wrap (i5+ (1:Int))) = (i5+ (1:Int))) :
  LeadsM PP 0 (rsS_c0 p i5).as (rsS_c0 p (i5+ (1:Int))).as:=
 wW 2 [0,1] [ql Con.av p.cons,qp h0,qp h1,qg Con.av h2,qp h1,qg Con.av h2,qp h3,qp (congrArg (AV.int .i64) h4)] [rn 6,aL p.cons,rn 2,bt 42,rn 5,.reg [.d,.d,.d,.ans (.idx (Con.av y0)),.d,.d,.d,.d,.ans (.idx (Con.av y0)),.d,.d],bf 55,rn 6,sI 44 (i5+ (1:Int)),rn 3] trivial
theorem rsS_0_2 (p:Prog)(i5:Int)(h0:decide (i5< (p.cons.length:Int)) =false) :
  LeadsM PP 0 (rsS_c0 p i5).as (rsS_c1 p 0).as:=
 wW 2 [0,1] [ql Con.av p.cons,qp h0] [rn 6,aL p.cons,rn 2,bf 42,rn 9] trivial
theorem rsS_1_1 (p:Prog)(i6:Int)(y0:Node)(y1:Bool)(h0:decide (i6< (p.nodes.length:Int)) =true)(h1:0≤i6)(h2: ((p.nodes)[i6.toNat]?) =some y0)(h3:Pure PP 43 [(Node.av y0),(Node.av y0)] (bV y1))(h4: (!y1) =false)(h5: (IntKind.i64.wrap (i6+ (1:Int))) = (i6+ (1:Int))) :
  LeadsM PP 0 (rsS_c1 p i6).as (rsS_c1 p (i6+ (1:Int))).as:=
 wW 2 [0,1] [ql Node.av p.nodes,qp h0,qp h1,qg Node.av h2,qp h1,qg Node.av h2,qp h3,qp h4,qp (congrArg (AV.int .i64) h5)] [rn 6,aL p.nodes,rn 2,bt 60,rn 5,.reg [.d,.d,.d,.ans (.idx (Node.av y0)),.d,.d,.d,.d,.ans (.idx (Node.av y0)),.d,.pure (bV y1),.d],bf 74,rn 6,sI 62 (i6+ (1:Int)),rn 3] trivial
theorem rsS_1_2 (p:Prog)(i6:Int)(h0:decide (i6< (p.nodes.length:Int)) =false) :
  Ends PP 0 (rsS_c1 p i6).as (.ret (bV true)) (hpOf [] 0) :=
 wE 2 [] [ql Node.av p.nodes,qp h0] [rn 6,aL p.nodes,rn 2,bf 60,rn 7] trivial
end Go.Hb
namespace Go.Hb
open Go.Proofs
theorem strEq_refl (s:Str) :strEq (List.length s) (bytesNat s) (List.length s) (bytesNat s) =true:=by rw [strEq_eq];simp
theorem rsI_loop (a:List Int)(ha:a.length<1000000) :∀ (t:List Int) (i:Nat),a.drop i=t→Ends PP 0 (rsI_c0 a (i:Int)).as (.ret (.bool true)) (hpOf [] 0)
 | [],i,h=>by
  have:=dropN h
  exact rsI_0_2 a i sd
 | y::t,i,h=>by
  obtain⟨g1,g2,g3⟩ :=dropC h
  have h1:=rsI_0_1 a i y sd sd sd (by simp) sd
  exact h1.ends (rsI_loop a ha t (i+1) g2)
theorem rsI_pure (a:List Int)(ha:a.length<1000000) :Pure PP 37 [.ilst 1 (List.map avI a) false,.ilst 1 (List.map avI a) false] (.bool true) :=
 pure_at (by kernel_rfl) rfl rfl ((rsI_E_1 a (by simp)).ends (rsI_loop a ha a 0 rfl))
theorem rsP_loop (f n:Int)(s:Str)(ps:List Pat)(hl:ps.length<1000000)(ih:∀p∈ps,Pure PP 96 [Pat.av p,Pat.av p] (.bool true)) :∀ (t:List Pat) (i:Nat),ps.drop i=t→Ends PP 0 (rsP_c0 f n s ps (i:Int)).as (.ret (.bool true)) (hpOf [] 0)
 | [],i,h=>by
  have:=dropN h
  exact rsP_0_2 f n s ps i sd
 | .mk f1 n1 s1 ps1::t,i,h=>by
  obtain⟨g1,g2,g3⟩ :=dropC h
  have h1:=rsP_0_1 f n s ps i f1 n1 s1 ps1 true sd sd sd (ih (.mk f1 n1 s1 ps1) (List.mem_of_getElem? g1)) rfl sd
  exact h1.ends (rsP_loop f n s ps hl ih t (i+1) g2)
mutual
theorem rsP_pure :∀ (q:Pat),psize q<1000000→Pure PP 96 [Pat.av q,Pat.av q] (.bool true)
 | .mk f n s ps,h=>by
  simp only [psize]at h
  have:=psizes_len ps
  exact pure_at (by kernel_rfl) (by simp [AV.keylessL,pat_kl]) rfl ((rsP_E_4 f n s ps (by simp) (by simp) (by rw [strEq_refl];rfl) (by simp)).ends (rsP_loop f n s ps (by omega) (rsP_all ps (by omega)) ps 0 rfl))
theorem rsP_all :∀ (ps:List Pat),psizes ps<1000000→∀p∈ps,Pure PP 96 [Pat.av p,Pat.av p] (.bool true)
 | [],_,p,hp=>by cases hp
 | q::ps,h,p,hp=>by
  simp only [psizes]at h
  rcases List.mem_cons.1 hp with e|hp
  ·rw [e];exact rsP_pure q (by omega)
  ·exact rsP_all ps (by omega) p hp
end
theorem rsN_loop (x:Node)(hl:x.pats.length<1000000)(ih:∀p∈x.pats,Pure PP 96 [Pat.av p,Pat.av p] (.bool true)) :∀ (t:List Pat) (i:Nat),x.pats.drop i=t→Ends PP 0 (rsN_c0 x (i:Int)).as (.ret (.bool true)) (hpOf [] 0)
 | [],i,h=>by
  have:=dropN h
  exact rsN_0_2 x i sd
 | .mk f1 n1 s1 ps1::t,i,h=>by
  obtain⟨g1,g2,g3⟩ :=dropC h
  have h1:=rsN_0_1 x i f1 n1 s1 ps1 true sd sd sd (ih (.mk f1 n1 s1 ps1) (List.mem_of_getElem? g1)) rfl sd
  exact h1.ends (rsN_loop x hl ih t (i+1) g2)
def fitN (x:Node) :Prop:=x.kids.length<1000000∧psizes x.pats<1000000
structure FitP (q:Prog) :Prop where
 nodes:q.nodes.length≤1000000
 funs:q.funs.length<1000000
 cons:q.cons.length<1000000
 node:∀x∈q.nodes,fitN x
theorem rsN_pure (x:Node)(h:fitN x) :Pure PP 43 [Node.av x,Node.av x] (.bool true) :=by
 have:=psizes_len x.pats
 have h1:=h.1
 have h2:=h.2
 exact pure_at (by kernel_rfl) (by simp [AV.keylessL,Node.av,AV.keyless]) rfl ((rsN_E_4 x true (by simp) (by simp) (rsI_pure x.kids h.1) rfl (by simp)).ends (rsN_loop x (by omega) (rsP_all x.pats h.2) x.pats 0 rfl))
theorem rsS_1 (p:Prog)(hp:FitP p) :∀ (t:List Node) (i:Nat),p.nodes.drop i=t→Ends PP 0 (rsS_c1 p (i:Int)).as (.ret (.bool true)) (hpOf [] 0)
 | [],i,h=>by
  have:=dropN h
  exact rsS_1_2 p i sd
 | x::t,i,h=>by
  obtain⟨g1,g2,g3⟩ :=dropC h
  have hn:=hp.nodes
  have h1:=rsS_1_1 p i x true sd sd sd (rsN_pure x (hp.node x (List.mem_of_getElem? g1))) rfl sd
  exact h1.ends (rsS_1 p hp t (i+1) g2)
theorem rsS_0 (p:Prog)(hp:FitP p) :∀ (t:List Con) (i:Nat),p.cons.drop i=t→Ends PP 0 (rsS_c0 p (i:Int)).as (.ret (.bool true)) (hpOf [] 0)
 | [],i,h=>by
  have:=dropN h
  exact(rsS_0_2 p i sd).ends (rsS_1 p hp p.nodes 0 rfl)
 | c::t,i,h=>by
  obtain⟨g1,g2,g3⟩ :=dropC h
  have hn:=hp.cons
  have h1:=rsS_0_1 p i c sd sd sd (by rw [strEq_refl];simp) sd
  exact h1.ends (rsS_0 p hp t (i+1) g2)
theorem rSame_pure (p:Prog)(hp:FitP p) :Pure PP 19 [Prog.av p,Prog.av p] (.bool true) :=
 pure_at (by kernel_rfl) (by simp [AV.keylessL,Prog.av,AV.keyless]) rfl ((rsS_E_4 p true (by simp) (rsI_pure p.funs hp.funs) rfl (by simp) (by simp)).ends (rsS_0 p hp p.cons 0 rfl))
theorem pure_weak {f:Nat}{args:List AV}{v v':AV}(h:Pure PP f args v)(hv:∀ (E:Emb) (cv:Value),VR E v cv→VR E v' cv) :Pure PP f args v':=fun hh=>by
 obtain⟨g,hg,he⟩ :=h hh
 exact⟨g,hg,ends_weak he hv⟩
theorem vr_errT {E:Emb}{e:Int}{cv:Value}(h:VR E (.tup [errProg,.int .i64 e]) cv) :VR E (.tup [Prog.av ⟨[],[],0,[]⟩,.int .i64 e]) cv:=by
 simp only [VR]at h ⊢
 obtain⟨us,h1,h2⟩ :=h
 obtain⟨u,us',rfl,h3,h4⟩ :=h2.cons_inv
 simp only [errProg,VR]at h3
 obtain⟨ws,rfl,h5⟩ :=h3
 obtain⟨a1,w1,rfl,c1,h5⟩ :=h5.cons_inv
 obtain⟨a2,w2,rfl,c2,h5⟩ :=h5.cons_inv
 obtain⟨a3,w3,rfl,c3,h5⟩ :=h5.cons_inv
 obtain⟨a4,w4,rfl,c4,h5⟩ :=h5.cons_inv
 refine⟨_,h1,VRs.cons ?_ h4⟩
 simp only [Prog.av,VR]
 exact⟨_,rfl,VRs.cons (vr_ilst_weak c1) (VRs.cons (vr_ilst_weak c2) (VRs.cons c3 (VRs.cons (vr_ilst_weak c4) h5)))⟩
mutual
theorem cPat_size (mc:List (Int×Int)) :∀q:Pat,psize (cPat mc q) =psize q
 | .mk f n t ps=>by rw [cPat,psize,psize,cPats_size mc ps]
theorem cPats_size (mc:List (Int×Int)) :∀ps:List Pat,psizes (cPats mc ps) =psizes ps
 | [] =>rfl
 |q::ps=>by rw [cPats,psizes,psizes,cPat_size mc q,cPats_size mc ps]
end
theorem wB_mem {p:Prog}{mf mc:List (Int×Int)}{to:List Int}:∀ (f:Nat) (a:Int),∀y∈wB p mf mc to f a,∃ (i:Nat) (x:Node),p.nodes[i]?=some x∧y=bNode mf mc to x
 |0,a,y,hy=>by cases hy
 | f +1,a,y,hy=>by
  rw [wB]at hy
  cases hx:p.nodes[a.toNat]? with
  |none=>rw [hx]at hy;cases hy
  | some x=>
   rw [hx]at hy
   rcases List.mem_cons.1 hy with e|hy
   ·exact⟨_,x,hx,e⟩
   · obtain⟨l,hl,hy⟩ :=List.mem_flatten.1 hy
     obtain⟨k,_,rfl⟩ :=List.mem_map.1 hl
     exact wB_mem f k y hy
end Go.Hb
namespace Go.Hb
open Go.Proofs
set_option maxHeartbeats 1000000
theorem formed_main {p:Prog}(hf:refFormed p=true) :0≤p.main∧p.main<p.funs.length:=by
 simp only [refFormed,Bool.and_eq_true,progHead,inB_iff]at hf
 omega
theorem formed_all {p:Prog}(hs:smallProg p=true)(hf:refFormed p=true) :∀m:Nat,m<p.nodes.length→ (m:Int) ∈ ((p.funs.map (pre p p.nodes.length)).flatten) :=fun m hm=>by
 obtain⟨h1,h2,h3,_⟩ :=formed_pre hs hf
 refine Classical.byContradiction fun hn=>?_
 have hnd: ((m:Int) :: (p.funs.map (pre p p.nodes.length)).flatten).Nodup:=List.nodup_cons.2 ⟨hn,h1⟩
 have hr:∀x∈ (m:Int) :: (p.funs.map (pre p p.nodes.length)).flatten,0≤x∧x<p.nodes.length:=fun x hx=>by
  rcases List.mem_cons.1 hx with rfl|hx
  ·omega
  ·exact h3 x hx
 have hnat: (((m:Int) :: (p.funs.map (pre p p.nodes.length)).flatten).map Int.toNat).Nodup:=by
  refine List.pairwise_map.2 (hnd.imp_of_mem fun {a b} ha hb hne e=>hne ?_)
  have:=hr a ha
  have:=hr b hb
  omega
 have:=nodup_len p.nodes.length _ hnat (fun x hx=>by
  obtain⟨y,hy,rfl⟩ :=List.mem_map.1 hx
  have:=hr y hy
  omega)
 simp only [List.length_map,List.length_cons,h2]at this
 omega
def KeysND (m:List (Int×Bool)) :Prop:= (m.map Prod.fst).Nodup
theorem mIns_keys (k:Int)(v:Bool) :∀m:List (Int×Bool),(mIns k v m).map Prod.fst=if k∈m.map Prod.fst then m.map Prod.fst else m.map Prod.fst++ [k]
 | [] =>by simp [mIns]
 | e ::m=>by
  simp only [mIns]
  by_cases h:k=e.1
  · rw [if_pos h,if_pos (by rw [List.map_cons,h];exact List.mem_cons_self ..)]
    simp [h]
  · rw [if_neg h,List.map_cons,List.map_cons,mIns_keys k v m]
    by_cases h2:k∈m.map Prod.fst
    ·rw [if_pos h2,if_pos (List.mem_cons_of_mem _ h2)]
    ·rw [if_neg h2,if_neg (by simp only [List.mem_cons,not_or];exact⟨h,h2⟩),List.cons_append]
theorem keysND_ins {m:List (Int×Bool)}(h:KeysND m)(k:Int)(v:Bool) :KeysND (mIns k v m) :=by
 unfold KeysND at *
 rw [mIns_keys]
 split
 ·exact h
 · rename_i hn
   exact List.nodup_append.2 ⟨h,by simp,fun a ha b hb e=>hn (by rw [List.mem_singleton.1 hb]at e;rw [←e];exact ha)⟩
theorem rFold_keys {g:Int→List (Int×Bool) →Option (List (Int×Bool))}(hg:∀k m m',KeysND m→g k m=some m'→KeysND m') :∀ (t:List Int) (m m':List (Int×Bool)),KeysND m→rFold g t m=some m'→KeysND m'
 | [],m,m',h,e=>by cases e;exact h
 | k ::t,m,m',h,e=>by
  simp only [rFold]at e
  split at e
  · rename_i m1 h1
    exact rFold_keys hg t m1 m' (hg k m m1 h h1) e
  ·cases e
theorem reachD_keys (mn:List (Int×List Int)) :∀ (k:Nat) (f:Int) (m m':List (Int×Bool)),KeysND m→reachD mn k f m=some m'→KeysND m'
 |0,_,_,_,_,e=>by cases e
 | k+1,f,m,m',h,e=>by
  simp only [reachD]at e
  split at e
  ·cases e;exact h
  ·exact rFold_keys (reachD_keys mn k) _ _ _ (keysND_ins h f true) e
theorem mGet_key (k:Int) :∀m:List (Int×Bool),(mGet k m).isSome=true↔k∈m.map Prod.fst
 | [] =>by simp [mGet]
 | e::m=>by
  simp only [mGet,List.map_cons,List.mem_cons]
  by_cases h:k=e.1
  ·simp [h]
  ·rw [if_neg h,mGet_key k m];simp [h]
theorem trueIdx_sorted :∀ (is:List Bool) (b:Int),(trueIdx is b).Pairwise (fun x y=>x<y)
 | [],_=>List.Pairwise.nil
 | c::t,b=>by
  simp only [trueIdx]
  split
  ·exact List.Pairwise.cons (fun x hx=>by have:=trueIdx_ge t (b+1) x hx;omega) (trueIdx_sorted t (b+1))
  ·exact trueIdx_sorted t (b+1)
theorem trueIdx_lt :∀ (is:List Bool) (b:Int),∀x∈trueIdx is b,x<b+is.length
 | [],b,x,h=>by simp [trueIdx]at h
 | c ::t,b,x,h=>by
  simp only [trueIdx]at h
  split at h
  · rcases List.mem_cons.1 h with rfl|h
    ·simp only [List.length_cons];omega
    ·have:=trueIdx_lt t (b+1) x h;simp only [List.length_cons];omega
  ·have:=trueIdx_lt t (b+1) x h;simp only [List.length_cons];omega
theorem sorted_keys {m:List (Int×Bool)}(hm:KeysND m){is:List Bool}(h:∀x:Int,x∈m.map Prod.fst↔x∈trueIdx is 0) : (m.map Prod.fst).mergeSort (fun x y=>decide (x≤y)) =trueIdx is 0:=by
 have tr:∀a b c:Int,decide (a≤b) =true→decide (b≤c) =true→decide (a≤c) =true:=fun a b c h1 h2=>by simp only [decide_eq_true_eq]at *;omega
 have to:∀a b:Int,(decide (a≤b) ||decide (b≤a)) =true:=fun a b=>by simp only [Bool.or_eq_true,decide_eq_true_eq];omega
 have hs:=trueIdx_sorted is 0
 have hnd: (trueIdx is 0).Nodup:=hs.imp (fun h e=>by omega)
 have hperm: (m.map Prod.fst).Perm (trueIdx is 0) := (List.perm_ext_iff_of_nodup hm hnd).2 h
 refine List.Perm.eq_of_pairwise (le:=fun a b=>decide (a≤b) =true) (fun a b _ _ h1 h2=>?_) (List.pairwise_mergeSort tr to _) (hs.imp fun h=>?_) ((List.mergeSort_perm _ _).trans hperm)
 ·simp only [decide_eq_true_eq]at *;omega
 ·simp only [decide_eq_true_eq];omega
def zipM :List Int→Int→List (Int×Int)
 | [],_=>[]
 |a::t,i=> (i,a) ::zipM t (i+1)
theorem zipM_get :∀ (F:List Int) (b:Int) (j:Nat),mGet (b+ (j:Int)) (zipM F b) =F[j]?
 | [],_,_=>by simp [zipM,mGet]
 |a::t,b,0=>by simp [zipM,mGet]
 | a::t,b,j+1=>by
  simp only [zipM,mGet]
  rw [if_neg (by omega),show b+ ((j+1:Nat) :Int) = (b+1) + (j:Int)by omega,zipM_get t (b+1) j]
  simp
theorem rankL_bd :∀ (is:List Bool) (n:Int) (j:Nat) (r:Int),(rankL is n)[j]?=some r→n≤r∧r≤n+is.length
 | [],n,j,r,h=>by simp [rankL]at h
 | b::t,n,0,r,h=>by
  simp only [rankL,List.getElem?_cons_zero,Option.some.injEq]at h
  subst h
  simp only [List.length_cons];omega
 | b::t,n,j+1,r,h=>by
  simp only [rankL,List.getElem?_cons_succ]at h
  have:=rankL_bd t _ j r h
  simp only [List.length_cons]
  split at this<;>omega
theorem keepB_sub {α:Type}:∀ (is:List Bool) (l:List α),(keepB is l).Sublist l
 | [],l=>by simp [keepB]
 |true::bs,[] =>by simp [keepB]
 |false::bs,[] =>by simp [keepB]
 |true::bs,x::t=>by rw [keepB];exact(keepB_sub bs t).cons_cons x
 |false::bs,x::t=>by rw [keepB];exact(keepB_sub bs t).cons x
theorem sub_flat {α β:Type}(f:α→List β) :∀ {l l':List α},l.Sublist l'→ ((l.map f).flatten).Sublist ((l'.map f).flatten) :=fun h=>by
 induction h with
 |slnil=>exact List.Sublist.refl _
 |cons a _ ih=>rw [List.map_cons,List.flatten_cons];exact ih.trans (List.sublist_append_right _ _)
 |cons_cons a _ ih=>rw [List.map_cons,List.flatten_cons,List.map_cons,List.flatten_cons];exact(List.Sublist.refl _).append ih
theorem keepB_mem {α:Type}:∀ (is:List Bool) (l:List α) (x:α),x∈keepB is l→∃d:Nat,is[d]?=some true∧l[d]?=some x
 | [],l,x,h=>by simp [keepB]at h
 |true::bs,[],x,h=>by simp [keepB]at h
 |false::bs,[],x,h=>by simp [keepB]at h
 | true::bs,y::t,x,h=>by
  rw [keepB]at h
  rcases List.mem_cons.1 h with rfl|h
  ·exact⟨0,rfl,rfl⟩
  · obtain⟨d,h1,h2⟩ :=keepB_mem bs t x h
    exact⟨d+1,h1,h2⟩
 | false::bs,y::t,x,h=>by
  rw [keepB]at h
  obtain⟨d,h1,h2⟩ :=keepB_mem bs t x h
  exact⟨d+1,h1,h2⟩
theorem pnodes_fit {p:Prog}(hs:smallProg p=true)(hf:refFormed p=true) :∀ (i:Nat) (x:Node),p.nodes[i]?=some x→fitN x:=fun i x hx=>by
 simp only [smallProg,Bool.and_eq_true,decide_eq_true_eq]at hs
 obtain⟨⟨⟨⟨s1,s2⟩,s3⟩,s4⟩,s5⟩ :=hs
 have hs':smallProg p=true:=by simp only [smallProg,Bool.and_eq_true,decide_eq_true_eq];exact⟨⟨⟨⟨s1,s2⟩,s3⟩,s4⟩,s5⟩
 obtain⟨_,_,_,hnode⟩ :=formed_pre hs' hf
 have h10:=List.all_eq_true.1 s5 x (List.mem_of_getElem? hx)
 simp only [smallNode,Bool.and_eq_true,decide_eq_true_eq]at h10
 have:= (node_both s2 (hnode i x hx) (by omega)).1.1
 exact⟨by omega,this⟩
theorem name_low {p:Prog}(h320:p.funs.length≤320){x:Node}(h:nodeOk p x=true)(h4:x.op=4)(h0:x.n<0) :0≤ -1-x.n∧ -1-x.n<p.funs.length:=by
 simp only [nodeOk,Bool.and_eq_true,nodeHead,nodeHead1,h4]at h
 have h1:=h.1.1.1
 simp [inB_iff]at h1
 omega
theorem trim_both {p:Prog}(hs:smallProg p=true) :∃ (q:Prog) (e:Int),FitP q∧Pure PP 22 [Prog.av p] (.tup [Prog.av q,.int .i64 e]) ∧Pure PP 23 [Prog.av p] (.tup [Prog.av q,.int .i64 e]) :=by
 have hss:=hs
 simp only [smallProg,Bool.and_eq_true,decide_eq_true_eq]at hss
 obtain⟨⟨⟨⟨s1,s2⟩,s3⟩,_⟩,s5⟩ :=hss
 have h10:=check_of hs
 have h33:=rFormed_pure p hs
 cases hf:refFormed p with
 | false=>
  rw [hf]at h10 h33
  exact⟨⟨[],[],0,[]⟩,2,⟨by simp,by simp,by simp,fun x hx=>by cases hx⟩,pure_weak (bTrim_err 2 (by omega) h10) (fun E cv h=>vr_errT h),pure_weak (rTrim_err h33) (fun E cv h=>vr_errT h)⟩
 | true =>
  rw [hf]at h10 h33
  have hp:=formed_fine hs hf
  obtain⟨hd,hlen,hin,hnode⟩ :=formed_pre hs hf
  have hall:=formed_all hs hf
  have hmain:=formed_main hf
  have hS:=formed_owns hf
  have ho:=formed_ownsP hs hf hnode hmain
  have hfit:=pnodes_fit hs hf
  have hnm:∀ (i:Nat) (x:Node),p.nodes[i]?=some x→x.op=4→x.n<0→ -1000000000≤x.n:=fun i x hx h4 h0=>by
   have:=name_low s2 (hnode i x hx) h4 h0
   omega
  have hrow:=fun(j g:Int) =>row_own hp hS hall hin (j:=j) (g:=g)
  have hpl:∀k∈p.funs,(pre p p.nodes.length k).length≤p.nodes.length:=fun k hk=>by
   have h1:= (sub_flat (pre p p.nodes.length) (List.singleton_sublist.2 hk)).length_le
   simp only [List.map_cons,List.map_nil,List.flatten_cons,List.flatten_nil,List.append_nil]at h1
   omega
  have hr:∀k∈p.funs,(nmP p p.nodes.length k).length≤1000000:=fun k hk=>by
   have:=nmP_len p p.nodes.length k
   have:=hpl k hk
   omega
  obtain⟨zl,hz⟩ :=reachD_some (mn:=mnOf p p.nodes.length 0 p.funs []) (n:=p.funs.length) (fun f g hg=>by
   obtain⟨i,x,hx,h4,h0,rfl,_⟩ := (hrow f g).1 hg
   exact name_low s2 (hnode i x hx) h4 h0) (p.funs.length+1) p.main [] hmain.1 hmain.2 (by have:=restM_top [] p.funs.length;omega)
  have hinz:∀x:Int,(mGet x zl).isSome=true↔0≤x∧ (reachR p)[x.toNat]?=some true:=fun x=>by
   have h1:=reachD_iff hz x
   have h2:=rea_both hp hS ho hall hin x
   have h3:=reachR_iff ho x.toNat
   rw [show((mGet x zl).isSome=true) =inM zl x from rfl,h1,h2]
   refine and_congr_right fun _=>?_
   rw [←h3]
   unfold inK
   rw [List.getD_eq_getElem?_getD]
   cases (reachR p)[x.toNat]? with
   |none=>simp
   |some b=>simp
  have his:=reachR_len p
  have hi:Pure PP 54 [PA p] (.ilst 1 (List.map avB (reachR p)) false) :=reach_pure hp ho
  generalize reachR p=is at hinz his hi
  have hkeep:∀ {α:Type} (l:List α),l.length=p.funs.length→keepM zl 0 l=keepB is l:=fun l hl=>keep_both zl l is 0 (by omega) (fun j _=>by
   rw [hinz,Nat.zero_add]
   simp)
  have hkz:∀x:Int,x∈zl.map Prod.fst↔x∈trueIdx is 0:=fun x=>by
   rw [←mGet_key,hinz]
   constructor
   · rintro⟨h0,h1⟩
     have:= (trueIdx_mem is 0 x.toNat).1 h1
     rwa [show(0:Int) + (x.toNat:Int) =x by omega]at this
   · intro h
     have h0:=trueIdx_ge is 0 x h
     refine⟨h0,(trueIdx_mem is 0 x.toNat).2 ?_⟩
     rwa [show(0:Int) + (x.toNat:Int) =x by omega]
  have hzn:KeysND zl:=reachD_keys _ _ _ [] _ List.nodup_nil hz
  have hsort:=sorted_keys hzn hkz
  have hti: (trueIdx is 0).length≤1000000:=by
   have h1:=nodup_len p.funs.length ((trueIdx is 0).map Int.toNat) (List.pairwise_map.2 ((trueIdx_sorted is 0).imp_of_mem fun {a b} ha hb h e=>by
    have:=trueIdx_ge is 0 a ha;have:=trueIdx_ge is 0 b hb;omega)) (fun x hx=>by
     obtain⟨y,hy,rfl⟩ :=List.mem_map.1 hx
     have:=trueIdx_ge is 0 y hy;have:=trueIdx_lt is 0 y hy;omega)
   rw [List.length_map]at h1
   omega
  have hzl:zl.length≤1000000:=by
   have h1:=congrArg List.length hsort
   rw [List.length_mergeSort,List.length_map]at h1
   omega
  have hK:∀ (h:Hp) (r:Nat),h.look r=some (MB zl) →SpecCC PP 51 [.map r] 50 h (.ilst 1 (List.map avI (trueIdx is 0)) false) h:=fun h r hb=>sorted_cc hzn (fun k hk=>by
   have hk:= (hkz k).1 hk
   have:=trueIdx_ge is 0 k hk;have:=trueIdx_lt is 0 k hk;omega) hzl hsort.symm h r hb
  have hrl:=rankL_len is 0
  have hz2:∀i:Int,0≤i→i<p.funs.length→ (rankL is 0)[i.toNat]?=some (mAt (zipM (rankL is 0) 0) i) :=fun i h0 h1=>by
   have h2:=zipM_get (rankL is 0) 0 i.toNat
   rw [show(0:Int) + (i.toNat:Int) =i by omega]at h2
   unfold mAt
   rw [h2,List.getElem?_eq_getElem (by omega)];rfl
  have hbd:∀i:Int,0≤i→i<p.funs.length→0≤mAt (zipM (rankL is 0) 0) i∧mAt (zipM (rankL is 0) 0) i≤1000000:=fun i h0 h1=>by
   have:=rankL_bd is 0 _ _ (hz2 i h0 h1)
   omega
  have hmf:∀i:Int,0≤i→i<p.funs.length→is[i.toNat]?=some true→mAt (numM (trueIdx is 0) 0 []) i=mAt (zipM (rankL is 0) 0) i:=fun i h0 h1 h2=>by
   have h3:=numM_rank is 0 0 [] i.toNat h2
   rw [show(0:Int) + (i.toNat:Int) =i by omega,hz2 i h0 h1]at h3
   show(mGet i _).getD 0=_
   rw [h3];rfl
  have hmf0:∀i:Int,0≤i→i<p.funs.length→0≤mAt (numM (trueIdx is 0) 0 []) i∧mAt (numM (trueIdx is 0) 0 []) i≤1000000:=fun i h0 h1=>by
   by_cases h2:is[i.toNat]?=some true
   ·rw [hmf i h0 h1 h2];exact hbd i h0 h1
   · have hn:i∉trueIdx is 0:=fun h=>h2 ((trueIdx_mem is 0 i.toNat).2 (by rwa [show(0:Int) + (i.toNat:Int) =i by omega]))
     unfold mAt
     rw [numM_off _ _ _ _ hn]
     simp [mGet]
  have hany:∀ (i:Nat) (x:Node),p.nodes[i]?=some x→_:=fun i x hx=>node_any (C:=numsL 0 p.cons.length) (mc:=sM p.cons.length) hz2 (same_sM _) hbd s2 (hnode i x hx) (by
   have h10:=List.all_eq_true.1 s5 x (List.mem_of_getElem? hx)
   simp only [smallNode,Bool.and_eq_true,decide_eq_true_eq]at h10
   omega)
  have hsub:=keepB_sub is p.funs
  have hsf:=sub_flat (pre p p.nodes.length) hsub
  obtain⟨to,n,hA,hM,hB⟩ :=some_agree hp (mf:=zipM (rankL is 0) 0) (mc:=sM p.cons.length) (F:=rankL is 0) (C:=numsL 0 p.cons.length) (fun i x hx=> (hany i x hx).1) (keepB is p.funs) (fun k hk=>hsub.subset hk) 0 (f:=p.nodes.length) (Nat.le_refl _) (hd.sublist hsf) (by have:=hsf.length_le;omega) (fun x hx=>hin x (hsf.subset hx))
  have hko:keepM zl 0 p.funs=keepB is p.funs:=hkeep p.funs rfl
  have hsame: (keepB is p.funs).map (wB p (zipM (rankL is 0) 0) (sM p.cons.length) to p.nodes.length) = (keepB is p.funs).map (wB p (numM (trueIdx is 0) 0 []) (sM p.cons.length) to p.nodes.length) :=by
   refine List.map_congr_left fun k hk=>?_
   obtain⟨d,hd1,hd2⟩ :=keepB_mem is p.funs k hk
   obtain⟨k0,k1⟩ :=hp.funs k (List.mem_of_getElem? hd2)
   refine wB_same hp p.nodes.length k k0 k1 (by omega) (fun x hx y hy=>?_)
   unfold bN
   split
   · rename_i h4
     split
     ·rfl
     · rename_i hneg
       have hnn:=name_low s2 (hnode _ y hy) h4 (by omega)
       rw [hmf _ hnn.1 hnn.2]
       have h1: (mGet (d:Int) zl).isSome=true:= (hinz d).2 ⟨by omega,hd1⟩
       have h2:Rea (mnOf p p.nodes.length 0 p.funs []) p.main (d:Int) := (reachD_iff hz d).1 h1
       have h3:=h2.snoc (x:= -1-y.n) ((hrow _ _).2 ⟨x.toNat,y,hy,h4,by omega,rfl,by
        rw [own_pre hp hS p.nodes.length k k0 k1 (by omega) x hx,hS.root d k hd2]⟩)
       exact((hinz _).1 ((reachD_iff hz _).2 h3)).2
   ·rfl
  rw [hsame]at hM hB
  have hnT:nodesT p zl (numM (trueIdx is 0) 0 []) (sM p.cons.length) to p.nodes.length= ((keepB is p.funs).map (wB p (numM (trueIdx is 0) 0 []) (sM p.cons.length) to p.nodes.length)).flatten:=by
   unfold nodesT;rw [hko]
  have hb: (nodesT p zl (numM (trueIdx is 0) 0 []) (sM p.cons.length) to p.nodes.length).length≤1000000:=by
   rw [hnT,hB]
   have:=hsf.length_le
   omega
  have hmm:is[p.main.toNat]?=some true:= ((hinz p.main).1 ((reachD_iff hz p.main).2 (.refl _))).2
  have hB1:=bTrim_ok hp hnm p.nodes.length (Nat.le_refl _) hr _ zl hz (trueIdx is 0) hti hK (fun i x hx=>by
   have h1:= (hany i x hx).1.1
   refine⟨h1,fun h4 h0=>?_⟩
   have hnn:=name_low s2 (hnode i x hx) h4 h0
   have:=hmf0 _ hnn.1 hnn.2
   omega) to n (by omega) hb (by unfold toOfT;rw [hko];exact hA) h10
  have hC1:=rTrim_ok (p:=p) (k:=p.nodes.length) (is:=is) ⟨by omega,by omega⟩ hmain.1 h33 hi his (hz2 p.main hmain.1 hmain.2) hM
  rw [hnT,hko,hmf p.main hmain.1 hmain.2 hmm]at hB1
  rw [hnT]at hb
  refine⟨_,0,⟨hb,?_,?_,fun y hy=>?_⟩,hB1,hC1⟩
  · have:=hsub.length_le
    simp only [List.length_map];omega
  ·simp only;omega
  · obtain⟨l,hl,hy⟩ :=List.mem_flatten.1 hy
    obtain⟨k,_,rfl⟩ :=List.mem_map.1 hl
    obtain⟨i,x,hx,rfl⟩ :=wB_mem _ k y hy
    have:=hfit i x hx
    exact⟨by simpa [bNode]using this.1,by simpa [bNode,cPats_size]using this.2⟩
end Go.Hb
namespace Go.Hb
open Go.Proofs
variable {P :Program}
noncomputable section
def wayL (P:Program)(is:List Ins)(s:TS) :Option (AV×Nat×List Prop) :=
 match xexec P is s.as with
 | some (s1,ps) =>match s1.cs,s1.fr.kind,s1.fr.mode,s1.fr.roundOf,s1.fr.defers with
  | [],.normal,.ret,none,[] =>match P.funcs[s1.fr.fn]? with
   | some fd=>match aresults P s1.h s1.fr.tm fd.results.toList with
    |some [v] =>some (v,s1.fr.fn,ps)
    |_=>none
   |none=>none
  |_,_,_,_,_=>none
 |none=>none
theorem calls_of_way {f : Nat} {args : List AV} {is : List Ins}{b:Bool}{ps:List Prop}{cargs:List Value}(hb:hasBody P f=true)(hk:AV.keylessL args=true)(h0:wayL P is (start P f args) =some (.bool b,f,ps))(hps:AllP ps)(w:World)(hv:VRs (embOf w) args cargs) :
  Calls P f ⟨cargs⟩ w fun e w'=>e= .returned (.bool b) ∧GrownO w w':=by
 intro base
 unfold hasBody at hb
 split at hb
 · rename_i fn hf
   split at hb
   · rename_i c hc
     have hg:enterFrame P f args .normal=some ⟨f,putArgs .leaf 0 args,max fn.ntmps args.length,[.code c],[],.run,.normal,none⟩ :=by simp [enterFrame,hf,hc]
     have fr':FR (embOf w) _ (Frame.enter P f ⟨cargs⟩ .normal) :=enterFrame_sound hg hv
     have f1:FR (embOf w) (start P f args).as.fr (Frame.enter P f ⟨cargs⟩ .normal) :=by
      have e1: (start P f args).as.fr= ⟨f,mkT ((List.range args.length).zip args),max fn.ntmps args.length,[.code c],[],.run,.normal,none⟩ :=by simp [start,hf,hc,TS.as,TF.fr]
      rw [e1]
      refine⟨fr'.fn,⟨fr'.tm.1,fun t a e=>?_⟩,fr'.todo,fr'.defers,fr'.mode,fr'.kind,fr'.round⟩
      have h1:=at_range (at_mkT e)
      have hlt:= (List.getElem?_eq_some_iff.1 h1).1
      have h2: (putArgs .leaf 0 args).at t=some a:=by
       unfold putArgs;rw [at_put_leaf,if_pos hlt];exact h1
      exact fr'.tm.2 t a h2
     have e2 : (start P f args).as.cs = [] := by unfold start;split; · split<;>rfl
                                                 ·rfl
     have e3 : (start P f args).as.h = ⟨.leaf, 0⟩ := by unfold start;split; · split<;>rfl
                                                        ·rfl
     unfold wayL at h0
     split at h0
     · rename_i s1 qs h1
       split at h0
       · rename_i hcs hkd hmo hro hde
         split at h0
         · rename_i fd hfd
           split at h0
           · rename_i v hrs
             simp only [Option.some.injEq,Prod.mk.injEq]at h0
             obtain⟨rfl,hfn,rfl⟩ :=h0
             have hl:LeadsM P 0 (start P f args).as s1:=xexec_sound h1 (fun p hpp=>hps.mem p hpp)
             obtain⟨E',g,ccs,w',s2,f2,fs2,r2,x⟩ :=hl (by rw [e3];exact Nat.le_refl _) (embOf w) _ [] w base f1 (by rw [e2];rfl) (by rw [e3];exact embOf_rel w)
             rw [hcs]at fs2
             have:=fs2.nil_inv
             subst this
             obtain⟨cv,g1,g2⟩ :=run_results r2 f2.tm hrs
             simp only [tupled,VR]at g2
             subst g2
             have fm:=f2.mode
             rw [hmo]at fm
             simp only [MR]at fm
             have fdd:=f2.defers
             rw [hde]at fdd
             rw [e3]at x
             have hno:∀ {b o},¬ (⟨.leaf,0⟩ :Hp).look b=some o:=fun {b o} e=>by simp [Hp.look,T.at_leaf]at e
             refine⟨.returned (.bool b),w',g,⟨rfl,⟨x.os,x.output,fun i hi=>?_⟩,x.froz,x.size⟩,s2,by rw [f2.fn,hfn],fm,fdd.nil_inv,by rw [f2.kind,hkd],fd,by rw [f2.fn];exact hfd,g1⟩
             have:=x.keep i hi (fun b o L e=>absurd e hno)
             rw [this]
             cases w.heap[i]? with
             |none=>rfl
             |some ob=>cases ob<;>simp
           ·cases h0
         ·cases h0
       ·cases h0
     ·cases h0
   ·cases hb
 ·cases hb
end
end Go.Hb
namespace Go.Hb
open Go.Proofs
variable {P :Program}
noncomputable section
end
end Go.Hb
namespace Go.Hb
open Go.Proofs
variable {P :Program}
theorem cW {f:Nat}{args:List AV}{b:Bool}{cargs:List Value}(L:List Pf)(is:List Ins)(w:World)(hv:VRs (embOf w) args cargs)(hb:hasBody P f=true:=by kernel_rfl)(hk:AV.keylessL args=true:=by kernel_rfl)(h0:wayL P is (start P f args) =some (.bool b,f,L.map Pf.p) :=by kernel_rfl) :
    Calls P f ⟨cargs⟩ w fun e w'=>e= .returned (.bool b) ∧GrownO w w':=calls_of_way hb hk h0 (allPf L) w hv
end Go.Hb
namespace Go.Hb
open Go.Proofs
theorem lTrims_E_0 (p:Prog)(y0 y1:Bool)(h0:Pure PP 8 [(Prog.av p)] (bV y0))(h1: (!y0) =true)(h2:Pure PP 9 [] (bV y1)) :
  ∀ (w:World) (cargs:List Value),VRs (embOf w) [(Prog.av p)] cargs→Calls PP 7 ⟨cargs⟩ w fun e w'=>e= .returned (.bool y1) ∧GrownO w w':=
 fun w cargs hv=>cW [qp h0,qp h1,qp h2] [rn 9,pB y0,rn 2,bt 9,rn 3,pB y1,rn 3] w hv
theorem lTrims_E_1 (p:Prog)(y0:Bool)(y1:Prog)(y2:Int)(y3:Prog)(y4:Int)(y5 y6:Bool)(h0:Pure PP 8 [(Prog.av p)] (bV y0))(h1: (!y0) =false)(h2:Pure PP 22 [(Prog.av p)] (.tup [(Prog.av y1),(nI y2)]))(h3:Pure PP 23 [(Prog.av p)] (.tup [(Prog.av y3),(nI y4)]))(h4: (y2==y4) =true)(h5:Pure PP 19 [(Prog.av y1),(Prog.av y3)] (bV y5))(h6:y5=true)(h7:Pure PP 9 [] (bV y6)) :
  ∀ (w:World) (cargs:List Value),VRs (embOf w) [(Prog.av p)] cargs→Calls PP 7 ⟨cargs⟩ w fun e w'=>e= .returned (.bool y6) ∧GrownO w w':=
 fun w cargs hv=>cW [qp h0,qp h1,qp h2,qp h3,qp h4,qp h5,qp h6,qp h7] [rn 9,pB y0,rn 2,bf 9,rn 5,.pure (.tup [(Prog.av y1),(nI y2)]),rn 10,.pure (.tup [(Prog.av y3),(nI y4)]),rn 13,bt 24,rn 2,pB y5,rn 2,bt 29,pB y6,rn 4] w hv
end Go.Hb
namespace Go.Hb
open Go.Proofs
theorem lTrims_calls (p:Prog)(hk:Pure PP 9 [] (.bool true))(w:World)(cargs:List Value)(hv:VRs (embOf w) [Prog.av p] cargs) :
  Calls Tryz.prog 7 ⟨cargs⟩ w fun e w'=>e= .returned (.bool true) ∧GrownO w w':=by
 have h0:=rSmallProg_pure p
 cases hs:smallProg p with
 | false=>
  rw [hs]at h0
  exact lTrims_E_0 p false true h0 (by rfl) hk w cargs hv
 | true=>
  rw [hs]at h0
  obtain⟨q,e,hfit,h1,h2⟩ :=trim_both hs
  exact lTrims_E_1 p true q e q e true true h0 (by rfl) h1 h2 (beq_self_eq_true _) (rSame_pure q hfit) rfl hk w cargs hv
end Go.Hb
