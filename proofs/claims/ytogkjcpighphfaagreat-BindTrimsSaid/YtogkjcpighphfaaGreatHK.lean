/-
  OWN WORK (H13, V39, H24, V74, V8b, H25, H26, V82, V83, V40, V41, V23, H5, H6, V24, V25, V26, V42, V43, V44): a machine on abstract values, its soundness, ways through the text (the ways WRITTEN BY A PROGRAM), plain laws.
-/
import Derived.Test.YtogkjcpighphfaaGreatHF
import Derived.Test.YtogkjcpighphfaaGreatHI
import Derived.Test.YtogkjcpighphfaaGreatHJ
set_option linter.unusedVariables false
set_option linter.unusedSimpArgs false
set_option linter.unusedSectionVars false
set_option maxRecDepth 100000
namespace Go.Hb
open Go.Proofs
noncomputable def smB_s (a b:Int) :TS:=startH PP 40 [(nI a),(nI b)] [] 0
noncomputable def smB_c0 (a b t12:Int)(m2:List (Int×Int)) :TS:=
 {fr:={fn:=40,nt:=30,sl:=[(1,(nI b)),(4,(.ptr 0 0)),(5,(.ptr 1 0)),(11,(nI a)),(12,(nI t12))],todo:=[.code (cd Tryz.f40 [1,1,0,1,0,0]),.inLoop (cd Tryz.f40 [1,1,0,1,0,0]),.inBlock 0,.code (cd Tryz.f40 [1,1,1])]},cs:=[],hp:=[(0,(.cells (putCells .leaf 0 [.nilm,.nilm]) 2 [] false),false),(1,(.cells (putCells .leaf 0 [(.map 2),(.map 3)]) 2 [] false),false),(2,(.map (mEnts avI avI 0 m2) m2.length),true),(3,(.map (mEnts avI avI 0 ([] :List (Int×Int))) ([] :List (Int×Int)).length),true)],nb:=4}
noncomputable def smB_c1 (a b:Int)(m2:List (Int×Int))(t21:Int)(m3:List (Int×Int)) :TS:=
 {fr:={fn:=40,nt:=30,sl:=[(4,(.ptr 0 0)),(5,(.ptr 1 0)),(20,(nI b)),(21,(nI t21))],todo:=[.code (cd Tryz.f40 [1,1,1,0,1,0,0]),.inLoop (cd Tryz.f40 [1,1,1,0,1,0,0]),.inBlock 2,.code (cd Tryz.f40 [1,1,1,1])]},cs:=[],hp:=[(0,(.cells (putCells .leaf 0 [.nilm,.nilm]) 2 [] false),false),(1,(.cells (putCells .leaf 0 [(.map 2),(.map 3)]) 2 [] false),false),(2,(.map (mEnts avI avI 0 m2) m2.length),true),(3,(.map (mEnts avI avI 0 m3) m3.length),true)],nb:=4}
theorem smB_E_0 (a b:Int) :
  LeadsM PP 0 (smB_s a b).as (smB_c0 a b 0 ([] :List (Int×Int))).as:=
 wW 4 [0,3,1,2] [qp (p:= ([] :List (AV×AV×Nat)) = (mEnts avI avI 0 ([] :List (Int×Int)))) rfl,qp (p:=0=List.length ([] :List (Int×Int))) rfl,qp (p:= ([] :List (AV×AV×Nat)) = (mEnts avI avI 0 ([] :List (Int×Int)))) rfl,qp (p:=0=List.length ([] :List (Int×Int))) rfl] [rn 7,.mset 1 (mEnts avI avI 0 ([] :List (Int×Int))) ([] :List (Int×Int)).length,rn 1,.mset 2 (mEnts avI avI 0 ([] :List (Int×Int))) ([] :List (Int×Int)).length,rn 12] ⟨kl_map (fun _=>rfl) (fun _=>rfl) _ _ _,⟨kl_map (fun _=>rfl) (fun _=>rfl) _ _ _,trivial⟩⟩
theorem smB_0_0 (a b t12:Int)(m2:List (Int×Int))(h0:decide (t12<a) =true)(h1: (IntKind.i64.wrap (t12+ (1:Int))) = (t12+ (1:Int))) :
  LeadsM PP 0 (smB_c0 a b t12 m2).as (smB_c0 a b (t12+ (1:Int)) (mIns t12 t12 m2)).as:=
 wW 4 [0,1,2,3] [qp h0,qp (p:=mapPut (mEnts avI avI 0 m2) m2.length (avI t12) (avI t12) =some ((mEnts avI avI 0 (mIns t12 t12 m2)),List.length (mIns t12 t12 m2))) (map_put key_avI _ _ _),qp (congrArg (AV.int .i64) h1)] [rn 5,bt 13,rn 14,.mput (mEnts avI avI 0 (mIns t12 t12 m2)) (mIns t12 t12 m2).length,rn 4,sI 19 (t12+ (1:Int)),rn 3] ⟨kl_map (fun _=>rfl) (fun _=>rfl) _ _ _,⟨kl_map (fun _=>rfl) (fun _=>rfl) _ _ _,trivial⟩⟩
theorem smB_0_1 (a b t12:Int)(m2:List (Int×Int))(h0:decide (t12<a) =false) :
  LeadsM PP 0 (smB_c0 a b t12 m2).as (smB_c1 a b m2 0 ([] :List (Int×Int))).as:=
 wW 4 [0,1,2,3] [qp h0] [rn 5,bf 13,rn 10] ⟨kl_map (fun _=>rfl) (fun _=>rfl) _ _ _,⟨kl_map (fun _=>rfl) (fun _=>rfl) _ _ _,trivial⟩⟩
theorem smB_1_0 (a b:Int)(m2:List (Int×Int))(t21:Int)(m3:List (Int×Int))(h0:decide (t21<b) =true)(h1: (IntKind.i64.wrap (t21+ (1:Int))) = (t21+ (1:Int))) :
  LeadsM PP 0 (smB_c1 a b m2 t21 m3).as (smB_c1 a b m2 (t21+ (1:Int)) (mIns t21 t21 m3)).as:=
 wW 4 [0,1,2,3] [qp h0,qp (p:=mapPut (mEnts avI avI 0 m3) m3.length (avI t21) (avI t21) =some ((mEnts avI avI 0 (mIns t21 t21 m3)),List.length (mIns t21 t21 m3))) (map_put key_avI _ _ _),qp (congrArg (AV.int .i64) h1)] [rn 5,bt 22,rn 14,.mput (mEnts avI avI 0 (mIns t21 t21 m3)) (mIns t21 t21 m3).length,rn 4,sI 28 (t21+ (1:Int)),rn 3] ⟨kl_map (fun _=>rfl) (fun _=>rfl) _ _ _,⟨kl_map (fun _=>rfl) (fun _=>rfl) _ _ _,trivial⟩⟩
theorem smB_1_1 (a b:Int)(m2:List (Int×Int))(t21:Int)(m3:List (Int×Int))(h0:decide (t21<b) =false) :
  Ends PP 0 (smB_c1 a b m2 t21 m3).as (.ret (.agg [(.map 0),(.map 1)])) (hpOf [(0,(.map (mEnts avI avI 0 m2) m2.length),true),(1,(.map (mEnts avI avI 0 m3) m3.length),true)] 2) :=
 wE 4 [2,3] [qp h0] [rn 5,bf 22,rn 8] ⟨kl_map (fun _=>rfl) (fun _=>rfl) _ _ _,⟨kl_map (fun _=>rfl) (fun _=>rfl) _ _ _,trivial⟩⟩
noncomputable def cln_s (xs:List Con) :TS:=startH PP 41 [(iC xs)] [] 0
noncomputable def cln_c (xs:List Con) :TS:=
 {fr:={fn:=41,nt:=8,sl:=[(0,(iC xs)),(2,.nils),(3,(iC xs))],todo:=[opsAt Tryz.f41 [1,0,0] 1,.code (cd Tryz.f41 [1,0,1]),.code (cd Tryz.f41 [1,1])]},cs:=[],hp:=[],nb:=0}
theorem cln_E (xs:List Con) :
  LeadsM PP 0 (cln_s xs).as (cln_c xs).as:=
 wW 0 [] [] [rn 8] trivial
noncomputable def cln_cn (xs:List Con) :TS:=
 {fr:={fn:=41,nt:=8,sl:=[(0,(iC xs)),(2,.nils),(3,.nils)],todo:=[opsAt Tryz.f41 [1,0,0] 1,.code (cd Tryz.f41 [1,0,1]),.code (cd Tryz.f41 [1,1])]},cs:=[],hp:=[],nb:=0}
theorem cln_n (xs:List Con) :
  Ends PP 0 (cln_cn xs).as (.ret (.ilst 2 (jC ([] :List Con)) true)) (hpOf [] 0) :=
 wE 0 [] [] [rn 8,.nilI 2 2] trivial
noncomputable def cln_cv (xs:List Con)(a:Addr)(n c:Nat) :TS:=
 {fr:={fn:=41,nt:=8,sl:=[(0,(iC xs)),(2,.nils),(3,(.val (Value.slice (some a) n c)))],todo:=[opsAt Tryz.f41 [1,0,0] 1,.code (cd Tryz.f41 [1,0,1]),.code (cd Tryz.f41 [1,1])]},cs:=[],hp:=[],nb:=0}
theorem cln_v (xs:List Con)(a:Addr)(n c:Nat)(h0:List.length (([] :List Con) ++xs) ≤1000000) :
  Ends PP 0 (cln_cv xs a n c).as (.ret (iC (([] :List Con) ++xs))) (hpOf [] 0) :=
 wE 2 [] [qp (p:=getCells (putCells .leaf 0 []) 0 (0*2) =some []) rfl,qp (p:=allOne [] =true) rfl,qp (p:=[] = (jC ([] :List Con))) rfl,qp (p:= (AV.gl 0 2 0 0 true) = (.gl 0 2 0 ([] :List Con).length true)) rfl,qp (app_p1 Con.av ([] :List Con)),qp h0,qp (app_p3 Con.av ([] :List Con) xs),qp (app_p4 Con.av ([] :List Con) xs),qp (p:=AV.keylessL (jC (([] :List Con) ++xs)) =true) (keylessL_map _ (fun _=>rfl) _),qp (p:=AV.frzOk 1 2 (jC (([] :List Con) ++xs)) (jC (([] :List Con) ++xs)) (.gl 1 2 0 (([] :List Con) ++xs).length false)) (frz_whole _ _)] [rn 8,.toL 5 true [],.lset 0 (jC ([] :List Con)),.set 5 (.gl 0 2 0 ([] :List Con).length true),.app (jC (([] :List Con) ++xs)) (([] :List Con) ++xs).length,rn 3,.frz 2 1 (jC (([] :List Con) ++xs))] trivial
end Go.Hb
namespace Go.Hb
open Go.Proofs
set_option maxHeartbeats 2000000
noncomputable section
def sM :Nat→List (Int×Int)
 |0=>[]
 |n+1=>mIns (n:Int) (n:Int) (sM n)
theorem mGet_ins {α β:Type}[DecidableEq α](k k':α)(v:β) :∀ (l:List (α×β)),mGet k (mIns k' v l) =if k=k' then some v else mGet k l
 | [] =>by simp [mIns,mGet]
 | e ::l=>by
  simp only [mIns]
  split
  · rename_i h
    subst h
    simp only [mGet]
    split<;>rfl
  · rename_i h
    simp only [mGet,mGet_ins k k' v l]
    by_cases h1:k=e.1
    · subst h1
      rw [if_pos rfl,if_pos rfl,if_neg (fun e=>h e.symm)]
    ·rw [if_neg h1,if_neg h1]
theorem sM_get :∀ (n:Nat) (i:Int),0≤i→i<n→mGet i (sM n) =some i
 |0,i,h0,h1=>by omega
 | n+1,i,h0,h1=>by
  rw [sM,mGet_ins]
  by_cases h:i= (n:Int)
  ·rw [if_pos h,h]
  ·rw [if_neg h];exact sM_get n i h0 (by omega)
theorem sM_at {n:Nat}{i:Int}(h0:0≤i)(h1:i<n) :mAt (sM n) i=i:=by unfold mAt;rw [sM_get n i h0 h1];rfl
theorem smB_2 (a b:Nat)(hb:b<1000000) :∀ (j i:Nat),i+j=b→Ends PP 0 (smB_c1 (a:Int) (b:Int) (sM a) (i:Int) (sM i)).as (.ret (.agg [.map 0,.map 1])) (hpOf [(0,MO (sM a),true),(1,MO (sM b),true)] 2)
 | 0,i,h=>by
  have:i=b:=by omega
  subst this
  exact smB_1_1 a i (sM a) i (sM i) sd
 | j+1,i,h=>by
  exact(smB_1_0 a b (sM a) i (sM i) sd sd).ends (smB_2 a b hb j (i+1) (by omega))
theorem smB_1 (a b:Nat)(ha:a<1000000)(hb:b<1000000) :∀ (j i:Nat),i+j=a→Ends PP 0 (smB_c0 (a:Int) (b:Int) (i:Int) (sM i)).as (.ret (.agg [.map 0,.map 1])) (hpOf [(0,MO (sM a),true),(1,MO (sM b),true)] 2)
 | 0,i,h=>by
  have:i=a:=by omega
  subst this
  exact(smB_0_1 i b i (sM i) sd).ends (smB_2 i b hb b 0 (by omega))
 | j+1,i,h=>by
  exact(smB_0_0 a b i (sM i) sd sd).ends (smB_1 a b ha hb j (i+1) (by omega))
theorem same_spec (a b:Nat)(ha:a<1000000)(hb:b<1000000) :SpecN PP (.enter 40 [.int .i64 (a:Int),.int .i64 (b:Int)]) (hpOf [] 0) (.ret (.agg [.map 0,.map 1])) (hpOf [(0,MO (sM a),true),(1,MO (sM b),true)] 2) :=
 ⟨(smB_s a b).as.fr,by kernel_rfl,Eq.mp (by kernel_rfl) ((smB_E_0 a b).ends (smB_1 a b ha hb a 0 (by omega)))⟩
theorem ends_weak {P:Program}{m:Nat}{s:AS}{v v':AV}{h':Hp}(h:Ends P m s (.ret v) h')(hv:∀ (E:Emb) (cv:Value),VR E v cv→VR E v' cv) :Ends P m s (.ret v') h':=fun hm E fr ccs w f fs r cl base=>by
 obtain⟨cl',w',E',s1,⟨cv,rfl,g2⟩,r2,x2⟩ :=h hm E fr ccs w f fs r cl base
 exact⟨_,w',E',s1,⟨cv,rfl,hv E' cv g2⟩,r2,x2⟩
theorem vr_ilst_weak {E:Emb}{e:Nat}{xs:List AV}{cv:Value}(h:VR E (.ilst e xs true) cv) :VR E (.ilst e xs false) cv:=by
 simp only [VR]at h ⊢
 obtain⟨vs,h1,h2,h3⟩ :=h
 refine⟨vs,h1,h2,?_⟩
 rcases h3 with⟨rfl,a,cap,rfl,g,_⟩ | ⟨k,a,cap,C,g1,g2,g3,_,g5⟩
 ·exact .inl ⟨rfl,a,cap,rfl,g,fun hh=>by cases hh⟩
 ·exact .inr ⟨k,a,cap,C,g1,g2,g3,(fun hh=>by cases hh),g5⟩
theorem clone_pure (xs:List Con)(h:xs.length≤1000000) :Pure PP 41 [.ilst 2 (List.map Con.av xs) false] (.ilst 2 (List.map Con.av xs) false) :=by
 refine pure_atH (s:=cln_s xs) (by kernel_rfl) (by kernel_rfl) (by simp [AV.keylessL,AV.keyless]) (by simp [AV.keyless]) ((cln_E xs).ends ?_)
 refine ends_nil (j:=3) (e:=2) (ex:=false) (xs:=List.map Con.av xs) (by kernel_rfl) (fun hx=>?_) (fun a n c=>?_)
 · have hx:xs= [] :=by simpa using hx
   subst hx
   have h1:=ends_weak (cln_n []) (fun E cv hv=>vr_ilst_weak hv)
   exact Eq.mp (by kernel_rfl) h1
 · have h1:=cln_v xs a n c (by simpa using h)
   rw [List.nil_append]at h1
   exact Eq.mp (by kernel_rfl) h1
section
variable {p :Prog}
end
end
end Go.Hb
namespace Go.Hb
open Go.Proofs
noncomputable def rchT_s (ml: (List (Int×Bool)))(mn: (List (Int× (List Int))))(f0:Int) :TS:=startH PP 98 [(nI f0),(.ptr 0 0),(.ptr 1 0),(.ptr 2 0)] [(0,(.cells (putCells .leaf 0 [(.map 3)]) 1 [] false),false),(1,(.cells (putCells .leaf 0 [(.map 4)]) 1 [] false),false),(2,(.cells (putCells .leaf 0 [(.func 98 [] [(.ptr 0 0),(.ptr 1 0),(.ptr 2 0)])]) 1 [] false),false),(3,(.map (mEnts avI avB 0 ml) ml.length),true),(4,(.map (mEnts avI (avL 1 avI) 0 mn) mn.length),true)] 5
noncomputable def rchT_c0 (ml: (List (Int×Bool)))(mn: (List (Int× (List Int))))(f0:Int)(vy0:List Int)(t15 t16:Int)(m3: (List (Int×Bool))) :TS:=
 {fr:={fn:=98,nt:=24,sl:=[(3,(.ptr 2 0)),(14,(iI vy0)),(15,(nI t15)),(16,(nI t16))],todo:=[.code (cd Tryz.f98 [1,1,1,0,0]),.inLoop (cd Tryz.f98 [1,1,1,0,0]),.inBlock 0]},cs:=[],hp:=[(0,(.cells (putCells .leaf 0 [(.map 3)]) 1 [] false),false),(1,(.cells (putCells .leaf 0 [(.map 4)]) 1 [] false),false),(2,(.cells (putCells .leaf 0 [(.func 98 [] [(.ptr 0 0),(.ptr 1 0),(.ptr 2 0)])]) 1 [] false),false),(3,(.map (mEnts avI avB 0 m3) m3.length),true),(4,(.map (mEnts avI (avL 1 avI) 0 mn) mn.length),true)],nb:=5}
theorem rchT_E_0 (ml: (List (Int×Bool)))(mn: (List (Int× (List Int))))(f0:Int)(h0:mGet f0 ml=some true) :
  Ends PP 5 (rchT_s ml mn f0).as (.ret (.tup [])) (hpOf [(0,(.cells (putCells .leaf 0 [(.map 3)]) 1 [] false),false),(1,(.cells (putCells .leaf 0 [(.map 4)]) 1 [] false),false),(2,(.cells (putCells .leaf 0 [(.func 98 [] [(.ptr 0 0),(.ptr 1 0),(.ptr 2 0)])]) 1 [] false),false),(3,(.map (mEnts avI avB 0 ml) ml.length),true),(4,(.map (mEnts avI (avL 1 avI) 0 mn) mn.length),true)] 5) :=
 wE 5 [] [qp (p:=findK (avI f0) (mEnts avI avB 0 ml) 0=some (some (mIdx f0 ml,(avB true)))) (look_some key_avI h0)] [rn 5,.ans (.look (some (mIdx f0 ml,(avB true)))),rn 3] ⟨kl_map (fun _=>rfl) (fun _=>rfl) _ _ _,⟨kl_map (fun _=>rfl) (fun _=>rfl) _ _ _,trivial⟩⟩
theorem rchT_E_1 (ml: (List (Int×Bool)))(mn: (List (Int× (List Int))))(f0:Int)(y0:List Int)(h0:mGet f0 ml=none)(h1:mGet f0 mn=some y0) :
  LeadsM PP 5 (rchT_s ml mn f0).as (rchT_c0 ml mn f0 y0 (y0.length:Int) 0 (mIns f0 true ml)).as:=
 wW 5 [] [qp (p:=findK (avI f0) (mEnts avI avB 0 ml) 0=some none) (look_none key_avI h0),qp (p:=mapPut (mEnts avI avB 0 ml) ml.length (avI f0) (avB true) =some ((mEnts avI avB 0 (mIns f0 true ml)),List.length (mIns f0 true ml))) (map_put key_avI _ _ _),qp (p:=findK (avI f0) (mEnts avI (avL 1 avI) 0 mn) 0=some (some (mIdx f0 mn,((avL 1 avI) y0)))) (look_some key_avI h1),ql avI y0] [rn 5,.ans (.look none),rn 7,.mput (mEnts avI avB 0 (mIns f0 true ml)) (mIns f0 true ml).length,rn 5,.ans (.look (some (mIdx f0 mn,((avL 1 avI) y0)))),aL y0,rn 4] ⟨kl_map (fun _=>rfl) (fun _=>rfl) _ _ _,⟨kl_map (fun _=>rfl) (fun _=>rfl) _ _ _,trivial⟩⟩
theorem rchT_0_0 (ml: (List (Int×Bool)))(mn: (List (Int× (List Int))))(f0:Int)(vy0:List Int)(t15 t16:Int)(m3: (List (Int×Bool)))(y0:Int)(zl1: (List (Int×Bool)))(h0:decide (t16<t15) =true)(h1:0≤t16)(h2: ((vy0)[t16.toNat]?) =some y0)(h3:Spec PP (.enter 98 [(nI y0),(.ptr 0 0),(.ptr 1 0),(.ptr 2 0)]) (hpOf [(0,(.cells (putCells .leaf 0 [(.map 3)]) 1 [] false),false),(1,(.cells (putCells .leaf 0 [(.map 4)]) 1 [] false),false),(2,(.cells (putCells .leaf 0 [(.func 98 [] [(.ptr 0 0),(.ptr 1 0),(.ptr 2 0)])]) 1 [] false),false),(3,(.map (mEnts avI avB 0 m3) m3.length),true),(4,(.map (mEnts avI (avL 1 avI) 0 mn) mn.length),true)] 5) (.ret (.tup [])) (hpOf [(0,(.cells (putCells .leaf 0 [(.map 3)]) 1 [] false),false),(1,(.cells (putCells .leaf 0 [(.map 4)]) 1 [] false),false),(2,(.cells (putCells .leaf 0 [(.func 98 [] [(.ptr 0 0),(.ptr 1 0),(.ptr 2 0)])]) 1 [] false),false),(3,(.map (mEnts avI avB 0 zl1) zl1.length),true),(4,(.map (mEnts avI (avL 1 avI) 0 mn) mn.length),true)] 5))(h4: (IntKind.i64.wrap (t16+ (1:Int))) = (t16+ (1:Int))) :
  LeadsM PP 5 (rchT_c0 ml mn f0 vy0 t15 t16 m3).as (rchT_c0 ml mn f0 vy0 t15 (t16+ (1:Int)) zl1).as:=
 wW 5 [] [qp h0,qp h1,qg avI h2,qp h3,qp (congrArg (AV.int .i64) h4)] [rn 5,bt 17,rn 6,aI (avI y0),rn 6,.call (.tup []) (hpOf [(0,(.cells (putCells .leaf 0 [(.map 3)]) 1 [] false),false),(1,(.cells (putCells .leaf 0 [(.map 4)]) 1 [] false),false),(2,(.cells (putCells .leaf 0 [(.func 98 [] [(.ptr 0 0),(.ptr 1 0),(.ptr 2 0)])]) 1 [] false),false),(3,(.map (mEnts avI avB 0 zl1) zl1.length),true),(4,(.map (mEnts avI (avL 1 avI) 0 mn) mn.length),true)] 5),rn 4,sI 23 (t16+ (1:Int)),rn 3] ⟨kl_map (fun _=>rfl) (fun _=>rfl) _ _ _,⟨kl_map (fun _=>rfl) (fun _=>rfl) _ _ _,trivial⟩⟩
theorem rchT_0_1 (ml: (List (Int×Bool)))(mn: (List (Int× (List Int))))(f0:Int)(vy0:List Int)(t15 t16:Int)(m3: (List (Int×Bool)))(h0:decide (t16<t15) =false) :
  Ends PP 5 (rchT_c0 ml mn f0 vy0 t15 t16 m3).as (.ret (.tup [])) (hpOf [(0,(.cells (putCells .leaf 0 [(.map 3)]) 1 [] false),false),(1,(.cells (putCells .leaf 0 [(.map 4)]) 1 [] false),false),(2,(.cells (putCells .leaf 0 [(.func 98 [] [(.ptr 0 0),(.ptr 1 0),(.ptr 2 0)])]) 1 [] false),false),(3,(.map (mEnts avI avB 0 m3) m3.length),true),(4,(.map (mEnts avI (avL 1 avI) 0 mn) mn.length),true)] 5) :=
 wE 5 [] [qp h0] [rn 5,bf 17,rn 3] ⟨kl_map (fun _=>rfl) (fun _=>rfl) _ _ _,⟨kl_map (fun _=>rfl) (fun _=>rfl) _ _ _,trivial⟩⟩
noncomputable def rchN_s (ml: (List (Int×Bool)))(mn: (List (Int× (List Int))))(f0:Int) :TS:=startH PP 98 [(nI f0),(.ptr 0 0),(.ptr 1 0),(.ptr 2 0)] [(0,(.cells (putCells .leaf 0 [(.map 3)]) 1 [] false),false),(1,(.cells (putCells .leaf 0 [(.map 4)]) 1 [] false),false),(2,(.cells (putCells .leaf 0 [(.func 98 [] [(.ptr 0 0),(.ptr 1 0),(.ptr 2 0)])]) 1 [] false),false),(3,(.map (mEnts avI avB 0 ml) ml.length),true),(4,(.map (mEnts avI (avL 1 avI) 0 mn) mn.length),true)] 5
noncomputable def rchN_c0 (ml: (List (Int×Bool)))(mn: (List (Int× (List Int))))(f0:Int)  :TS:=
 {fr:={fn:=98,nt:=24,sl:=[(3,(.ptr 2 0)),(14,.nils),(15,(nI 0)),(16,(nI 0))],todo:=[.code (cd Tryz.f98 [1,1,1,0,0]),.inLoop (cd Tryz.f98 [1,1,1,0,0]),.inBlock 0]},cs:=[],hp:=[(0,(.cells (putCells .leaf 0 [(.map 3)]) 1 [] false),false),(1,(.cells (putCells .leaf 0 [(.map 4)]) 1 [] false),false),(2,(.cells (putCells .leaf 0 [(.func 98 [] [(.ptr 0 0),(.ptr 1 0),(.ptr 2 0)])]) 1 [] false),false),(3,(.map (mEnts avI avB 0 (mIns f0 true ml)) (mIns f0 true ml).length),true),(4,(.map (mEnts avI (avL 1 avI) 0 mn) mn.length),true)],nb:=5}
theorem rchN_E_1 (ml: (List (Int×Bool)))(mn: (List (Int× (List Int))))(f0:Int)(h0:mGet f0 ml=none)(h1:mGet f0 mn=none) :
  LeadsM PP 5 (rchN_s ml mn f0).as (rchN_c0 ml mn f0).as:=
 wW 5 [] [qp (p:=findK (avI f0) (mEnts avI avB 0 ml) 0=some none) (look_none key_avI h0),qp (p:=mapPut (mEnts avI avB 0 ml) ml.length (avI f0) (avB true) =some ((mEnts avI avB 0 (mIns f0 true ml)),List.length (mIns f0 true ml))) (map_put key_avI _ _ _),qp (p:=findK (avI f0) (mEnts avI (avL 1 avI) 0 mn) 0=some none) (look_none key_avI h1)] [rn 5,.ans (.look none),rn 7,.mput (mEnts avI avB 0 (mIns f0 true ml)) (mIns f0 true ml).length,rn 5,.ans (.look none),rn 5] ⟨kl_map (fun _=>rfl) (fun _=>rfl) _ _ _,⟨kl_map (fun _=>rfl) (fun _=>rfl) _ _ _,trivial⟩⟩
theorem rchN_0_0 (ml: (List (Int×Bool)))(mn: (List (Int× (List Int))))(f0:Int) :
  Ends PP 5 (rchN_c0 ml mn f0).as (.ret (.tup [])) (hpOf [(0,(.cells (putCells .leaf 0 [(.map 3)]) 1 [] false),false),(1,(.cells (putCells .leaf 0 [(.map 4)]) 1 [] false),false),(2,(.cells (putCells .leaf 0 [(.func 98 [] [(.ptr 0 0),(.ptr 1 0),(.ptr 2 0)])]) 1 [] false),false),(3,(.map (mEnts avI avB 0 (mIns f0 true ml)) (mIns f0 true ml).length),true),(4,(.map (mEnts avI (avL 1 avI) 0 mn) mn.length),true)] 5) :=
 wE 5 [] [] [rn 8] ⟨kl_map (fun _=>rfl) (fun _=>rfl) _ _ _,⟨kl_map (fun _=>rfl) (fun _=>rfl) _ _ _,trivial⟩⟩
end Go.Hb
namespace Go.Hb
open Go.Proofs
set_option maxHeartbeats 2000000
noncomputable section
def rFold (g:Int→List (Int×Bool) →Option (List (Int×Bool))) :List Int→List (Int×Bool) →Option (List (Int×Bool))
 | [],m=>some m
 | k::t,m=>match g k m with
  |some m'=>rFold g t m'
  |none=>none
def reachD (mn:List (Int×List Int)) :Nat→Int→List (Int×Bool) →Option (List (Int×Bool))
 |0,_,_=>none
 | k+1,f,ml=>match mGet f ml with
  |some _=>some ml
  |none=>rFold (reachD mn k) ((mGet f mn).getD []) (mIns f true ml)
theorem allT_ins {ml:List (Int×Bool)}(h:AllT ml)(f:Int) :AllT (mIns f true ml) :=fun k v e=>by
 rw [mGet_ins]at e
 split at e
 ·cases e;rfl
 ·exact h k v e
theorem rFold_allT {g:Int→List (Int×Bool) →Option (List (Int×Bool))}(hg:∀k m m',AllT m→g k m=some m'→AllT m') :∀ (t:List Int) (m m':List (Int×Bool)),AllT m→rFold g t m=some m'→AllT m'
 | [],m,m',h,e=>by cases e;exact h
 | k ::t,m,m',h,e=>by
  simp only [rFold]at e
  split at e
  · rename_i m1 h1
    exact rFold_allT hg t m1 m' (hg k m m1 h h1) e
  ·cases e
theorem reachD_allT (mn:List (Int×List Int)) :∀ (k:Nat) (f:Int) (m m':List (Int×Bool)),AllT m→reachD mn k f m=some m'→AllT m'
 |0,_,_,_,_,e=>by cases e
 | k+1,f,m,m',h,e=>by
  simp only [reachD]at e
  split at e
  ·cases e;exact h
  ·exact rFold_allT (reachD_allT mn k) _ _ _ (allT_ins h f) e
abbrev MRow (m:List (Int×List Int)) :AObj:=.map (mEnts avI (avL 1 avI) 0 m) (List.length m)
theorem mr_kl (m:List (Int×List Int)) : (MRow m).kl:=kl_map (fun _=>rfl) (fun l=>by simp only [avL,AV.keyless]) _ _ _
abbrev RH (ml:List (Int×Bool))(mn:List (Int×List Int)) :List (Nat×AObj×Bool) :=[(0,(.cells (putCells .leaf 0 [(.map 3)]) 1 [] false),false),(1,(.cells (putCells .leaf 0 [(.map 4)]) 1 [] false),false),(2,(.cells (putCells .leaf 0 [(.func 98 [] [(.ptr 0 0),(.ptr 1 0),(.ptr 2 0)])]) 1 [] false),false),(3,MB ml,true),(4,MRow mn,true)]
abbrev rargs (f:Int) :List AV:=[.int .i64 f,.ptr 0 0,.ptr 1 0,.ptr 2 0]
def WalkR (mn:List (Int×List Int))(f:Int)(ml ml':List (Int×Bool)) :Prop:=Spec PP (.enter 98 (rargs f)) (hpOf (RH ml mn) 5) (.ret (.tup [])) (hpOf (RH ml' mn) 5)
theorem rchT_start {mn:List (Int×List Int)}{ml ml':List (Int×Bool)}{f:Int}(h:Ends PP 5 (rchT_s ml mn f).as (.ret (.tup [])) (hpOf (RH ml' mn) 5)) :WalkR mn f ml ml':=
 ⟨(rchT_s ml mn f).as.fr,by kernel_rfl,Eq.mp (by kernel_rfl) h⟩
theorem rchN_start {mn:List (Int×List Int)}{ml ml':List (Int×Bool)}{f:Int}(h:Ends PP 5 (rchN_s ml mn f).as (.ret (.tup [])) (hpOf (RH ml' mn) 5)) :WalkR mn f ml ml':=
 ⟨(rchN_s ml mn f).as.fr,by kernel_rfl,Eq.mp (by kernel_rfl) h⟩
theorem rch_loop {mn:List (Int×List Int)}{k:Nat}(ml:List (Int×Bool))(f:Int)(row:List Int)(hrow:row.length≤1000000)
  (ih:∀ (g:Int) (m m':List (Int×Bool)),AllT m→reachD mn k g m=some m'→WalkR mn g m m') :∀ (t:List Int) (j:Nat) (m m':List (Int×Bool)),AllT m→row.drop j=t→rFold (reachD mn k) t m=some m' →
  Ends PP 5 (rchT_c0 ml mn f row ((List.length row:Nat) :Int) (j:Int) m).as (.ret (.tup [])) (hpOf (RH m' mn) 5)
 | [],j,m,m',hm,h,e=>by
  have:=dropN h
  cases e
  exact rchT_0_1 ml mn f row _ j m sd
 | g ::t,j,m,m',hm,h,e=>by
  obtain⟨g1,g2,g3⟩ :=dropC h
  simp only [rFold]at e
  split at e
  · rename_i m1 h1
    have h0:=rchT_0_0 ml mn f row ((List.length row:Nat) :Int) j m g m1 sd sd sd (ih g m m1 hm h1) sd
    exact h0.ends (rch_loop ml f row hrow ih t (j+1) m1 m' (reachD_allT mn k g m m1 hm h1) g2 e)
  ·cases e
theorem reach_walk {mn:List (Int×List Int)}(hrow:∀ (f:Int) (row:List Int),mGet f mn=some row→row.length≤1000000) :∀ (k:Nat) (f:Int) (m m':List (Int×Bool)),AllT m→reachD mn k f m=some m'→WalkR mn f m m'
 |0,_,_,_,_,e=>by cases e
 | k +1,f,m,m',hm,e=>by
  simp only [reachD]at e
  split at e
  · rename_i v hv
    obtain rfl:=hm _ _ hv
    cases e
    exact rchT_start (rchT_E_0 m mn f hv)
  · rename_i hv
    cases hr:mGet f mn with
    | none=>
     rw [hr]at e
     cases e
     exact rchN_start ((rchN_E_1 m mn f hv hr).ends (rchN_0_0 m mn f))
    | some row=>
     rw [hr]at e
     exact rchT_start ((rchT_E_1 m mn f row hv hr).ends (rch_loop m f row (hrow f row hr) (fun g m m'=>reach_walk hrow k g m m') row 0 _ m' (allT_ins hm f) rfl e))
end
end Go.Hb
namespace Go.Hb
theorem findK_app {α β:Type}[DecidableEq α]{f:α→AV}{g:β→AV}(hf:KeyF f)(k:α)(r:List (AV×AV×Nat)) :∀ (l:List (α×β)) (n i:Nat),mGet k l=none→findK (f k) (mEnts f g n l++r) i=findK (f k) r (i+l.length)
 | [],n,i,_=>rfl
 | e ::l,n,i,h=>by
  unfold mGet at h
  split at h
  ·cases h
  · rename_i hk
    simp only [mEnts,findK,hf k e.1,decide_eq_false hk,List.cons_append,List.length_cons]
    rw [findK_app hf k r l (n+1) (Nat.succ i) h,show Nat.succ i+l.length=i+ (l.length+1)by omega]
theorem look_last {α β:Type}[DecidableEq α]{f:α→AV}{g:β→AV}(hf:KeyF f){k:α}{l:List (α×β)}(h:mGet k l=none)(v:AV)(c:Nat) :findK (f k) (mEnts f g 0 l++ [(f k,v,c)]) 0=some (some (List.length l,v)) :=by
 rw [findK_app hf k _ l 0 0 h]
 simp [findK,hf k k]
theorem setE_app {k v w:AV}{c:Nat}:∀ (es:List (AV×AV×Nat)),setE k v (es++ [(k,w,c)]) es.length=es++ [(k,v,c)]
 | [] =>rfl
 |e::es=>by simp only [List.cons_append,List.length_cons,setE,setE_app es]
theorem put_last {α β:Type}[DecidableEq α]{f:α→AV}{g:β→AV}(hf:KeyF f){k:α}{l:List (α×β)}(h:mGet k l=none)(v w:AV)(c n:Nat) :mapPut (mEnts f g 0 l++ [(f k,w,c)]) n (f k) v=some (mEnts f g 0 l++ [(f k,v,c)],n) :=by
 unfold mapPut
 rw [look_last hf h]
 simp only
 have:=setE_app (k:=f k) (v:=v) (w:=w) (c:=c) (mEnts f g 0 l)
 rw [map_len]at this
 rw [this]
theorem put_first {α β:Type}[DecidableEq α]{f:α→AV}{g:β→AV}(hf:KeyF f){k:α}{l:List (α×β)}(h:mGet k l=none)(v:AV) :mapPut (mEnts f g 0 l) (List.length l) (f k) v=some (mEnts f g 0 l++ [(f k,v,List.length l)],Nat.succ (List.length l)) :=by
 unfold mapPut
 rw [findK_none hf k l 0 0 h]
theorem kl_es {α β:Type}{f:α→AV}{g:β→AV}(hf:∀a,AV.keyless (f a) =true)(hg:∀a,AV.keyless (g a) =true)(l:List (α×β)) :KL (mEnts f g 0 l) :=keyless_ents hf hg l 0
theorem ents_last {α β:Type}[DecidableEq α]{f:α→AV}{g:β→AV}{k:α}{l:List (α×β)}(h:mGet k l=none)(v:β) :mEnts f g 0 l++ [(f k,g v,List.length l)] =mEnts f g 0 (mIns k v l) :=by
 have:= (mput_new f g k v l 0 h).1
 rwa [Nat.zero_add]at this
theorem clock_last {α β:Type}[DecidableEq α]{k:α}{l:List (α×β)}(h:mGet k l=none)(v:β) :Nat.succ (List.length l) =List.length (mIns k v l) := (mput_new (fun _=>AV.nils) (fun _=>AV.nils) k v l 0 h).2.symm
theorem keyless_avI (k:Int) :AV.keyless (avI k) =true:=rfl
theorem keyless_avL (l:List Int) :AV.keyless (avL 1 avI l) =true:=by simp only [avL,AV.keyless]
end Go.Hb
namespace Go.Hb
open Go.Proofs
noncomputable abbrev hoh250 (p:Prog) :Nat×AObj×Bool:= (1,(.cells (putCells .leaf 0 [(iN p.nodes),(iI p.funs),(nI p.main),(iC p.cons)]) 4 [] false),false)
noncomputable abbrev hoh251 (p:Prog) :Nat×AObj×Bool:= (6,(.cells (putCells .leaf 0 [(iN p.nodes),(iI p.funs),(nI p.main),(iC p.cons)]) 4 [] false),false)
noncomputable abbrev hoh252  :Nat×AObj×Bool:= (3,(.loop .exhausted none 49 (mkT [(1,(.ptr 1 0)),(3,(.ptr 2 0))]) 47 [11] (cd Tryz.f49 [1,1,0,1,0,0]) (cd Tryz.f49 [1,1,0,1,0,1]) 4),false)
noncomputable abbrev hoh253  :Nat×AObj×Bool:= (3,(.loop .ready none 49 (mkT [(1,(.ptr 1 0)),(3,(.ptr 2 0))]) 47 [11] (cd Tryz.f49 [1,1,0,1,0,0]) (cd Tryz.f49 [1,1,0,1,0,1]) 4),false)
noncomputable abbrev hoh254  :Nat×AObj×Bool:= (10,(.cells (putCells .leaf 0 [(.func 98 [] [(.ptr 9 0),(.ptr 2 0),(.ptr 10 0)])]) 1 [] false),false)
noncomputable abbrev hoh255  :Nat×AObj×Bool:= (0,(.cells (putCells .leaf 0 [(.func 86 [] [(.ptr 5 0),(.ptr 6 0),(.ptr 0 0)])]) 1 [] false),false)
noncomputable abbrev hoh256  :Nat×AObj×Bool:= (5,(.cells (putCells .leaf 0 [(.yield 3)]) 1 [] false),false)
noncomputable abbrev hoh257 (m7: (List (Int× (List Int)))) :Nat×AObj×Bool:= (7,(.map (mEnts avI (avL 1 avI) 0 m7) m7.length),true)
noncomputable abbrev hoh258  :Nat×AObj×Bool:= (2,(.cells (putCells .leaf 0 [(.map 7)]) 1 [] false),false)
noncomputable abbrev hoh259  :Nat×AObj×Bool:= (9,(.cells (putCells .leaf 0 [(.map 8)]) 1 [] false),false)
noncomputable abbrev hoh2510 (zl0: (List (Int×Bool))) :Nat×AObj×Bool:= (8,(.map (mEnts avI avB 0 zl0) zl0.length),true)
noncomputable def rchd_s (p:Prog) :TS:=startH PP 49 [(Prog.av p)] [] 0
noncomputable def rchd_c0 (p:Prog)(t11:Int)(m7: (List (Int× (List Int)))) :TS:=
 {fr:={fn:=85,nt:=23,sl:=[(3,(.ptr 0 0)),(9,(iI p.funs)),(10,(nI (p.funs.length:Int))),(11,(nI t11))],todo:=[.code (cd Tryz.f85 [1,1,1,1,0,0]),.inLoop (cd Tryz.f85 [1,1,1,1,0,0]),.inBlock 0]},cs:=[{fn:=49,nt:=47,sl:=[(1,(.ptr 1 0)),(2,.nilm),(3,(.ptr 2 0))],todo:=[.inRF 3,.inBlock 0,.code (cd Tryz.f49 [1,1,1])],defers:=[.col 4]}],hp:=[hoh255,hoh250 p,hoh258,hoh253,(4,(.defd false),false),hoh256,hoh251 p,hoh257 m7],nb:=8}
theorem rchd_E_0 (p:Prog) :
  LeadsM PP 0 (rchd_s p).as (rchd_c0 p 0 ([] :List (Int× (List Int)))).as:=
 wW 8 [7,0,2,5,4,6,3,1] [qp (p:= ([] :List (AV×AV×Nat)) = (mEnts avI (avL 1 avI) 0 ([] :List (Int× (List Int))))) rfl,qp (p:=0=List.length ([] :List (Int× (List Int)))) rfl,ql avI p.funs] [rn 8,.mset 1 (mEnts avI (avL 1 avI) 0 ([] :List (Int× (List Int)))) ([] :List (Int× (List Int))).length,rn 23,.lkeep 5 [1,3],rn 18,aL p.funs,rn 4] ⟨kl_map (fun _=>rfl) (fun _=>rfl) _ _ _,trivial⟩
theorem rchd_0_0 (p:Prog)(t11:Int)(m7: (List (Int× (List Int))))(y0:Int)(zr1:List Int)(h0:decide (t11< (p.funs.length:Int)) =true)(h1:0≤t11)(h2: ((p.funs)[t11.toNat]?) =some y0)(h3:Spec PP (.enter 86 [(.agg [(nI y0),(nI t11),(nI 1)]),(.ptr 5 0),(.ptr 6 0),(.ptr 0 0)]) (hpOf [hoh255,hoh250 p,hoh258,hoh253,(4,(.defd false),false),hoh256,hoh251 p,hoh257 m7] 8) (.ret (bV true)) (hpOf [hoh255,hoh250 p,hoh258,hoh253,(4,(.defd false),false),hoh256,hoh251 p,(7,(.mapx (mEnts avI (avL 1 avI) 0 m7) m7.length (avI t11) (.gl 8 1 0 zr1.length false)),false),(8,(.lst 1 (jI zr1)),true)] 9))(h4: (IntKind.i64.wrap (t11+ (1:Int))) = (t11+ (1:Int)))(h5:mGet t11 m7=none) :
  LeadsM PP 0 (rchd_c0 p t11 m7).as (rchd_c0 p (t11+ (1:Int)) (mIns t11 zr1 m7)).as:=
 wW 9 [0,1,2,3,4,5,6,7] [qp h0,qp h1,qg avI h2,qp h3,qp (congrArg (AV.int .i64) h4),qp (p:=AV.keyless (avI t11) =true) rfl,qp (p:=AV.keylessL (jI zr1) =true) (keylessL_map _ (fun _=>rfl) _),qp (p:=AV.frzOk 8 1 (jI zr1) (jI zr1) (.gl 8 1 0 zr1.length false)) (frz_whole _ _),qp (p:= ((mEnts avI (avL 1 avI) 0 m7) ++ [(avI t11,AV.frz 8 (jI zr1) (.gl 8 1 0 zr1.length false),List.length m7)]) = (mEnts avI (avL 1 avI) 0 (mIns t11 zr1 m7))) (ents_last (g:=avL 1 avI) h5 _),qp (p:=Nat.succ m7.length=List.length (mIns t11 zr1 m7)) (clock_last h5 _)] [rn 5,bt 12,rn 7,aI (avI y0),rn 10,.call (bV true) (hpOf [hoh255,hoh250 p,hoh258,hoh253,(4,(.defd false),false),hoh256,hoh251 p,(7,(.mapx (mEnts avI (avL 1 avI) 0 m7) m7.length (avI t11) (.gl 8 1 0 zr1.length false)),false),(8,(.lst 1 (jI zr1)),true)] 9),rn 7,sI 22 (t11+ (1:Int)),rn 3,.mfrz 7 8 (jI zr1),.mset 7 (mEnts avI (avL 1 avI) 0 (mIns t11 zr1 m7)) (mIns t11 zr1 m7).length] ⟨kl_map (fun _=>rfl) (fun _=>rfl) _ _ _,trivial⟩
theorem rchd_0_1 (p:Prog)(t11:Int)(m7: (List (Int× (List Int))))(y0:Int)(h0:decide (t11< (p.funs.length:Int)) =true)(h1:0≤t11)(h2: ((p.funs)[t11.toNat]?) =some y0)(h3:Spec PP (.enter 86 [(.agg [(nI y0),(nI t11),(nI 1)]),(.ptr 5 0),(.ptr 6 0),(.ptr 0 0)]) (hpOf [hoh255,hoh250 p,hoh258,hoh253,(4,(.defd false),false),hoh256,hoh251 p,hoh257 m7] 8) (.ret (bV true)) (hpOf [hoh255,hoh250 p,hoh258,hoh253,(4,(.defd false),false),hoh256,hoh251 p,hoh257 m7] 8))(h4: (IntKind.i64.wrap (t11+ (1:Int))) = (t11+ (1:Int))) :
  LeadsM PP 0 (rchd_c0 p t11 m7).as (rchd_c0 p (t11+ (1:Int)) m7).as:=
 wW 8 [0,1,2,3,4,5,6,7] [qp h0,qp h1,qg avI h2,qp h3,qp (congrArg (AV.int .i64) h4)] [rn 5,bt 12,rn 7,aI (avI y0),rn 10,.call (bV true) (hpOf [hoh255,hoh250 p,hoh258,hoh253,(4,(.defd false),false),hoh256,hoh251 p,hoh257 m7] 8),rn 7,sI 22 (t11+ (1:Int)),rn 3] ⟨kl_map (fun _=>rfl) (fun _=>rfl) _ _ _,trivial⟩
theorem rchd_0_2 (p:Prog)(t11:Int)(m7: (List (Int× (List Int))))(zl0: (List (Int×Bool)))(h0:decide (t11< (p.funs.length:Int)) =false)(h1:Spec PP (.enter 98 [(nI p.main),(.ptr 9 0),(.ptr 2 0),(.ptr 10 0)]) (hpOf [hoh255,hoh250 p,hoh258,hoh252,(4,(.defd false),false),hoh256,hoh251 p,hoh257 m7,(8,(.map (mEnts avI avB 0 ([] :List (Int×Bool))) ([] :List (Int×Bool)).length),true),hoh259,hoh254] 11) (.ret (.tup [])) (hpOf [hoh255,hoh250 p,hoh258,hoh252,(4,(.defd false),false),hoh256,hoh251 p,hoh257 m7,hoh2510 zl0,hoh259,hoh254] 11)) :
  Ends PP 0 (rchd_c0 p t11 m7).as (.ret (.map 0)) (hpOf [(0,(.map (mEnts avI avB 0 zl0) zl0.length),true)] 1) :=
 wE 11 [8] [qp h0,qp (p:= ([] :List (AV×AV×Nat)) = (mEnts avI avB 0 ([] :List (Int×Bool)))) rfl,qp (p:=0=List.length ([] :List (Int×Bool))) rfl,qp h1] [rn 5,bf 12,rn 9,.mset 8 (mEnts avI avB 0 ([] :List (Int×Bool))) ([] :List (Int×Bool)).length,rn 18,.call (.tup []) (hpOf [hoh255,hoh250 p,hoh258,hoh252,(4,(.defd false),false),hoh256,hoh251 p,hoh257 m7,hoh2510 zl0,hoh259,hoh254] 11),rn 8] ⟨kl_map (fun _=>rfl) (fun _=>rfl) _ _ _,trivial⟩
end Go.Hb
namespace Go.Hb
open Go.Proofs
noncomputable abbrev hoh260 (p:Prog) :Nat×AObj×Bool:= (1,(.cells (putCells .leaf 0 [(iN p.nodes),(iI p.funs),(nI p.main),(iC p.cons)]) 4 [] false),false)
noncomputable abbrev hoh261 (p:Prog) :Nat×AObj×Bool:= (6,(.cells (putCells .leaf 0 [(iN p.nodes),(iI p.funs),(nI p.main),(iC p.cons)]) 4 [] false),false)
noncomputable abbrev hoh262  :Nat×AObj×Bool:= (3,(.loop .ready none 49 (mkT [(1,(.ptr 1 0)),(3,(.ptr 2 0))]) 47 [11] (cd Tryz.f49 [1,1,0,1,0,0]) (cd Tryz.f49 [1,1,0,1,0,1]) 4),false)
noncomputable abbrev hoh263  :Nat×AObj×Bool:= (0,(.cells (putCells .leaf 0 [(.func 86 [] [(.ptr 5 0),(.ptr 6 0),(.ptr 0 0)])]) 1 [] false),false)
noncomputable abbrev hoh264 (at0 fn0 sz:Int) :Nat×AObj×Bool:= (8,(.cells (putCells .leaf 0 [(nI at0),(nI fn0),(nI sz)]) 3 [] false),false)
noncomputable abbrev hoh265  :Nat×AObj×Bool:= (5,(.cells (putCells .leaf 0 [(.yield 3)]) 1 [] false),false)
noncomputable abbrev hoh266 (mn: (List (Int× (List Int)))) :Nat×AObj×Bool:= (7,(.map (mEnts avI (avL 1 avI) 0 mn) mn.length),true)
noncomputable abbrev hoh267  :Nat×AObj×Bool:= (2,(.cells (putCells .leaf 0 [(.map 7)]) 1 [] false),false)
noncomputable abbrev HN (p:Prog)(mn:List (Int×List Int)) :List (Nat×AObj×Bool) :=[hoh263,hoh260 p,hoh267,hoh262,(4,(.defd false),false),hoh265,hoh261 p,hoh266 mn]
noncomputable abbrev HNO (p:Prog)(mn:List (Int×List Int))(row:List Int)(fn0:Int) :List (Nat×AObj×Bool) :=[hoh263,hoh260 p,hoh267,hoh262,(4,(.defd false),false),hoh265,hoh261 p,(7,(.mapx (mEnts avI (avL 1 avI) 0 mn) mn.length (avI fn0) (.gl 8 1 0 row.length false)),false),(8,(.lst 1 (jI row)),true)]
noncomputable def wnO_s (p:Prog)(mn: (List (Int× (List Int))))(row:List Int)(at0 fn0 sz:Int) :TS:=startH PP 86 [(.agg [(nI at0),(nI fn0),(nI sz)]),(.ptr 5 0),(.ptr 6 0),(.ptr 0 0)] [hoh263,hoh260 p,hoh267,hoh262,(4,(.defd false),false),hoh265,hoh261 p,(7,(.mapx (mEnts avI (avL 1 avI) 0 mn) mn.length (avI fn0) (.gl 8 1 0 row.length false)),false),(8,(.lst 1 (jI row)),true)] 9
noncomputable def wnO_c0 (p:Prog)(mn: (List (Int× (List Int))))(row:List Int)(at0 fn0 sz:Int)(t19:List Int)(t20:Int)(l9:List Int)(t21:Int) :TS:=
 {fr:={fn:=86,nt:=46,sl:=[(2,(.ptr 6 0)),(3,(.ptr 0 0)),(4,(.ptr 8 0)),(5,(bV false)),(19,(iI t19)),(20,(nI t20)),(21,(nI t21))],todo:=[.code (cd Tryz.f86 [1,1,0,1,0,0]),.inLoop (cd Tryz.f86 [1,1,0,1,0,0]),.inBlock 0,.code (cd Tryz.f86 [1,1,1])]},cs:=[],hp:=[hoh263,hoh260 p,hoh267,hoh262,(4,(.defd false),false),hoh265,hoh261 p,(7,(.mapx (mEnts avI (avL 1 avI) 0 mn) mn.length (avI fn0) (.gl 9 1 0 l9.length false)),false),hoh264 at0 fn0 sz,(9,(.lst 1 (jI l9)),true)],nb:=10}
theorem wnO_E_0 (p:Prog)(mn: (List (Int× (List Int))))(row:List Int)(at0 fn0 sz:Int)(y0:Node)(h0:0≤at0)(h1: ((p.nodes)[at0.toNat]?) =some y0)(h2: (y0.op== (4:Int)) =true)(h3:decide (y0.n< (0:Int)) =true)(h4:mGet fn0 mn=none)(h5:List.length (row++ [(IntKind.i64.wrap ((-1:Int) -y0.n))]) ≤1000000) :
  LeadsM PP 8 (wnO_s p mn row at0 fn0 sz).as (wnO_c0 p mn row at0 fn0 sz y0.kids (y0.kids.length:Int) (row++ [(IntKind.i64.wrap ((-1:Int) -y0.n))]) 0).as:=
 wW 14 [9,13] [qp h0,qg Node.av h1,qp h2,qp h3,qp (p:=findK (avI fn0) ((mEnts avI (avL 1 avI) 0 mn) ++ [(avI fn0,(.gl 8 1 0 row.length false),List.length mn)]) 0=some (some (List.length mn,(.gl 8 1 0 row.length false)))) (look_last key_avI h4 _ _),qp (app_p1 avI row),qp h5,qp (app_p3 avI row [(IntKind.i64.wrap ((-1:Int) -y0.n))]),qp (app_p4 avI row [(IntKind.i64.wrap ((-1:Int) -y0.n))]),qp (p:=mapPut ((mEnts avI (avL 1 avI) 0 mn) ++ [(avI fn0,(.gl 8 1 0 row.length false),List.length mn)]) (Nat.succ mn.length) (avI fn0) (.gl 13 1 0 (row++ [(IntKind.i64.wrap ((-1:Int) -y0.n))]).length false) =some (((mEnts avI (avL 1 avI) 0 mn) ++ [(avI fn0,(.gl 13 1 0 (row++ [(IntKind.i64.wrap ((-1:Int) -y0.n))]).length false),List.length mn)]),Nat.succ mn.length)) (put_last key_avI h4 _ _ _ _),qr (nI fn0),qr (nI fn0),qr (AV.map 7),qr (AV.map 7),qp (p:= ((mEnts avI (avL 1 avI) 0 mn) ++ [(avI fn0,(.gl 13 1 0 (row++ [(IntKind.i64.wrap ((-1:Int) -y0.n))]).length false),List.length mn)]) = (mEnts avI (avL 1 avI) 0 mn) ++ [((avI fn0),(.gl 13 1 0 (row++ [(IntKind.i64.wrap ((-1:Int) -y0.n))]).length false),mn.length)]) rfl,qr (Nat.succ mn.length),qp (p:=KL (mEnts avI (avL 1 avI) 0 mn)) (kl_es keyless_avI keyless_avL _),qp h0,qg Node.av h1,ql avI y0.kids] [rn 24,aI (Node.av y0),rn 10,bt 22,rn 5,bt 26,rn 1,.mopen 7,.reg [.d,.d,.d,.d,.d,.d,.ans (.look (some (List.length mn,(.gl 8 1 0 row.length false)))),.d,.d,.d,.d,.app (jI (row++ [(IntKind.i64.wrap ((-1:Int) -y0.n))])) (row++ [(IntKind.i64.wrap ((-1:Int) -y0.n))]).length,.mput ((mEnts avI (avL 1 avI) 0 mn) ++ [(avI fn0,(.gl 13 1 0 (row++ [(IntKind.i64.wrap ((-1:Int) -y0.n))]).length false),List.length mn)]) (Nat.succ mn.length)],.mclose 7 (mEnts avI (avL 1 avI) 0 mn) mn.length (avI fn0) (.gl 13 1 0 (row++ [(IntKind.i64.wrap ((-1:Int) -y0.n))]).length false),rn 14,aI (Node.av y0),rn 2,aL y0.kids,rn 4] ⟨kk,trivial⟩
theorem wnO_E_1 (p:Prog)(mn: (List (Int× (List Int))))(row:List Int)(at0 fn0 sz:Int)(y0:Node)(h0:0≤at0)(h1: ((p.nodes)[at0.toNat]?) =some y0)(h2: (y0.op== (4:Int)) =true)(h3:decide (y0.n< (0:Int)) =false) :
  LeadsM PP 8 (wnO_s p mn row at0 fn0 sz).as (wnO_c0 p mn row at0 fn0 sz y0.kids (y0.kids.length:Int) row 0).as:=
 wW 12 [9,8] [qp h0,qg Node.av h1,qp h2,qp h3,qp h0,qg Node.av h1,ql avI y0.kids] [rn 24,aI (Node.av y0),rn 10,bt 22,rn 5,bf 26,rn 16,aI (Node.av y0),rn 2,aL y0.kids,rn 4] ⟨kk,trivial⟩
theorem wnO_E_2 (p:Prog)(mn: (List (Int× (List Int))))(row:List Int)(at0 fn0 sz:Int)(y0:Node)(h0:0≤at0)(h1: ((p.nodes)[at0.toNat]?) =some y0)(h2: (y0.op== (4:Int)) =false) :
  LeadsM PP 8 (wnO_s p mn row at0 fn0 sz).as (wnO_c0 p mn row at0 fn0 sz y0.kids (y0.kids.length:Int) row 0).as:=
 wW 12 [9,8] [qp h0,qg Node.av h1,qp h2,qp h0,qg Node.av h1,ql avI y0.kids] [rn 24,aI (Node.av y0),rn 10,bf 22,rn 21,aI (Node.av y0),rn 2,aL y0.kids,rn 4] ⟨kk,trivial⟩
theorem wnO_0_0 (p:Prog)(mn: (List (Int× (List Int))))(row:List Int)(at0 fn0 sz:Int)(t19:List Int)(t20:Int)(l9:List Int)(t21 y0:Int)(y1:Node)(y2:Int)(zr3:List Int)(h0:decide (t21<t20) =true)(h1:0≤t21)(h2: ((t19)[t21.toNat]?) =some y0)(h3:0≤at0)(h4: ((p.nodes)[at0.toNat]?) =some y1)(h5:Pure PP 87 [(Node.av y1),(nI t21)] (nI y2))(h6:Spec PP (.enter 86 [(.agg [(nI y0),(nI fn0),(nI (IntKind.i64.wrap (sz+y2)))]),(.ptr 5 0),(.ptr 6 0),(.ptr 0 0)]) (hpOf [hoh263,hoh260 p,hoh267,hoh262,(4,(.defd false),false),hoh265,hoh261 p,(7,(.mapx (mEnts avI (avL 1 avI) 0 mn) mn.length (avI fn0) (.gl 9 1 0 l9.length false)),false),hoh264 at0 fn0 sz,(9,(.lst 1 (jI l9)),true)] 10) (.ret (bV true)) (hpOf [hoh263,hoh260 p,hoh267,hoh262,(4,(.defd false),false),hoh265,hoh261 p,(7,(.mapx (mEnts avI (avL 1 avI) 0 mn) mn.length (avI fn0) (.gl 10 1 0 (l9++zr3).length false)),false),hoh264 at0 fn0 sz,(10,(.lst 1 (jI (l9++zr3))),true)] 11))(h7: (IntKind.i64.wrap (t21+ (1:Int))) = (t21+ (1:Int))) :
  LeadsM PP 8 (wnO_c0 p mn row at0 fn0 sz t19 t20 l9 t21).as (wnO_c0 p mn row at0 fn0 sz t19 t20 (l9++zr3) (t21+ (1:Int))).as:=
 wW 11 [8,10] [qp h0,qp h1,qg avI h2,qp h3,qg Node.av h4,qp h5,qp h6,qr (nI sz),qr (nI sz),qr (nI fn0),qr (nI fn0),qr (AV.func 86 [] [(.ptr 5 0),(.ptr 6 0),(.ptr 0 0)]),qr (AV.func 86 [] [(.ptr 5 0),(.ptr 6 0),(.ptr 0 0)]),qp (congrArg (AV.int .i64) h7)] [rn 5,bt 22,rn 7,aI (avI y0),rn 5,.reg [.d,.d,.d,.d,.d,.d,.d,.d,.d,.d,.d,.ans (.idx (Node.av y1)),.d,.d,.pure (nI y2),.d,.d,.call (bV true) (hpOf [hoh263,hoh260 p,hoh267,hoh262,(4,(.defd false),false),hoh265,hoh261 p,(7,(.mapx (mEnts avI (avL 1 avI) 0 mn) mn.length (avI fn0) (.gl 10 1 0 (l9++zr3).length false)),false),hoh264 at0 fn0 sz,(10,(.lst 1 (jI (l9++zr3))),true)] 11),.d],rn 5,sI 45 (t21+ (1:Int)),rn 3] ⟨kk,trivial⟩
theorem wnO_0_1 (p:Prog)(mn: (List (Int× (List Int))))(row:List Int)(at0 fn0 sz:Int)(t19:List Int)(t20:Int)(l9:List Int)(t21:Int)(h0:decide (t21<t20) =false) :
  Ends PP 8 (wnO_c0 p mn row at0 fn0 sz t19 t20 l9 t21).as (.ret (bV true)) (hpOf [hoh263,hoh260 p,hoh267,hoh262,(4,(.defd false),false),hoh265,hoh261 p,(7,(.mapx (mEnts avI (avL 1 avI) 0 mn) mn.length (avI fn0) (.gl 8 1 0 l9.length false)),false),(8,(.lst 1 (jI l9)),true)] 9) :=
 wE 10 [9] [qp h0] [rn 5,bf 22,rn 7] ⟨kk,trivial⟩
noncomputable def wnC_s (p:Prog)(mn: (List (Int× (List Int))))(at0 fn0 sz:Int) :TS:=startH PP 86 [(.agg [(nI at0),(nI fn0),(nI sz)]),(.ptr 5 0),(.ptr 6 0),(.ptr 0 0)] [hoh263,hoh260 p,hoh267,hoh262,(4,(.defd false),false),hoh265,hoh261 p,hoh266 mn] 8
noncomputable def wnC_c0 (p:Prog)(mn: (List (Int× (List Int))))(at0 fn0 sz:Int)(t19:List Int)(t20:Int)(l9:List Int)(t21:Int) :TS:=
 {fr:={fn:=86,nt:=46,sl:=[(2,(.ptr 6 0)),(3,(.ptr 0 0)),(4,(.ptr 8 0)),(5,(bV false)),(19,(iI t19)),(20,(nI t20)),(21,(nI t21))],todo:=[.code (cd Tryz.f86 [1,1,0,1,0,0]),.inLoop (cd Tryz.f86 [1,1,0,1,0,0]),.inBlock 0,.code (cd Tryz.f86 [1,1,1])]},cs:=[],hp:=[hoh263,hoh260 p,hoh267,hoh262,(4,(.defd false),false),hoh265,hoh261 p,(7,(.mapx (mEnts avI (avL 1 avI) 0 mn) mn.length (avI fn0) (.gl 9 1 0 l9.length false)),false),hoh264 at0 fn0 sz,(9,(.lst 1 (jI l9)),true)],nb:=10}
noncomputable def wnC_c1 (p:Prog)(mn: (List (Int× (List Int))))(at0 fn0 sz:Int)(t19:List Int)(t20 t21:Int) :TS:=
 {fr:={fn:=86,nt:=46,sl:=[(2,(.ptr 6 0)),(3,(.ptr 0 0)),(4,(.ptr 8 0)),(5,(bV false)),(19,(iI t19)),(20,(nI t20)),(21,(nI t21))],todo:=[.code (cd Tryz.f86 [1,1,0,1,0,0]),.inLoop (cd Tryz.f86 [1,1,0,1,0,0]),.inBlock 0,.code (cd Tryz.f86 [1,1,1])]},cs:=[],hp:=[hoh263,hoh260 p,hoh267,hoh262,(4,(.defd false),false),hoh265,hoh261 p,hoh266 mn,hoh264 at0 fn0 sz],nb:=9}
theorem wnC_E_0 (p:Prog)(mn: (List (Int× (List Int))))(at0 fn0 sz:Int)(y0:Node)(h0:0≤at0)(h1: ((p.nodes)[at0.toNat]?) =some y0)(h2: (y0.op== (4:Int)) =true)(h3:decide (y0.n< (0:Int)) =true)(h4:mGet fn0 mn=none) :
  LeadsM PP 8 (wnC_s p mn at0 fn0 sz).as (wnC_c0 p mn at0 fn0 sz y0.kids (y0.kids.length:Int) [(IntKind.i64.wrap ((-1:Int) -y0.n))] 0).as:=
 wW 13 [8,12] [qp h0,qg Node.av h1,qp h2,qp h3,qp (p:=findK (avI fn0) (mEnts avI (avL 1 avI) 0 mn) 0=some none) (look_none key_avI h4),qp (p:=mapPut (mEnts avI (avL 1 avI) 0 mn) mn.length (avI fn0) (.slice 12 0 1 1 1 false) =some (((mEnts avI (avL 1 avI) 0 mn) ++ [(avI fn0,(.slice 12 0 1 1 1 false),List.length mn)]),Nat.succ mn.length)) (put_first key_avI h4 _),qr (nI fn0),qr (nI fn0),qr (AV.map 7),qr (AV.map 7),qp (p:= ((mEnts avI (avL 1 avI) 0 mn) ++ [(avI fn0,(.slice 12 0 1 1 1 false),List.length mn)]) = (mEnts avI (avL 1 avI) 0 mn) ++ [((avI fn0),(.slice 12 0 1 1 1 false),mn.length)]) rfl,qr (Nat.succ mn.length),qp (p:=KL (mEnts avI (avL 1 avI) 0 mn)) (kl_es keyless_avI keyless_avL _),qp (p:=getCells (putCells .leaf 0 [(nI (IntKind.i64.wrap ((-1:Int) -y0.n)))]) 0 (1*1) =some [(nI (IntKind.i64.wrap ((-1:Int) -y0.n)))]) rfl,qp (p:=allOne [(nI (IntKind.i64.wrap ((-1:Int) -y0.n)))] =true) rfl,qp (p:=[(nI (IntKind.i64.wrap ((-1:Int) -y0.n)))] = (jI [(IntKind.i64.wrap ((-1:Int) -y0.n))])) rfl,qp h0,qg Node.av h1,ql avI y0.kids] [rn 24,aI (Node.av y0),rn 10,bt 22,rn 5,bt 26,rn 1,.reg [.d,.d,.d,.d,.d,.d,.ans (.look none),.d,.d,.d,.d,.d,.mput ((mEnts avI (avL 1 avI) 0 mn) ++ [(avI fn0,(.slice 12 0 1 1 1 false),List.length mn)]) (Nat.succ mn.length)],.mclose 7 (mEnts avI (avL 1 avI) 0 mn) mn.length (avI fn0) (.slice 12 0 1 1 1 false),.mtoL 7 false [(nI (IntKind.i64.wrap ((-1:Int) -y0.n)))],.lset 12 (jI [(IntKind.i64.wrap ((-1:Int) -y0.n))]),rn 14,aI (Node.av y0),rn 2,aL y0.kids,rn 4] ⟨kk,trivial⟩
theorem wnC_E_1 (p:Prog)(mn: (List (Int× (List Int))))(at0 fn0 sz:Int)(y0:Node)(h0:0≤at0)(h1: ((p.nodes)[at0.toNat]?) =some y0)(h2: (y0.op== (4:Int)) =true)(h3:decide (y0.n< (0:Int)) =false) :
  LeadsM PP 8 (wnC_s p mn at0 fn0 sz).as (wnC_c1 p mn at0 fn0 sz y0.kids (y0.kids.length:Int) 0).as:=
 wW 11 [8] [qp h0,qg Node.av h1,qp h2,qp h3,qp h0,qg Node.av h1,ql avI y0.kids] [rn 24,aI (Node.av y0),rn 10,bt 22,rn 5,bf 26,rn 16,aI (Node.av y0),rn 2,aL y0.kids,rn 4] ⟨kl_map (fun _=>rfl) (fun _=>rfl) _ _ _,trivial⟩
theorem wnC_E_2 (p:Prog)(mn: (List (Int× (List Int))))(at0 fn0 sz:Int)(y0:Node)(h0:0≤at0)(h1: ((p.nodes)[at0.toNat]?) =some y0)(h2: (y0.op== (4:Int)) =false) :
  LeadsM PP 8 (wnC_s p mn at0 fn0 sz).as (wnC_c1 p mn at0 fn0 sz y0.kids (y0.kids.length:Int) 0).as:=
 wW 11 [8] [qp h0,qg Node.av h1,qp h2,qp h0,qg Node.av h1,ql avI y0.kids] [rn 24,aI (Node.av y0),rn 10,bf 22,rn 21,aI (Node.av y0),rn 2,aL y0.kids,rn 4] ⟨kl_map (fun _=>rfl) (fun _=>rfl) _ _ _,trivial⟩
theorem wnC_0_0 (p:Prog)(mn: (List (Int× (List Int))))(at0 fn0 sz:Int)(t19:List Int)(t20:Int)(l9:List Int)(t21 y0:Int)(y1:Node)(y2:Int)(zr3:List Int)(h0:decide (t21<t20) =true)(h1:0≤t21)(h2: ((t19)[t21.toNat]?) =some y0)(h3:0≤at0)(h4: ((p.nodes)[at0.toNat]?) =some y1)(h5:Pure PP 87 [(Node.av y1),(nI t21)] (nI y2))(h6:Spec PP (.enter 86 [(.agg [(nI y0),(nI fn0),(nI (IntKind.i64.wrap (sz+y2)))]),(.ptr 5 0),(.ptr 6 0),(.ptr 0 0)]) (hpOf [hoh263,hoh260 p,hoh267,hoh262,(4,(.defd false),false),hoh265,hoh261 p,(7,(.mapx (mEnts avI (avL 1 avI) 0 mn) mn.length (avI fn0) (.gl 9 1 0 l9.length false)),false),hoh264 at0 fn0 sz,(9,(.lst 1 (jI l9)),true)] 10) (.ret (bV true)) (hpOf [hoh263,hoh260 p,hoh267,hoh262,(4,(.defd false),false),hoh265,hoh261 p,(7,(.mapx (mEnts avI (avL 1 avI) 0 mn) mn.length (avI fn0) (.gl 10 1 0 (l9++zr3).length false)),false),hoh264 at0 fn0 sz,(10,(.lst 1 (jI (l9++zr3))),true)] 11))(h7: (IntKind.i64.wrap (t21+ (1:Int))) = (t21+ (1:Int))) :
  LeadsM PP 8 (wnC_c0 p mn at0 fn0 sz t19 t20 l9 t21).as (wnC_c0 p mn at0 fn0 sz t19 t20 (l9++zr3) (t21+ (1:Int))).as:=
 wW 11 [8,10] [qp h0,qp h1,qg avI h2,qp h3,qg Node.av h4,qp h5,qp h6,qr (nI sz),qr (nI sz),qr (nI fn0),qr (nI fn0),qr (AV.func 86 [] [(.ptr 5 0),(.ptr 6 0),(.ptr 0 0)]),qr (AV.func 86 [] [(.ptr 5 0),(.ptr 6 0),(.ptr 0 0)]),qp (congrArg (AV.int .i64) h7)] [rn 5,bt 22,rn 7,aI (avI y0),rn 5,.reg [.d,.d,.d,.d,.d,.d,.d,.d,.d,.d,.d,.ans (.idx (Node.av y1)),.d,.d,.pure (nI y2),.d,.d,.call (bV true) (hpOf [hoh263,hoh260 p,hoh267,hoh262,(4,(.defd false),false),hoh265,hoh261 p,(7,(.mapx (mEnts avI (avL 1 avI) 0 mn) mn.length (avI fn0) (.gl 10 1 0 (l9++zr3).length false)),false),hoh264 at0 fn0 sz,(10,(.lst 1 (jI (l9++zr3))),true)] 11),.d],rn 5,sI 45 (t21+ (1:Int)),rn 3] ⟨kk,trivial⟩
theorem wnC_0_2 (p:Prog)(mn: (List (Int× (List Int))))(at0 fn0 sz:Int)(t19:List Int)(t20:Int)(l9:List Int)(t21:Int)(h0:decide (t21<t20) =false) :
  Ends PP 8 (wnC_c0 p mn at0 fn0 sz t19 t20 l9 t21).as (.ret (bV true)) (hpOf [hoh263,hoh260 p,hoh267,hoh262,(4,(.defd false),false),hoh265,hoh261 p,(7,(.mapx (mEnts avI (avL 1 avI) 0 mn) mn.length (avI fn0) (.gl 8 1 0 l9.length false)),false),(8,(.lst 1 (jI l9)),true)] 9) :=
 wE 10 [9] [qp h0] [rn 5,bf 22,rn 7] ⟨kk,trivial⟩
theorem wnC_1_0 (p:Prog)(mn: (List (Int× (List Int))))(at0 fn0 sz:Int)(t19:List Int)(t20 t21 y0:Int)(y1:Node)(y2:Int)(zr3:List Int)(h0:decide (t21<t20) =true)(h1:0≤t21)(h2: ((t19)[t21.toNat]?) =some y0)(h3:0≤at0)(h4: ((p.nodes)[at0.toNat]?) =some y1)(h5:Pure PP 87 [(Node.av y1),(nI t21)] (nI y2))(h6:Spec PP (.enter 86 [(.agg [(nI y0),(nI fn0),(nI (IntKind.i64.wrap (sz+y2)))]),(.ptr 5 0),(.ptr 6 0),(.ptr 0 0)]) (hpOf [hoh263,hoh260 p,hoh267,hoh262,(4,(.defd false),false),hoh265,hoh261 p,hoh266 mn,hoh264 at0 fn0 sz] 9) (.ret (bV true)) (hpOf [hoh263,hoh260 p,hoh267,hoh262,(4,(.defd false),false),hoh265,hoh261 p,(7,(.mapx (mEnts avI (avL 1 avI) 0 mn) mn.length (avI fn0) (.gl 9 1 0 zr3.length false)),false),hoh264 at0 fn0 sz,(9,(.lst 1 (jI zr3)),true)] 10))(h7: (IntKind.i64.wrap (t21+ (1:Int))) = (t21+ (1:Int))) :
  LeadsM PP 8 (wnC_c1 p mn at0 fn0 sz t19 t20 t21).as (wnC_c0 p mn at0 fn0 sz t19 t20 zr3 (t21+ (1:Int))).as:=
 wW 10 [8,9] [qp h0,qp h1,qg avI h2,qp h3,qg Node.av h4,qp h5,qp h6,qr (nI sz),qr (nI sz),qr (nI fn0),qr (nI fn0),qr (AV.func 86 [] [(.ptr 5 0),(.ptr 6 0),(.ptr 0 0)]),qr (AV.func 86 [] [(.ptr 5 0),(.ptr 6 0),(.ptr 0 0)]),qp (congrArg (AV.int .i64) h7)] [rn 5,bt 22,rn 7,aI (avI y0),rn 5,.reg [.d,.d,.d,.d,.d,.d,.d,.d,.d,.d,.d,.ans (.idx (Node.av y1)),.d,.d,.pure (nI y2),.d,.d,.call (bV true) (hpOf [hoh263,hoh260 p,hoh267,hoh262,(4,(.defd false),false),hoh265,hoh261 p,(7,(.mapx (mEnts avI (avL 1 avI) 0 mn) mn.length (avI fn0) (.gl 9 1 0 zr3.length false)),false),hoh264 at0 fn0 sz,(9,(.lst 1 (jI zr3)),true)] 10),.d],rn 5,sI 45 (t21+ (1:Int)),rn 3] ⟨kk,trivial⟩
theorem wnC_1_1 (p:Prog)(mn: (List (Int× (List Int))))(at0 fn0 sz:Int)(t19:List Int)(t20 t21 y0:Int)(y1:Node)(y2:Int)(h0:decide (t21<t20) =true)(h1:0≤t21)(h2: ((t19)[t21.toNat]?) =some y0)(h3:0≤at0)(h4: ((p.nodes)[at0.toNat]?) =some y1)(h5:Pure PP 87 [(Node.av y1),(nI t21)] (nI y2))(h6:Spec PP (.enter 86 [(.agg [(nI y0),(nI fn0),(nI (IntKind.i64.wrap (sz+y2)))]),(.ptr 5 0),(.ptr 6 0),(.ptr 0 0)]) (hpOf [hoh263,hoh260 p,hoh267,hoh262,(4,(.defd false),false),hoh265,hoh261 p,hoh266 mn,hoh264 at0 fn0 sz] 9) (.ret (bV true)) (hpOf [hoh263,hoh260 p,hoh267,hoh262,(4,(.defd false),false),hoh265,hoh261 p,hoh266 mn,hoh264 at0 fn0 sz] 9))(h7: (IntKind.i64.wrap (t21+ (1:Int))) = (t21+ (1:Int))) :
  LeadsM PP 8 (wnC_c1 p mn at0 fn0 sz t19 t20 t21).as (wnC_c1 p mn at0 fn0 sz t19 t20 (t21+ (1:Int))).as:=
 wW 9 [8] [qp h0,qp h1,qg avI h2,qp h3,qg Node.av h4,qp h5,qp h6,qr (nI sz),qr (nI sz),qr (nI fn0),qr (nI fn0),qr (AV.func 86 [] [(.ptr 5 0),(.ptr 6 0),(.ptr 0 0)]),qr (AV.func 86 [] [(.ptr 5 0),(.ptr 6 0),(.ptr 0 0)]),qp (congrArg (AV.int .i64) h7)] [rn 5,bt 22,rn 7,aI (avI y0),rn 5,.reg [.d,.d,.d,.d,.d,.d,.d,.d,.d,.d,.d,.ans (.idx (Node.av y1)),.d,.d,.pure (nI y2),.d,.d,.call (bV true) (hpOf [hoh263,hoh260 p,hoh267,hoh262,(4,(.defd false),false),hoh265,hoh261 p,hoh266 mn,hoh264 at0 fn0 sz] 9),.d],rn 5,sI 45 (t21+ (1:Int)),rn 3] ⟨kl_map (fun _=>rfl) (fun _=>rfl) _ _ _,trivial⟩
theorem wnC_1_2 (p:Prog)(mn: (List (Int× (List Int))))(at0 fn0 sz:Int)(t19:List Int)(t20 t21:Int)(h0:decide (t21<t20) =false) :
  Ends PP 8 (wnC_c1 p mn at0 fn0 sz t19 t20 t21).as (.ret (bV true)) (hpOf [hoh263,hoh260 p,hoh267,hoh262,(4,(.defd false),false),hoh265,hoh261 p,hoh266 mn] 8) :=
 wE 9 [] [qp h0] [rn 5,bf 22,rn 7] ⟨kl_map (fun _=>rfl) (fun _=>rfl) _ _ _,trivial⟩
end Go.Hb
namespace Go.Hb
open Go.Proofs
set_option maxHeartbeats 2000000
noncomputable section
def nmsOf (x:Node) :List Int:=if x.op=4∧x.n<0 then [-1-x.n]else []
def nmP (p:Prog) :Nat→Int→List Int
 |0,_=>[]
 | f+1,a=>match p.nodes[a.toNat]? with
  |none=>[]
  |some x=>nmsOf x++ (x.kids.map (nmP p f)).flatten
abbrev wargsN (a fn sz:Int) :List AV:=[stepAV a fn sz,.ptr 5 0,.ptr 6 0,.ptr 0 0]
section
variable (p :Prog) (mn:List (Int×List Int))
def WalkNO (a fn sz:Int)(l l':List Int) :Prop:=SpecM PP 8 (.enter 86 (wargsN a fn sz)) (hpOf (HNO p mn l fn) 9) (.ret (.bool true)) (hpOf (HNO p mn l' fn) 9)
def hpN (fn:Int)(l:List Int) :Hp:=if l= []then hpOf (HN p mn) 8 else hpOf (HNO p mn l fn) 9
def WalkNC (a fn sz:Int)(l:List Int) :Prop:=SpecM PP 8 (.enter 86 (wargsN a fn sz)) (hpOf (HN p mn) 8) (.ret (.bool true)) (hpN p mn fn l)
variable {p mn}
theorem wnO_start {l l':List Int}{a fn sz:Int}(h:Ends PP 8 (wnO_s p mn l a fn sz).as (.ret (.bool true)) (hpOf (HNO p mn l' fn) 9)) :WalkNO p mn a fn sz l l':=
 ⟨(wnO_s p mn l a fn sz).as.fr,by kernel_rfl,Eq.mp (by kernel_rfl) h⟩
theorem wnC_start {l:List Int}{a fn sz:Int}(h:Ends PP 8 (wnC_s p mn a fn sz).as (.ret (.bool true)) (hpN p mn fn l)) :WalkNC p mn a fn sz l:=
 ⟨(wnC_s p mn a fn sz).as.fr,by kernel_rfl,Eq.mp (by kernel_rfl) h⟩
theorem kl_mn (mn:List (Int×List Int)) : (AObj.map (mEnts avI (avL 1 avI) 0 mn) (List.length mn)).kl:=mr_kl mn
theorem wnO_loop (hp:FineP p){f:Nat}{a fn sz:Int}(l0:List Int){x:Node}(ha:0≤a)(hx:p.nodes[a.toNat]?=some x)(hs0:0≤sz)(hs:sz≤1000* (a+1))
  (ih:∀ (k tz:Int) (l:List Int),a<k→k<p.nodes.length→0≤tz→tz≤1000* (k+1) →l.length+ (nmP p f k).length≤1000000→WalkNO p mn k fn tz l (l++nmP p f k)) :
  ∀ (t:List Int) (j:Nat) (l:List Int),x.kids.drop j=t→l.length+ ((t.map (nmP p f)).flatten).length≤1000000→Ends PP 8 (wnO_c0 p mn l0 a fn sz x.kids ((List.length x.kids:Nat) :Int) l (j:Int)).as (.ret (.bool true)) (hpOf (HNO p mn (l++ (t.map (nmP p f)).flatten) fn) 9)
 | [],j,l,h,hb=>by
  have:=dropN h
  rw [List.map_nil,List.flatten_nil,List.append_nil]
  exact wnO_0_1 p mn l0 a fn sz x.kids _ l j sd
 | k ::t,j,l,h,hlen=>by
  obtain⟨g1,g2,g3⟩ :=dropC h
  obtain⟨hf,hk10,hks⟩ :=hp.node _ _ hx
  have hk:=hks k (List.mem_of_getElem? g1)
  have hb:=addsN_le hf (j:Int)
  have hn:=hp.small
  have ew:IntKind.i64.wrap (sz+addsN x j) =sz+addsN x j:=wrap64 (by omega) (by omega)
  simp only [List.map_cons,List.flatten_cons,List.length_append]at hlen
  have hw:WalkNO p mn k fn (IntKind.i64.wrap (sz+addsN x j)) l (l++nmP p f k) :=by
   rw [ew]
   exact ih k (sz+addsN x j) l (by omega) (by omega) (by omega) (by omega) (by omega)
  have hstep:=wnO_0_0 p mn l0 a fn sz x.kids ((List.length x.kids:Nat) :Int) l j k x _ (nmP p f k) sd sd sd ha hx (bAdds_pure hf (by omega) (by omega) hk10)
   (spec_gen2 (m:=8) (ks:=[0,1,2,3,4,5,6,7,9]) hw (by rfl) (by rfl) (by kernel_rfl) (by rfl) (by rfl) (by kernel_rfl) (by kernel_rfl)
    ⟨keylessL_map _ (fun _=>rfl) _,trivial⟩ (by kernel_rfl) ⟨keylessL_map _ (fun _=>rfl) _,trivial⟩
    (by kernel_rfl) (by kernel_rfl) (by kernel_rfl) (by kernel_rfl) (by kernel_rfl) (by kernel_rfl) (by kernel_rfl)) sd
  have h2:=wnO_loop hp l0 ha hx hs0 hs ih t (j+1) (l++nmP p f k) g2 (by rw [List.length_append];omega)
  rw [List.map_cons,List.flatten_cons,←List.append_assoc]
  exact hstep.ends h2
theorem wnO_walk (hp:FineP p)(hnm:∀ (i:Nat) (x:Node),p.nodes[i]?=some x→x.op=4→x.n<0→ -1000000000≤x.n)(fn:Int)(hN:mGet fn mn=none) :∀ (f:Nat) (a sz:Int) (l:List Int),0≤a→a<p.nodes.length→p.nodes.length-a.toNat≤f→0≤sz→sz≤1000* (a+1) →l.length+ (nmP p f a).length≤1000000→WalkNO p mn a fn sz l (l++nmP p f a)
 |0,a,sz,l,ha,hn,hf,_,_,_=>by omega
 | f + 1,a,sz,l,ha,hn,hf,h0,h1,hb=>by
  obtain⟨x,hx⟩ :∃x,p.nodes[a.toNat]?=some x:= ⟨_,List.getElem?_eq_getElem (by omega)⟩
  have e:nmP p (f+1) a=nmsOf x++ (x.kids.map (nmP p f)).flatten:=by rw [nmP,hx]
  rw [e]at hb ⊢
  rw [List.length_append]at hb
  rw [←List.append_assoc]
  refine wnO_start ?_
  have hC:=wnO_loop (mn:=mn) (fn:=fn) hp (f:=f) l ha hx h0 h1 (fun k tz l hk hkn ht0 ht hl=>wnO_walk hp hnm fn hN f k tz l (by omega) hkn (by omega) ht0 ht hl) x.kids 0 (l++nmsOf x) rfl (by rw [List.length_append];omega)
  by_cases h4:x.op=4
  · by_cases hneg:x.n<0
    · have en:nmsOf x= [-1-x.n] :=if_pos ⟨h4,hneg⟩
      have hw:=hnm _ x hx h4 hneg
      have ew:IntKind.i64.wrap ((-1:Int) -x.n) = -1-x.n:=wrap64 (by omega) (by omega)
      have hE:=wnO_E_0 p mn l a fn sz x ha hx (by simp [h4]) (by simp;omega) hN (by rw [List.length_append];rw [en]at hb;simp only [List.length_cons,List.length_nil]at hb ⊢;omega)
      rw [ew]at hE
      rw [en]at hC ⊢
      exact hE.ends hC
    · have en:nmsOf x= [] :=if_neg (fun h=>hneg h.2)
      rw [en,List.append_nil]at hC ⊢
      exact(wnO_E_1 p mn l a fn sz x ha hx (by simp [h4]) (by simp;omega)).ends hC
  · have en:nmsOf x= [] :=if_neg (fun h=>h4 h.1)
    rw [en,List.append_nil]at hC ⊢
    exact(wnO_E_2 p mn l a fn sz x ha hx (by simp [h4])).ends hC
theorem wnC_loop0 (hp:FineP p){f:Nat}{a fn sz:Int}{x:Node}(ha:0≤a)(hx:p.nodes[a.toNat]?=some x)(hs0:0≤sz)(hs:sz≤1000* (a+1))
  (ih:∀ (k tz:Int) (l:List Int),a<k→k<p.nodes.length→0≤tz→tz≤1000* (k+1) →l.length+ (nmP p f k).length≤1000000→WalkNO p mn k fn tz l (l++nmP p f k)) :
  ∀ (t:List Int) (j:Nat) (l:List Int),x.kids.drop j=t→l.length+ ((t.map (nmP p f)).flatten).length≤1000000→Ends PP 8 (wnC_c0 p mn a fn sz x.kids ((List.length x.kids:Nat) :Int) l (j:Int)).as (.ret (.bool true)) (hpOf (HNO p mn (l++ (t.map (nmP p f)).flatten) fn) 9)
 | [],j,l,h,hb=>by
  have:=dropN h
  rw [List.map_nil,List.flatten_nil,List.append_nil]
  exact wnC_0_2 p mn a fn sz x.kids _ l j sd
 | k ::t,j,l,h,hlen=>by
  obtain⟨g1,g2,g3⟩ :=dropC h
  obtain⟨hf,hk10,hks⟩ :=hp.node _ _ hx
  have hk:=hks k (List.mem_of_getElem? g1)
  have hb:=addsN_le hf (j:Int)
  have hn:=hp.small
  have ew:IntKind.i64.wrap (sz+addsN x j) =sz+addsN x j:=wrap64 (by omega) (by omega)
  simp only [List.map_cons,List.flatten_cons,List.length_append]at hlen
  have hw:WalkNO p mn k fn (IntKind.i64.wrap (sz+addsN x j)) l (l++nmP p f k) :=by
   rw [ew]
   exact ih k (sz+addsN x j) l (by omega) (by omega) (by omega) (by omega) (by omega)
  have hstep:=wnC_0_0 p mn a fn sz x.kids ((List.length x.kids:Nat) :Int) l j k x _ (nmP p f k) sd sd sd ha hx (bAdds_pure hf (by omega) (by omega) hk10)
   (spec_gen2 (m:=8) (ks:=[0,1,2,3,4,5,6,7,9]) hw (by rfl) (by rfl) (by kernel_rfl) (by rfl) (by rfl) (by kernel_rfl) (by kernel_rfl)
    ⟨keylessL_map _ (fun _=>rfl) _,trivial⟩ (by kernel_rfl) ⟨keylessL_map _ (fun _=>rfl) _,trivial⟩
    (by kernel_rfl) (by kernel_rfl) (by kernel_rfl) (by kernel_rfl) (by kernel_rfl) (by kernel_rfl) (by kernel_rfl)) sd
  have h2:=wnC_loop0 hp ha hx hs0 hs ih t (j+1) (l++nmP p f k) g2 (by rw [List.length_append];omega)
  rw [List.map_cons,List.flatten_cons,←List.append_assoc]
  exact hstep.ends h2
theorem hpN_nil (fn:Int) :hpN p mn fn [] =hpOf (HN p mn) 8:=if_pos rfl
theorem hpN_ne {fn:Int}{l:List Int}(h:l≠ []) :hpN p mn fn l=hpOf (HNO p mn l fn) 9:=if_neg h
theorem wnC_loop1 (hp:FineP p){f:Nat}{a fn sz:Int}{x:Node}(ha:0≤a)(hx:p.nodes[a.toNat]?=some x)(hs0:0≤sz)(hs:sz≤1000* (a+1))
  (ih:∀ (k tz:Int) (l:List Int),a<k→k<p.nodes.length→0≤tz→tz≤1000* (k+1) →l.length+ (nmP p f k).length≤1000000→WalkNO p mn k fn tz l (l++nmP p f k))
  (ih2:∀ (k tz:Int),a<k→k<p.nodes.length→0≤tz→tz≤1000* (k+1) → (nmP p f k).length≤1000000→WalkNC p mn k fn tz (nmP p f k)) :
  ∀ (t:List Int) (j:Nat),x.kids.drop j=t→ ((t.map (nmP p f)).flatten).length≤1000000→Ends PP 8 (wnC_c1 p mn a fn sz x.kids ((List.length x.kids:Nat) :Int) (j:Int)).as (.ret (.bool true)) (hpN p mn fn (t.map (nmP p f)).flatten)
 | [],j,h,hb=>by
  have:=dropN h
  rw [List.map_nil,List.flatten_nil,hpN_nil]
  exact wnC_1_2 p mn a fn sz x.kids _ j sd
 | k ::t,j,h,hlen=>by
  obtain⟨g1,g2,g3⟩ :=dropC h
  obtain⟨hf,hk10,hks⟩ :=hp.node _ _ hx
  have hk:=hks k (List.mem_of_getElem? g1)
  have hb:=addsN_le hf (j:Int)
  have hn:=hp.small
  have ew:IntKind.i64.wrap (sz+addsN x j) =sz+addsN x j:=wrap64 (by omega) (by omega)
  simp only [List.map_cons,List.flatten_cons,List.length_append]at hlen
  have hw:WalkNC p mn k fn (IntKind.i64.wrap (sz+addsN x j)) (nmP p f k) :=by
   rw [ew]
   exact ih2 k (sz+addsN x j) (by omega) (by omega) (by omega) (by omega) (by omega)
  rw [List.map_cons,List.flatten_cons]
  by_cases hr:nmP p f k= []
  · rw [hr]at hw ⊢
    unfold WalkNC at hw
    rw [hpN_nil]at hw
    have hstep:=wnC_1_1 p mn a fn sz x.kids ((List.length x.kids:Nat) :Int) j k x _ sd sd sd ha hx (bAdds_pure hf (by omega) (by omega) hk10)
     (spec_frame (x:=boxS 8 a fn sz) hw (by kernel_rfl) (by rfl) (by rfl) (by kernel_rfl) (by kernel_rfl) ⟨kl_mn mn,trivial⟩ (by kernel_rfl) (by kernel_rfl) (by kernel_rfl)) sd
    rw [List.nil_append]
    exact hstep.ends (wnC_loop1 hp ha hx hs0 hs ih ih2 t (j+1) g2 (by omega))
  · unfold WalkNC at hw
    rw [hpN_ne hr]at hw
    have hne:nmP p f k++ (t.map (nmP p f)).flatten≠ [] :=fun h=>hr (List.append_eq_nil_iff.1 h).1
    rw [hpN_ne hne]
    have hstep:=wnC_1_0 p mn a fn sz x.kids ((List.length x.kids:Nat) :Int) j k x _ (nmP p f k) sd sd sd ha hx (bAdds_pure hf (by omega) (by omega) hk10)
     (spec_gen2 (m:=8) (ks:=[0,1,2,3,4,5,6,7]) hw (by rfl) (by rfl) (by kernel_rfl) (by rfl) (by rfl) (by kernel_rfl) (by kernel_rfl)
      ⟨kl_mn mn,trivial⟩ (by kernel_rfl) ⟨keylessL_map _ (fun _=>rfl) _,trivial⟩
      (by kernel_rfl) (by kernel_rfl) (by kernel_rfl) (by kernel_rfl) (by kernel_rfl) (by kernel_rfl) (by kernel_rfl)) sd
    exact hstep.ends (wnC_loop0 hp ha hx hs0 hs ih t (j+1) (nmP p f k) g2 (by omega))
theorem wnC_walk (hp:FineP p)(hnm:∀ (i:Nat) (x:Node),p.nodes[i]?=some x→x.op=4→x.n<0→ -1000000000≤x.n)(fn:Int)(hN:mGet fn mn=none) :∀ (f:Nat) (a sz:Int),0≤a→a<p.nodes.length→p.nodes.length-a.toNat≤f→0≤sz→sz≤1000* (a+1) → (nmP p f a).length≤1000000→WalkNC p mn a fn sz (nmP p f a)
 |0,a,sz,ha,hn,hf,_,_,_=>by omega
 | f +1,a,sz,ha,hn,hf,h0,h1,hb=>by
  obtain⟨x,hx⟩ :∃x,p.nodes[a.toNat]?=some x:= ⟨_,List.getElem?_eq_getElem (by omega)⟩
  have e:nmP p (f+1) a=nmsOf x++ (x.kids.map (nmP p f)).flatten:=by rw [nmP,hx]
  rw [e]at hb ⊢
  rw [List.length_append]at hb
  refine wnC_start ?_
  have hO:=fun(k tz:Int) (l:List Int) (hk:a<k) (hkn:k<p.nodes.length) ht0 ht hl=>wnO_walk (mn:=mn) hp hnm fn hN f k tz l (by omega) hkn (by omega) ht0 ht hl
  by_cases h4:x.op=4∧x.n<0
  · have en:nmsOf x= [-1-x.n] :=if_pos h4
    obtain⟨h4,hneg⟩ :=h4
    have hw:=hnm _ x hx h4 hneg
    have ew:IntKind.i64.wrap ((-1:Int) -x.n) = -1-x.n:=wrap64 (by omega) (by omega)
    have hE:=wnC_E_0 p mn a fn sz x ha hx (by simp [h4]) (by simp;omega) hN
    rw [ew]at hE
    rw [en]at hb ⊢
    rw [hpN_ne (by simp)]
    exact hE.ends (wnC_loop0 (mn:=mn) (fn:=fn) hp (f:=f) ha hx h0 h1 hO x.kids 0 [-1-x.n] rfl hb)
  · have en:nmsOf x= [] :=if_neg h4
    rw [en,List.nil_append]
    have hL:=wnC_loop1 (mn:=mn) (fn:=fn) hp (f:=f) ha hx h0 h1 hO (fun k tz hk hkn ht0 ht hl=>wnC_walk hp hnm fn hN f k tz (by omega) hkn (by omega) ht0 ht hl) x.kids 0 rfl (by omega)
    by_cases h5:x.op=4
    ·exact(wnC_E_1 p mn a fn sz x ha hx (by simp [h5]) (by have:¬x.n<0:=fun h=>h4 ⟨h5,h⟩;simp;omega)).ends hL
    ·exact(wnC_E_2 p mn a fn sz x ha hx (by simp [h5])).ends hL
end
end
end Go.Hb
namespace Go.Hb
open Go.Proofs
set_option maxHeartbeats 2000000
noncomputable section
def mnOf (p:Prog)(f:Nat) :Nat→List Int→List (Int×List Int) →List (Int×List Int)
 |_,[],mn=>mn
 |i,k::t,mn=>mnOf p f (i+1) t (if nmP p f k= []then mn else mIns (i:Int) (nmP p f k) mn)
theorem rch_1 {p:Prog}(hp:FineP p)(hnm:∀ (i:Nat) (x:Node),p.nodes[i]?=some x→x.op=4→x.n<0→ -1000000000≤x.n)(f:Nat)(hf:p.nodes.length≤f)(hr:∀k∈p.funs,(nmP p f k).length≤1000000) :∀ (t:List Int) (i:Nat) (mn:List (Int×List Int)),(∀j:Int,(i:Int) ≤j→mGet j mn=none) →i≤p.funs.length→p.funs.drop i=t →
  LeadsM PP 0 (rchd_c0 p (i:Int) mn).as (rchd_c0 p ((p.funs.length:Nat) :Int) (mnOf p f i t mn)).as
 | [],i,mn,hm,hi,h=>by
  have h0:=dropN h
  obtain rfl:i=p.funs.length:=by omega
  exact LeadsM.refl _
 | k ::t,i,mn,hm,hi,h=>by
  obtain⟨g1,g2,g3⟩ :=dropC h
  have hfs:=hp.fsmall
  have hmem:=List.mem_of_getElem? g1
  obtain⟨k0,k1⟩ :=hp.funs k hmem
  have hw:=wnC_walk (mn:=mn) hp hnm (i:Int) (hm i (Int.le_refl _)) f k 1 k0 k1 (by omega) (by omega) (by omega) (hr k hmem)
  unfold WalkNC at hw
  rw [mnOf]
  by_cases hn:nmP p f k= []
  · rw [hn]at hw
    rw [hpN_nil]at hw
    rw [if_pos hn]
    have h0:=rchd_0_1 p i mn k sd sd sd hw sd
    exact h0.trans (rch_1 hp hnm f hf hr t (i+1) mn (fun j hj=>hm j (by omega)) (by omega) g2)
  · rw [hpN_ne hn]at hw
    rw [if_neg hn]
    have h0:=rchd_0_0 p i mn k (nmP p f k) sd sd sd (spec_gen2 (m:=8) (ks:=[0,1,2,3,4,5,6,7]) hw (by rfl) (by rfl) (by kernel_rfl) (by rfl) (by rfl) (by kernel_rfl) (by kernel_rfl)
      ⟨kl_mn mn,trivial⟩ (by kernel_rfl) ⟨keylessL_map _ (fun _=>rfl) _,trivial⟩
      (by kernel_rfl) (by kernel_rfl) (by kernel_rfl) (by kernel_rfl) (by kernel_rfl) (by kernel_rfl) (by kernel_rfl)) sd (hm i (Int.le_refl _))
    refine h0.trans (rch_1 hp hnm f hf hr t (i+1) _ (fun j hj=>?_) (by omega) g2)
    rw [mGet_ins,if_neg (by omega)]
    exact hm j (by omega)
theorem mnOf_rows {p:Prog}{f:Nat}{N:Nat}:∀ (t:List Int) (i:Nat) (mn:List (Int×List Int)),(∀k∈t,(nmP p f k).length≤N) → (∀ (j:Int) (row:List Int),mGet j mn=some row→row.length≤N) →∀ (j:Int) (row:List Int),mGet j (mnOf p f i t mn) =some row→row.length≤N
 | [],i,mn,_,h=>h
 | k ::t,i,mn,hk,h=>by
  rw [mnOf]
  refine mnOf_rows t (i+1) _ (fun k' hk'=>hk k' (List.mem_cons_of_mem _ hk')) (fun j row e=>?_)
  split at e
  ·exact h j row e
  · rw [mGet_ins]at e
    split at e
    ·cases e;exact hk k (List.mem_cons_self ..)
    ·exact h j row e
theorem reached_spec {p:Prog}(hp:FineP p)(hnm:∀ (i:Nat) (x:Node),p.nodes[i]?=some x→x.op=4→x.n<0→ -1000000000≤x.n)(f:Nat)(hf:p.nodes.length≤f)(hr:∀k∈p.funs,(nmP p f k).length≤1000000)(k:Nat)(zl:List (Int×Bool))(hz:reachD (mnOf p f 0 p.funs []) k p.main [] =some zl) :
  SpecN PP (.enter 49 [Prog.av p]) (hpOf [] 0) (.ret (.map 0)) (hpOf [(0,MB zl,true)] 1) :=by
 have hrow:=mnOf_rows (p:=p) (f:=f) (N:=1000000) p.funs 0 [] hr (fun j row e=>by simp [mGet]at e)
 have hw:=reach_walk hrow k p.main [] zl (fun j v e=>by simp [mGet]at e) hz
 have hE:=rchd_0_2 p ((p.funs.length:Nat) :Int) (mnOf p f 0 p.funs []) zl (by simp) (spec_in (ks:=[9,2,10,8,7]) hw (by kernel_rfl) rfl (by kernel_rfl) (by kernel_rfl) ⟨mb_kl _,mr_kl _,trivial⟩ (by kernel_rfl) ⟨mb_kl _,mr_kl _,trivial⟩ (by kernel_rfl) (by kernel_rfl) (by kernel_rfl) (by kernel_rfl) (by kernel_rfl) (by kernel_rfl) (by kernel_rfl) (by kernel_rfl))
 exact⟨(rchd_s p).as.fr,by kernel_rfl,Eq.mp (by kernel_rfl) (((rchd_E_0 p).trans (rch_1 hp hnm f hf hr p.funs 0 [] (fun j _=>rfl) (Nat.zero_le _) rfl)).ends hE)⟩
end
end Go.Hb
namespace Go.Hb
open Go.Proofs
def pre (p:Prog) :Nat→Int→List Int
 |0,_=>[]
 | f+1,a=>match p.nodes[a.toNat]? with
  |some x=>a:: (x.kids.map (pre p f)).flatten
  |none=>[]
def putAll :List Int→Int→List Int→List Int
 |l,_,[] =>l
 |l,n,b::bs=>putAll (l.set b.toNat n) (n+1) bs
theorem putAll_append :∀ (xs ys l:List Int) (n:Int),putAll l n (xs++ys) =putAll (putAll l n xs) (n+xs.length) ys
 | [],ys,l,n=>by simp [putAll]
 | x::xs,ys,l,n=>by
  rw [List.cons_append,putAll,putAll_append xs ys,putAll,List.length_cons]
  congr 1;omega
theorem putAll_off :∀ (xs l:List Int) (n:Int) (m:Nat),(∀x∈xs,x.toNat≠m) → (putAll l n xs)[m]?=l[m]?
 | [],l,n,m,h=>rfl
 | x::xs,l,n,m,h=>by
  rw [putAll,putAll_off xs _ _ m (fun y hy=>h y (List.mem_cons_of_mem _ hy))]
  exact List.getElem?_set_ne (h x (List.mem_cons_self ..))
theorem putAll_at :∀ (xs l:List Int) (n:Int),xs.Nodup→ (∀x∈xs,0≤x∧x<l.length) →∀ (i:Nat) (b:Int),xs[i]?=some b→toAt (putAll l n xs) b=n+i
 | [],l,n,_,_,i,b,h=>by simp at h
 | x ::xs,l,n,hd,hr,i,b,h=>by
  have hd:=List.nodup_cons.1 hd
  have hx:=hr x (List.mem_cons_self ..)
  cases i with
  | zero=>
   simp only [List.getElem?_cons_zero,Option.some.injEq]at h
   subst h
   unfold toAt
   rw [putAll,List.getD_eq_getElem?_getD,putAll_off xs _ _ x.toNat (fun y hy e=>hd.1 (by
    have:=hr y (List.mem_cons_of_mem _ hy)
    have:y=x:=by omega
    exact this ▸ hy)),List.getElem?_set_self (by omega)]
   simp
  | succ i=>
   simp only [List.getElem?_cons_succ]at h
   rw [putAll,putAll_at xs (l.set x.toNat n) (n+1) hd.2 (fun y hy=>by rw [List.length_set];exact hr y (List.mem_cons_of_mem _ hy)) i b h]
   omega
section
variable {p :Prog}
theorem pre_cons (hp:FineP p){f:Nat}{a:Int}(ha:0≤a)(hn:a<p.nodes.length)(hf:p.nodes.length-a.toNat≤f) :∃x g,f=g+1∧p.nodes[a.toNat]?=some x∧pre p f a=a:: (x.kids.map (pre p g)).flatten:=by
 cases f with
 |zero=>omega
 | succ g=>
  obtain⟨x,hx⟩ :∃x,p.nodes[a.toNat]?=some x:= ⟨_,List.getElem?_eq_getElem (by omega)⟩
  exact⟨x,g,rfl,hx,by rw [pre,hx]⟩
theorem wAs_put {g:Int→List Int×Int→Option (List Int×Int)}{q:Int→List Int}:∀ (ks:List Int) (l:List Int) (n:Int),(∀k∈ks,∀ (l:List Int) (n:Int),n+ (q k).length≤1000000000→0≤n→g k (l,n) =some (putAll l n (q k),n+ (q k).length)) →0≤n→n+ ((ks.map q).flatten).length≤1000000000 →
  wAs g ks (l,n) =some (putAll l n (ks.map q).flatten,n+ ((ks.map q).flatten).length)
 | [],l,n,h,_,_=>by simp [wAs,putAll]
 | k::ks,l,n,h,h0,hb=>by
  simp only [List.map_cons,List.flatten_cons,List.length_append]at hb ⊢
  rw [wAs,h k (List.mem_cons_self ..) l n (by omega) h0]
  simp only
  rw [wAs_put ks _ _ (fun k hk=>h k (List.mem_cons_of_mem _ hk)) (by omega) (by omega),putAll_append]
  congr 2;omega
theorem wA_put (hp:FineP p) :∀ (f:Nat) (a:Int),0≤a→a<p.nodes.length→p.nodes.length-a.toNat≤f→∀ (l:List Int) (n:Int),n+ (pre p f a).length≤1000000000→0≤n→wA p f a (l,n) =some (putAll l n (pre p f a),n+ (pre p f a).length)
 |0,a,ha,hn,hf,_,_,_,_=>by omega
 | f+1,a,ha,hn,hf,l,n,hb,h0=>by
  obtain⟨x,hx⟩ :∃x,p.nodes[a.toNat]?=some x:= ⟨_,List.getElem?_eq_getElem (by omega)⟩
  obtain⟨_,_,hks⟩ :=hp.node _ _ hx
  have e:pre p (f+1) a=a:: (x.kids.map (pre p f)).flatten:=by rw [pre,hx]
  rw [e]at hb ⊢
  simp only [List.length_cons]at hb ⊢
  rw [wA,if_pos (by omega),hx]
  simp only
  rw [wAs_put (q:=pre p f) x.kids _ _ (fun k hk l n h1 h2=>by
   have:=hks k hk
   exact wA_put hp f k (by omega) (by omega) (by omega) l n h1 h2) (by omega) (by omega),putAll]
  congr 2;omega
theorem wB_len (mf mc:List (Int×Int))(to:List Int) :∀ (f:Nat) (a:Int),(wB p mf mc to f a).length= (pre p f a).length
 |0,a=>rfl
 | f+1,a=>by
  rw [wB,pre]
  cases hx:p.nodes[a.toNat]? with
  | some x=>
   simp only [List.length_cons,List.length_flatten,List.map_map]
   congr 2
   exact List.map_congr_left (fun k _=>wB_len mf mc to f k)
  |none=>rfl
end
end Go.Hb
namespace Go.Hb
open Go.Proofs
section
variable {p :Prog} {mf mc:List (Int×Int)} {F C:List Int} {to:List Int}
def MOk (p:Prog)(mf mc:List (Int×Int))(F C:List Int) :Prop:=∀ (i:Nat) (x:Node),p.nodes[i]?=some x→psizes x.pats<1000000∧mN F C x.op x.n=some (bN mf mc x.op x.n) ∧mPats C x.pats=some (cPats mc x.pats)
theorem mKids_eq {g:Nat→Int→Option (List Node)}{h:Int→List Node}{q:Int→List Int}:∀ (ks:List Int) (len:Nat),
  (∀k∈ks,∀len:Nat,len+ (q k).length≤1000000→ (∀ (i:Nat) (b:Int),(q k)[i]?=some b→toAt to b= ((len+i:Nat) :Int)) →g len k=some (h k)) → (∀k∈ks,(h k).length= (q k).length∧ (q k)[0]?=some k) →
  len+ ((ks.map q).flatten).length≤1000000→ (∀ (i:Nat) (b:Int),((ks.map q).flatten)[i]?=some b→toAt to b= ((len+i:Nat) :Int)) →
  mKids g len ks=some (ks.map (toAt to),(ks.map h).flatten)
 | [],len,_,_,_,_=>rfl
 | k::ks,len,hg,hh,hb,ht=>by
  simp only [List.map_cons,List.flatten_cons,List.length_append]at hb ht ⊢
  obtain⟨h1,h2⟩ :=hh k (List.mem_cons_self ..)
  have hlt:∀ {i:Nat} {b:Int},(q k)[i]?=some b→i< (q k).length:=fun e=> (List.getElem?_eq_some_iff.1 e).1
  rw [mKids,hg k (List.mem_cons_self ..) len (by omega) (fun i b e=>ht i b (by rw [List.getElem?_append_left (hlt e)];exact e))]
  simp only
  rw [mKids_eq ks (len+ (h k).length) (fun k hk=>hg k (List.mem_cons_of_mem _ hk)) (fun k hk=>hh k (List.mem_cons_of_mem _ hk)) (by omega) (fun i b e=>by
   rw [ht ((q k).length+i) b (by rw [List.getElem?_append_right (by omega),show(q k).length+i- (q k).length=i by omega];exact e),h1]
   congr 1;omega)]
  simp only
  rw [ht 0 k (by rw [List.getElem?_append_left (hlt h2)];exact h2)]
  rfl
theorem mNodes_eq (hp:FineP p)(hm:MOk p mf mc F C) :∀ (k:Nat) (a:Int) (len:Nat),0≤a→a<p.nodes.length→p.nodes.length-a.toNat≤k→len+ (pre p k a).length≤1000000→ (∀ (i:Nat) (b:Int),(pre p k a)[i]?=some b→toAt to b= ((len+i:Nat) :Int)) →
  mNodes p F C k len a=some (wB p mf mc to k a)
 |0,a,len,ha,hn,hf,_,_=>by omega
 | k +1,a,len,ha,hn,hf,hb,ht=>by
  obtain⟨x,hx⟩ :∃x,p.nodes[a.toNat]?=some x:= ⟨_,List.getElem?_eq_getElem (by omega)⟩
  obtain⟨_,hk10,hks⟩ :=hp.node _ _ hx
  obtain⟨m1,m2,m3⟩ :=hm _ _ hx
  have e:pre p (k+1) a=a:: (x.kids.map (pre p k)).flatten:=by rw [pre,hx]
  rw [e]at hb ht
  simp only [List.length_cons]at hb
  have hkk:=mKids_eq (to:=to) (g:=mNodes p F C k) (h:=wB p mf mc to k) (q:=pre p k) x.kids (len+1) (fun c hc len h1 h2=>by
    have:=hks c hc
    exact mNodes_eq hp hm k c len (by omega) (by omega) (by omega) h1 h2) (fun c hc=>by
    have:=hks c hc
    obtain⟨y,g,_,_,h3⟩ :=pre_cons hp (f:=k) (a:=c) (by omega) (by omega) (by omega)
    exact⟨wB_len mf mc to k c,by rw [h3];rfl⟩) (by omega) (fun i b h=>by
    rw [ht (i+1) b (by simpa using h)]
    congr 1;omega)
  rw [mNodes,if_pos ⟨ha,by omega⟩,hx]
  simp only
  rw [if_pos ⟨by omega,m1⟩,m2]
  simp only
  rw [m3]
  simp only
  rw [hkk]
  simp only
  rw [wB,hx]
  rfl
end
end Go.Hb
namespace Go.Hb
open Go.Proofs
set_option maxHeartbeats 1000000
end Go.Hb
namespace Go.Hb
open Go.Proofs
end Go.Hb
namespace Go.Hb
open Go.Proofs
end Go.Hb
namespace Go.Hb
open Go.Proofs
set_option maxHeartbeats 1000000
def rKidsS (x:Node)(i:Nat) :Nat→List Int→List Int→List Int
 |_,[],l=>l
 |j,k::ks,l=>rKidsS x i (j+1) ks (l.set k.toNat (l.getD i 0+addsN x j))
def rNodesS :Nat→List Node→List Int→List Int
 |_,[],l=>l
 |i,x::t,l=>rNodesS (i+1) t (rKidsS x i 0 x.kids l)
def rFunsS :List Int→List Int→List Int
 | [],l=>l
 |f::fs,l=>rFunsS fs (l.set f.toNat 1)
def sizesR (p:Prog) :List Int:=rNodesS 0 p.nodes (rFunsS p.funs (List.replicate p.nodes.length 0))
theorem rKidsS_len (x:Node)(i:Nat) :∀ (t:List Int) (j:Nat) (l:List Int),(rKidsS x i j t l).length=l.length
 | [],_,_=>rfl
 |k::t,j,l=>by rw [rKidsS,rKidsS_len x i t];simp
theorem rNodesS_len :∀ (t:List Node) (i:Nat) (l:List Int),(rNodesS i t l).length=l.length
 | [],_,_=>rfl
 |x::t,i,l=>by rw [rNodesS,rNodesS_len t,rKidsS_len]
theorem rFunsS_len :∀ (t:List Int) (l:List Int),(rFunsS t l).length=l.length
 | [],_=>rfl
 |f::t,l=>by rw [rFunsS,rFunsS_len t];simp
theorem sizesR_len (p:Prog) : (sizesR p).length=p.nodes.length:=by rw [sizesR,rNodesS_len,rFunsS_len];simp
end Go.Hb
namespace Go.Hb
open Go.Proofs
theorem marks_in {lo n:Int}:∀ {ks:List Int} {u v:List Bool},marks lo n ks u=some v→∀k∈ks,lo≤k∧k≤n-1
 | [],_,_,_,k,hk=>by cases hk
 | a ::ks,u,v,h,k,hk=>by
  simp only [marks]at h
  split at h
  · rename_i g
    rcases List.mem_cons.1 hk with rfl|hk
    ·exact inB_iff.1 g.1
    ·exact marks_in h k hk
  ·cases h
theorem marks_new {lo n:Int}:∀ {ks:List Int} {u v:List Bool},marks lo n ks u=some v→∀m:Nat,v[m]?=some true→u[m]?=some true∨∃k∈ks,k.toNat=m
 | [],u,v,h,m,hm=>by simp only [marks,Option.some.injEq]at h;rw [h];exact .inl hm
 | a ::ks,u,v,h,m,hm=>by
  simp only [marks]at h
  split at h
  · rcases marks_new h m hm with g| ⟨k,hk,e⟩
    · by_cases e:a.toNat=m
      ·exact .inr ⟨a,List.mem_cons_self ..,e⟩
      ·rw [List.getElem?_set_ne e]at g;exact .inl g
    ·exact .inr ⟨k,List.mem_cons_of_mem _ hk,e⟩
  ·cases h
theorem marks_stay {lo n:Int}:∀ {ks:List Int} {u v:List Bool},marks lo n ks u=some v→∀m:Nat,u[m]?=some true→v[m]?=some true
 | [],u,v,h,m,hm=>by simp only [marks,Option.some.injEq]at h;rw [←h];exact hm
 | a ::ks,u,v,h,m,hm=>by
  simp only [marks]at h
  split at h
  · rename_i g
    refine marks_stay h m ?_
    by_cases e:a.toNat=m
    ·subst e;rw [hm]at g;exact absurd g.2 (by simp)
    ·rw [List.getElem?_set_ne e];exact hm
  ·cases h
theorem marks_cons {lo n k:Int}{ks:List Int}{u v:List Bool}(h:marks lo n (k::ks) u=some v) :u[k.toNat]?=some false∧marks lo n ks (u.set k.toNat true) =some v:=by
 simp only [marks]at h
 split at h
 ·rename_i g;exact⟨g.2,h⟩
 ·cases h
theorem refNodes_cons {p:Prog}{i:Nat}{x:Node}{t:List Node}{u v:List Bool}(h:refNodes p i (x::t) u=some v) :nodeOk p x=true∧∃w,marks ((i:Int) +1) p.nodes.length x.kids u=some w∧refNodes p (i+1) t w=some v:=by
 simp only [refNodes]at h
 split at h
 · rename_i g
   split at h
   ·rename_i w hw;exact⟨g,w,hw,h⟩
   ·cases h
 ·cases h
theorem refNodes_low {p:Prog}:∀ {t:List Node} {i:Nat} {u v:List Bool},refNodes p i t u=some v→∀m:Nat,m≤i→v[m]?=some true→u[m]?=some true
 | [],i,u,v,h,m,_,hm=>by simp only [refNodes,Option.some.injEq]at h;rw [h];exact hm
 | x::t,i,u,v,h,m,hi,hm=>by
  obtain⟨_,w,hw,h2⟩ :=refNodes_cons h
  rcases marks_new hw m (refNodes_low h2 m (by omega) hm)with g| ⟨k,hk,e⟩
  ·exact g
  ·have:=marks_in hw k hk;omega
theorem refNodes_len {p:Prog}:∀ {t:List Node} {i:Nat} {u v:List Bool},refNodes p i t u=some v→v.length=u.length
 | [],i,u,v,h=>by simp only [refNodes,Option.some.injEq]at h;rw [h]
 | x::t,i,u,v,h=>by
  obtain⟨_,w,hw,h2⟩ :=refNodes_cons h
  rw [refNodes_len h2,marks_len hw]
theorem refNodes_all {p:Prog}:∀ {t:List Node} {i:Nat} {u v:List Bool},refNodes p i t u=some v→∀ (j:Nat) (x:Node),t[j]?=some x→nodeOk p x=true∧∀k∈x.kids,((i+j:Nat) :Int) <k∧k<p.nodes.length
 | [],i,u,v,h,j,x,hx=>by simp at hx
 | y::t,i,u,v,h,j,x,hx=>by
  obtain⟨g,w,hw,h2⟩ :=refNodes_cons h
  cases j with
  | zero=>
   simp at hx;subst hx
   exact⟨g,fun k hk=>by have:=marks_in hw k hk;omega⟩
  | succ j=>
   have:=refNodes_all h2 j x (by simpa using hx)
   exact⟨this.1,fun k hk=>by have:=this.2 k hk;omega⟩
theorem refNodes_new {p:Prog}:∀ {t:List Node} {i:Nat} {u v:List Bool},refNodes p i t u=some v→∀m:Nat,v[m]?=some true→u[m]?=some true∨∃ (j:Nat) (x:Node) (k:Int),t[j]?=some x∧k∈x.kids∧k.toNat=m
 | [],i,u,v,h,m,hm=>by simp only [refNodes,Option.some.injEq]at h;rw [h];exact .inl hm
 | y ::t,i,u,v,h,m,hm=>by
  obtain⟨g,w,hw,h2⟩ :=refNodes_cons h
  rcases refNodes_new h2 m hm with a| ⟨j,x,k,a1,a2,a3⟩
  · rcases marks_new hw m a with b| ⟨k,b1,b2⟩
    ·exact .inl b
    ·exact .inr ⟨0,y,k,rfl,b1,b2⟩
  ·exact .inr ⟨j+1,x,k,by simpa using a1,a2,a3⟩
theorem rKidsS_stay {x:Node}{i:Nat}{lo n:Int}:∀ {t:List Int} {j:Nat} {u v:List Bool} {l:List Int},marks lo n t u=some v→∀m:Nat,u[m]?=some true→ (rKidsS x i j t l)[m]?=l[m]?
 | [],_,_,_,_,_,_,_=>rfl
 | k::t,j,u,v,l,h,m,hm=>by
  obtain⟨h1,h2⟩ :=marks_cons h
  have hne:k.toNat≠m:=fun e=>by rw [e,hm]at h1;cases h1
  rw [rKidsS,rKidsS_stay h2 m (by rw [List.getElem?_set_ne hne];exact hm),List.getElem?_set_ne hne]
theorem rNodesS_stay {p:Prog}:∀ {t:List Node} {i:Nat} {u v:List Bool} {l:List Int},refNodes p i t u=some v→∀m:Nat,u[m]?=some true→ (rNodesS i t l)[m]?=l[m]?
 | [],_,_,_,_,_,_,_=>rfl
 | x::t,i,u,v,l,h,m,hm=>by
  obtain⟨_,w,hw,h2⟩ :=refNodes_cons h
  rw [rNodesS,rNodesS_stay h2 m (marks_stay hw m hm),rKidsS_stay hw m hm]
theorem rFunsS_stay {lo n:Int}:∀ {t:List Int} {u v:List Bool} {l:List Int},marks lo n t u=some v→∀m:Nat,u[m]?=some true→ (rFunsS t l)[m]?=l[m]?
 | [],_,_,_,_,_,_=>rfl
 | k::t,u,v,l,h,m,hm=>by
  obtain⟨h1,h2⟩ :=marks_cons h
  have hne:k.toNat≠m:=fun e=>by rw [e,hm]at h1;cases h1
  rw [rFunsS,rFunsS_stay h2 m (by rw [List.getElem?_set_ne hne];exact hm),List.getElem?_set_ne hne]
theorem rKidsS_kid {x:Node}{i:Nat}{lo n:Int}:∀ {t:List Int} {j:Nat} {u v:List Bool} {l:List Int},marks lo n t u=some v→u.length=l.length→u[i]?=some true→∀ (d:Nat) (k:Int),t[d]?=some k→ (rKidsS x i j t l)[k.toNat]?=some (l.getD i 0+addsN x ((j+d:Nat) :Int))
 | [],_,_,_,_,_,_,_,d,k,hk=>by simp at hk
 | a::t,j,u,v,l,h,hul,hi,d,k,hk=>by
  obtain⟨h1,h2⟩ :=marks_cons h
  have hai:a.toNat≠i:=fun e=>by rw [e,hi]at h1;cases h1
  have hal:a.toNat<u.length:= (List.getElem?_eq_some_iff.1 h1).1
  rw [rKidsS]
  cases d with
  | zero=>
   simp at hk;subst hk
   rw [rKidsS_stay h2 _ (by rw [List.getElem?_set_self hal]),List.getElem?_set_self (by omega)]
   simp
  | succ d=>
   have:=rKidsS_kid (x:=x) (i:=i) (j:=j+1) (l:=l.set a.toNat (l.getD i 0+addsN x j)) h2 (by simpa using hul) (by rw [List.getElem?_set_ne hai];exact hi) d k (by simpa using hk)
   rw [this,List.getD_eq_getElem?_getD,List.getElem?_set_ne hai,←List.getD_eq_getElem?_getD]
   congr 3;omega
theorem rNodesS_kid {p:Prog}:∀ {t:List Node} {i:Nat} {u v:List Bool} {l:List Int},refNodes p i t u=some v→ (∀m,m<v.length→v[m]?=some true) →u.length=l.length→i+t.length≤u.length→∀ (j:Nat) (x:Node) (d:Nat) (k:Int),t[j]?=some x→x.kids[d]?=some k →
  ∃s,(rNodesS i t l)[i+j]?=some s∧ (rNodesS i t l)[k.toNat]?=some (s+addsN x d)
 | [],_,_,_,_,_,_,_,_,j,x,d,k,hx,_=>by simp at hx
 | y ::t,i,u,v,l,h,hv,hul,hil,j,x,d,k,hx,hk=>by
  obtain⟨_,w,hw,h2⟩ :=refNodes_cons h
  have hwl:=marks_len hw
  simp only [List.length_cons]at hil
  rw [rNodesS]
  cases j with
  | zero=>
   simp at hx;subst hx
   have hvl:=refNodes_len h
   have hi:u[i]?=some true:=refNodes_low h i (Nat.le_refl _) (hv i (by omega))
   have hk2:=rKidsS_kid (x:=y) (i:=i) (j:=0) (l:=l) hw hul hi d k hk
   have hwk:w[k.toNat]?=some true:=by
    have hkin:=marks_in hw k (List.mem_of_getElem? hk)
    have all:∀ {lo n:Int} {ks:List Int} {u v:List Bool},marks lo n ks u=some v→∀k∈ks,v[k.toNat]?=some true:=by
     intro lo n ks
     induction ks with
     |nil=>intro u v _ k hk;cases hk
     | cons a ks ih=>
      intro u v h k hk
      obtain⟨h1,h2⟩ :=marks_cons h
      rcases List.mem_cons.1 hk with rfl|hk
      ·exact marks_stay h2 _ (List.getElem?_set_self (List.getElem?_eq_some_iff.1 h1).1)
      ·exact ih h2 k hk
    exact all hw k (List.mem_of_getElem? hk)
   refine⟨l.getD i 0,?_,?_⟩
   · show(rNodesS (i+1) t (rKidsS y i 0 y.kids l))[i]?=some (l.getD i 0)
     rw [rNodesS_stay h2 i (marks_stay hw i hi),rKidsS_stay hw i hi,List.getD_eq_getElem?_getD,List.getElem?_eq_getElem (by omega)];rfl
   ·rw [rNodesS_stay h2 _ hwk,hk2];simp
  | succ j=>
   obtain⟨s,a1,a2⟩ :=rNodesS_kid (l:=rKidsS y i 0 y.kids l) h2 hv (by rw [rKidsS_len,hwl,hul]) (by omega) j x d k (by simpa using hx) hk
   exact⟨s,by rw [←a1];congr 1;omega,a2⟩
structure Sprop (p:Prog) (S:List Int) :Prop where
 len:S.length=p.nodes.length
 root:∀f∈p.funs,S[f.toNat]?=some 1
 kid:∀ (i:Nat) (x:Node) (d:Nat) (k:Int),p.nodes[i]?=some x→x.kids[d]?=some k→∃s,S[i]?=some s∧S[k.toNat]?=some (s+addsN x d)
def Covered (p:Prog) :Prop:=∀m,m<p.nodes.length→ (∃f∈p.funs,f.toNat=m) ∨∃ (i:Nat) (x:Node) (k:Int),p.nodes[i]?=some x∧k∈x.kids∧k.toNat=m∧i<m
theorem rFunsS_root {lo n:Int}:∀ {t:List Int} {u v:List Bool} {l:List Int},marks lo n t u=some v→u.length=l.length→∀f∈t,(rFunsS t l)[f.toNat]?=some 1
 | [],_,_,_,_,_,f,hf=>by cases hf
 | a::t,u,v,l,h,hul,f,hf=>by
  obtain⟨h1,h2⟩ :=marks_cons h
  have hal:a.toNat<u.length:= (List.getElem?_eq_some_iff.1 h1).1
  rw [rFunsS]
  rcases List.mem_cons.1 hf with rfl|hf
  ·rw [rFunsS_stay h2 _ (List.getElem?_set_self hal),List.getElem?_set_self (by omega)]
  ·exact rFunsS_root h2 (by simpa using hul) f hf
theorem formed_facts {p:Prog}(hp:smallProg p=true)(hf:refFormed p=true) :FineP p∧Sprop p (sizesR p) ∧Covered p:=by
 have hs:=hp
 simp only [smallProg,Bool.and_eq_true,decide_eq_true_eq]at hs
 obtain⟨⟨⟨⟨s1,s2⟩,s3⟩,_⟩,s5⟩ :=hs
 simp only [refFormed,Bool.and_eq_true]at hf
 obtain⟨_,hf⟩ :=hf
 split at hf
 · rename_i u hu
   unfold allT at hf
   split at hf
   · rename_i v hv
     have hul:u.length=p.nodes.length:=by rw [marks_len hu];simp
     have hvl:v.length=p.nodes.length:=by rw [refNodes_len hv,hul]
     have hall:∀m,m<v.length→v[m]?=some true:=fun m hm=>by
      rw [List.getElem?_eq_getElem hm]
      have:=List.all_eq_true.1 hf _ (List.getElem_mem hm)
      simpa using this
     have hnodes:=refNodes_all hv
     refine⟨⟨s1,s2,fun i x hx=>?_,fun f hf=>?_⟩,⟨sizesR_len p,fun f hf=>?_,fun i x d k hx hk=>?_⟩,fun m hm=>?_⟩
     · have:=hnodes i x hx
       have h10:=List.all_eq_true.1 s5 x (List.mem_of_getElem? hx)
       simp only [smallNode,Bool.and_eq_true,decide_eq_true_eq]at h10
       exact⟨fine_of this.1,h10.1.1,fun k hk=>by have:=this.2 k hk;omega⟩
     ·have:=marks_in hu f hf;omega
     · rw [sizesR]
       have hfm:u[f.toNat]?=some true:=by
        have all:∀ {lo n:Int} {ks:List Int} {u v:List Bool},marks lo n ks u=some v→∀k∈ks,v[k.toNat]?=some true:=by
         intro lo n ks
         induction ks with
         |nil=>intro u v _ k hk;cases hk
         | cons a ks ih=>
          intro u v h k hk
          obtain⟨h1,h2⟩ :=marks_cons h
          rcases List.mem_cons.1 hk with rfl|hk
          ·exact marks_stay h2 _ (List.getElem?_set_self (List.getElem?_eq_some_iff.1 h1).1)
          ·exact ih h2 k hk
        exact all hu f hf
       rw [rNodesS_stay hv _ hfm]
       exact rFunsS_root hu (by simp) f hf
     · obtain⟨s,a1,a2⟩ :=rNodesS_kid (l:=rFunsS p.funs (List.replicate p.nodes.length 0)) hv hall (by rw [rFunsS_len,hul];simp) (by omega) i x d k hx hk
       exact⟨s,by rw [sizesR,←a1];congr 1;omega,a2⟩
     · rcases refNodes_new hv m (hall m (by omega))with g| ⟨j,x,k,g1,g2,g3⟩
       · rcases marks_new hu m g with a| ⟨f,a1,a2⟩
         ·rw [List.getElem?_replicate]at a;split at a<;>simp at a
         ·exact .inl ⟨f,a1,a2⟩
       · have:= (hnodes j x g1).2 k g2
         exact .inr ⟨j,x,k,g1,g2,g3,by omega⟩
   ·cases hf
 ·cases hf
end Go.Hb
namespace Go.Hb
open Go.Proofs
inductive Reach (p:Prog) :Nat→Nat→Prop where
 |refl (a:Nat) :Reach p a a
 |step {a i:Nat} {x:Node} {k:Int}:Reach p a i→p.nodes[i]?=some x→k∈x.kids→Reach p a k.toNat
theorem Reach.first {p:Prog}{a m:Nat}(h:Reach p a m) :m=a∨∃ (x:Node) (k:Int),p.nodes[a]?=some x∧k∈x.kids∧Reach p k.toNat m:=by
 induction h with
 |refl=>exact .inl rfl
 | step h hx hk ih=>
  rename_i i x k
  rcases ih with rfl| ⟨y,q,h1,h2,h3⟩
  ·exact .inr ⟨x,k,hx,hk,Reach.refl _⟩
  ·exact .inr ⟨y,q,h1,h2,h3.step hx hk⟩
theorem check_of {p:Prog}(hs:smallProg p=true) :Pure PP 10 [Prog.av p] (.int .i64 (checkN (refFormed p))) :=by
 have h2:=bCheck_pure p hs
 rw [formed_eq]at h2
 exact h2
end Go.Hb
namespace Go.Hb
open Go.Proofs
theorem formed_fine {p:Prog}(hp:smallProg p=true)(hf:refFormed p=true) :FineP p:=by
 have hs:=hp
 simp only [smallProg,Bool.and_eq_true,decide_eq_true_eq]at hs
 obtain⟨⟨⟨⟨s1,s2⟩,s3⟩,_⟩,s5⟩ :=hs
 simp only [refFormed,Bool.and_eq_true]at hf
 obtain⟨_,hf⟩ :=hf
 split at hf
 · rename_i u hu
   unfold allT at hf
   split at hf
   · rename_i v hv
     refine⟨s1,s2,fun i x hx=>?_,fun f hf=>?_⟩
     · have:=refNodes_all hv i x hx
       have h10:=List.all_eq_true.1 s5 x (List.mem_of_getElem? hx)
       simp only [smallNode,Bool.and_eq_true,decide_eq_true_eq]at h10
       exact⟨fine_of this.1,h10.1.1,fun k hk=>by have:=this.2 k hk;omega⟩
     ·have:=marks_in hu f hf;omega
   ·cases hf
 ·cases hf
theorem numsL_at {n:Nat}{i:Int}(h0:0≤i)(h1:i<n) : (numsL 0 n)[i.toNat]?=some i:=by
 rw [numsL_get 0 (by omega)]
 congr 1;omega
def SameL (n:Nat)(m:List (Int×Int))(l:List Int) :Prop:=∀i:Int,0≤i→i<n→l[i.toNat]?=some (mAt m i)
theorem same_sM (n:Nat) :SameL n (sM n) (numsL 0 n) :=fun i h0 h1=>by rw [numsL_at h0 h1,sM_at h0 h1]
mutual
theorem mPat_c (cons:List Con){mc:List (Int×Int)}{C:List Int}(hC:SameL cons.length mc C) :∀ (q:Pat),patOk cons q=true→mPat C q=some (cPat mc q)
 | .mk f n s ps,h=>by
  rw [patOk,Bool.and_eq_true]at h
  have hps:=mPats_c cons hC ps h.2
  have hN:mPatN C f n=some (if f=6 then mAt mc n else n) :=by
   unfold mPatN
   by_cases hf:f=6
   · subst hf
     have hh:=h.1
     simp only [patHead]at hh
     simp [inB]at hh
     obtain⟨⟨⟨h0,h1⟩,_⟩,_⟩ :=hh
     rw [if_pos rfl,if_pos rfl,if_pos h0,hC n h0 (by omega)]
   ·rw [if_neg hf,if_neg hf]
  rw [mPat,hN]
  simp only
  rw [hps,cPat]
theorem mPats_c (cons:List Con){mc:List (Int×Int)}{C:List Int}(hC:SameL cons.length mc C) :∀ (ps:List Pat),patsOk cons ps=true→mPats C ps=some (cPats mc ps)
 | [],_=>rfl
 | q::ps,h=>by
  rw [patsOk,Bool.and_eq_true]at h
  rw [mPats,mPat_c cons hC q h.1]
  simp only
  rw [mPats_c cons hC ps h.2,cPats]
end
theorem patsOk_all {cons:List Con}:∀ {ps:List Pat},(∀q∈ps,patOk cons q=true) →patsOk cons ps=true
 | [],_=>rfl
 | q::ps,h=>by
  rw [patsOk,h q (List.mem_cons_self ..),patsOk_all (fun x hx=>h x (List.mem_cons_of_mem _ hx))];rfl
theorem psizes_le {c:Nat}:∀ {ps:List Pat},(∀q∈ps,psize q≤c) →psizes ps≤c*ps.length
 | [],_=>by simp [psizes]
 | q::ps,h=>by
  have h1:=h q (List.mem_cons_self ..)
  have h2:=psizes_le (c:=c) (ps:=ps) (fun x hx=>h x (List.mem_cons_of_mem _ hx))
  simp only [psizes,List.length_cons]
  rw [Nat.mul_add,Nat.mul_one];omega
theorem node_any {p:Prog}{mf mc:List (Int×Int)}{F C:List Int}(hF:SameL p.funs.length mf F)(hC:SameL p.cons.length mc C)(hB:∀i:Int,0≤i→i<p.funs.length→0≤mAt mf i∧mAt mf i≤1000000)(hs:p.funs.length≤320){x:Node}(h:nodeOk p x=true)(h10:x.pats.length≤10) :
  (psizes x.pats<1000000∧mN F C x.op x.n=some (bN mf mc x.op x.n) ∧mPats C x.pats=some (cPats mc x.pats)) ∧nOk mf x:=by
 simp only [nodeOk,Bool.and_eq_true,nodeHead]at h
 obtain⟨⟨⟨h1,_⟩,h2⟩,_⟩ :=h
 have hq:∀q∈x.pats,psize q≤12∧patOk p.cons q=true:=fun q hq=>by
  have:=List.all_eq_true.1 h2 q hq
  simpa [nodePat]using this
 have hps:psizes x.pats≤12*x.pats.length:=psizes_le (fun q h=> (hq q h).1)
 have hr4:x.op=4→ -(p.funs.length:Int) ≤x.n∧x.n≤29:=fun e=>by
  rw [e]at h1
  simp [nodeHead1,inB]at h1
  omega
 have hr14:x.op=14→0≤x.n∧x.n<p.cons.length:=fun e=>by
  rw [e]at h1
  simp [nodeHead1,inB]at h1
  omega
 refine⟨⟨by omega,?_,mPats_c p.cons hC x.pats (patsOk_all fun q h=> (hq q h).2)⟩,by omega,fun e hn=>?_⟩
 · unfold mN bN
   by_cases h4:x.op=4
   · have hr:=hr4 h4
     by_cases hn:x.n<0
     · have hb:=hB (-1-x.n) (by omega) (by omega)
       rw [if_pos ⟨h4,hn⟩,if_pos h4,if_neg (by omega),hF _ (by omega) (by omega)]
       simp only
       rw [if_pos (by omega)]
     ·rw [if_neg (fun h=>hn h.2),if_neg (show ¬x.op=14 by omega),if_pos h4,if_pos (show 0≤x.n by omega)]
   · rw [if_neg (fun h=>h4 h.1),if_neg h4]
     by_cases h14:x.op=14
     · have hr:=hr14 h14
       rw [if_pos h14,if_pos h14,if_pos hr.1,hC _ hr.1 hr.2]
     ·rw [if_neg h14,if_neg h14]
 · have hr:=hr4 e
   have hb:=hB (-1-x.n) (by omega) (by omega)
   omega
theorem node_both {p:Prog}(hF:p.funs.length≤320){x:Node}(h:nodeOk p x=true)(h10:x.pats.length≤10) :
  (psizes x.pats<1000000∧mN (numsL 0 p.funs.length) (numsL 0 p.cons.length) x.op x.n=some (bN (sM p.funs.length) (sM p.cons.length) x.op x.n) ∧mPats (numsL 0 p.cons.length) x.pats=some (cPats (sM p.cons.length) x.pats)) ∧nOk (sM p.funs.length) x:=
 node_any (same_sM _) (same_sM _) (fun i h0 h1=>by rw [sM_at h0 h1];omega) hF h h10
end Go.Hb
namespace Go.Hb
open Go.Proofs
def kidsOf (p:Prog)(i:Int) :List Int:=match p.nodes[i.toNat]? with
 |some x=>x.kids
 |none=>[]
section
variable {p :Prog}
theorem flat_count {q:Int→List Int}(m:Int) :∀ (ks:List Int),(∀k∈ks,(q k).count m= [k].count m+ (((q k).map (kidsOf p)).flatten).count m) →
  ((ks.map q).flatten).count m=ks.count m+ ((((ks.map q).flatten).map (kidsOf p)).flatten).count m
 | [],_=>rfl
 | k::ks,h=>by
  have h1:=h k (List.mem_cons_self ..)
  have h2:=flat_count m ks (fun x hx=>h x (List.mem_cons_of_mem _ hx))
  rw [List.map_cons,List.flatten_cons,List.count_append,List.map_append,List.flatten_append,List.count_append,h1,h2,show k::ks= [k] ++ks from rfl,List.count_append]
  omega
theorem pre_count (hp:FineP p)(m:Int) :∀ (f:Nat) (a:Int),0≤a→a<p.nodes.length→p.nodes.length-a.toNat≤f→ (pre p f a).count m= [a].count m+ (((pre p f a).map (kidsOf p)).flatten).count m
 |0,a,ha,hn,hf=>by omega
 | f+1,a,ha,hn,hf=>by
  obtain⟨x,hx⟩ :∃x,p.nodes[a.toNat]?=some x:= ⟨_,List.getElem?_eq_getElem (by omega)⟩
  obtain⟨_,_,hks⟩ :=hp.node _ _ hx
  have e:pre p (f+1) a=a:: (x.kids.map (pre p f)).flatten:=by rw [pre,hx]
  have ek:kidsOf p a=x.kids:=by unfold kidsOf;rw [hx]
  have h2:=flat_count (p:=p) m x.kids (fun k hk=>by
   have:=hks k hk
   exact pre_count hp m f k (by omega) (by omega) (by omega))
  rw [e,List.map_cons,List.flatten_cons,List.count_append,ek,show a:: (x.kids.map (pre p f)).flatten= [a] ++ (x.kids.map (pre p f)).flatten from rfl,List.count_append,h2]
theorem pre_in (hp:FineP p) :∀ (f:Nat) (a:Int),0≤a→a<p.nodes.length→∀y∈pre p f a,0≤y∧y<p.nodes.length
 |0,a,_,_,y,hy=>by cases hy
 | f +1,a,ha,hn,y,hy=>by
  obtain⟨x,hx⟩ :∃x,p.nodes[a.toNat]?=some x:= ⟨_,List.getElem?_eq_getElem (by omega)⟩
  obtain⟨_,_,hks⟩ :=hp.node _ _ hx
  have e:pre p (f+1) a=a:: (x.kids.map (pre p f)).flatten:=by rw [pre,hx]
  rw [e]at hy
  rcases List.mem_cons.1 hy with rfl|hy
  ·exact⟨ha,hn⟩
  · obtain⟨l,hl,hy⟩ :=List.mem_flatten.1 hy
    obtain⟨k,hk,rfl⟩ :=List.mem_map.1 hl
    have:=hks k hk
    exact pre_in hp f k (by omega) (by omega) y hy
def tauM (u:List Bool)(m:Int) :Nat:=if u[m.toNat]?=some true then 1 else 0
theorem marks_count {lo n:Int}(hlo:0≤lo){m:Int}(hm:0≤m) :∀ {ks:List Int} {u v:List Bool},marks lo n ks u=some v→ks.count m+tauM u m=tauM v m
 | [],u,v,h=>by cases h;simp
 | k ::ks,u,v,h=>by
  have hk:=marks_in h k (List.mem_cons_self ..)
  obtain⟨h1,h2⟩ :=marks_cons h
  have h3:=marks_count hlo hm h2
  rw [←h3,show k::ks= [k] ++ks from rfl,List.count_append]
  have hlt:= (List.getElem?_eq_some_iff.1 h1).1
  by_cases e:k=m
  · subst e
    have a1:tauM u k=0:=by unfold tauM;rw [h1];rfl
    have a2:tauM (u.set k.toNat true) k=1:=by unfold tauM;rw [List.getElem?_set_self hlt];rfl
    rw [a1,a2];simp;omega
  · have a1:tauM (u.set k.toNat true) m=tauM u m:=by unfold tauM;rw [List.getElem?_set_ne (by omega)]
    rw [a1,List.count_singleton,if_neg (by simpa using e)];omega
theorem refNodes_count {m:Int}(hm:0≤m) :∀ {t:List Node} {i:Nat} {u v:List Bool},refNodes p i t u=some v→ ((t.map Node.kids).flatten).count m+tauM u m=tauM v m
 | [],i,u,v,h=>by simp only [refNodes,Option.some.injEq]at h;subst h;simp
 | x::t,i,u,v,h=>by
  obtain⟨_,w,h1,h2⟩ :=refNodes_cons h
  have h3:=marks_count (by omega) hm h1
  have h4:=refNodes_count hm h2
  rw [List.map_cons,List.flatten_cons,List.count_append]
  omega
theorem kids_uniq {m:Int}:∀ {t:List Node},((t.map Node.kids).flatten).count m≤1→∀ (i j:Nat) (x y:Node),t[i]?=some x→t[j]?=some y→m∈x.kids→m∈y.kids→i=j
 | [],_,i,j,x,y,hx,_,_,_=>by simp at hx
 | z ::t,h,i,j,x,y,hx,hy,mx,my=>by
  rw [List.map_cons,List.flatten_cons,List.count_append]at h
  have inT:∀ {i:Nat} {x:Node},t[i]?=some x→m∈x.kids→0< ((t.map Node.kids).flatten).count m:=fun {i x} hx mx=>
   List.count_pos_iff.2 (List.mem_flatten.2 ⟨x.kids,List.mem_map.2 ⟨x,List.mem_of_getElem? hx,rfl⟩,mx⟩)
  cases i with
  | zero=>
   simp only [List.getElem?_cons_zero,Option.some.injEq]at hx
   subst hx
   cases j with
   |zero=>rfl
   | succ j=>
    simp only [List.getElem?_cons_succ]at hy
    have:=inT hy my
    have:=List.count_pos_iff.2 mx
    omega
  | succ i=>
   simp only [List.getElem?_cons_succ]at hx
   cases j with
   | zero=>
    simp only [List.getElem?_cons_zero,Option.some.injEq]at hy
    subst hy
    have:=inT hx mx
    have:=List.count_pos_iff.2 my
    omega
   | succ j=>
    simp only [List.getElem?_cons_succ]at hy
    rw [kids_uniq (by omega) i j x y hx hy mx my]
theorem kids_le {m:Int}:∀ {t:List Node} {i:Nat} {x:Node},t[i]?=some x→x.kids.count m≤ ((t.map Node.kids).flatten).count m
 | [],i,x,hx=>by simp at hx
 | z::t,0,x,hx=>by
  simp only [List.getElem?_cons_zero,Option.some.injEq]at hx
  subst hx
  rw [List.map_cons,List.flatten_cons,List.count_append];omega
 | z::t,i+1,x,hx=>by
  simp only [List.getElem?_cons_succ]at hx
  have:=kids_le (m:=m) hx
  rw [List.map_cons,List.flatten_cons,List.count_append];omega
theorem flat_le {m i:Int}:∀ (L:List Int),(∀j∈L,m∈kidsOf p j→j=i) → ((L.map (kidsOf p)).flatten).count m≤L.count i* (kidsOf p i).count m
 | [],_=>by simp
 | j ::L,h=>by
  have h1:=flat_le L (fun x hx=>h x (List.mem_cons_of_mem _ hx))
  rw [List.map_cons,List.flatten_cons,List.count_append,show j::L= [j] ++L from rfl,List.count_append,Nat.add_mul]
  by_cases hm:m∈kidsOf p j
  · have:=h j (List.mem_cons_self ..) hm
    subst this
    simp
    exact h1
  · rw [List.count_eq_zero.2 hm]
    exact Nat.le_trans (by simpa using h1) (Nat.le_add_left ..)
theorem once (hp:FineP p)(hK:∀m:Int,0≤m→p.funs.count m+ ((p.nodes.map Node.kids).flatten).count m≤1){L:List Int}(hin:∀x∈L,0≤x∧x<p.nodes.length)(hL:∀m:Int,L.count m=p.funs.count m+ ((L.map (kidsOf p)).flatten).count m) :∀ (b m:Nat),m≤b→L.count (m:Int) ≤1:=by
 intro b
 induction b with
 | zero=>
  intro m hmb
  have hm:m=0:=by omega
  subst hm
  have e:=hL ((0:Nat) :Int)
  have z: ((L.map (kidsOf p)).flatten).count ((0:Nat) :Int) =0:=by
   refine List.count_eq_zero.2 (fun h=>?_)
   obtain⟨l,hl,hy⟩ :=List.mem_flatten.1 h
   obtain⟨j,hj,rfl⟩ :=List.mem_map.1 hl
   unfold kidsOf at hy
   split at hy
   · rename_i x hx
     have:= (hp.node _ _ hx).2.2 _ hy
     omega
   ·cases hy
  have:=hK ((0:Nat) :Int) (by omega)
  omega
 | succ b ih=>
  intro m hmb
  have e:=hL (m:Int)
  have hk:=hK (m:Int) (by omega)
  by_cases hz: ((L.map (kidsOf p)).flatten).count (m:Int) =0
  ·omega
  · have hpos:=List.count_pos_iff.1 (Nat.pos_of_ne_zero hz)
    obtain⟨l,hl,hy⟩ :=List.mem_flatten.1 hpos
    obtain⟨i,hi,rfl⟩ :=List.mem_map.1 hl
    have hir:=hin i hi
    obtain⟨x,hx⟩ :∃x,p.nodes[i.toNat]?=some x:= ⟨_,List.getElem?_eq_getElem (by omega)⟩
    have ei:kidsOf p i=x.kids:=by unfold kidsOf;rw [hx]
    rw [ei]at hy
    have him:= (hp.node _ _ hx).2.2 _ hy
    have hci:L.count i≤1:=by
     have:=ih i.toNat (by omega)
     rwa [show((i.toNat:Nat) :Int) =i by omega]at this
    have hle:=flat_le (p:=p) (m:= (m:Int)) (i:=i) L (fun j hj hmj=>by
     have hjr:=hin j hj
     obtain⟨y,hy'⟩ :∃y,p.nodes[j.toNat]?=some y:= ⟨_,List.getElem?_eq_getElem (by omega)⟩
     have ej:kidsOf p j=y.kids:=by unfold kidsOf;rw [hy']
     rw [ej]at hmj
     have:=kids_uniq (by omega) _ _ y x hy' hx hmj hy
     omega)
    rw [ei]at hle
    have hkl:=kids_le (m:= (m:Int)) hx
    have:L.count i*x.kids.count (m:Int) ≤1*x.kids.count (m:Int) :=Nat.mul_le_mul_right _ hci
    omega
theorem nodup_len :∀ (n:Nat) (l:List Nat),l.Nodup→ (∀x∈l,x<n) →l.length≤n
 |0,[],_,_=>by simp
 |0,x::l,_,h=>by have:=h x (List.mem_cons_self ..);omega
 | n+1,l,hd,h=>by
  by_cases hm:n∈l
  · have h1:=nodup_len n (l.erase n) (hd.erase n) (fun x hx=>by
     have:=h x (List.mem_of_mem_erase hx)
     have hne:x≠n:=fun e=>by
      subst e
      exact hd.not_mem_erase hx
     omega)
    rw [List.length_erase_of_mem hm]at h1
    omega
  · have:=nodup_len n l hd (fun x hx=>by
     have:=h x hx
     have hne:x≠n:=fun e=>hm (e ▸ hx)
     omega)
    omega
end
end Go.Hb
namespace Go.Hb
open Go.Proofs
theorem nodup_of_count {L:List Int}(h:∀a,L.count a≤1) :L.Nodup:=List.nodup_iff_count.2 h
theorem all_len :∀ (n:Nat) (l:List Int),(∀i:Nat,i<n→ (i:Int) ∈l) →n≤l.length
 |0,l,_=>Nat.zero_le _
 | n+1,l,h=>by
  have h0:=h n (Nat.lt_succ_self n)
  have h1:=all_len n (l.erase (n:Int)) (fun i hi=> (List.mem_erase_of_ne (by omega)).2 (h i (by omega)))
  rw [List.length_erase_of_mem h0]at h1
  have:=List.length_pos_of_mem h0
  omega
theorem all_in {p:Prog}(hp:FineP p)(hK:∀m:Nat,m<p.nodes.length→p.funs.count (m:Int) + ((p.nodes.map Node.kids).flatten).count (m:Int) =1){L:List Int}(hL:∀m:Int,L.count m=p.funs.count m+ ((L.map (kidsOf p)).flatten).count m) :∀ (b m:Nat),m≤b→m<p.nodes.length→ (m:Int) ∈L:=by
 intro b
 induction b with
 | zero=>
  intro m hmb hm
  have e:=hL (m:Int)
  have hk:=hK m hm
  by_cases hz: ((p.nodes.map Node.kids).flatten).count (m:Int) =0
  ·exact List.count_pos_iff.1 (by omega)
  · obtain⟨l,hl,hy⟩ :=List.mem_flatten.1 (List.count_pos_iff.1 (Nat.pos_of_ne_zero hz))
    obtain⟨x,hx,rfl⟩ :=List.mem_map.1 hl
    obtain⟨i,hi⟩ :=List.mem_iff_getElem?.1 hx
    have:= (hp.node _ _ hi).2.2 _ hy
    omega
 | succ b ih=>
  intro m hmb hm
  have e:=hL (m:Int)
  have hk:=hK m hm
  by_cases hz: ((p.nodes.map Node.kids).flatten).count (m:Int) =0
  ·exact List.count_pos_iff.1 (by omega)
  · obtain⟨l,hl,hy⟩ :=List.mem_flatten.1 (List.count_pos_iff.1 (Nat.pos_of_ne_zero hz))
    obtain⟨x,hx,rfl⟩ :=List.mem_map.1 hl
    obtain⟨i,hi⟩ :=List.mem_iff_getElem?.1 hx
    have him:= (hp.node _ _ hi).2.2 _ hy
    have hiL:=ih i (by omega) (by omega)
    have: (m:Int) ∈ (L.map (kidsOf p)).flatten:=List.mem_flatten.2 ⟨x.kids,List.mem_map.2 ⟨(i:Int),hiL,by unfold kidsOf;rw [Int.toNat_natCast,hi]⟩,hy⟩
    have:=List.count_pos_iff.2 this
    exact List.count_pos_iff.1 (by omega)
theorem formed_pre {p:Prog}(hs:smallProg p=true)(hf:refFormed p=true) : ((p.funs.map (pre p p.nodes.length)).flatten).Nodup∧ ((p.funs.map (pre p p.nodes.length)).flatten).length=p.nodes.length∧ (∀x∈ (p.funs.map (pre p p.nodes.length)).flatten,0≤x∧x<p.nodes.length) ∧
  (∀ (i:Nat) (x:Node),p.nodes[i]?=some x→nodeOk p x=true) :=by
 have hp:=formed_fine hs hf
 simp only [refFormed,Bool.and_eq_true]at hf
 obtain⟨_,hf⟩ :=hf
 split at hf
 · rename_i u hu
   unfold allT at hf
   split at hf
   · rename_i v hv
     have hK:∀m:Int,0≤m→p.funs.count m+ ((p.nodes.map Node.kids).flatten).count m≤1:=fun m hm=>by
      have h1:=marks_count (by omega) hm hu
      have h2:=refNodes_count hm hv
      have h3:tauM v m≤1:=by unfold tauM;split<;>omega
      omega
     have hin:∀x∈ (p.funs.map (pre p p.nodes.length)).flatten,0≤x∧x<p.nodes.length:=fun x hx=>by
      obtain⟨l,hl,hy⟩ :=List.mem_flatten.1 hx
      obtain⟨k,hk,rfl⟩ :=List.mem_map.1 hl
      have:=hp.funs k hk
      exact pre_in hp _ k this.1 this.2 x hy
     have hL:∀m:Int,((p.funs.map (pre p p.nodes.length)).flatten).count m=p.funs.count m+ ((((p.funs.map (pre p p.nodes.length)).flatten).map (kidsOf p)).flatten).count m:=fun m=>flat_count m p.funs (fun k hk=>by
      have:=hp.funs k hk
      exact pre_count hp m _ k this.1 this.2 (by omega))
     have hd: ((p.funs.map (pre p p.nodes.length)).flatten).Nodup:=nodup_of_count (fun a=>by
      by_cases ha:a∈ (p.funs.map (pre p p.nodes.length)).flatten
      · have hr:=hin a ha
        have:=once hp hK hin hL a.toNat a.toNat (Nat.le_refl _)
        rwa [show((a.toNat:Nat) :Int) =a by omega]at this
      ·rw [List.count_eq_zero.2 ha];omega)
     refine⟨hd,?_,hin,fun i x hx=> (refNodes_all hv i x hx).1⟩
     have hd2: (((p.funs.map (pre p p.nodes.length)).flatten).map Int.toNat).Nodup:=by
      rw [List.nodup_iff_pairwise_ne]at hd ⊢
      refine List.pairwise_map.2 (hd.imp_of_mem (fun {a b} ha hb hne e=>?_))
      have:=hin a ha
      have:=hin b hb
      exact hne (by omega)
     have:=nodup_len p.nodes.length _ hd2 (fun x hx=>by
      obtain⟨y,hy,rfl⟩ :=List.mem_map.1 hx
      have:=hin y hy
      omega)
     rw [List.length_map]at this
     refine Nat.le_antisymm this (all_len _ _ (fun i hi=>all_in hp (fun m hm=>?_) hL i i (Nat.le_refl _) hi))
     have h1:=marks_count (m:= (m:Int)) (by omega) (by omega) hu
     have h2:=refNodes_count (m:= (m:Int)) (by omega) hv
     have hl1:=marks_len hu
     have hl2:=refNodes_len hv
     rw [List.length_replicate]at hl1
     have h3:tauM (List.replicate p.nodes.length false) (m:Int) =0:=by
      unfold tauM
      rw [Int.toNat_natCast,List.getElem?_replicate,if_pos hm];rfl
     have h4:tauM v (m:Int) =1:=by
      unfold tauM
      have hlt:m<v.length:=by omega
      have:=List.all_eq_true.1 hf _ (List.getElem_mem hlt)
      rw [Int.toNat_natCast,List.getElem?_eq_getElem hlt,this];rfl
     omega
   ·cases hf
 ·cases hf
abbrev errProg :AV:=.agg [.ilst 4 (List.map Node.av ([] :List Node)) true,.ilst 1 (List.map avI ([] :List Int)) true,.int .i64 0,.ilst 2 (List.map Con.av ([] :List Con)) true]
end Go.Hb
