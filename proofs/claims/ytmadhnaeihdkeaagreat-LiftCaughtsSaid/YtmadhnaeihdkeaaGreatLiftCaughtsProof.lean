/-
  'LiftCaughtsSaid' holds: for every argument the call returns true, and each argument reads afterwards as it did.
  No condition. OWN WORK on the frame of the guide's template.
-/
import Derived.Test.YtmadhnaeihdkeaaGreatRows
import Derived.WalkKit
import Derived.ProofKit
import Derived.OpenShut
import Derived.ChangeStays
import Derived.ChangeBook
import Derived.ChangeOld
import Derived.Deep.Frames
import Derived.Test.YtmadhnaeihdkeaaGreatHYf
import Derived.Test.YtmadhnaeihdkeaaGreatHZ
import Derived.Test.YtmadhnaeihdkeaaGreatHM
namespace Go.Proofs.YtmadhnaeihdkeaaGreat.liftCaughts
open Go.ChangeShapes Go.WideShapes Go.ChangeAt Go.RowKit
set_option linter.unusedVariables false
theorem own :ownKnob Tryz.prog.godebug=none:=by kernel_rfl
theorem laidOut :laidOutB Tryz.prog=true:=by kernel_rfl
theorem rec26 :Tryz.prog.readableRec 26=true:=by kernel_rfl
theorem row26 : (26:TypeId) <Tryz.prog.types.size:=of_decide_eq_true (by kernel_rfl)
/-- what came in reads as it did -/
theorem againp {H:Type}{enc:TypeId×Value→H}{W W':World}(hg:Hb.GrownO W W'){sp:Nat→Bool}{v:Value}{d:DataW H}{ps:List MemPlace}(h:DataW.Trod enc Tryz.prog W 0 (fun _=>true) true 26 v d ps)(hs:∀p∈ps,sp p.block=true) :
    DataW.Trod enc Tryz.prog W' 0 sp true 26 v d ps:=by
  obtain⟨fuel,h⟩ :=h
  have hlt:=DataW.trod_lt fuel 26 v.cells.toList _ h
  refine⟨fuel,DataW.trod_stays (kids_book laidOut rec26) (book_sized rec26) (fun h=>by cases h) ⟨row26,book_self 26⟩ h (fun p hp=>World.keptBut.sameAt hg.1 (hlt p hp) (fun hf=>hf.elim) (fun b e=>?_)) hs⟩
  have:=DataW.trod_good (kids_book laidOut rec26) (fun h=>by cases h) fuel 26 v.cells.toList _ ⟨row26,book_self 26⟩ h p hp
  subst e
  exact this
set_option maxRecDepth 100000 in
/-- a program that came in is data of the machine -/
theorem camep {H:Type}{enc:TypeId×Value→H}{W:World}{base:Nat}{v:Value}{d:DataW H}{ps:List MemPlace}(hval:Value.okWide Tryz.prog W .any base 26 v)(h:DataW.Trod enc Tryz.prog W 0 (fun _=>true) true 26 v d ps) :
    ∃p:Hb.Prog,Hb.VR (Hb.embOf W) (Hb.Prog.av p) v:=by
  obtain⟨fuel,h⟩ :=h
  have hc:∃cs,v= .agg cs:=by
    simp only [Value.okWide,Tryz.underlying26]at hval
    exact hval.elim fun cs hc=> ⟨cs,hc.1⟩
  obtain⟨cs,rfl⟩ :=hc
  exact Hb.lift_prog fuel _ _ h
/-- nothing that was there has turned: what the statement asks behind the call -/
theorem posted {H:Type}{enc:TypeId×Value→H}{P:Program}{f:Func}{s:ChangeSpec}{b1 b2 b3 b4:Bool}{W W':World}{args:Array Value}{v:Value}{ds gs:List (DataW H)}{before pa pv:List MemPlace}(hg:Hb.GrownO W W')
    (hW:DataW.Whole enc P f.params.toList s.vars b1 W args.toList ds gs before) (hb:before=pa++pv)
    (hr:∀ (b:Nat) (sp:Nat→Bool) (hd:Bool),DataW.TrodAll enc P W' b sp hd f.resultTypes.toList (v.resultList f.resultTypes.size) (s.fn H (ds++gs)).results [])
    (ha:∀sp:Nat→Bool,(∀p∈before,sp p.block=true) →DataW.TrodAll enc P W' 0 sp true f.params.toList args.toList (s.fn H (ds++gs)).args pa)
    (hv:∀sp:Nat→Bool,(∀p∈before,sp p.block=true) →DataW.TrodVars enc P W' sp s.vars (s.fn H (ds++gs)).vars pv)
    (hok:∀ (j:Nat) (t:TypeId) (r:Value),f.resultTypes[j]?=some t→ (v.resultList f.resultTypes.size)[j]?=some r→Value.okWide P W' .any 0 t r) :s.post enc P f b1 b2 b3 b4 W args v W':=by
  have lt:∀p∈before,p.block<W.heap.size:=fun p hp=>hW.lt p hp
  have old:∀p∈before,(fun b=>decide (b<W.heap.size)) p.block=true:=fun p hp=>by simpa using lt p hp
  refine⟨ds,gs,before,[],pa,pv,hW,hr _ _ _,ha _ old,hv _ old,World.keptBut_mono (fun _ h=>h.elim) hg.1,fun _=>?_⟩
  obtain⟨_,_,_,_,_,nofrz,apart⟩ :=hW
  refine⟨hok,_,_,([] ++pa) ++pv,⟨[] ++pa,pv,trodAll_append (ha _ (fun _ _=>rfl)) (hr _ _ _),hv _ (fun _ _=>rfl),rfl,fun b off hp=>?_,fun h=>?_⟩,fun p hp _=>?_⟩
  · have hp':MemPlace.cell b off∈before:=by rw [hb];simpa using hp
    exact(hg.2.1 _ (lt _ hp')).trans (nofrz b off hp')
  · have h2:=apart h
    rw [hb]at h2
    simpa using h2
  ·rw [hb];simpa using hp
set_option maxRecDepth 100000 in
theorem lifted (os:Os)(started:os.Started)(H:Type)(enc:TypeId×Value→H) :
    ReturnsInHanded {} Tryz.checked os 3 .any (Rows.liftCaughtsSpec.pre6 enc Tryz.prog Tryz.f3 Rows.liftCaughtsRow.domain false) (Rows.liftCaughtsSpec.post enc Tryz.prog Tryz.f3 false true false false) :=by
  refine returnsInHanded_of_change (C:=Tryz.checked) own started (by kernel_rfl) Tryz.func3
    (ChangeSpec.witness6 (enc:=enc) (C:=Tryz.checked) false ⟨#[],#[.agg #[.slice none 0 0,.slice none 0 0,.int .i64 0,.slice none 0 0]],[]⟩ 8 (by kernel_rfl) (by kernel_rfl) (by kernel_rfl) (by kernel_rfl)) ?_
  intro W base args ds gs before hval0 hW hcnd _
  have hval:∀ (j:Nat) t v,Tryz.f3.params[j]?=some t→args[j]?=some v→Value.okWide Tryz.prog W .any base t v:=hval0
  have hW':=hW
  obtain⟨p,q,hA0,hV,rfl,hfz,hnd⟩ :=hW
  have hA:DataW.TrodAll enc Tryz.prog W 0 (fun _=>true) true Tryz.f3.params.toList args.toList ds p:=hA0
  rw [Tryz.params3]at hA hval
  obtain⟨v0,vs0,d0,ds0,p0,q0,hargs,rfl,rfl,h0,r0⟩ :=trodAll_cons hA
  obtain⟨rfl,rfl,rfl⟩ :=trodAll_nil r0
  obtain rfl:args= #[v0] :=by cases args;simp_all
  obtain⟨rfl,rfl⟩ :=trodVars_none hV
  obtain⟨x0,y0⟩ :=camep (hval 0 26 v0 rfl rfl) h0
  clear hA0 hval0
  simp only [List.append_nil]at hW'
  refine(Hb.lCaughts_calls x0 Hb.known_pure W [v0] (Hb.VRs.cons y0 (Hb.VRs.nil _))).mono fun e W' ⟨he,hg⟩ =>?_
  subst he
  exact⟨_,rfl,posted (pa:=p0) (pv:=[]) hg hW' (by simp) (fun _ _ _=> (trodAll_cons_mk (shut_bool Tryz.underlying4 _) trodAll_mk0)) (fun sp hsp=>trodAll_mk1 (againp hg h0 fun p hp=>hsp p (by simp [hp]))) (fun _ _=>rfl) (ok_one (by kernel_rfl) rfl (okWide_bool_mk Tryz.underlying4 _))⟩

theorem over :Rows.liftCaughtsRow.holds Tryz.pinned (OpenSpec.ofChange Rows.liftCaughtsSpec) :=
  OpenClaim.holds_of_wide 3 Tryz.f3 rfl rfl rfl rfl rfl rfl rfl ⟨rfl,rfl,rfl,rfl,rfl⟩ rfl rfl rfl rfl rfl (by kernel_rfl) Tryz.func3 facts
    (of_decide_eq_true (by kernel_rfl)) (by unfold Func.isWrapper;first| (rw [if_pos (by decide +kernel)];kernel_rfl) | (rw [if_neg (by decide +kernel)];exact⟨rfl,rfl⟩))
    (fun os started H enc _=>lifted os started H enc)

/-- ████ THE STATEMENT ████ -/
theorem proved :Rows.LiftCaughtsSaid:=
  over
#print axioms proved
end Go.Proofs.YtmadhnaeihdkeaaGreat.liftCaughts
