/-
  'LinkTrimsSaid' holds: for every argument the call returns true, and each argument reads afterwards as it did.
  No condition. OWN WORK on the frame of the guide's template.
-/
import Derived.Test.YtlgoblkihmkmcaaGreatHR0
import Derived.Test.YtlgoblkihmkmcaaGreatHR1
import Derived.Test.YtlgoblkihmkmcaaGreatHR2
import Derived.Test.YtlgoblkihmkmcaaGreatHR3
import Derived.Test.YtlgoblkihmkmcaaGreatHR4
import Derived.Test.YtlgoblkihmkmcaaGreatHR5
import Derived.Test.YtlgoblkihmkmcaaGreatHR6
import Derived.Test.YtlgoblkihmkmcaaGreatHR7
import Derived.Test.YtlgoblkihmkmcaaGreatHR8
import Derived.Test.YtlgoblkihmkmcaaGreatHR9
import Derived.Test.YtlgoblkihmkmcaaGreatHR10
import Derived.Test.YtlgoblkihmkmcaaGreatHR11
import Derived.Test.YtlgoblkihmkmcaaGreatHR12
import Derived.Test.YtlgoblkihmkmcaaGreatHR13
import Derived.Test.YtlgoblkihmkmcaaGreatHR14
import Derived.Test.YtlgoblkihmkmcaaGreatHR15
import Derived.Test.YtlgoblkihmkmcaaGreatHR16
import Derived.Test.YtlgoblkihmkmcaaGreatHR17
import Derived.Test.YtlgoblkihmkmcaaGreatHR18
import Derived.Test.YtlgoblkihmkmcaaGreatHR19
import Derived.Test.YtlgoblkihmkmcaaGreatHR20
import Derived.Test.YtlgoblkihmkmcaaGreatHR21
import Derived.Test.YtlgoblkihmkmcaaGreatHR22
import Derived.Test.YtlgoblkihmkmcaaGreatHR23
import Derived.Test.YtlgoblkihmkmcaaGreatHR24
import Derived.Test.YtlgoblkihmkmcaaGreatHR25
import Derived.Test.YtlgoblkihmkmcaaGreatHR26
import Derived.Test.YtlgoblkihmkmcaaGreatHR27
import Derived.Test.YtlgoblkihmkmcaaGreatHR28
import Derived.Test.YtlgoblkihmkmcaaGreatHR29
import Derived.Test.YtlgoblkihmkmcaaGreatHR30
import Derived.Test.YtlgoblkihmkmcaaGreatHR31
import Derived.Test.YtlgoblkihmkmcaaGreatHR32
import Derived.Test.YtlgoblkihmkmcaaGreatHR33
import Derived.Test.YtlgoblkihmkmcaaGreatHR34
import Derived.Test.YtlgoblkihmkmcaaGreatHR35
import Derived.Test.YtlgoblkihmkmcaaGreatHR36
import Derived.Test.YtlgoblkihmkmcaaGreatHF
import Derived.Test.YtlgoblkihmkmcaaGreatRows
import Derived.WalkKit
import Derived.ProofKit
import Derived.OpenShut
import Derived.ChangeStays
import Derived.ChangeBook
import Derived.ChangeOld
import Derived.Deep.Frames
import Derived.Test.YtlgoblkihmkmcaaGreatHYf
import Derived.Test.YtlgoblkihmkmcaaGreatHQ
namespace Go.Hb
open Go.Proofs
noncomputable section
namespace Kn
theorem sound :fB PP wK:=by unfold wK;exact aCh _ _
theorem leads :Leads PP st0.as st37.as:=
 (aK sound bH9).trans
 ((aK sound bIa).trans
 ((aK sound bIb).trans
 ((aK sound bIc).trans
 ((aK sound bId).trans
 ((aK sound bIe).trans
 ((aK sound bIf).trans
 ((aK sound bIg).trans
 ((aK sound bIh).trans
 ((aK sound bIi).trans
 ((aK sound bGX).trans
 ((aK sound bGY).trans
 ((aK sound bGZ).trans
 ((aK sound bG0).trans
 ((aK sound bG1).trans
 ((aK sound bG2).trans
 ((aK sound bG3).trans
 ((aK sound bG4).trans
 ((aK sound bG5).trans
 ((aK sound bG6).trans
 ((aK sound bG7).trans
 ((aK sound bG8).trans
 ((aK sound bG9).trans
 ((aK sound bHa).trans
 ((aK sound bHb).trans
 ((aK sound bHc).trans
 ((aK sound bHd).trans
 ((aK sound bHe).trans
 ((aK sound bHf).trans
 ((aK sound bHg).trans
 ((aK sound bHh).trans
 ((aK sound bHi).trans
 ((aK sound bHj).trans
 ((aK sound bHk).trans
 ((aK sound bHl).trans
 ((aK sound bHm).trans
 ((aK sound bHn)))))))))))))))))))))))))))))))))))))
theorem first : (start PP 6 []).as=st0.as:=by kernel_rfl
theorem last : (aEh PP st37.as).map Prod.fst=some (.bool true) :=by kernel_rfl
end Kn
theorem known_pure :Pure PP 6 [] (.bool true) :=by
 cases e:aEh PP Kn.st37.as with
 |none=>have:=Kn.last;rw [e]at this;cases this
 | some r=>
  obtain⟨v,h⟩ :=r;have hv:v= .bool true:=by have:=Kn.last;rw [e]at this;exact Option.some.inj this
  subst hv;have hb:kR PP 6=true:=by kernel_rfl
  refine aV hb rfl rfl ?_;rw [Kn.first];exact aMK Kn.leads e
end
end Go.Hb

namespace Go.Proofs.YtlgoblkihmkmcaaGreat.linkTrims
open Go.ChangeShapes Go.WideShapes Go.ChangeAt Go.RowKit
set_option linter.unusedVariables false
theorem own :ownKnob Tryz.prog.godebug=none:=by kernel_rfl
theorem laidOut :laidOutB Tryz.prog=true:=by kernel_rfl
theorem rec29 :Tryz.prog.readableRec 29=true:=by kernel_rfl
theorem row29 : (29:TypeId) <Tryz.prog.types.size:=of_decide_eq_true (by kernel_rfl)
/-- what came in reads as it did -/
theorem againU {H:Type}{enc:TypeId×Value→H}{W W':World}(hg:Hb.GrownO W W'){sp:Nat→Bool}{v:Value}{d:DataW H}{ps:List MemPlace}(h:DataW.Trod enc Tryz.prog W 0 (fun _=>true) true 29 v d ps)(hs:∀p∈ps,sp p.block=true) :
    DataW.Trod enc Tryz.prog W' 0 sp true 29 v d ps:=by
  obtain⟨fuel,h⟩ :=h
  have hlt:=DataW.trod_lt fuel 29 v.cells.toList _ h
  refine⟨fuel,DataW.trod_stays (kids_book laidOut rec29) (book_sized rec29) (fun h=>by cases h) ⟨row29,book_self 29⟩ h (fun p hp=>World.keptBut.sameAt hg.1 (hlt p hp) (fun hf=>hf.elim) (fun b e=>?_)) hs⟩
  have:=DataW.trod_good (kids_book laidOut rec29) (fun h=>by cases h) fuel 29 v.cells.toList _ ⟨row29,book_self 29⟩ h p hp
  subst e
  exact this
set_option maxRecDepth 100000 in
/-- units that came in are data of the machine -/
theorem cameU {H:Type}{enc:TypeId×Value→H}{W:World}{base:Nat}{v:Value}{d:DataW H}{ps:List MemPlace}(hval:Value.okWide Tryz.prog W .any base 29 v)(h:DataW.Trod enc Tryz.prog W 0 (fun _=>true) true 29 v d ps) :
    ∃p:List Hb.LUnit,(∀u∈p,Hb.NumU u) ∧Hb.VR (Hb.embOf W) (.ilst 5 (List.map Hb.LUnit.av p) false) v:=by
  obtain⟨fuel,h⟩ :=h
  obtain⟨l,c,hn,hc,hr⟩ :=Hb.lift_units fuel _ _ h
  obtain⟨a,n,k,rfl⟩ :=okWide_slice Tryz.underlying29 hval
  have e: (Value.slice a n k).cells.toList= [Value.slice a n k] :=by simp [Value.cells]
  rw [e,List.cons.injEq]at hc
  rw [hc.1]
  exact⟨l,hn,hr⟩
/-- nothing that was there has turned: what the statement asks behind the call -/
theorem posted {H:Type}{enc:TypeId×Value→H}{P:Program}{f:Func}{s:ChangeSpec}{b1 b2 b3 b4:Bool}{W W':World}{args:Array Value}{v:Value}{ds gs:List (DataW H)}{before pa pv:List MemPlace}(hg:Hb.GrownO W W')
    (hW:DataW.Whole enc P f.params.toList s.vars b1 W args.toList ds gs before) (hb:before=pa++pv)
    (hr:∀ (b:Nat) (sp:Nat→Bool) (hd:Bool),DataW.TrodAll enc P W' b sp hd f.resultTypes.toList (v.resultList f.resultTypes.size) (s.fn H (ds++gs)).results [])
    (ha:∀sp:Nat→Bool,(∀p∈before,sp p.block=true) →DataW.TrodAll enc P W' 0 sp true f.params.toList args.toList (s.fn H (ds++gs)).args pa)
    (hv:∀sp:Nat→Bool,(∀p∈before,sp p.block=true) →DataW.TrodVars enc P W' sp s.vars (s.fn H (ds++gs)).vars pv)
    (hok:∀ (j:Nat) (t:TypeId) (r:Value),f.resultTypes[j]?=some t→ (v.resultList f.resultTypes.size)[j]?=some r→Value.okWide P W' .any 0 t r) :s.post enc P f b1 b2 b3 b4 W args v W':=by
  have lt:∀p∈before,p.block<W.heap.size:=fun p hp=>hW.lt p hp
  have old:∀p∈before,(fun b=>decide (b<W.heap.size)) p.block=true:=fun p hp=>by simpa using lt p hp
  refine⟨ds,gs,before,[],pa,pv,hW,hr _ _ _,ha _ old,hv _ old,World.keptBut_mono (fun _ h=>h.elim) hg.1,fun _=>?_⟩
  obtain⟨_,_,_,_,_,nofrz,apart⟩ :=hW
  refine⟨hok,_,_,([] ++pa) ++pv,⟨[] ++pa,pv,trodAll_append (ha _ (fun _ _=>rfl)) (hr _ _ _),hv _ (fun _ _=>rfl),rfl,fun b off hp=>?_,fun h=>?_⟩,fun p hp _=>?_⟩
  · have hp':MemPlace.cell b off∈before:=by rw [hb];simpa using hp
    exact(hg.2.1 _ (lt _ hp')).trans (nofrz b off hp')
  · have h2:=apart h
    rw [hb]at h2
    simpa using h2
  ·rw [hb];simpa using hp
set_option maxRecDepth 100000 in
theorem lifted (os:Os)(started:os.Started)(H:Type)(enc:TypeId×Value→H) :
    ReturnsInHanded {} Tryz.checked os 5 .any (Rows.linkTrimsSpec.pre6 enc Tryz.prog Tryz.f5 Rows.linkTrimsRow.domain false) (Rows.linkTrimsSpec.post enc Tryz.prog Tryz.f5 false true false false) :=by
  refine returnsInHanded_of_change (C:=Tryz.checked) own started (by kernel_rfl) Tryz.func5
    (ChangeSpec.witness6 (enc:=enc) (C:=Tryz.checked) false ⟨#[],#[.slice none 0 0],[]⟩ 8 (by kernel_rfl) (by kernel_rfl) (by kernel_rfl) (by kernel_rfl)) ?_
  intro W base args ds gs before hval0 hW hcnd _
  have hval:∀ (j:Nat) t v,Tryz.f5.params[j]?=some t→args[j]?=some v→Value.okWide Tryz.prog W .any base t v:=hval0
  have hW':=hW
  obtain⟨p,q,hA0,hV,rfl,hfz,hnd⟩ :=hW
  have hA:DataW.TrodAll enc Tryz.prog W 0 (fun _=>true) true Tryz.f5.params.toList args.toList ds p:=hA0
  rw [Tryz.params5]at hA hval
  obtain⟨v0,vs0,d0,ds0,p0,q0,hargs,rfl,rfl,h0,r0⟩ :=trodAll_cons hA
  obtain⟨rfl,rfl,rfl⟩ :=trodAll_nil r0
  obtain rfl:args= #[v0] :=by cases args;simp_all
  obtain⟨rfl,rfl⟩ :=trodVars_none hV
  obtain⟨x0,z0,y0⟩ :=cameU (hval 0 29 v0 rfl rfl) h0
  clear hA0 hval0
  simp only [List.append_nil]at hW'
  refine(Hb.lTrims_calls x0 z0 Hb.known_pure W [v0] (Hb.VRs.cons y0 (Hb.VRs.nil _))).mono fun e W' ⟨he,hg⟩ =>?_
  subst he
  exact⟨_,rfl,posted (pa:=p0) (pv:=[]) hg hW' (by simp) (fun _ _ _=> (trodAll_cons_mk (shut_bool Tryz.underlying4 _) trodAll_mk0)) (fun sp hsp=>trodAll_mk1 (againU hg h0 fun p hp=>hsp p (by simp [hp]))) (fun _ _=>rfl) (ok_one (by kernel_rfl) rfl (okWide_bool_mk Tryz.underlying4 _))⟩

theorem over :Rows.linkTrimsRow.holds Tryz.pinned (OpenSpec.ofChange Rows.linkTrimsSpec) :=
  OpenClaim.holds_of_wide 5 Tryz.f5 rfl rfl rfl rfl rfl rfl rfl ⟨rfl,rfl,rfl,rfl,rfl⟩ rfl rfl rfl rfl rfl (by kernel_rfl) Tryz.func5 facts
    (of_decide_eq_true (by kernel_rfl)) (by unfold Func.isWrapper;first| (rw [if_pos (by decide +kernel)];kernel_rfl) | (rw [if_neg (by decide +kernel)];exact⟨rfl,rfl⟩))
    (fun os started H enc _=>lifted os started H enc)

/-- ████ THE STATEMENT ████ -/
theorem proved :Rows.LinkTrimsSaid:=
  over
#print axioms proved
end Go.Proofs.YtlgoblkihmkmcaaGreat.linkTrims
