/-
  'LinkFormsSaid' holds: for every argument the call returns true, and each argument reads afterwards as it did.
  No condition. OWN WORK on the frame of the guide's template.
-/
import Derived.Test.YtlgoblkihmkmcaaGreatHR0
import Derived.Test.YtlgoblkihmkmcaaGreatHR1
import Derived.Test.YtlgoblkihmkmcaaGreatHR2
import Derived.Test.YtlgoblkihmkmcaaGreatHR3
import Derived.Test.YtlgoblkihmkmcaaGreatHR4
import Derived.Test.YtlgoblkihmkmcaaGreatHR5
import Derived.Test.YtlgoblkihmkmcaaGreatHR6
import Derived.Test.YtlgoblkihmkmcaaGreatHR7
import Derived.Test.YtlgoblkihmkmcaaGreatHR8
import Derived.Test.YtlgoblkihmkmcaaGreatHR9
import Derived.Test.YtlgoblkihmkmcaaGreatHR10
import Derived.Test.YtlgoblkihmkmcaaGreatHR11
import Derived.Test.YtlgoblkihmkmcaaGreatHR12
import Derived.Test.YtlgoblkihmkmcaaGreatHR13
import Derived.Test.YtlgoblkihmkmcaaGreatHR14
import Derived.Test.YtlgoblkihmkmcaaGreatHR15
import Derived.Test.YtlgoblkihmkmcaaGreatHR16
import Derived.Test.YtlgoblkihmkmcaaGreatHR17
import Derived.Test.YtlgoblkihmkmcaaGreatHR18
import Derived.Test.YtlgoblkihmkmcaaGreatHR19
import Derived.Test.YtlgoblkihmkmcaaGreatHR20
import Derived.Test.YtlgoblkihmkmcaaGreatHR21
import Derived.Test.YtlgoblkihmkmcaaGreatHR22
import Derived.Test.YtlgoblkihmkmcaaGreatHR23
import Derived.Test.YtlgoblkihmkmcaaGreatHR24
import Derived.Test.YtlgoblkihmkmcaaGreatHR25
import Derived.Test.YtlgoblkihmkmcaaGreatHR26
import Derived.Test.YtlgoblkihmkmcaaGreatHR27
import Derived.Test.YtlgoblkihmkmcaaGreatHR28
import Derived.Test.YtlgoblkihmkmcaaGreatHR29
import Derived.Test.YtlgoblkihmkmcaaGreatHR30
import Derived.Test.YtlgoblkihmkmcaaGreatHR31
import Derived.Test.YtlgoblkihmkmcaaGreatHR32
import Derived.Test.YtlgoblkihmkmcaaGreatHR33
import Derived.Test.YtlgoblkihmkmcaaGreatHR34
import Derived.Test.YtlgoblkihmkmcaaGreatHR35
import Derived.Test.YtlgoblkihmkmcaaGreatHR36
import Derived.Test.YtlgoblkihmkmcaaGreatHF
import Derived.Test.YtlgoblkihmkmcaaGreatRows
import Derived.WalkKit
import Derived.ProofKit
import Derived.OpenShut
import Derived.ChangeStays
import Derived.ChangeBook
import Derived.ChangeOld
import Derived.Deep.Frames
import Derived.Test.YtlgoblkihmkmcaaGreatHYf
import Derived.Test.YtlgoblkihmkmcaaGreatHP
namespace Go.Hb
open Go.Proofs
noncomputable section
namespace Kn
theorem sound :fZ PP xZ:=by unfold xZ;exact aCY _ _
theorem leads :Leads PP st0.as st37.as:=
 (aN sound bCT).trans
 ((aN sound bCU).trans
 ((aN sound bCV).trans
 ((aN sound bCW).trans
 ((aN sound bCX).trans
 ((aN sound bCY).trans
 ((aN sound bCZ).trans
 ((aN sound bC0).trans
 ((aN sound bC1).trans
 ((aN sound bC2).trans
 ((aN sound bBs).trans
 ((aN sound bBt).trans
 ((aN sound bBu).trans
 ((aN sound bBv).trans
 ((aN sound bBw).trans
 ((aN sound bBx).trans
 ((aN sound bBy).trans
 ((aN sound bBz).trans
 ((aN sound bBA).trans
 ((aN sound bBB).trans
 ((aN sound bBC).trans
 ((aN sound bBD).trans
 ((aN sound bBE).trans
 ((aN sound bBF).trans
 ((aN sound bBG).trans
 ((aN sound bBH).trans
 ((aN sound bBI).trans
 ((aN sound bBJ).trans
 ((aN sound bBK).trans
 ((aN sound bBL).trans
 ((aN sound bBM).trans
 ((aN sound bBN).trans
 ((aN sound bBO).trans
 ((aN sound bBP).trans
 ((aN sound bBQ).trans
 ((aN sound bBR).trans
 ((aN sound bBS)))))))))))))))))))))))))))))))))))))
theorem first : (start PP 6 []).as=st0.as:=by kernel_rfl
theorem last : (aCF PP st37.as).map Prod.fst=some (.bool true) :=by kernel_rfl
end Kn
theorem known_pure :Pure PP 6 [] (.bool true) :=by
 cases e:aCF PP Kn.st37.as with
 |none=>have:=Kn.last;rw [e]at this;cases this
 | some r=>
  obtain⟨v,h⟩ :=r;have hv:v= .bool true:=by have:=Kn.last;rw [e]at this;exact Option.some.inj this
  subst hv;have hb:oN PP 6=true:=by kernel_rfl
  refine aP hb rfl rfl ?_;rw [Kn.first];exact aL6 Kn.leads e
end
end Go.Hb

namespace Go.Proofs.YtlgoblkihmkmcaaGreat.linkForms
open Go.ChangeShapes Go.WideShapes Go.ChangeAt Go.RowKit
set_option linter.unusedVariables false
theorem own :ownKnob Tryz.prog.godebug=none:=by kernel_rfl
theorem laidOut :laidOutB Tryz.prog=true:=by kernel_rfl
theorem rec27 :Tryz.prog.readableRec 27=true:=by kernel_rfl
theorem row27 : (27:TypeId) <Tryz.prog.types.size:=of_decide_eq_true (by kernel_rfl)
/-- what came in reads as it did -/
theorem againm {H:Type}{enc:TypeId×Value→H}{W W':World}(hg:Hb.GrownO W W'){sp:Nat→Bool}{v:Value}{d:DataW H}{ps:List MemPlace}(h:DataW.Trod enc Tryz.prog W 0 (fun _=>true) true 27 v d ps)(hs:∀p∈ps,sp p.block=true) :
    DataW.Trod enc Tryz.prog W' 0 sp true 27 v d ps:=by
  obtain⟨fuel,h⟩ :=h
  have hlt:=DataW.trod_lt fuel 27 v.cells.toList _ h
  refine⟨fuel,DataW.trod_stays (kids_book laidOut rec27) (book_sized rec27) (fun h=>by cases h) ⟨row27,book_self 27⟩ h (fun p hp=>World.keptBut.sameAt hg.1 (hlt p hp) (fun hf=>hf.elim) (fun b e=>?_)) hs⟩
  have:=DataW.trod_good (kids_book laidOut rec27) (fun h=>by cases h) fuel 27 v.cells.toList _ ⟨row27,book_self 27⟩ h p hp
  subst e
  exact this
set_option maxRecDepth 100000 in
/-- a program that came in is data of the machine -/
theorem camem {H:Type}{enc:TypeId×Value→H}{W:World}{base:Nat}{v:Value}{d:DataW H}{ps:List MemPlace}(hval:Value.okWide Tryz.prog W .any base 27 v)(h:DataW.Trod enc Tryz.prog W 0 (fun _=>true) true 27 v d ps) :
    ∃p:Hb.Mod,Hb.VR (Hb.embOf W) (Hb.Mod.av p) v:=by
  obtain⟨fuel,h⟩ :=h
  have hc:∃cs,v= .agg cs:=by
    simp only [Value.okWide,Tryz.underlying27]at hval
    exact hval.elim fun cs hc=> ⟨cs,hc.1⟩
  obtain⟨cs,rfl⟩ :=hc
  exact Hb.lift_mod fuel _ _ h
theorem rec48 :Tryz.prog.readableRec 48=true:=by kernel_rfl
theorem row48 : (48:TypeId) <Tryz.prog.types.size:=of_decide_eq_true (by kernel_rfl)
/-- what came in reads as it did -/
theorem againu {H:Type}{enc:TypeId×Value→H}{W W':World}(hg:Hb.GrownO W W'){sp:Nat→Bool}{v:Value}{d:DataW H}{ps:List MemPlace}(h:DataW.Trod enc Tryz.prog W 0 (fun _=>true) true 48 v d ps)(hs:∀p∈ps,sp p.block=true) :
    DataW.Trod enc Tryz.prog W' 0 sp true 48 v d ps:=by
  obtain⟨fuel,h⟩ :=h
  have hlt:=DataW.trod_lt fuel 48 v.cells.toList _ h
  refine⟨fuel,DataW.trod_stays (kids_book laidOut rec48) (book_sized rec48) (fun h=>by cases h) ⟨row48,book_self 48⟩ h (fun p hp=>World.keptBut.sameAt hg.1 (hlt p hp) (fun hf=>hf.elim) (fun b e=>?_)) hs⟩
  have:=DataW.trod_good (kids_book laidOut rec48) (fun h=>by cases h) fuel 48 v.cells.toList _ ⟨row48,book_self 48⟩ h p hp
  subst e
  exact this
set_option maxRecDepth 100000 in
/-- a unit that came in is data of the machine -/
theorem cameu {H:Type}{enc:TypeId×Value→H}{W:World}{base:Nat}{v:Value}{d:DataW H}{ps:List MemPlace}(hval:Value.okWide Tryz.prog W .any base 48 v)(h:DataW.Trod enc Tryz.prog W 0 (fun _=>true) true 48 v d ps) :
    ∃p:Hb.LUnit,Hb.NumU p∧Hb.VR (Hb.embOf W) (Hb.LUnit.av p) v:=by
  obtain⟨fuel,h⟩ :=h
  have hc:∃cs,v= .agg cs:=by
    simp only [Value.okWide,Tryz.underlying48]at hval
    exact hval.elim fun cs hc=> ⟨cs,hc.1⟩
  obtain⟨cs,rfl⟩ :=hc
  exact Hb.lift_unit fuel _ _ h
/-- nothing that was there has turned: what the statement asks behind the call -/
theorem posted {H:Type}{enc:TypeId×Value→H}{P:Program}{f:Func}{s:ChangeSpec}{b1 b2 b3 b4:Bool}{W W':World}{args:Array Value}{v:Value}{ds gs:List (DataW H)}{before pa pv:List MemPlace}(hg:Hb.GrownO W W')
    (hW:DataW.Whole enc P f.params.toList s.vars b1 W args.toList ds gs before) (hb:before=pa++pv)
    (hr:∀ (b:Nat) (sp:Nat→Bool) (hd:Bool),DataW.TrodAll enc P W' b sp hd f.resultTypes.toList (v.resultList f.resultTypes.size) (s.fn H (ds++gs)).results [])
    (ha:∀sp:Nat→Bool,(∀p∈before,sp p.block=true) →DataW.TrodAll enc P W' 0 sp true f.params.toList args.toList (s.fn H (ds++gs)).args pa)
    (hv:∀sp:Nat→Bool,(∀p∈before,sp p.block=true) →DataW.TrodVars enc P W' sp s.vars (s.fn H (ds++gs)).vars pv)
    (hok:∀ (j:Nat) (t:TypeId) (r:Value),f.resultTypes[j]?=some t→ (v.resultList f.resultTypes.size)[j]?=some r→Value.okWide P W' .any 0 t r) :s.post enc P f b1 b2 b3 b4 W args v W':=by
  have lt:∀p∈before,p.block<W.heap.size:=fun p hp=>hW.lt p hp
  have old:∀p∈before,(fun b=>decide (b<W.heap.size)) p.block=true:=fun p hp=>by simpa using lt p hp
  refine⟨ds,gs,before,[],pa,pv,hW,hr _ _ _,ha _ old,hv _ old,World.keptBut_mono (fun _ h=>h.elim) hg.1,fun _=>?_⟩
  obtain⟨_,_,_,_,_,nofrz,apart⟩ :=hW
  refine⟨hok,_,_,([] ++pa) ++pv,⟨[] ++pa,pv,trodAll_append (ha _ (fun _ _=>rfl)) (hr _ _ _),hv _ (fun _ _=>rfl),rfl,fun b off hp=>?_,fun h=>?_⟩,fun p hp _=>?_⟩
  · have hp':MemPlace.cell b off∈before:=by rw [hb];simpa using hp
    exact(hg.2.1 _ (lt _ hp')).trans (nofrz b off hp')
  · have h2:=apart h
    rw [hb]at h2
    simpa using h2
  ·rw [hb];simpa using hp
set_option maxRecDepth 100000 in
theorem lifted (os:Os)(started:os.Started)(H:Type)(enc:TypeId×Value→H) :
    ReturnsInHanded {} Tryz.checked os 4 .any (Rows.linkFormsSpec.pre6 enc Tryz.prog Tryz.f4 Rows.linkFormsRow.domain false) (Rows.linkFormsSpec.post enc Tryz.prog Tryz.f4 false true false false) :=by
  refine returnsInHanded_of_change (C:=Tryz.checked) own started (by kernel_rfl) Tryz.func4
    (ChangeSpec.witness6 (enc:=enc) (C:=Tryz.checked) false ⟨#[],#[.agg #[.string ⟨#[]⟩,.slice none 0 0,.slice none 0 0,.slice none 0 0,.slice none 0 0],.agg #[.string ⟨#[]⟩,.slice none 0 0,.slice none 0 0]],[]⟩ 8 (by kernel_rfl) (by kernel_rfl) (by kernel_rfl) (by kernel_rfl)) ?_
  intro W base args ds gs before hval0 hW hcnd _
  have hval:∀ (j:Nat) t v,Tryz.f4.params[j]?=some t→args[j]?=some v→Value.okWide Tryz.prog W .any base t v:=hval0
  have hW':=hW
  obtain⟨p,q,hA0,hV,rfl,hfz,hnd⟩ :=hW
  have hA:DataW.TrodAll enc Tryz.prog W 0 (fun _=>true) true Tryz.f4.params.toList args.toList ds p:=hA0
  rw [Tryz.params4]at hA hval
  obtain⟨v0,vs0,d0,ds0,p0,q0,hargs,rfl,rfl,h0,r0⟩ :=trodAll_cons hA
  obtain⟨v1,vs1,d1,ds1,p1,q1,rfl,rfl,rfl,h1,r1⟩ :=trodAll_cons r0
  obtain⟨rfl,rfl,rfl⟩ :=trodAll_nil r1
  obtain rfl:args= #[v0,v1] :=by cases args;simp_all
  obtain⟨rfl,rfl⟩ :=trodVars_none hV
  obtain⟨x0,z0,y0⟩ :=cameu (hval 0 48 v0 rfl rfl) h0
  obtain⟨x1,y1⟩ :=camem (hval 1 27 v1 rfl rfl) h1
  clear hA0 hval0
  simp only [List.append_nil]at hW'
  refine(Hb.lForms_calls x0 x1 z0 Hb.known_pure W [v0,v1] (Hb.VRs.cons y0 (Hb.VRs.cons y1 (Hb.VRs.nil _)))).mono fun e W' ⟨he,hg⟩ =>?_
  subst he
  exact⟨_,rfl,posted (pa:=p0++ (p1)) (pv:=[]) hg hW' (by simp) (fun _ _ _=> (trodAll_cons_mk (shut_bool Tryz.underlying4 _) trodAll_mk0)) (fun sp hsp=>trodAll_mk2 (againu hg h0 fun p hp=>hsp p (by simp [hp])) (againm hg h1 fun p hp=>hsp p (by simp [hp]))) (fun _ _=>rfl) (ok_one (by kernel_rfl) rfl (okWide_bool_mk Tryz.underlying4 _))⟩

theorem over :Rows.linkFormsRow.holds Tryz.pinned (OpenSpec.ofChange Rows.linkFormsSpec) :=
  OpenClaim.holds_of_wide 4 Tryz.f4 rfl rfl rfl rfl rfl rfl rfl ⟨rfl,rfl,rfl,rfl,rfl⟩ rfl rfl rfl rfl rfl (by kernel_rfl) Tryz.func4 facts
    (of_decide_eq_true (by kernel_rfl)) (by unfold Func.isWrapper;first| (rw [if_pos (by decide +kernel)];kernel_rfl) | (rw [if_neg (by decide +kernel)];exact⟨rfl,rfl⟩))
    (fun os started H enc _=>lifted os started H enc)

/-- ████ THE STATEMENT ████ -/
theorem proved :Rows.LinkFormsSaid:=
  over
#print axioms proved
end Go.Proofs.YtlgoblkihmkmcaaGreat.linkForms
