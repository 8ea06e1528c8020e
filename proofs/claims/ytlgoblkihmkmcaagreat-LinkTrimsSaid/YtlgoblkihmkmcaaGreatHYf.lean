/- A machine on abstract values, its soundness, ways, plain laws. -/
import Derived.Test.YtlgoblkihmkmcaaGreatRows
import Derived.WalkKit
import Derived.ProofKit
import Derived.JoinedOf
import Derived.Test.YtlgoblkihmkmcaaGreatHYg
import Derived.Test.YtlgoblkihmkmcaaGreatHYh
namespace Go.Proofs.YtlgoblkihmkmcaaGreat.linkTrims
open Go.ChangeShapes Go.WideShapes Go.ChangeAt Go.RowKit
theorem p0 : (Rows.linkTrimsRow.wf (OpenSpec.ofChange Rows.linkTrimsSpec)) =true:=by kernel_rfl
theorem p1 : (laidOutB Tryz.pinned.checked.prog) =true:=by kernel_rfl
theorem p2 : (mapsRowed Tryz.pinned.checked.prog) =true:=by kernel_rfl
theorem p3 : (Tryz.f5.params.all (Tryz.pinned.checked.prog.readableRec ·)) =true:=by kernel_rfl
theorem p4 : (namedTie Tryz.pinned.checked.prog Rows.linkTrimsRow.named Rows.linkTrimsSpec.vars) =true:=by kernel_rfl
theorem p5 : ((Rows.linkTrimsRow.stops== [])) =true:=by kernel_rfl
theorem p6 : ((Tryz.pinned.checked.prog.stops== [])) =true:=by kernel_rfl
theorem p7 : ((Rows.linkTrimsRow.knobs== [])) =true:=by kernel_rfl
theorem p8 : ((Tryz.pinned.checked.prog.stopKnobs== [])) =true:=by kernel_rfl
theorem p13 : ((Rows.linkTrimsRow.maps== (Tryz.f5.params.toList++Rows.linkTrimsSpec.plain.varTypes Tryz.pinned.checked.prog).any (Tryz.pinned.checked.prog.mapsRec ·))) =true:=by kernel_rfl
theorem p14 : ((Rows.linkTrimsRow.ifaces== (Tryz.f5.params.toList++Rows.linkTrimsSpec.plain.varTypes Tryz.pinned.checked.prog).any (Tryz.pinned.checked.prog.ifacesRec ·))) =true:=by kernel_rfl
theorem p15 : ((Rows.linkTrimsRow.mapsOut==Tryz.pinned.checked.prog.mapsAmong Tryz.f5.resultTypes.toList)) =true:=by kernel_rfl
theorem p16 : ((Rows.linkTrimsRow.loops== (Tryz.f5.params.toList++Rows.linkTrimsSpec.plain.varTypes Tryz.pinned.checked.prog).any (Tryz.pinned.checked.prog.loopsFrom ·))) =true:=by kernel_rfl
theorem p17 : ((Rows.linkTrimsRow.wideKeys== (Tryz.f5.params.toList++Rows.linkTrimsSpec.plain.varTypes Tryz.pinned.checked.prog++Tryz.f5.resultTypes.toList).any (Tryz.pinned.checked.prog.wideKeysFrom ·))) =true:=by kernel_rfl
theorem p18 : (Rows.linkTrimsSpec.vars.all (Tryz.pinned.checked.prog.varReadable ·)) =true:=by kernel_rfl
theorem p19 : (Tryz.f5.resultTypes.all (fun t=>Tryz.pinned.checked.prog.readableRec t&&decide (t<Tryz.pinned.checked.prog.types.size))) =true:=by kernel_rfl
theorem p20 : ((Rows.linkTrimsRow.ifacesOut==Tryz.f5.resultTypes.toList.any (Tryz.pinned.checked.prog.ifacesRec ·))) =true:=by kernel_rfl
theorem p21 : ((Rows.linkTrimsRow.loopsOut==Tryz.f5.resultTypes.toList.any (Tryz.pinned.checked.prog.loopsFrom ·))) =true:=by kernel_rfl
theorem p22 : ((Rows.linkTrimsRow.plainKeys==Tryz.pinned.checked.prog.plainKeys)) =true:=by kernel_rfl
theorem p23 : (Rows.linkTrimsRow.shortTexts.isNone) =true:=by kernel_rfl
theorem p24 : (Tryz.pinned.checked.prog.stopsHeard) =true:=by kernel_rfl
theorem p25 : (Tryz.pinned.checked.prog.mayEnter) =true:=by kernel_rfl
theorem p26 : ((Rows.linkTrimsRow.lifted==Tryz.pinned.checked.prog.liftsFinal)) =true:=by kernel_rfl
theorem p27 : ((Tryz.pinned.checked.prog.make==some Rows.linkTrimsRow.make)) =true:=by kernel_rfl
theorem p28 : ((Rows.linkTrimsRow.kinds== (if Rows.linkTrimsRow.domain.isEmpty then []else Tryz.f5.params.toList.map fun t=>match Tryz.pinned.checked.prog.underlying t with|some (.int k) =>some k|_=>none))) =true:=by kernel_rfl
theorem p29 : ((Rows.linkTrimsRow.pinned==Rows.linkTrimsRow.pinnedBy)) =true:=by kernel_rfl
theorem p30 : ((Rows.linkTrimsRow.veiled== (Tryz.f5.params.toList++Rows.linkTrimsSpec.plain.varTypes Tryz.pinned.checked.prog++Tryz.f5.resultTypes.toList).any (Tryz.pinned.checked.prog.veiledRec ·))) =true:=by kernel_rfl
theorem p31 : (Rows.linkTrimsRow.veiledFits Tryz.pinned.checked.prog Tryz.f5.params.toList (Tryz.f5.params.toList++Rows.linkTrimsSpec.plain.varTypes Tryz.pinned.checked.prog++Tryz.f5.resultTypes.toList)) =true:=by kernel_rfl
theorem joined (P:Program)(f:FuncId)(fn:Func)(s:ChangeSpec)(c:OpenClaim)(h0: (c.wf (OpenSpec.ofChange s)) =true)(h1: (laidOutB P) =true)(h2: (mapsRowed P) =true)(h3: (fn.params.all (P.readableRec ·)) =true)(h4: (namedTie P c.named s.vars) =true)(h5: ((c.stops== [])) =true)(h6: ((P.stops== [])) =true)(h7: ((c.knobs== [])) =true)(h8: ((P.stopKnobs== [])) =true)(h9: ((c.inPlace==P.inPlace f)) =true)(h10: ((c.unfollowed==P.unfollowed f)) =true)(h11: ((c.recurses==P.recurses f)) =true)(h12: ((c.named==P.varsNamed f)) =true)(h13: ((c.maps== (fn.params.toList++s.plain.varTypes P).any (P.mapsRec ·))) =true)(h14: ((c.ifaces== (fn.params.toList++s.plain.varTypes P).any (P.ifacesRec ·))) =true)(h15: ((c.mapsOut==P.mapsAmong fn.resultTypes.toList)) =true)(h16: ((c.loops== (fn.params.toList++s.plain.varTypes P).any (P.loopsFrom ·))) =true)(h17: ((c.wideKeys== (fn.params.toList++s.plain.varTypes P++fn.resultTypes.toList).any (P.wideKeysFrom ·))) =true)(h18: (s.vars.all (P.varReadable ·)) =true)(h19: (fn.resultTypes.all (fun t=>P.readableRec t&&decide (t<P.types.size))) =true)(h20: ((c.ifacesOut==fn.resultTypes.toList.any (P.ifacesRec ·))) =true)(h21: ((c.loopsOut==fn.resultTypes.toList.any (P.loopsFrom ·))) =true)(h22: ((c.plainKeys==P.plainKeys)) =true)(h23: (c.shortTexts.isNone) =true)(h24: (P.stopsHeard) =true)(h25: (P.mayEnter) =true)(h26: ((c.lifted==P.liftsFinal)) =true)(h27: ((P.make==some c.make)) =true)(h28: ((c.kinds== (if c.domain.isEmpty then []else fn.params.toList.map fun t=>match P.underlying t with|some (.int k) =>some k|_=>none))) =true)(h29: ((c.pinned==c.pinnedBy)) =true)(h30: ((c.veiled== (fn.params.toList++s.plain.varTypes P++fn.resultTypes.toList).any (P.veiledRec ·))) =true)(h31: (c.veiledFits P fn.params.toList (fn.params.toList++s.plain.varTypes P++fn.resultTypes.toList)) =true) :joinedFacts P f fn s c=true:=by
  simp only [joinedFacts,Bool.and_eq_true]
  (repeat' refine And.intro ?_ ?_) <;>assumption
theorem facts :joinedFacts Tryz.pinned.checked.prog 5 Tryz.f5 Rows.linkTrimsSpec Rows.linkTrimsRow=true:=
  joined _ _ _ _ _ p0 p1 p2 p3 p4 p5 p6 p7 p8 p9 p10 p11 p12 p13 p14 p15 p16 p17 p18 p19 p20 p21 p22 p23 p24 p25 p26 p27 p28 p29 p30 p31
end Go.Proofs.YtlgoblkihmkmcaaGreat.linkTrims
