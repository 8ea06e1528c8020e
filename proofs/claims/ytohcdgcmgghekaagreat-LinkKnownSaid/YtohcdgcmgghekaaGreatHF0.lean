/-
  OWN WORK, WRITTEN BY A PROGRAM: closed facts of the row 'linkKnown', all of them, each in a declaration of its own (together they outgrow the kernel's memory).
-/
import Derived.Test.YtohcdgcmgghekaaGreatRows
import Derived.WalkKit
import Derived.ProofKit
import Derived.OpenShut
import Derived.KernelRfl
import Derived.Test.YtohcdgcmgghekaaGreatHF1
import Derived.Test.YtohcdgcmgghekaaGreatHF2
import Derived.Test.YtohcdgcmgghekaaGreatHF3
import Derived.Test.YtohcdgcmgghekaaGreatHF4
namespace Go.Proofs.YtohcdgcmgghekaaGreat.linkKnown
open Go.ChangeShapes Go.WideShapes Go.ChangeAt Go.RowKit
theorem closed0 : (Rows.linkKnownRow.wf (OpenSpec.ofChange Rows.linkKnownSpec)) = true := by kernel_rfl
theorem closed3 : (Tryz.f5.params.all (Tryz.prog.readableRec ·)) = true := by kernel_rfl
theorem closed4 : (namedTie Tryz.prog Rows.linkKnownRow.named Rows.linkKnownSpec.vars) = true := by kernel_rfl
theorem closed5 : ((Rows.linkKnownRow.stops == [])) = true := by kernel_rfl
theorem closed6 : ((Tryz.prog.stops == [])) = true := by kernel_rfl
theorem closed7 : ((Rows.linkKnownRow.knobs == [])) = true := by kernel_rfl
theorem closed8 : ((Tryz.prog.stopKnobs == [])) = true := by kernel_rfl
theorem closed13 : ((Rows.linkKnownRow.maps == (Tryz.f5.params.toList ++ Rows.linkKnownSpec.plain.varTypes Tryz.prog).any (Tryz.prog.mapsRec ·))) = true := by kernel_rfl
theorem closed14 : ((Rows.linkKnownRow.ifaces == (Tryz.f5.params.toList ++ Rows.linkKnownSpec.plain.varTypes Tryz.prog).any (Tryz.prog.ifacesRec ·))) = true := by kernel_rfl
theorem closed15 : ((Rows.linkKnownRow.mapsOut == Tryz.prog.mapsAmong Tryz.f5.resultTypes.toList)) = true := by kernel_rfl
theorem closed16 : ((Rows.linkKnownRow.loops == (Tryz.f5.params.toList ++ Rows.linkKnownSpec.plain.varTypes Tryz.prog).any (Tryz.prog.loopsFrom ·))) = true := by kernel_rfl
theorem closed17 : ((Rows.linkKnownRow.wideKeys == (Tryz.f5.params.toList ++ Rows.linkKnownSpec.plain.varTypes Tryz.prog ++ Tryz.f5.resultTypes.toList).any (Tryz.prog.wideKeysFrom ·))) = true := by kernel_rfl
theorem closed18 : (Rows.linkKnownSpec.vars.all (Tryz.prog.varReadable ·)) = true := by kernel_rfl
theorem closed19 : (Tryz.f5.resultTypes.all (fun t => Tryz.prog.readableRec t && decide (t < Tryz.prog.types.size))) = true := by kernel_rfl
theorem closed20 : ((Rows.linkKnownRow.ifacesOut == Tryz.f5.resultTypes.toList.any (Tryz.prog.ifacesRec ·))) = true := by kernel_rfl
theorem closed21 : ((Rows.linkKnownRow.loopsOut == Tryz.f5.resultTypes.toList.any (Tryz.prog.loopsFrom ·))) = true := by kernel_rfl
theorem closed23 : (Rows.linkKnownRow.shortTexts.isNone) = true := by kernel_rfl
theorem closed28 : ((Rows.linkKnownRow.kinds == (if Rows.linkKnownRow.domain.isEmpty then [] else Tryz.f5.params.toList.map fun t => match Tryz.prog.underlying t with | some (.int k) => some k | _ => none))) = true := by kernel_rfl
theorem closed29 : ((Rows.linkKnownRow.pinned == Rows.linkKnownRow.pinnedBy)) = true := by kernel_rfl
theorem closed30 : ((Rows.linkKnownRow.veiled == (Tryz.f5.params.toList ++ Rows.linkKnownSpec.plain.varTypes Tryz.prog ++ Tryz.f5.resultTypes.toList).any (Tryz.prog.veiledRec ·))) = true := by kernel_rfl
theorem closed31 : (Rows.linkKnownRow.veiledFits Tryz.prog Tryz.f5.params.toList (Tryz.f5.params.toList ++ Rows.linkKnownSpec.plain.varTypes Tryz.prog ++ Tryz.f5.resultTypes.toList)) = true := by kernel_rfl
theorem andMk {a b : Bool} (ha : a = true) (hb : b = true) : (a && b) = true := by rw [ha, hb]; rfl
set_option maxRecDepth 100000 in
theorem closed : joinedFacts Tryz.prog 5 Tryz.f5 Rows.linkKnownSpec Rows.linkKnownRow = true := (andMk (andMk (andMk (andMk (andMk (andMk (andMk (andMk (andMk (andMk (andMk (andMk (andMk (andMk (andMk (andMk (andMk (andMk (andMk (andMk (andMk (andMk (andMk (andMk (andMk (andMk (andMk (andMk (andMk (andMk (andMk closed0 closed1) closed2) closed3) closed4) closed5) closed6) closed7) closed8) closed9) closed10) closed11) closed12) closed13) closed14) closed15) closed16) closed17) closed18) closed19) closed20) closed21) closed22) closed23) closed24) closed25) closed26) closed27) closed28) closed29) closed30) closed31)
theorem named : Tryz.prog.funcNamed Rows.linkKnownRow.func = some 5 := by kernel_rfl
theorem instd : Func.isInstance Tryz.prog Tryz.f5 Rows.linkKnownRow.origin Rows.linkKnownRow.targs := of_decide_eq_true (by kernel_rfl)
theorem wrapd : Func.isWrapper Tryz.prog Tryz.f5 Rows.linkKnownRow.wrapper Rows.linkKnownRow.mainSum := by unfold Func.isWrapper; first | (rw [if_pos (by decide +kernel)]; kernel_rfl) | (rw [if_neg (by decide +kernel)]; exact ⟨rfl, rfl⟩)
end Go.Proofs.YtohcdgcmgghekaaGreat.linkKnown
