/-
  OWN WORK on the shell that proof-skeleton.mjs printed: LinkKnown holds. The law's text takes no argument: the whole run is reckoned by the kernel on the abstract machine, in pieces; its soundness gives the contract of the call.
-/
import Derived.Test.YtohcdgcmgghekaaGreatRows
import Derived.WalkKit
import Derived.ProofKit
import Derived.OpenShut
import Derived.KernelRfl
import Derived.Test.YtohcdgcmgghekaaGreatHD
import Derived.Test.YtohcdgcmgghekaaGreatHF0
import Derived.Test.YtohcdgcmgghekaaGreatHR0
import Derived.Test.YtohcdgcmgghekaaGreatHR1
import Derived.Test.YtohcdgcmgghekaaGreatHR2
import Derived.Test.YtohcdgcmgghekaaGreatHR3
import Derived.Test.YtohcdgcmgghekaaGreatHR4
import Derived.Test.YtohcdgcmgghekaaGreatHR5
import Derived.Test.YtohcdgcmgghekaaGreatHR6
import Derived.Test.YtohcdgcmgghekaaGreatHR7
import Derived.Test.YtohcdgcmgghekaaGreatHR8
import Derived.Test.YtohcdgcmgghekaaGreatHR9
import Derived.Test.YtohcdgcmgghekaaGreatHR10
import Derived.Test.YtohcdgcmgghekaaGreatHR11
import Derived.Test.YtohcdgcmgghekaaGreatHR12
import Derived.Test.YtohcdgcmgghekaaGreatHR13
import Derived.Test.YtohcdgcmgghekaaGreatHR14
import Derived.Test.YtohcdgcmgghekaaGreatHR15
import Derived.Test.YtohcdgcmgghekaaGreatHR16
import Derived.Test.YtohcdgcmgghekaaGreatHR17
import Derived.Test.YtohcdgcmgghekaaGreatHR18
import Derived.Test.YtohcdgcmgghekaaGreatHR19
import Derived.Test.YtohcdgcmgghekaaGreatHR20
import Derived.Test.YtohcdgcmgghekaaGreatHR21
import Derived.Test.YtohcdgcmgghekaaGreatHR22
import Derived.Test.YtohcdgcmgghekaaGreatHR23
import Derived.Test.YtohcdgcmgghekaaGreatHR24
namespace Go.Proofs.YtohcdgcmgghekaaGreat.linkKnown
open Go.ChangeShapes Go.WideShapes Go.ChangeAt Go.RowKit
set_option linter.unusedVariables false      -- a walk need not use every 'w<i>' (that an integer argument fits its kind)

theorem own : ownKnob Tryz.prog.godebug = none := by kernel_rfl

/-! ### STEP 1: THE WALK: the Go text returns true. 'Grown w w'': the world has at most new blocks (Derived/RowKit3.lean). Part the cases AHEAD of 'go_enter' where a test parts the walk; take each callee by a contract of your own. -/
theorem sound : Hb.SoundCall Tryz.prog Hb.orc := by unfold Hb.orc; exact Hb.oracle_sound _ _
theorem leads : Hb.Leads Tryz.prog Hb.st0 Hb.st25 :=
  (Hb.leads_fpiece sound Hb.run0).trans
  ((Hb.leads_fpiece sound Hb.run1).trans
  ((Hb.leads_fpiece sound Hb.run2).trans
  ((Hb.leads_fpiece sound Hb.run3).trans
  ((Hb.leads_fpiece sound Hb.run4).trans
  ((Hb.leads_fpiece sound Hb.run5).trans
  ((Hb.leads_fpiece sound Hb.run6).trans
  ((Hb.leads_fpiece sound Hb.run7).trans
  ((Hb.leads_fpiece sound Hb.run8).trans
  ((Hb.leads_fpiece sound Hb.run9).trans
  ((Hb.leads_fpiece sound Hb.run10).trans
  ((Hb.leads_fpiece sound Hb.run11).trans
  ((Hb.leads_fpiece sound Hb.run12).trans
  ((Hb.leads_fpiece sound Hb.run13).trans
  ((Hb.leads_fpiece sound Hb.run14).trans
  ((Hb.leads_fpiece sound Hb.run15).trans
  ((Hb.leads_fpiece sound Hb.run16).trans
  ((Hb.leads_fpiece sound Hb.run17).trans
  ((Hb.leads_fpiece sound Hb.run18).trans
  ((Hb.leads_fpiece sound Hb.run19).trans
  ((Hb.leads_fpiece sound Hb.run20).trans
  ((Hb.leads_fpiece sound Hb.run21).trans
  ((Hb.leads_fpiece sound Hb.run22).trans
  ((Hb.leads_fpiece sound Hb.run23).trans
  ((Hb.leads_fpiece sound Hb.run24)))))))))))))))))))))))))
theorem enters : Hb.enterFrame Tryz.prog 5 [] .normal = some Hb.st0.fr := by kernel_rfl
theorem begins : (⟨Hb.st0.fr, [], ⟨.leaf, 0⟩⟩ : Hb.AS) = Hb.st0 := by kernel_rfl
theorem walk  (w : World) :
    Calls Tryz.prog 5 #[] w fun e w' => e = .returned (.bool true) ∧ Grown w w' :=
  Hb.calls_of_leads enters (by rw [begins]; exact leads) (by kernel_rfl) (by kernel_rfl) (by kernel_rfl) (by kernel_rfl) (by kernel_rfl) Tryz.func5 (by kernel_rfl) w

/-! ### THE ROW's STEP: WRITTEN OUT: LEAVE IT -/
set_option maxRecDepth 100000 in
theorem lifted (os : Os) (started : os.Started) (H : Type) (enc : TypeId × Value → H) :
    ReturnsInHanded {} Tryz.checked os 5 .any (Rows.linkKnownSpec.pre6 enc Tryz.prog Tryz.f5 Rows.linkKnownRow.domain false) (Rows.linkKnownSpec.post enc Tryz.prog Tryz.f5 false true false false) := by
  refine returnsInHanded_of_change (C := Tryz.checked) own started (by kernel_rfl) Tryz.func5
    (ChangeSpec.witness6 (enc := enc) (C := Tryz.checked) false ⟨#[], #[], []⟩ 8 (by kernel_rfl) (by kernel_rfl) (by kernel_rfl) (by kernel_rfl)) ?_
  intro W base args ds gs before hval0 hW hcnd _
  have hval : ∀ (j : Nat) t v, Tryz.f5.params[j]? = some t → args[j]? = some v → Value.okWide Tryz.prog W .any base t v := hval0
  have hW' := hW
  obtain ⟨p, q, hA0, hV, rfl, hfz, hnd⟩ := hW
  have hA : DataW.TrodAll enc Tryz.prog W 0 (fun _ => true) true Tryz.f5.params.toList args.toList ds p := hA0
  rw [Tryz.params5] at hA hval
  obtain ⟨rfl, rfl, rfl⟩ := trodAll_none hA
  obtain ⟨rfl, rfl⟩ := trodVars_none hV
  clear hA0 hval0
  simp only [List.append_nil] at hW'
  refine (walk  W).mono fun e W' ⟨he, hg⟩ => ?_
  subst he
  exact ⟨_, rfl, post_of_same (pa := []) (pv := []) hW' (fun _ _ _ => (trodAll_cons_mk (shut_bool Tryz.underlying4 _) trodAll_mk0)) (fun sp _ => rfl) (fun _ _ => rfl) rfl
    (hg.frame _) hg.2.1 (ok_one (by kernel_rfl) rfl (okWide_bool_mk Tryz.underlying4 _))⟩

theorem over : Rows.linkKnownRow.holds Tryz.pinned (OpenSpec.ofChange Rows.linkKnownSpec) :=
  OpenClaim.holds_of_wide 5 Tryz.f5 rfl rfl rfl rfl rfl rfl rfl ⟨rfl, rfl, rfl, rfl, rfl⟩ rfl rfl rfl rfl rfl named Tryz.func5 closed instd wrapd
    (fun os started H enc _ => lifted os started H enc)

/-- ████ THE STATEMENT ████ -/
theorem proved : Rows.LinkKnownSaid :=
  over
#print axioms proved
end Go.Proofs.YtohcdgcmgghekaaGreat.linkKnown
