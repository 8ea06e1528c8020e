/-
  OWN WORK, WRITTEN BY A PROGRAM: the closed run of known(), in pieces; whatever the order of the map's keys; it returns true.
-/
import Derived.Test.YtogkjcpighphfaaGreatHR0
import Derived.Test.YtogkjcpighphfaaGreatHR1
import Derived.Test.YtogkjcpighphfaaGreatHR2
import Derived.Test.YtogkjcpighphfaaGreatHR3
import Derived.Test.YtogkjcpighphfaaGreatHR4
import Derived.Test.YtogkjcpighphfaaGreatHR5
import Derived.Test.YtogkjcpighphfaaGreatHR6
import Derived.Test.YtogkjcpighphfaaGreatHR7
import Derived.Test.YtogkjcpighphfaaGreatHR8
import Derived.Test.YtogkjcpighphfaaGreatHR9
import Derived.Test.YtogkjcpighphfaaGreatHR10x0
import Derived.Test.YtogkjcpighphfaaGreatHR10x1
import Derived.Test.YtogkjcpighphfaaGreatHR11
import Derived.Test.YtogkjcpighphfaaGreatHR12
import Derived.Test.YtogkjcpighphfaaGreatHR13
import Derived.Test.YtogkjcpighphfaaGreatHG0
namespace Go.Hb
open Go.Proofs
namespace Kn
theorem sound : SoundCall Tryz.prog orc := by unfold orc; exact oracle_sound _ _
theorem br10 : branches st10 = some [st10x0a, st10x1a] := by kernel_rfl
theorem lead10 : Leads Tryz.prog st10 st11 := leads_branches br10 (fun x hx => by
  rcases List.mem_cons.1 hx with rfl | hx
  · exact leads_fpiece sound run10x0
  · rcases List.mem_cons.1 hx with rfl | hx
    · exact (leads_fpiece sound run10x1).trans (leads_older (b := 3273) (o2 := [3271]) (by kernel_rfl))
    · cases hx)
theorem leads : Leads Tryz.prog st0 st14 :=
  (leads_fpiece sound run0).trans
  ((leads_fpiece sound run1).trans
  ((leads_fpiece sound run2).trans
  ((leads_fpiece sound run3).trans
  ((leads_fpiece sound run4).trans
  ((leads_fpiece sound run5).trans
  ((leads_fpiece sound run6).trans
  ((leads_fpiece sound run7).trans
  ((leads_fpiece sound run8).trans
  ((leads_fpiece sound run9).trans
  ((lead10).trans
  ((leads_fpiece sound run11).trans
  ((leads_fpiece sound run12).trans
  ((leads_fpiece sound run13))))))))))))))
theorem first : (start Tryz.prog 9 []).as = st0 := by kernel_rfl
theorem last : (final Tryz.prog st14).map Prod.fst = some (.bool true) := by kernel_rfl
end Kn
theorem known_pure : Pure Tryz.prog 9 [] (.bool true) := by
  cases e : final Tryz.prog Kn.st14 with
  | none => have := Kn.last; rw [e] at this; cases this
  | some r =>
    obtain ⟨v, h⟩ := r
    have hv : v = .bool true := by have := Kn.last; rw [e] at this; exact Option.some.inj this
    subst hv
    have hb : hasBody Tryz.prog 9 = true := by kernel_rfl
    refine pure_at hb rfl rfl ?_
    rw [Kn.first]
    exact ends_closed Kn.leads e
end Go.Hb
