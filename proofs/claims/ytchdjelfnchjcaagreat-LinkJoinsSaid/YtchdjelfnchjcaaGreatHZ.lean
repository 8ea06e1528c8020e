/- A machine on abstract values, its soundness, ways, plain laws. -/
import Derived.Test.YtchdjelfnchjcaaGreatHR0
import Derived.Test.YtchdjelfnchjcaaGreatHR1
import Derived.Test.YtchdjelfnchjcaaGreatHR2
import Derived.Test.YtchdjelfnchjcaaGreatHR3
import Derived.Test.YtchdjelfnchjcaaGreatHR4
import Derived.Test.YtchdjelfnchjcaaGreatHR5
import Derived.Test.YtchdjelfnchjcaaGreatHR6
import Derived.Test.YtchdjelfnchjcaaGreatHR7
import Derived.Test.YtchdjelfnchjcaaGreatHR8
import Derived.Test.YtchdjelfnchjcaaGreatHR9
import Derived.Test.YtchdjelfnchjcaaGreatHR10
import Derived.Test.YtchdjelfnchjcaaGreatHR11
import Derived.Test.YtchdjelfnchjcaaGreatHR12
import Derived.Test.YtchdjelfnchjcaaGreatHR13
import Derived.Test.YtchdjelfnchjcaaGreatHR14
import Derived.Test.YtchdjelfnchjcaaGreatHR15
import Derived.Test.YtchdjelfnchjcaaGreatHR16
import Derived.Test.YtchdjelfnchjcaaGreatHR17
import Derived.Test.YtchdjelfnchjcaaGreatHR18
import Derived.Test.YtchdjelfnchjcaaGreatHR19
import Derived.Test.YtchdjelfnchjcaaGreatHR20
import Derived.Test.YtchdjelfnchjcaaGreatHR21
import Derived.Test.YtchdjelfnchjcaaGreatHR22
import Derived.Test.YtchdjelfnchjcaaGreatHR23
import Derived.Test.YtchdjelfnchjcaaGreatHR24
import Derived.Test.YtchdjelfnchjcaaGreatHR25
import Derived.Test.YtchdjelfnchjcaaGreatHR26
import Derived.Test.YtchdjelfnchjcaaGreatHR27
import Derived.Test.YtchdjelfnchjcaaGreatHR28
import Derived.Test.YtchdjelfnchjcaaGreatHR29
import Derived.Test.YtchdjelfnchjcaaGreatHR30
import Derived.Test.YtchdjelfnchjcaaGreatHR31
import Derived.Test.YtchdjelfnchjcaaGreatHR32
import Derived.Test.YtchdjelfnchjcaaGreatHR33
import Derived.Test.YtchdjelfnchjcaaGreatHR34
import Derived.Test.YtchdjelfnchjcaaGreatHR35
import Derived.Test.YtchdjelfnchjcaaGreatHR36
import Derived.Test.YtchdjelfnchjcaaGreatHF
namespace Go.Hb
open Go.Proofs
noncomputable section
namespace Kn
theorem sound :dM PP qK:=by unfold qK;exact xT _ _
theorem leads :Leads PP st0.as st37.as:=
 (aJ sound bAR).trans
 ((aJ sound bAS).trans
 ((aJ sound bAT).trans
 ((aJ sound bAU).trans
 ((aJ sound bAV).trans
 ((aJ sound bAW).trans
 ((aJ sound bAX).trans
 ((aJ sound bAY).trans
 ((aJ sound bAZ).trans
 ((aJ sound bA0).trans
 ((aJ sound aZB).trans
 ((aJ sound aZC).trans
 ((aJ sound aZD).trans
 ((aJ sound aZE).trans
 ((aJ sound aZF).trans
 ((aJ sound aZG).trans
 ((aJ sound aZH).trans
 ((aJ sound aZI).trans
 ((aJ sound aZJ).trans
 ((aJ sound aZK).trans
 ((aJ sound aZL).trans
 ((aJ sound aZM).trans
 ((aJ sound aZN).trans
 ((aJ sound aZO).trans
 ((aJ sound aZP).trans
 ((aJ sound aZQ).trans
 ((aJ sound aZR).trans
 ((aJ sound aZS).trans
 ((aJ sound aZT).trans
 ((aJ sound aZU).trans
 ((aJ sound aZV).trans
 ((aJ sound aZW).trans
 ((aJ sound aZX).trans
 ((aJ sound aZY).trans
 ((aJ sound aZZ).trans
 ((aJ sound aZ0).trans
 ((aJ sound aZ1)))))))))))))))))))))))))))))))))))))
theorem first : (start PP 4 []).as=st0.as:=by kernel_rfl
theorem last : (aAo PP st37.as).map Prod.fst=some (.bool true) :=by kernel_rfl
end Kn
theorem known_pure :Pure PP 4 [] (.bool true) :=by
 cases e:aAo PP Kn.st37.as with
 |none=>have:=Kn.last;rw [e]at this;cases this
 | some r=>
  obtain⟨v,h⟩ :=r;have hv:v= .bool true:=by have:=Kn.last;rw [e]at this;exact Option.some.inj this
  subst hv;have hb:gJ PP 4=true:=by kernel_rfl
  refine bC hb rfl rfl ?_;rw [Kn.first];exact aF0 Kn.leads e
end
end Go.Hb
