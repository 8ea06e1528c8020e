/- A machine on abstract values, its soundness, ways, plain laws. -/
import Derived.Test.YtabmpnmmkeieiaaGreatHR0
import Derived.Test.YtabmpnmmkeieiaaGreatHR1
import Derived.Test.YtabmpnmmkeieiaaGreatHR2
import Derived.Test.YtabmpnmmkeieiaaGreatHR3
import Derived.Test.YtabmpnmmkeieiaaGreatHR4
import Derived.Test.YtabmpnmmkeieiaaGreatHR5
import Derived.Test.YtabmpnmmkeieiaaGreatHR6
import Derived.Test.YtabmpnmmkeieiaaGreatHR7
import Derived.Test.YtabmpnmmkeieiaaGreatHR8
import Derived.Test.YtabmpnmmkeieiaaGreatHR9
import Derived.Test.YtabmpnmmkeieiaaGreatHR10
import Derived.Test.YtabmpnmmkeieiaaGreatHR11
import Derived.Test.YtabmpnmmkeieiaaGreatHR12
import Derived.Test.YtabmpnmmkeieiaaGreatHR13
import Derived.Test.YtabmpnmmkeieiaaGreatHR14x0
import Derived.Test.YtabmpnmmkeieiaaGreatHR14x1
import Derived.Test.YtabmpnmmkeieiaaGreatHR15
import Derived.Test.YtabmpnmmkeieiaaGreatHR16
import Derived.Test.YtabmpnmmkeieiaaGreatHR17
import Derived.Test.YtabmpnmmkeieiaaGreatHF
namespace Go.Hb
open Go.Proofs
noncomputable section
namespace Kn
theorem sound :eQ PP orc:=by unfold orc;exact aAz _ _
theorem bIg : (vU st14.as).map (fun l=>aFE l [aH9,aIa]) =some ([aH9,aIa].map LS.as) :=by kernel_rfl
theorem bGk :Leads PP st14.as st15.as:=aCK bIg (fun x hx=>by
 rcases List.mem_cons.1 hx with rfl|hx
 ·exact bO sound bDr
 · rcases List.mem_cons.1 hx with rfl|hx
   ·exact(bO sound bDs).trans (aG0 (b:=3273) (o2:=[3271]) (t:=st15) (by kernel_rfl))
   ·cases hx)
theorem leads :Leads PP st0.as st18.as:=
 (bO sound bH3).trans
 ((bO sound bH4).trans
 ((bO sound bH5).trans
 ((bO sound bH6).trans
 ((bO sound bH7).trans
 ((bO sound bH8).trans
 ((bO sound bH9).trans
 ((bO sound bIa).trans
 ((bO sound bIb).trans
 ((bO sound bIc).trans
 ((bO sound bHr).trans
 ((bO sound bHs).trans
 ((bO sound bHt).trans
 ((bO sound bHu).trans
 ((bGk).trans
 ((bO sound bHv).trans
 ((bO sound bHw).trans
 ((bO sound bHx))))))))))))))))))
theorem first : (start PP 9 []).as=st0.as:=by kernel_rfl
theorem last : (aB3 PP st18.as).map Prod.fst=some (.bool true) :=by kernel_rfl
end Kn
theorem known_pure :Pure PP 9 [] (.bool true) :=by
 cases e:aB3 PP Kn.st18.as with
 |none=>have:=Kn.last;rw [e]at this;cases this
 | some r=>
  obtain⟨v,h⟩ :=r;have hv:v= .bool true:=by have:=Kn.last;rw [e]at this;exact Option.some.inj this
  subst hv;have hb:nA PP 9=true:=by kernel_rfl
  refine bC hb rfl rfl ?_;rw [Kn.first];exact aIO Kn.leads e
end
end Go.Hb
