/-
  OWN WORK, WRITTEN BY A PROGRAM: the closed run of known(), in pieces; whatever the order of the map's keys; it returns true.
-/
import Derived.Test.YtabmpnmmkeieiaaGreatHR0
import Derived.Test.YtabmpnmmkeieiaaGreatHR1
import Derived.Test.YtabmpnmmkeieiaaGreatHR2
import Derived.Test.YtabmpnmmkeieiaaGreatHR3
import Derived.Test.YtabmpnmmkeieiaaGreatHR4
import Derived.Test.YtabmpnmmkeieiaaGreatHR5
import Derived.Test.YtabmpnmmkeieiaaGreatHR6
import Derived.Test.YtabmpnmmkeieiaaGreatHR7
import Derived.Test.YtabmpnmmkeieiaaGreatHR8
import Derived.Test.YtabmpnmmkeieiaaGreatHR9
import Derived.Test.YtabmpnmmkeieiaaGreatHR10
import Derived.Test.YtabmpnmmkeieiaaGreatHR11
import Derived.Test.YtabmpnmmkeieiaaGreatHR12
import Derived.Test.YtabmpnmmkeieiaaGreatHR13
import Derived.Test.YtabmpnmmkeieiaaGreatHR14x0
import Derived.Test.YtabmpnmmkeieiaaGreatHR14x1
import Derived.Test.YtabmpnmmkeieiaaGreatHR15
import Derived.Test.YtabmpnmmkeieiaaGreatHR16
import Derived.Test.YtabmpnmmkeieiaaGreatHR17
import Derived.Test.YtabmpnmmkeieiaaGreatHF
namespace Go.Hb
open Go.Proofs
namespace Kn
theorem sound :eW PP orc:=by unfold orc;exact aAC _ _
theorem aYc : (vM st14.as).map (fun l=>aFP l [aIw,aIx]) =some ([aIw,aIx].map LS.as) :=by kernel_rfl
theorem aW3 :Leads PP st14.as st15.as:=aCE aYc (fun x hx=>by
 rcases List.mem_cons.1 hx with rfl|hx
 ·exact bR sound aVU
 · rcases List.mem_cons.1 hx with rfl|hx
   ·exact(bR sound aVV).trans (aHv (b:=3273) (o2:=[3271]) (t:=st15) (by kernel_rfl))
   ·cases hx)
theorem leads :Leads PP st0.as st18.as:=
 (bR sound aXY).trans
 ((bR sound aXZ).trans
 ((bR sound aX0).trans
 ((bR sound aX1).trans
 ((bR sound aX2).trans
 ((bR sound aX3).trans
 ((bR sound aX4).trans
 ((bR sound aX5).trans
 ((bR sound aX6).trans
 ((bR sound aX7).trans
 ((bR sound aXr).trans
 ((bR sound aXs).trans
 ((bR sound aXt).trans
 ((bR sound aXu).trans
 ((aW3).trans
 ((bR sound aXv).trans
 ((bR sound aXw).trans
 ((bR sound aXx))))))))))))))))))
theorem first : (start PP 9 []).as=st0.as:=by kernel_rfl
theorem last : (aBY PP st18.as).map Prod.fst=some (.bool true) :=by kernel_rfl
end Kn
theorem known_pure :aE PP 9 [] (.bool true) :=by
 cases e:aBY PP Kn.st18.as with
 |none=>have:=Kn.last;rw [e]at this;cases this
 | some r=>
  obtain⟨v,h⟩ :=r
  have hv:v= .bool true:=by have:=Kn.last;rw [e]at this;exact Option.some.inj this
  subst hv
  have hb:tD PP 9=true:=by kernel_rfl
  refine bK hb rfl rfl ?_
  rw [Kn.first]
  exact aJl Kn.leads e
end Go.Hb
