/-
  OWN WORK, WRITTEN BY A PROGRAM: the closed run of known(), in pieces; whatever the order of the map's keys; it returns true.
-/
import Derived.Test.YtabmpnmmkeieiaaGreatHR0
import Derived.Test.YtabmpnmmkeieiaaGreatHR1
import Derived.Test.YtabmpnmmkeieiaaGreatHR2
import Derived.Test.YtabmpnmmkeieiaaGreatHR3
import Derived.Test.YtabmpnmmkeieiaaGreatHR4
import Derived.Test.YtabmpnmmkeieiaaGreatHR5
import Derived.Test.YtabmpnmmkeieiaaGreatHR6
import Derived.Test.YtabmpnmmkeieiaaGreatHR7
import Derived.Test.YtabmpnmmkeieiaaGreatHR8
import Derived.Test.YtabmpnmmkeieiaaGreatHR9
import Derived.Test.YtabmpnmmkeieiaaGreatHR10
import Derived.Test.YtabmpnmmkeieiaaGreatHR11
import Derived.Test.YtabmpnmmkeieiaaGreatHR12
import Derived.Test.YtabmpnmmkeieiaaGreatHR13
import Derived.Test.YtabmpnmmkeieiaaGreatHR14x0
import Derived.Test.YtabmpnmmkeieiaaGreatHR14x1
import Derived.Test.YtabmpnmmkeieiaaGreatHR15
import Derived.Test.YtabmpnmmkeieiaaGreatHR16
import Derived.Test.YtabmpnmmkeieiaaGreatHR17
import Derived.Test.YtabmpnmmkeieiaaGreatHF
namespace Go.Hb
open Go.Proofs
namespace Kn
theorem sound :eO PP orc:=by unfold orc;exact zN _ _
theorem bGH : (uO st14.as).map (fun l=>aEr l [aGI,aGJ]) =some ([aGI,aGJ].map LS.as) :=by kernel_rfl
theorem bEK :Leads PP st14.as st15.as:=aBO bGH (fun x hx=>by
 rcases List.mem_cons.1 hx with rfl|hx
 ·exact bJ sound bBO
 · rcases List.mem_cons.1 hx with rfl|hx
   ·exact(bJ sound bBP).trans (aFG (b:=3273) (o2:=[3271]) (t:=st15) (by kernel_rfl))
   ·cases hx)
theorem leads :Leads PP st0.as st18.as:=
 (bJ sound bGu).trans
 ((bJ sound bGv).trans
 ((bJ sound bGw).trans
 ((bJ sound bGx).trans
 ((bJ sound bGy).trans
 ((bJ sound bGz).trans
 ((bJ sound bGA).trans
 ((bJ sound bGB).trans
 ((bJ sound bGC).trans
 ((bJ sound bGD).trans
 ((bJ sound bFS).trans
 ((bJ sound bFT).trans
 ((bJ sound bFU).trans
 ((bJ sound bFV).trans
 ((bEK).trans
 ((bJ sound bFW).trans
 ((bJ sound bFX).trans
 ((bJ sound bFY))))))))))))))))))
theorem first : (start PP 9 []).as=st0.as:=by kernel_rfl
theorem last : (aBc PP st18.as).map Prod.fst=some (.bool true) :=by kernel_rfl
end Kn
theorem known_pure :Pure PP 9 [] (.bool true) :=by
 cases e:aBc PP Kn.st18.as with
 |none=>have:=Kn.last;rw [e]at this;cases this
 | some r=>
  obtain⟨v,h⟩ :=r;have hv:v= .bool true:=by have:=Kn.last;rw [e]at this;exact Option.some.inj this
  subst hv;have hb:lV PP 9=true:=by kernel_rfl
  refine aV hb rfl rfl ?_;rw [Kn.first];exact aHp Kn.leads e
end Go.Hb
