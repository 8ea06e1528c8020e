/-
  OWN WORK, WRITTEN BY A PROGRAM: the closed run of known(), in pieces; whatever the order of the map's keys; it returns true.
-/
import Derived.Test.YtabmpnmmkeieiaaGreatHR0
import Derived.Test.YtabmpnmmkeieiaaGreatHR1
import Derived.Test.YtabmpnmmkeieiaaGreatHR2
import Derived.Test.YtabmpnmmkeieiaaGreatHR3
import Derived.Test.YtabmpnmmkeieiaaGreatHR4
import Derived.Test.YtabmpnmmkeieiaaGreatHR5
import Derived.Test.YtabmpnmmkeieiaaGreatHR6
import Derived.Test.YtabmpnmmkeieiaaGreatHR7
import Derived.Test.YtabmpnmmkeieiaaGreatHR8
import Derived.Test.YtabmpnmmkeieiaaGreatHR9
import Derived.Test.YtabmpnmmkeieiaaGreatHR10
import Derived.Test.YtabmpnmmkeieiaaGreatHR11
import Derived.Test.YtabmpnmmkeieiaaGreatHR12
import Derived.Test.YtabmpnmmkeieiaaGreatHR13
import Derived.Test.YtabmpnmmkeieiaaGreatHR14x0
import Derived.Test.YtabmpnmmkeieiaaGreatHR14x1
import Derived.Test.YtabmpnmmkeieiaaGreatHR15
import Derived.Test.YtabmpnmmkeieiaaGreatHR16
import Derived.Test.YtabmpnmmkeieiaaGreatHR17
import Derived.Test.YtabmpnmmkeieiaaGreatHF
namespace Go.Hb
open Go.Proofs
namespace Kn
theorem sound :eQ PP orc:=by unfold orc;exact aAF _ _
theorem bJf : (wE st14.as).map (fun l=>aFE l [aIv,aIw]) =some ([aIv,aIw].map LS.as) :=by kernel_rfl
theorem bHt :Leads PP st14.as st15.as:=aCB bJf (fun x hx=>by
 rcases List.mem_cons.1 hx with rfl|hx
 ·exact bP sound bEz
 · rcases List.mem_cons.1 hx with rfl|hx
   ·exact(bP sound bEA).trans (aHd (b:=3273) (o2:=[3271]) (t:=st15) (by kernel_rfl))
   ·cases hx)
theorem leads :Leads PP st0.as st18.as:=
 (bP sound bI2).trans
 ((bP sound bI3).trans
 ((bP sound bI4).trans
 ((bP sound bI5).trans
 ((bP sound bI6).trans
 ((bP sound bI7).trans
 ((bP sound bI8).trans
 ((bP sound bI9).trans
 ((bP sound bJa).trans
 ((bP sound bJb).trans
 ((bP sound bIt).trans
 ((bP sound bIu).trans
 ((bP sound bIv).trans
 ((bP sound bIw).trans
 ((bHt).trans
 ((bP sound bIx).trans
 ((bP sound bIy).trans
 ((bP sound bIz))))))))))))))))))
theorem first : (start PP 9 []).as=st0.as:=by kernel_rfl
theorem last : (aBS PP st18.as).map Prod.fst=some (.bool true) :=by kernel_rfl
end Kn
theorem known_pure :Pure PP 9 [] (.bool true) :=by
 cases e:aBS PP Kn.st18.as with
 |none=>have:=Kn.last;rw [e]at this;cases this
 | some r=>
  obtain⟨v,h⟩ :=r;have hv:v= .bool true:=by have:=Kn.last;rw [e]at this;exact Option.some.inj this
  subst hv;have hb:mJ PP 9=true:=by kernel_rfl
  refine aM hb rfl rfl ?_;rw [Kn.first];exact aJd Kn.leads e
end Go.Hb
