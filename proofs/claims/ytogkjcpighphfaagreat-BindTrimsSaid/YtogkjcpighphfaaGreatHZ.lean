/-
  OWN WORK, WRITTEN BY A PROGRAM: the closed run of known(), in pieces; whatever the order of the map's keys; it returns true.
-/
import Derived.Test.YtogkjcpighphfaaGreatHR0
import Derived.Test.YtogkjcpighphfaaGreatHR1
import Derived.Test.YtogkjcpighphfaaGreatHR2
import Derived.Test.YtogkjcpighphfaaGreatHR3
import Derived.Test.YtogkjcpighphfaaGreatHR4
import Derived.Test.YtogkjcpighphfaaGreatHR5
import Derived.Test.YtogkjcpighphfaaGreatHR6
import Derived.Test.YtogkjcpighphfaaGreatHR7
import Derived.Test.YtogkjcpighphfaaGreatHR8
import Derived.Test.YtogkjcpighphfaaGreatHR9
import Derived.Test.YtogkjcpighphfaaGreatHR10
import Derived.Test.YtogkjcpighphfaaGreatHR11
import Derived.Test.YtogkjcpighphfaaGreatHR12x0
import Derived.Test.YtogkjcpighphfaaGreatHR12x1
import Derived.Test.YtogkjcpighphfaaGreatHR13
import Derived.Test.YtogkjcpighphfaaGreatHR14
import Derived.Test.YtogkjcpighphfaaGreatHR15
import Derived.Test.YtogkjcpighphfaaGreatHF
namespace Go.Hb
open Go.Proofs
namespace Kn
theorem sound :SoundCall PP orc:=by unfold orc;exact oracle_sound _ _
theorem br12 : (branches st12.as).map (fun l=>keepL l [st12x0a,st12x1a]) =some ([st12x0a,st12x1a].map LS.as) :=by kernel_rfl
theorem lead12 :Leads PP st12.as st13.as:=leads_branchesK br12 (fun x hx=>by
 rcases List.mem_cons.1 hx with rfl|hx
 ·exact leads_lpiece sound run12x0
 · rcases List.mem_cons.1 hx with rfl|hx
   ·exact(leads_lpiece sound run12x1).trans (leads_olderK (b:=3273) (o2:=[3271]) (t:=st13) (by kernel_rfl))
   ·cases hx)
theorem leads :Leads PP st0.as st16.as:=
 (leads_lpiece sound run0).trans
 ((leads_lpiece sound run1).trans
 ((leads_lpiece sound run2).trans
 ((leads_lpiece sound run3).trans
 ((leads_lpiece sound run4).trans
 ((leads_lpiece sound run5).trans
 ((leads_lpiece sound run6).trans
 ((leads_lpiece sound run7).trans
 ((leads_lpiece sound run8).trans
 ((leads_lpiece sound run9).trans
 ((leads_lpiece sound run10).trans
 ((leads_lpiece sound run11).trans
 ((lead12).trans
 ((leads_lpiece sound run13).trans
 ((leads_lpiece sound run14).trans
 ((leads_lpiece sound run15))))))))))))))))
theorem first : (start PP 9 []).as=st0.as:=by kernel_rfl
theorem last : (final PP st16.as).map Prod.fst=some (.bool true) :=by kernel_rfl
end Kn
theorem known_pure :Pure PP 9 [] (.bool true) :=by
 cases e:final PP Kn.st16.as with
 |none=>have:=Kn.last;rw [e]at this;cases this
 | some r=>
  obtain⟨v,h⟩ :=r
  have hv:v= .bool true:=by have:=Kn.last;rw [e]at this;exact Option.some.inj this
  subst hv
  have hb:hasBody PP 9=true:=by kernel_rfl
  refine pure_at hb rfl rfl ?_
  rw [Kn.first]
  exact ends_closed Kn.leads e
end Go.Hb
