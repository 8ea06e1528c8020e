/- A machine on abstract values, its soundness, ways, plain laws. -/
import Derived.Test.YtnljmgihoioocaaGreatHR0
import Derived.Test.YtnljmgihoioocaaGreatHR1
import Derived.Test.YtnljmgihoioocaaGreatHR2
import Derived.Test.YtnljmgihoioocaaGreatHR3
import Derived.Test.YtnljmgihoioocaaGreatHR4
import Derived.Test.YtnljmgihoioocaaGreatHR5
import Derived.Test.YtnljmgihoioocaaGreatHR6
import Derived.Test.YtnljmgihoioocaaGreatHR7
import Derived.Test.YtnljmgihoioocaaGreatHR8
import Derived.Test.YtnljmgihoioocaaGreatHR9
import Derived.Test.YtnljmgihoioocaaGreatHR10
import Derived.Test.YtnljmgihoioocaaGreatHR11
import Derived.Test.YtnljmgihoioocaaGreatHR12
import Derived.Test.YtnljmgihoioocaaGreatHRb0
import Derived.Test.YtnljmgihoioocaaGreatHRb1
import Derived.Test.YtnljmgihoioocaaGreatHRb2
import Derived.Test.YtnljmgihoioocaaGreatHRb3
import Derived.Test.YtnljmgihoioocaaGreatHRb4
import Derived.Test.YtnljmgihoioocaaGreatHRc0
import Derived.Test.YtnljmgihoioocaaGreatHRc1
import Derived.Test.YtnljmgihoioocaaGreatHRc2
import Derived.Test.YtnljmgihoioocaaGreatHRc3
import Derived.Test.YtnljmgihoioocaaGreatHRc4
import Derived.Test.YtnljmgihoioocaaGreatHRc5
import Derived.Test.YtnljmgihoioocaaGreatHRc6
import Derived.Test.YtnljmgihoioocaaGreatHI
namespace Go.Hb
open Go.Proofs
noncomputable section
namespace Kn
set_option maxRecDepth 100000
theorem sound :eP PP orc:=by unfold orc;exact uQ _ _
theorem leads :Leads PP st0.as st13.as:=
 (aR sound bJv).trans
 ((aR sound bJw).trans
 ((aR sound bJx).trans
 ((aR sound bJy).trans
 ((aR sound bJz).trans
 ((aR sound bJA).trans
 ((aR sound bJB).trans
 ((aR sound bJC).trans
 ((aR sound bJD).trans
 ((aR sound bJE).trans
 ((aR sound bIC).trans
 ((aR sound bID).trans
 ((aR sound bIE)))))))))))))
theorem bHo :Leads PP stb0.as stb5.as:=
 (aR sound bIF).trans
 ((aR sound bIG).trans
 ((aR sound bIH).trans
 ((aR sound bII).trans
 ((aR sound bIJ)))))
theorem bHp :Leads PP stc0.as stc7.as:=
 (aR sound bIK).trans
 ((aR sound bIL).trans
 ((aR sound bIM).trans
 ((aR sound bIN).trans
 ((aR sound bIO).trans
 ((aR sound bIP).trans
 ((aR sound bIQ)))))))
def lA :List (Nat×AObj×Bool) :=sO st13.hp
def lb :List (Nat×AObj×Bool) :=sO stb5.hp
def vb :AV:= (.agg [(.slice 737 0 12 12 4 false),(.slice 656 0 2 2 1 false),(.int .i64 (.ofNat 1)),.nils])
theorem spb :gI PP 0 (.enter 32 [(.str 26 80550273582331194995415315750222377728706925209339842790712684)]) (aA [] 0) (.ret vb) (aA lb 745) :=
 aCe (g:=stb0.as.fr) (fr:=stb5.as.fr) (h:=stb5.as.h) (hp:=stb5.hp) (by kernel_rfl) (Eq.mp (by kernel_rfl) bHo) (by kernel_rfl) (by kernel_rfl) (by kernel_rfl) (by kernel_rfl)
def lc :List (Nat×AObj×Bool) :=sO stc7.hp
def vc :AV:= (.agg [(.slice 915 0 16 16 4 false),(.slice 800 0 2 2 1 false),(.int .i64 (.ofNat 1)),.nils])
theorem spc :gI PP 0 (.enter 32 [(.str 50 999871947015150140810573476387779026233630590148510152550748425646091070678184519560636311773742347190992663566846551404)]) (aA [] 0) (.ret vc) (aA lc 925) :=
 aCe (g:=stc0.as.fr) (fr:=stc7.as.fr) (h:=stc7.as.h) (hp:=stc7.hp) (by kernel_rfl) (Eq.mp (by kernel_rfl) bHp) (by kernel_rfl) (by kernel_rfl) (by kernel_rfl) (by kernel_rfl)
def lc1 :List (Nat×AObj×Bool) :=lA++aYb (kL 0 4455 []) lc
theorem p1 :Spec PP (.enter 32 [(.str 50 999871947015150140810573476387779026233630590148510152550748425646091070678184519560636311773742347190992663566846551404)]) (aA lA 4455) (.ret (.agg [(.slice 5370 0 16 16 4 false),(.slice 5255 0 2 2 1 false),(.int .i64 (.ofNat 1)),.nils])) (aA lc1 5380) :=aEi spc (by kernel_rfl) (by kernel_rfl) (by kernel_rfl)
theorem p2 :Spec PP (.enter 16 [(.agg [(.slice 1275 0 16 16 4 false),(.slice 1285 0 2 2 1 false),(.int .i64 (.ofNat 1)),.nils]),(.agg [(.slice 5370 0 16 16 4 false),(.slice 5255 0 2 2 1 false),(.int .i64 (.ofNat 1)),.nils])]) (aA lc1 5380) (.ret (.bool true)) (aA lA 5414) :=aAb (n:=100000000) (d:=29) (k:=0) (by kernel_rfl) (by decide)
def hP :List (Nat×AObj×Bool) := (4454,(cl [(.int .i64 (.ofNat 1)),(.int .i64 (.ofNat 2))]),false) ::lA
theorem p3 :Spec PP (.enter 33 [(.slice 4454 0 2 2 1 true)]) (aA hP 5414) (.ret (.slice 4454 0 2 2 1 true)) (aA hP 5414) :=aAb (n:=100000000) (d:=29) (k:=0) (by kernel_rfl) (by decide)
theorem p4 :Spec PP (.enter 21 [(.slice 1600 0 2 2 1 false),(.slice 4454 0 2 2 1 true)]) (aA hP 5414) (.ret (.bool true)) (aA hP 5414) :=aAb (n:=100000000) (d:=29) (k:=0) (by kernel_rfl) (by decide)
def lb5 :List (Nat×AObj×Bool) :=hP++aYb (kL 0 5414 []) lb
theorem p5 :Spec PP (.enter 32 [(.str 26 80550273582331194995415315750222377728706925209339842790712684)]) (aA hP 5414) (.ret (.agg [(.slice 6151 0 12 12 4 false),(.slice 6070 0 2 2 1 false),(.int .i64 (.ofNat 1)),.nils])) (aA lb5 6159) :=aEi spb (by kernel_rfl) (by kernel_rfl) (by kernel_rfl)
theorem p6 :Spec PP (.enter 16 [(.agg [(.slice 2016 0 12 12 4 false),(.slice 2024 0 2 2 1 false),(.int .i64 (.ofNat 1)),.nils]),(.agg [(.slice 6151 0 12 12 4 false),(.slice 6070 0 2 2 1 false),(.int .i64 (.ofNat 1)),.nils])]) (aA lb5 6159) (.ret (.bool true)) (aA hP 6185) :=aAb (n:=100000000) (d:=29) (k:=0) (by kernel_rfl) (by decide)
theorem leadsA :Leads PP st0.as ⟨st13.as.fr,[],aA lA 4454⟩ :=leads.trans (Eq.mp (by kernel_rfl) (aEh (P:=PP) (fr:=st13.as.fr) (cs:=[]) (h:=st13.as.h) (hp:=st13.hp) (nb:=4454) (by kernel_rfl) (by kernel_rfl) (by kernel_rfl)))
theorem lastX : (rO PP [.reg [.d,.d,.d,.d,.d,.d,.d,.d,.d,.d,.d,.d,.d,.d,.d,.d,.d,.d,.d,.d,.d,.d,.d,.d,.d,.d,.d,.d,.d,.d,.d,.call (.agg [(.slice 5370 0 16 16 4 false),(.slice 5255 0 2 2 1 false),(.int .i64 (.ofNat 1)),.nils]) (aA lc1 5380),.call (.bool true) (aA lA 5414),.d,.d,.d,.d,.call (.slice 4454 0 2 2 1 true) (aA hP 5414),.call (.bool true) (aA hP 5414),.d,.d,.d,.call (.agg [(.slice 6151 0 12 12 4 false),(.slice 6070 0 2 2 1 false),(.int .i64 (.ofNat 1)),.nils]) (aA lb5 6159),.call (.bool true) (aA hP 6185),.d,.d,.d,.d,.d,.d,.d,.d],.run 1] ⟨st13.as.fr,[],aA lA 4454⟩).map (fun x=> ((xC PP x.1).map Prod.fst,x.2)) =some (some (.bool true),[Spec PP (.enter 32 [(.str 50 999871947015150140810573476387779026233630590148510152550748425646091070678184519560636311773742347190992663566846551404)]) (aA lA 4455) (.ret (.agg [(.slice 5370 0 16 16 4 false),(.slice 5255 0 2 2 1 false),(.int .i64 (.ofNat 1)),.nils])) (aA lc1 5380),Spec PP (.enter 16 [(.agg [(.slice 1275 0 16 16 4 false),(.slice 1285 0 2 2 1 false),(.int .i64 (.ofNat 1)),.nils]),(.agg [(.slice 5370 0 16 16 4 false),(.slice 5255 0 2 2 1 false),(.int .i64 (.ofNat 1)),.nils])]) (aA lc1 5380) (.ret (.bool true)) (aA lA 5414),Spec PP (.enter 33 [(.slice 4454 0 2 2 1 true)]) (aA hP 5414) (.ret (.slice 4454 0 2 2 1 true)) (aA hP 5414),Spec PP (.enter 21 [(.slice 1600 0 2 2 1 false),(.slice 4454 0 2 2 1 true)]) (aA hP 5414) (.ret (.bool true)) (aA hP 5414),Spec PP (.enter 32 [(.str 26 80550273582331194995415315750222377728706925209339842790712684)]) (aA hP 5414) (.ret (.agg [(.slice 6151 0 12 12 4 false),(.slice 6070 0 2 2 1 false),(.int .i64 (.ofNat 1)),.nils])) (aA lb5 6159),Spec PP (.enter 16 [(.agg [(.slice 2016 0 12 12 4 false),(.slice 2024 0 2 2 1 false),(.int .i64 (.ofNat 1)),.nils]),(.agg [(.slice 6151 0 12 12 4 false),(.slice 6070 0 2 2 1 false),(.int .i64 (.ofNat 1)),.nils])]) (aA lb5 6159) (.ret (.bool true)) (aA hP 6185),((.agg [(.slice 2016 0 12 12 4 false),(.slice 2024 0 2 2 1 false),(.int .i64 (.ofNat 1)),.nils]) :AV) = (.agg [(.slice 2016 0 12 12 4 false),(.slice 2024 0 2 2 1 false),(.int .i64 (.ofNat 1)),.nils]),((.agg [(.slice 2016 0 12 12 4 false),(.slice 2024 0 2 2 1 false),(.int .i64 (.ofNat 1)),.nils]) :AV) = (.agg [(.slice 2016 0 12 12 4 false),(.slice 2024 0 2 2 1 false),(.int .i64 (.ofNat 1)),.nils]),((.agg [(.slice 1275 0 16 16 4 false),(.slice 1285 0 2 2 1 false),(.int .i64 (.ofNat 1)),.nils]) :AV) = (.agg [(.slice 1275 0 16 16 4 false),(.slice 1285 0 2 2 1 false),(.int .i64 (.ofNat 1)),.nils]),((.agg [(.slice 1275 0 16 16 4 false),(.slice 1285 0 2 2 1 false),(.int .i64 (.ofNat 1)),.nils]) :AV) = (.agg [(.slice 1275 0 16 16 4 false),(.slice 1285 0 2 2 1 false),(.int .i64 (.ofNat 1)),.nils])]) :=by kernel_rfl
theorem first : (start PP 11 []).as=st0.as:=by kernel_rfl
end Kn
theorem known_pure :aJ PP 11 [] (.bool true) :=by
 have hb:vC PP 11=true:=by kernel_rfl
 refine aO hb rfl rfl ?_;rw [Kn.first];exact aLa Kn.leadsA Kn.lastX ⟨Kn.p1,Kn.p2,Kn.p3,Kn.p4,Kn.p5,Kn.p6,rfl,rfl,rfl,rfl⟩
end
end Go.Hb
