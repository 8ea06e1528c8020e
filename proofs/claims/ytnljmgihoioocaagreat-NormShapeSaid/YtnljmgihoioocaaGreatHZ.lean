/- A machine on abstract values, its soundness, ways, plain laws. -/
import Derived.Test.YtnljmgihoioocaaGreatHR0
import Derived.Test.YtnljmgihoioocaaGreatHR1
import Derived.Test.YtnljmgihoioocaaGreatHR2
import Derived.Test.YtnljmgihoioocaaGreatHR3
import Derived.Test.YtnljmgihoioocaaGreatHR4
import Derived.Test.YtnljmgihoioocaaGreatHR5
import Derived.Test.YtnljmgihoioocaaGreatHR6
import Derived.Test.YtnljmgihoioocaaGreatHR7
import Derived.Test.YtnljmgihoioocaaGreatHR8
import Derived.Test.YtnljmgihoioocaaGreatHR9
import Derived.Test.YtnljmgihoioocaaGreatHR10
import Derived.Test.YtnljmgihoioocaaGreatHR11
import Derived.Test.YtnljmgihoioocaaGreatHR12
import Derived.Test.YtnljmgihoioocaaGreatHRb0
import Derived.Test.YtnljmgihoioocaaGreatHRb1
import Derived.Test.YtnljmgihoioocaaGreatHRb2
import Derived.Test.YtnljmgihoioocaaGreatHRb3
import Derived.Test.YtnljmgihoioocaaGreatHRb4
import Derived.Test.YtnljmgihoioocaaGreatHRc0
import Derived.Test.YtnljmgihoioocaaGreatHRc1
import Derived.Test.YtnljmgihoioocaaGreatHRc2
import Derived.Test.YtnljmgihoioocaaGreatHRc3
import Derived.Test.YtnljmgihoioocaaGreatHRc4
import Derived.Test.YtnljmgihoioocaaGreatHRc5
import Derived.Test.YtnljmgihoioocaaGreatHRc6
import Derived.Test.YtnljmgihoioocaaGreatHI
namespace Go.Hb
open Go.Proofs
noncomputable section
namespace Kn
set_option maxRecDepth 100000
theorem sound :eP PP orc:=by unfold orc;exact uD _ _
theorem leads :Leads PP st0.as st13.as:=
 (aR sound bH1).trans
 ((aR sound bH2).trans
 ((aR sound bH3).trans
 ((aR sound bH4).trans
 ((aR sound bH5).trans
 ((aR sound bH6).trans
 ((aR sound bH7).trans
 ((aR sound bH8).trans
 ((aR sound bH9).trans
 ((aR sound bIa).trans
 ((aR sound bG5).trans
 ((aR sound bG6).trans
 ((aR sound bG7)))))))))))))
theorem bFK :Leads PP stb0.as stb5.as:=
 (aR sound bG8).trans
 ((aR sound bG9).trans
 ((aR sound bHa).trans
 ((aR sound bHb).trans
 ((aR sound bHc)))))
theorem bFL :Leads PP stc0.as stc7.as:=
 (aR sound bHd).trans
 ((aR sound bHe).trans
 ((aR sound bHf).trans
 ((aR sound bHg).trans
 ((aR sound bHh).trans
 ((aR sound bHi).trans
 ((aR sound bHj)))))))
def lA :List (Nat×AObj×Bool) :=sB st13.hp
def lb :List (Nat×AObj×Bool) :=sB stb5.hp
def vb :AV:= (.agg [(.slice 737 0 12 12 4 false),(.slice 656 0 2 2 1 false),(.int .i64 (.ofNat 1)),.nils])
theorem spb :gI PP 0 (.enter 32 [(.str 26 80550273582331194995415315750222377728706925209339842790712684)]) (aA [] 0) (.ret vb) (aA lb 745) :=
 aBY (g:=stb0.as.fr) (fr:=stb5.as.fr) (h:=stb5.as.h) (hp:=stb5.hp) (by kernel_rfl) (Eq.mp (by kernel_rfl) bFK) (by kernel_rfl) (by kernel_rfl) (by kernel_rfl) (by kernel_rfl)
def lc :List (Nat×AObj×Bool) :=sB stc7.hp
def vc :AV:= (.agg [(.slice 915 0 16 16 4 false),(.slice 800 0 2 2 1 false),(.int .i64 (.ofNat 1)),.nils])
theorem spc :gI PP 0 (.enter 32 [(.str 50 999871947015150140810573476387779026233630590148510152550748425646091070678184519560636311773742347190992663566846551404)]) (aA [] 0) (.ret vc) (aA lc 925) :=
 aBY (g:=stc0.as.fr) (fr:=stc7.as.fr) (h:=stc7.as.h) (hp:=stc7.hp) (by kernel_rfl) (Eq.mp (by kernel_rfl) bFL) (by kernel_rfl) (by kernel_rfl) (by kernel_rfl) (by kernel_rfl)
def lc1 :List (Nat×AObj×Bool) :=lA++aXc (kE 0 4455 []) lc
theorem p1 :Spec PP (.enter 32 [(.str 50 999871947015150140810573476387779026233630590148510152550748425646091070678184519560636311773742347190992663566846551404)]) (aA lA 4455) (.ret (.agg [(.slice 5370 0 16 16 4 false),(.slice 5255 0 2 2 1 false),(.int .i64 (.ofNat 1)),.nils])) (aA lc1 5380) :=aDI spc (by kernel_rfl) (by kernel_rfl) (by kernel_rfl)
theorem p2 :Spec PP (.enter 16 [(.agg [(.slice 1275 0 16 16 4 false),(.slice 1285 0 2 2 1 false),(.int .i64 (.ofNat 1)),.nils]),(.agg [(.slice 5370 0 16 16 4 false),(.slice 5255 0 2 2 1 false),(.int .i64 (.ofNat 1)),.nils])]) (aA lc1 5380) (.ret (.bool true)) (aA lA 5414) :=zJ (n:=100000000) (d:=29) (k:=0) (by kernel_rfl) (by decide)
def hO :List (Nat×AObj×Bool) := (4454,(cl [(.int .i64 (.ofNat 1)),(.int .i64 (.ofNat 2))]),false) ::lA
theorem p3 :Spec PP (.enter 33 [(.slice 4454 0 2 2 1 true)]) (aA hO 5414) (.ret (.slice 4454 0 2 2 1 true)) (aA hO 5414) :=zJ (n:=100000000) (d:=29) (k:=0) (by kernel_rfl) (by decide)
theorem p4 :Spec PP (.enter 21 [(.slice 1600 0 2 2 1 false),(.slice 4454 0 2 2 1 true)]) (aA hO 5414) (.ret (.bool true)) (aA hO 5414) :=zJ (n:=100000000) (d:=29) (k:=0) (by kernel_rfl) (by decide)
def lb5 :List (Nat×AObj×Bool) :=hO++aXc (kE 0 5414 []) lb
theorem p5 :Spec PP (.enter 32 [(.str 26 80550273582331194995415315750222377728706925209339842790712684)]) (aA hO 5414) (.ret (.agg [(.slice 6151 0 12 12 4 false),(.slice 6070 0 2 2 1 false),(.int .i64 (.ofNat 1)),.nils])) (aA lb5 6159) :=aDI spb (by kernel_rfl) (by kernel_rfl) (by kernel_rfl)
theorem p6 :Spec PP (.enter 16 [(.agg [(.slice 2016 0 12 12 4 false),(.slice 2024 0 2 2 1 false),(.int .i64 (.ofNat 1)),.nils]),(.agg [(.slice 6151 0 12 12 4 false),(.slice 6070 0 2 2 1 false),(.int .i64 (.ofNat 1)),.nils])]) (aA lb5 6159) (.ret (.bool true)) (aA hO 6185) :=zJ (n:=100000000) (d:=29) (k:=0) (by kernel_rfl) (by decide)
theorem leadsA :Leads PP st0.as ⟨st13.as.fr,[],aA lA 4454⟩ :=leads.trans (Eq.mp (by kernel_rfl) (aDH (P:=PP) (fr:=st13.as.fr) (cs:=[]) (h:=st13.as.h) (hp:=st13.hp) (nb:=4454) (by kernel_rfl) (by kernel_rfl) (by kernel_rfl)))
theorem lastX : (qZ PP [.reg [.d,.d,.d,.d,.d,.d,.d,.d,.d,.d,.d,.d,.d,.d,.d,.d,.d,.d,.d,.d,.d,.d,.d,.d,.d,.d,.d,.d,.d,.d,.d,.call (.agg [(.slice 5370 0 16 16 4 false),(.slice 5255 0 2 2 1 false),(.int .i64 (.ofNat 1)),.nils]) (aA lc1 5380),.call (.bool true) (aA lA 5414),.d,.d,.d,.d,.call (.slice 4454 0 2 2 1 true) (aA hO 5414),.call (.bool true) (aA hO 5414),.d,.d,.d,.call (.agg [(.slice 6151 0 12 12 4 false),(.slice 6070 0 2 2 1 false),(.int .i64 (.ofNat 1)),.nils]) (aA lb5 6159),.call (.bool true) (aA hO 6185),.d,.d,.d,.d,.d,.d,.d,.d],.run 1] ⟨st13.as.fr,[],aA lA 4454⟩).map (fun x=> ((wE PP x.1).map Prod.fst,x.2)) =some (some (.bool true),[Spec PP (.enter 32 [(.str 50 999871947015150140810573476387779026233630590148510152550748425646091070678184519560636311773742347190992663566846551404)]) (aA lA 4455) (.ret (.agg [(.slice 5370 0 16 16 4 false),(.slice 5255 0 2 2 1 false),(.int .i64 (.ofNat 1)),.nils])) (aA lc1 5380),Spec PP (.enter 16 [(.agg [(.slice 1275 0 16 16 4 false),(.slice 1285 0 2 2 1 false),(.int .i64 (.ofNat 1)),.nils]),(.agg [(.slice 5370 0 16 16 4 false),(.slice 5255 0 2 2 1 false),(.int .i64 (.ofNat 1)),.nils])]) (aA lc1 5380) (.ret (.bool true)) (aA lA 5414),Spec PP (.enter 33 [(.slice 4454 0 2 2 1 true)]) (aA hO 5414) (.ret (.slice 4454 0 2 2 1 true)) (aA hO 5414),Spec PP (.enter 21 [(.slice 1600 0 2 2 1 false),(.slice 4454 0 2 2 1 true)]) (aA hO 5414) (.ret (.bool true)) (aA hO 5414),Spec PP (.enter 32 [(.str 26 80550273582331194995415315750222377728706925209339842790712684)]) (aA hO 5414) (.ret (.agg [(.slice 6151 0 12 12 4 false),(.slice 6070 0 2 2 1 false),(.int .i64 (.ofNat 1)),.nils])) (aA lb5 6159),Spec PP (.enter 16 [(.agg [(.slice 2016 0 12 12 4 false),(.slice 2024 0 2 2 1 false),(.int .i64 (.ofNat 1)),.nils]),(.agg [(.slice 6151 0 12 12 4 false),(.slice 6070 0 2 2 1 false),(.int .i64 (.ofNat 1)),.nils])]) (aA lb5 6159) (.ret (.bool true)) (aA hO 6185),((.agg [(.slice 2016 0 12 12 4 false),(.slice 2024 0 2 2 1 false),(.int .i64 (.ofNat 1)),.nils]) :AV) = (.agg [(.slice 2016 0 12 12 4 false),(.slice 2024 0 2 2 1 false),(.int .i64 (.ofNat 1)),.nils]),((.agg [(.slice 2016 0 12 12 4 false),(.slice 2024 0 2 2 1 false),(.int .i64 (.ofNat 1)),.nils]) :AV) = (.agg [(.slice 2016 0 12 12 4 false),(.slice 2024 0 2 2 1 false),(.int .i64 (.ofNat 1)),.nils]),((.agg [(.slice 1275 0 16 16 4 false),(.slice 1285 0 2 2 1 false),(.int .i64 (.ofNat 1)),.nils]) :AV) = (.agg [(.slice 1275 0 16 16 4 false),(.slice 1285 0 2 2 1 false),(.int .i64 (.ofNat 1)),.nils]),((.agg [(.slice 1275 0 16 16 4 false),(.slice 1285 0 2 2 1 false),(.int .i64 (.ofNat 1)),.nils]) :AV) = (.agg [(.slice 1275 0 16 16 4 false),(.slice 1285 0 2 2 1 false),(.int .i64 (.ofNat 1)),.nils])]) :=by kernel_rfl
theorem first : (start PP 11 []).as=st0.as:=by kernel_rfl
end Kn
theorem known_pure :aM PP 11 [] (.bool true) :=by
 have hb:nU PP 11=true:=by kernel_rfl
 refine aJ hb rfl rfl ?_;rw [Kn.first];exact aKj Kn.leadsA Kn.lastX ⟨Kn.p1,Kn.p2,Kn.p3,Kn.p4,Kn.p5,Kn.p6,rfl,rfl,rfl,rfl⟩
end
end Go.Hb
