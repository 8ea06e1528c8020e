/- A machine on abstract values, its soundness, ways, plain laws. -/
import Derived.Test.YtnljmgihoioocaaGreatHR0
import Derived.Test.YtnljmgihoioocaaGreatHR1
import Derived.Test.YtnljmgihoioocaaGreatHR2
import Derived.Test.YtnljmgihoioocaaGreatHR3
import Derived.Test.YtnljmgihoioocaaGreatHR4
import Derived.Test.YtnljmgihoioocaaGreatHR5
import Derived.Test.YtnljmgihoioocaaGreatHR6
import Derived.Test.YtnljmgihoioocaaGreatHR7
import Derived.Test.YtnljmgihoioocaaGreatHR8
import Derived.Test.YtnljmgihoioocaaGreatHR9
import Derived.Test.YtnljmgihoioocaaGreatHR10
import Derived.Test.YtnljmgihoioocaaGreatHR11
import Derived.Test.YtnljmgihoioocaaGreatHR12
import Derived.Test.YtnljmgihoioocaaGreatHRb0
import Derived.Test.YtnljmgihoioocaaGreatHRb1
import Derived.Test.YtnljmgihoioocaaGreatHRb2
import Derived.Test.YtnljmgihoioocaaGreatHRb3
import Derived.Test.YtnljmgihoioocaaGreatHRb4
import Derived.Test.YtnljmgihoioocaaGreatHRc0
import Derived.Test.YtnljmgihoioocaaGreatHRc1
import Derived.Test.YtnljmgihoioocaaGreatHRc2
import Derived.Test.YtnljmgihoioocaaGreatHRc3
import Derived.Test.YtnljmgihoioocaaGreatHRc4
import Derived.Test.YtnljmgihoioocaaGreatHRc5
import Derived.Test.YtnljmgihoioocaaGreatHRc6
import Derived.Test.YtnljmgihoioocaaGreatHI
namespace Go.Hb
open Go.Proofs
noncomputable section
namespace Kn
set_option maxRecDepth 100000
theorem sound :eF PP orc:=by unfold orc;exact uE _ _
theorem leads :Leads PP st0.as st13.as:=
 (aR sound bJm).trans
 ((aR sound bJn).trans
 ((aR sound bJo).trans
 ((aR sound bJp).trans
 ((aR sound bJq).trans
 ((aR sound bJr).trans
 ((aR sound bJs).trans
 ((aR sound bJt).trans
 ((aR sound bJu).trans
 ((aR sound bJv).trans
 ((aR sound bIs).trans
 ((aR sound bIt).trans
 ((aR sound bIu)))))))))))))
theorem bHf :Leads PP stb0.as stb5.as:=
 (aR sound bIv).trans
 ((aR sound bIw).trans
 ((aR sound bIx).trans
 ((aR sound bIy).trans
 ((aR sound bIz)))))
theorem bHg :Leads PP stc0.as stc7.as:=
 (aR sound bIA).trans
 ((aR sound bIB).trans
 ((aR sound bIC).trans
 ((aR sound bID).trans
 ((aR sound bIE).trans
 ((aR sound bIF).trans
 ((aR sound bIG)))))))
def lA :List (Nat×AObj×Bool) :=sD st13.hp
def lb :List (Nat×AObj×Bool) :=sD stb5.hp
def vb :AV:= (.agg [(.slice 737 0 12 12 4 false),(.slice 656 0 2 2 1 false),(.int .i64 (.ofNat 1)),.nils])
theorem spb :eS PP 0 (.enter 32 [(.str 26 80550273582331194995415315750222377728706925209339842790712684)]) (aA [] 0) (.ret vb) (aA lb 745) :=
 aB1 (g:=stb0.as.fr) (fr:=stb5.as.fr) (h:=stb5.as.h) (hp:=stb5.hp) (by kernel_rfl) (Eq.mp (by kernel_rfl) bHf) (by kernel_rfl) (by kernel_rfl) (by kernel_rfl) (by kernel_rfl)
def lc :List (Nat×AObj×Bool) :=sD stc7.hp
def vc :AV:= (.agg [(.slice 915 0 16 16 4 false),(.slice 800 0 2 2 1 false),(.int .i64 (.ofNat 1)),.nils])
theorem spc :eS PP 0 (.enter 32 [(.str 50 999871947015150140810573476387779026233630590148510152550748425646091070678184519560636311773742347190992663566846551404)]) (aA [] 0) (.ret vc) (aA lc 925) :=
 aB1 (g:=stc0.as.fr) (fr:=stc7.as.fr) (h:=stc7.as.h) (hp:=stc7.hp) (by kernel_rfl) (Eq.mp (by kernel_rfl) bHg) (by kernel_rfl) (by kernel_rfl) (by kernel_rfl) (by kernel_rfl)
def lc1 :List (Nat×AObj×Bool) :=lA++aXy (kC 0 4455 []) lc
theorem p1 :Spec PP (.enter 32 [(.str 50 999871947015150140810573476387779026233630590148510152550748425646091070678184519560636311773742347190992663566846551404)]) (aA lA 4455) (.ret (.agg [(.slice 5370 0 16 16 4 false),(.slice 5255 0 2 2 1 false),(.int .i64 (.ofNat 1)),.nils])) (aA lc1 5380) :=aDN spc (by kernel_rfl) (by kernel_rfl) (by kernel_rfl)
theorem p2 :Spec PP (.enter 16 [(.agg [(.slice 1275 0 16 16 4 false),(.slice 1285 0 2 2 1 false),(.int .i64 (.ofNat 1)),.nils]),(.agg [(.slice 5370 0 16 16 4 false),(.slice 5255 0 2 2 1 false),(.int .i64 (.ofNat 1)),.nils])]) (aA lc1 5380) (.ret (.bool true)) (aA lA 5414) :=zM (n:=100000000) (d:=29) (k:=0) (by kernel_rfl) (by decide)
def gP :List (Nat×AObj×Bool) := (4454,(cl [(.int .i64 (.ofNat 1)),(.int .i64 (.ofNat 2))]),false) ::lA
theorem p3 :Spec PP (.enter 33 [(.slice 4454 0 2 2 1 true)]) (aA gP 5414) (.ret (.slice 4454 0 2 2 1 true)) (aA gP 5414) :=zM (n:=100000000) (d:=29) (k:=0) (by kernel_rfl) (by decide)
theorem p4 :Spec PP (.enter 21 [(.slice 1600 0 2 2 1 false),(.slice 4454 0 2 2 1 true)]) (aA gP 5414) (.ret (.bool true)) (aA gP 5414) :=zM (n:=100000000) (d:=29) (k:=0) (by kernel_rfl) (by decide)
def lb5 :List (Nat×AObj×Bool) :=gP++aXy (kC 0 5414 []) lb
theorem p5 :Spec PP (.enter 32 [(.str 26 80550273582331194995415315750222377728706925209339842790712684)]) (aA gP 5414) (.ret (.agg [(.slice 6151 0 12 12 4 false),(.slice 6070 0 2 2 1 false),(.int .i64 (.ofNat 1)),.nils])) (aA lb5 6159) :=aDN spb (by kernel_rfl) (by kernel_rfl) (by kernel_rfl)
theorem p6 :Spec PP (.enter 16 [(.agg [(.slice 2016 0 12 12 4 false),(.slice 2024 0 2 2 1 false),(.int .i64 (.ofNat 1)),.nils]),(.agg [(.slice 6151 0 12 12 4 false),(.slice 6070 0 2 2 1 false),(.int .i64 (.ofNat 1)),.nils])]) (aA lb5 6159) (.ret (.bool true)) (aA gP 6185) :=zM (n:=100000000) (d:=29) (k:=0) (by kernel_rfl) (by decide)
theorem leadsA :Leads PP st0.as ⟨st13.as.fr,[],aA lA 4454⟩ :=leads.trans (Eq.mp (by kernel_rfl) (aDM (P:=PP) (fr:=st13.as.fr) (cs:=[]) (h:=st13.as.h) (hp:=st13.hp) (nb:=4454) (by kernel_rfl) (by kernel_rfl) (by kernel_rfl)))
theorem lastX : (rD PP [.reg [.d,.d,.d,.d,.d,.d,.d,.d,.d,.d,.d,.d,.d,.d,.d,.d,.d,.d,.d,.d,.d,.d,.d,.d,.d,.d,.d,.d,.d,.d,.d,.call (.agg [(.slice 5370 0 16 16 4 false),(.slice 5255 0 2 2 1 false),(.int .i64 (.ofNat 1)),.nils]) (aA lc1 5380),.call (.bool true) (aA lA 5414),.d,.d,.d,.d,.call (.slice 4454 0 2 2 1 true) (aA gP 5414),.call (.bool true) (aA gP 5414),.d,.d,.d,.call (.agg [(.slice 6151 0 12 12 4 false),(.slice 6070 0 2 2 1 false),(.int .i64 (.ofNat 1)),.nils]) (aA lb5 6159),.call (.bool true) (aA gP 6185),.d,.d,.d,.d,.d,.d,.d,.d],.run 1] ⟨st13.as.fr,[],aA lA 4454⟩).map (fun x=> ((wE PP x.1).map Prod.fst,x.2)) =some (some (.bool true),[Spec PP (.enter 32 [(.str 50 999871947015150140810573476387779026233630590148510152550748425646091070678184519560636311773742347190992663566846551404)]) (aA lA 4455) (.ret (.agg [(.slice 5370 0 16 16 4 false),(.slice 5255 0 2 2 1 false),(.int .i64 (.ofNat 1)),.nils])) (aA lc1 5380),Spec PP (.enter 16 [(.agg [(.slice 1275 0 16 16 4 false),(.slice 1285 0 2 2 1 false),(.int .i64 (.ofNat 1)),.nils]),(.agg [(.slice 5370 0 16 16 4 false),(.slice 5255 0 2 2 1 false),(.int .i64 (.ofNat 1)),.nils])]) (aA lc1 5380) (.ret (.bool true)) (aA lA 5414),Spec PP (.enter 33 [(.slice 4454 0 2 2 1 true)]) (aA gP 5414) (.ret (.slice 4454 0 2 2 1 true)) (aA gP 5414),Spec PP (.enter 21 [(.slice 1600 0 2 2 1 false),(.slice 4454 0 2 2 1 true)]) (aA gP 5414) (.ret (.bool true)) (aA gP 5414),Spec PP (.enter 32 [(.str 26 80550273582331194995415315750222377728706925209339842790712684)]) (aA gP 5414) (.ret (.agg [(.slice 6151 0 12 12 4 false),(.slice 6070 0 2 2 1 false),(.int .i64 (.ofNat 1)),.nils])) (aA lb5 6159),Spec PP (.enter 16 [(.agg [(.slice 2016 0 12 12 4 false),(.slice 2024 0 2 2 1 false),(.int .i64 (.ofNat 1)),.nils]),(.agg [(.slice 6151 0 12 12 4 false),(.slice 6070 0 2 2 1 false),(.int .i64 (.ofNat 1)),.nils])]) (aA lb5 6159) (.ret (.bool true)) (aA gP 6185),((.agg [(.slice 2016 0 12 12 4 false),(.slice 2024 0 2 2 1 false),(.int .i64 (.ofNat 1)),.nils]) :AV) = (.agg [(.slice 2016 0 12 12 4 false),(.slice 2024 0 2 2 1 false),(.int .i64 (.ofNat 1)),.nils]),((.agg [(.slice 2016 0 12 12 4 false),(.slice 2024 0 2 2 1 false),(.int .i64 (.ofNat 1)),.nils]) :AV) = (.agg [(.slice 2016 0 12 12 4 false),(.slice 2024 0 2 2 1 false),(.int .i64 (.ofNat 1)),.nils]),((.agg [(.slice 1275 0 16 16 4 false),(.slice 1285 0 2 2 1 false),(.int .i64 (.ofNat 1)),.nils]) :AV) = (.agg [(.slice 1275 0 16 16 4 false),(.slice 1285 0 2 2 1 false),(.int .i64 (.ofNat 1)),.nils]),((.agg [(.slice 1275 0 16 16 4 false),(.slice 1285 0 2 2 1 false),(.int .i64 (.ofNat 1)),.nils]) :AV) = (.agg [(.slice 1275 0 16 16 4 false),(.slice 1285 0 2 2 1 false),(.int .i64 (.ofNat 1)),.nils])]) :=by kernel_rfl
theorem first : (start PP 11 []).as=st0.as:=by kernel_rfl
end Kn
theorem known_pure :aK PP 11 [] (.bool true) :=by
 have hb:uR PP 11=true:=by kernel_rfl
 refine aG hb rfl rfl ?_;rw [Kn.first];exact aKe Kn.leadsA Kn.lastX ⟨Kn.p1,Kn.p2,Kn.p3,Kn.p4,Kn.p5,Kn.p6,rfl,rfl,rfl,rfl⟩
end
end Go.Hb
