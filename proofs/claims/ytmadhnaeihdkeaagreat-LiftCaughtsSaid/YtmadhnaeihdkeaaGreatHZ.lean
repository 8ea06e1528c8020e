/- A machine on abstract values, its soundness, ways, plain laws. -/
import Derived.Test.YtmadhnaeihdkeaaGreatHR0
import Derived.Test.YtmadhnaeihdkeaaGreatHR1
import Derived.Test.YtmadhnaeihdkeaaGreatHR2
import Derived.Test.YtmadhnaeihdkeaaGreatHR3
import Derived.Test.YtmadhnaeihdkeaaGreatHR4
import Derived.Test.YtmadhnaeihdkeaaGreatHR5
import Derived.Test.YtmadhnaeihdkeaaGreatHR6
import Derived.Test.YtmadhnaeihdkeaaGreatHR7
import Derived.Test.YtmadhnaeihdkeaaGreatHR8
import Derived.Test.YtmadhnaeihdkeaaGreatHR9
import Derived.Test.YtmadhnaeihdkeaaGreatHR10
import Derived.Test.YtmadhnaeihdkeaaGreatHR11
import Derived.Test.YtmadhnaeihdkeaaGreatHR12
import Derived.Test.YtmadhnaeihdkeaaGreatHR13
import Derived.Test.YtmadhnaeihdkeaaGreatHR14
import Derived.Test.YtmadhnaeihdkeaaGreatHR15
import Derived.Test.YtmadhnaeihdkeaaGreatHR16
import Derived.Test.YtmadhnaeihdkeaaGreatHR17
import Derived.Test.YtmadhnaeihdkeaaGreatHR18
import Derived.Test.YtmadhnaeihdkeaaGreatHR19
import Derived.Test.YtmadhnaeihdkeaaGreatHR20
import Derived.Test.YtmadhnaeihdkeaaGreatHR21
import Derived.Test.YtmadhnaeihdkeaaGreatHR22
import Derived.Test.YtmadhnaeihdkeaaGreatHR23
import Derived.Test.YtmadhnaeihdkeaaGreatHR24
import Derived.Test.YtmadhnaeihdkeaaGreatHR25
import Derived.Test.YtmadhnaeihdkeaaGreatHR26
import Derived.Test.YtmadhnaeihdkeaaGreatHR27
import Derived.Test.YtmadhnaeihdkeaaGreatHR28
import Derived.Test.YtmadhnaeihdkeaaGreatHR29
import Derived.Test.YtmadhnaeihdkeaaGreatHR30
import Derived.Test.YtmadhnaeihdkeaaGreatHR31
import Derived.Test.YtmadhnaeihdkeaaGreatHR32
import Derived.Test.YtmadhnaeihdkeaaGreatHR33
import Derived.Test.YtmadhnaeihdkeaaGreatHR34
import Derived.Test.YtmadhnaeihdkeaaGreatHRb0
import Derived.Test.YtmadhnaeihdkeaaGreatHRb1
import Derived.Test.YtmadhnaeihdkeaaGreatHRb2
import Derived.Test.YtmadhnaeihdkeaaGreatHRb3
import Derived.Test.YtmadhnaeihdkeaaGreatHRb4
import Derived.Test.YtmadhnaeihdkeaaGreatHI
namespace Go.Hb
open Go.Proofs
noncomputable section
namespace Kn
set_option maxRecDepth 100000
theorem sound :dD PP oY:=by unfold oY;exact qO _ _
theorem leads :Leads PP st0.as st35.as:=
 (aC sound aZS).trans
 ((aC sound aZT).trans
 ((aC sound aZU).trans
 ((aC sound aZV).trans
 ((aC sound aZW).trans
 ((aC sound aZX).trans
 ((aC sound aZY).trans
 ((aC sound aZZ).trans
 ((aC sound aZ0).trans
 ((aC sound aZ1).trans
 ((aC sound aYf).trans
 ((aC sound aYg).trans
 ((aC sound aYh).trans
 ((aC sound aYi).trans
 ((aC sound aYj).trans
 ((aC sound aYk).trans
 ((aC sound aYl).trans
 ((aC sound aYm).trans
 ((aC sound aYn).trans
 ((aC sound aYo).trans
 ((aC sound aYp).trans
 ((aC sound aYq).trans
 ((aC sound aYr).trans
 ((aC sound aYs).trans
 ((aC sound aYt).trans
 ((aC sound aYu).trans
 ((aC sound aYv).trans
 ((aC sound aYw).trans
 ((aC sound aYx).trans
 ((aC sound aYy).trans
 ((aC sound aYz).trans
 ((aC sound aYA).trans
 ((aC sound aYB).trans
 ((aC sound aYC).trans
 ((aC sound aYD)))))))))))))))))))))))))))))))))))
theorem aXf :Leads PP stb0.as stb5.as:=
 (aC sound aYE).trans
 ((aC sound aYF).trans
 ((aC sound aYG).trans
 ((aC sound aYH).trans
 ((aC sound aYI)))))
def lA :List (Nat×AObj×Bool) :=rK st35.hp
def lb :List (Nat×AObj×Bool) :=rK stb5.hp
def vb :AV:= (.agg [(.slice 686 0 10 10 4 false),(.slice 667 0 2 2 1 false),(.int .i64 (.ofNat 0)),.nils])
theorem spb :kY PP 0 (.enter 27 [(.str 91 690150971139404576522807848736581535868179460168848770986481303665922994381109416771955239375581631022138330086518625539247845064277050635780253781196056450901730777879876784439376046653767391914179134343705553558335341)]) (aA [] 0) (.ret vb) (aA lb 690) :=
 aGV (g:=stb0.as.fr) (fr:=stb5.as.fr) (h:=stb5.as.h) (b:=stb5.hp) (by kernel_rfl) (Eq.mp (by kernel_rfl) aXf) (by kernel_rfl) (by kernel_rfl) (by kernel_rfl) (by kernel_rfl)
def eB :List (Nat×AObj×Bool) := (6962,(cl [(.int .i64 (.ofNat 1))]),false) ::lA
theorem p1 :Spec PP (.enter 28 [(.slice 6962 0 1 1 1 true)]) (aA eB 6965) (.ret (.slice 6962 0 1 1 1 true)) (aA eB 6965) :=iZ (n:=100000000) (d:=29) (k:=0) (by kernel_rfl) (by decide)
theorem p2 :Spec PP (.enter 17 [(.slice 927 0 1 1 1 false),(.slice 6962 0 1 1 1 true)]) (aA eB 6965) (.ret (.bool true)) (aA eB 6965) :=iZ (n:=100000000) (d:=29) (k:=0) (by kernel_rfl) (by decide)
def lb3 :List (Nat×AObj×Bool) :=eB++aVV (hR 0 6965 []) lb
theorem p3 :Spec PP (.enter 27 [(.str 91 690150971139404576522807848736581535868179460168848770986481303665922994381109416771955239375581631022138330086518625539247845064277050635780253781196056450901730777879876784439376046653767391914179134343705553558335341)]) (aA eB 6965) (.ret (.agg [(.slice 7651 0 10 10 4 false),(.slice 7632 0 2 2 1 false),(.int .i64 (.ofNat 0)),.nils])) (aA lb3 7655) :=aJp spb (by kernel_rfl) (by kernel_rfl) (by kernel_rfl)
theorem p4 :Spec PP (.enter 18 [(.agg [(.slice 2082 0 10 10 4 false),(.slice 2086 0 2 2 1 false),(.int .i64 (.ofNat 0)),.nils]),(.agg [(.slice 7651 0 10 10 4 false),(.slice 7632 0 2 2 1 false),(.int .i64 (.ofNat 0)),.nils])]) (aA lb3 7655) (.ret (.bool true)) (aA eB 7677) :=iZ (n:=100000000) (d:=29) (k:=0) (by kernel_rfl) (by decide)
def cR :List (Nat×AObj×Bool) := (6963,(cl [(.int .i64 (.ofNat 0))]),false) ::eB
theorem p5 :Spec PP (.enter 28 [(.slice 6963 0 1 1 1 true)]) (aA cR 7677) (.ret (.slice 6963 0 1 1 1 true)) (aA cR 7677) :=iZ (n:=100000000) (d:=29) (k:=0) (by kernel_rfl) (by decide)
theorem p6 :Spec PP (.enter 17 [(.slice 2994 0 1 1 1 false),(.slice 6963 0 1 1 1 true)]) (aA cR 7677) (.ret (.bool true)) (aA cR 7677) :=iZ (n:=100000000) (d:=29) (k:=0) (by kernel_rfl) (by decide)
def aP :List (Nat×AObj×Bool) := (6964,(cl [(.int .i64 (.ofNat 0))]),false) ::cR
theorem p7 :Spec PP (.enter 28 [(.slice 6964 0 1 1 1 true)]) (aA aP 7677) (.ret (.slice 6964 0 1 1 1 true)) (aA aP 7677) :=iZ (n:=100000000) (d:=29) (k:=0) (by kernel_rfl) (by decide)
theorem p8 :Spec PP (.enter 17 [(.slice 3925 0 1 1 1 false),(.slice 6964 0 1 1 1 true)]) (aA aP 7677) (.ret (.bool true)) (aA aP 7677) :=iZ (n:=100000000) (d:=29) (k:=0) (by kernel_rfl) (by decide)
theorem p9 :Spec PP (.enter 18 [(.agg [(.slice 5079 0 14 14 4 false),(.slice 5085 0 2 2 1 false),(.int .i64 (.ofNat 0)),(.slice 5013 0 1 1 2 false)]),(.agg [(.slice 6955 0 14 14 4 false),(.slice 6899 0 2 2 1 false),(.int .i64 (.ofNat 0)),(.slice 6771 0 1 1 2 false)])]) (aA aP 7677) (.ret (.bool true)) (aA aP 7713) :=iZ (n:=100000000) (d:=29) (k:=0) (by kernel_rfl) (by decide)
theorem leadsA :Leads PP st0.as ⟨st35.as.fr,[],aA lA 6962⟩ :=leads.trans (Eq.mp (by kernel_rfl) (aA7 (P:=PP) (fr:=st35.as.fr) (cs:=[]) (h:=st35.as.h) (c:=st35.hp) (nb:=6962) (by kernel_rfl) (by kernel_rfl) (by kernel_rfl)))
theorem lastX : (wH PP [.reg [.d,.d,.call (.slice 6962 0 1 1 1 true) (aA eB 6965),.call (.bool true) (aA eB 6965),.d,.d,.d,.d,.d,.d,.call (.agg [(.slice 7651 0 10 10 4 false),(.slice 7632 0 2 2 1 false),(.int .i64 (.ofNat 0)),.nils]) (aA lb3 7655),.call (.bool true) (aA eB 7677),.d,.d,.d,.d,.d,.d,.d,.d,.d,.d,.d,.d,.d,.d,.d,.d,.d,.d,.d,.call (.slice 6963 0 1 1 1 true) (aA cR 7677),.call (.bool true) (aA cR 7677),.d,.d,.d,.d,.call (.slice 6964 0 1 1 1 true) (aA aP 7677),.call (.bool true) (aA aP 7677),.d,.d,.d,.d,.call (.bool true) (aA aP 7713),.d,.d,.d,.d,.d,.d],.run 1] ⟨st35.as.fr,[],aA lA 6962⟩).map (fun x=> ((vS PP x.1).map Prod.fst,x.2)) =some (some (.bool true),[Spec PP (.enter 28 [(.slice 6962 0 1 1 1 true)]) (aA eB 6965) (.ret (.slice 6962 0 1 1 1 true)) (aA eB 6965),Spec PP (.enter 17 [(.slice 927 0 1 1 1 false),(.slice 6962 0 1 1 1 true)]) (aA eB 6965) (.ret (.bool true)) (aA eB 6965),Spec PP (.enter 27 [(.str 91 690150971139404576522807848736581535868179460168848770986481303665922994381109416771955239375581631022138330086518625539247845064277050635780253781196056450901730777879876784439376046653767391914179134343705553558335341)]) (aA eB 6965) (.ret (.agg [(.slice 7651 0 10 10 4 false),(.slice 7632 0 2 2 1 false),(.int .i64 (.ofNat 0)),.nils])) (aA lb3 7655),Spec PP (.enter 18 [(.agg [(.slice 2082 0 10 10 4 false),(.slice 2086 0 2 2 1 false),(.int .i64 (.ofNat 0)),.nils]),(.agg [(.slice 7651 0 10 10 4 false),(.slice 7632 0 2 2 1 false),(.int .i64 (.ofNat 0)),.nils])]) (aA lb3 7655) (.ret (.bool true)) (aA eB 7677),Spec PP (.enter 28 [(.slice 6963 0 1 1 1 true)]) (aA cR 7677) (.ret (.slice 6963 0 1 1 1 true)) (aA cR 7677),Spec PP (.enter 17 [(.slice 2994 0 1 1 1 false),(.slice 6963 0 1 1 1 true)]) (aA cR 7677) (.ret (.bool true)) (aA cR 7677),Spec PP (.enter 28 [(.slice 6964 0 1 1 1 true)]) (aA aP 7677) (.ret (.slice 6964 0 1 1 1 true)) (aA aP 7677),Spec PP (.enter 17 [(.slice 3925 0 1 1 1 false),(.slice 6964 0 1 1 1 true)]) (aA aP 7677) (.ret (.bool true)) (aA aP 7677),Spec PP (.enter 18 [(.agg [(.slice 5079 0 14 14 4 false),(.slice 5085 0 2 2 1 false),(.int .i64 (.ofNat 0)),(.slice 5013 0 1 1 2 false)]),(.agg [(.slice 6955 0 14 14 4 false),(.slice 6899 0 2 2 1 false),(.int .i64 (.ofNat 0)),(.slice 6771 0 1 1 2 false)])]) (aA aP 7677) (.ret (.bool true)) (aA aP 7713),((.slice 2994 0 1 1 1 false) :AV) = (.slice 2994 0 1 1 1 false),((.slice 2994 0 1 1 1 false) :AV) = (.slice 2994 0 1 1 1 false),((.agg [(.slice 2082 0 10 10 4 false),(.slice 2086 0 2 2 1 false),(.int .i64 (.ofNat 0)),.nils]) :AV) = (.agg [(.slice 2082 0 10 10 4 false),(.slice 2086 0 2 2 1 false),(.int .i64 (.ofNat 0)),.nils]),((.agg [(.slice 2082 0 10 10 4 false),(.slice 2086 0 2 2 1 false),(.int .i64 (.ofNat 0)),.nils]) :AV) = (.agg [(.slice 2082 0 10 10 4 false),(.slice 2086 0 2 2 1 false),(.int .i64 (.ofNat 0)),.nils])]) :=by kernel_rfl
theorem first : (start PP 9 []).as=st0.as:=by kernel_rfl
end Kn
theorem known_pure :aK PP 9 [] (.bool true) :=by
 have hb:qZ PP 9=true:=by kernel_rfl
 refine aH hb rfl rfl ?_;rw [Kn.first];exact aGW Kn.leadsA Kn.lastX ⟨Kn.p1,Kn.p2,Kn.p3,Kn.p4,Kn.p5,Kn.p6,Kn.p7,Kn.p8,Kn.p9,rfl,rfl,rfl,rfl⟩
end
end Go.Hb
