/-
  OWN WORK (V105, V106, H11, V35, V15, V16, H3, H4, V21, H1, H2, V22, H12, V36, V37, V38): a machine on abstract values, its soundness, ways through the text (the ways WRITTEN BY A PROGRAM), plain laws.
-/
import Derived.Test.YtabmpnmmkeieiaaGreatHF
import Derived.Test.YtabmpnmmkeieiaaGreatHG
import Derived.Test.YtabmpnmmkeieiaaGreatHH
set_option linter.defProp false
set_option linter.unusedVariables false
set_option linter.unusedSimpArgs false
set_option linter.unusedSectionVars false
set_option maxRecDepth 100000
namespace Go.Hb
open Go.Proofs
set_option maxHeartbeats 8000000
def aN (n:Int)(s:aC)(m:Int)(a b c:Bool) :Bool:= (a||decide (n=0)) && (b||decide (s= [])) && (c||decide (m=0))
def aK (op n:Int)(s:aC)(k m:Int) :Bool:=
 if op=1 then decide (k=0) &&aN n s m true false false&&bR n (-1000000000) 1000000000
 else if op=2 then decide (k=0) &&aN n s m true false false&&bR n 0 1
 else if op=3∨op=21∨op=25∨op=28 then decide (k=0) &&aN n s m false false false
 else if op=4 then decide (k=0) &&aN n s m false true false&&eT s
 else if op=5∨op=27 then decide (k=1) &&aN n s m false true false&&eT s
 else if op=7 then decide (k=2) &&aN n s m false true false&&eT s
 else if op=8 then decide (k=3) &&aN n s m false false false
 else if op=14 then decide (k≤3) &&aN n s m false true false&&cG s
 else if op=15 then bR m 1 5&&decide (k=1+m) &&aN n s m false false true
 else if op=16∨op=17∨op=19∨op=20∨op=23∨op=26 then decide (k=1) &&aN n s m false false false
 else if op=24 then decide (k=1) &&aN n s m true false false&&bR n 0 3
 else if op=6∨op=9∨op=10∨op=11∨op=12∨op=13∨op=18∨op=22 then decide (k=2) &&aN n s m false false false
 else false
theorem aF {α:Type}(l:List α)(c:Int) : (((List.length l:Nat) :Int) ==c) =decide (((List.length l:Nat) :Int) =c) :=by
 by_cases h: ((List.length l:Nat) :Int) =c<;>simp [h]
theorem bFa (t_op t_n:Int)(t_text:aC)(t_kids:List Term)(t_pats:List Pat)(n x y:Bool) :
  Ends PP 0 (start PP 188 [Term.av (.mk t_op t_n t_text t_kids t_pats),.bool n,.bool x,.bool y]).as (.ret (.bool (aN t_n t_text (List.length t_pats) n x y))) (aG [] 0) :=by
 cases n with
 | true=>
  cases x with
  | true=>
   cases y with
   | true=>
    exact Ends.eqv (aU3 t_op t_n t_text t_kids t_pats true true true   rfl rfl rfl) (by simp_all [aN,aD,aF])
   | false=>
    exact Ends.eqv (aU4 t_op t_n t_text t_kids t_pats true true false   rfl rfl rfl) (by simp_all [aN,aD,aF])
  | false=>
   cases hb1: (aU (List.length t_text) (aE t_text) 0 0)with
   | true=>
    cases y with
    | true=>
     exact Ends.eqv (aU5 t_op t_n t_text t_kids t_pats true false true   rfl rfl hb1 rfl) (by simp_all [aN,aD,aF])
    | false=>
     exact Ends.eqv (aU6 t_op t_n t_text t_kids t_pats true false false   rfl rfl hb1 rfl) (by simp_all [aN,aD,aF])
   | false=>
    exact Ends.eqv (aU7 t_op t_n t_text t_kids t_pats true false y   rfl rfl hb1) (by simp_all [aN,aD,aF])
 | false=>
  cases hb2: (t_n== (0:Int))with
  | true=>
   cases x with
   | true=>
    cases y with
    | true=>
     exact Ends.eqv (aU8 t_op t_n t_text t_kids t_pats false true true   rfl hb2 rfl rfl) (by simp_all [aN,aD,aF])
    | false=>
     exact Ends.eqv (aU9 t_op t_n t_text t_kids t_pats false true false   rfl hb2 rfl rfl) (by simp_all [aN,aD,aF])
   | false=>
    cases hb3: (aU (List.length t_text) (aE t_text) 0 0)with
    | true=>
     cases y with
     | true=>
      exact Ends.eqv (aVa t_op t_n t_text t_kids t_pats false false true   rfl hb2 rfl hb3 rfl) (by simp_all [aN,aD,aF])
     | false=>
      exact Ends.eqv (aVb t_op t_n t_text t_kids t_pats false false false   rfl hb2 rfl hb3 rfl) (by simp_all [aN,aD,aF])
    | false=>
     exact Ends.eqv (aVc t_op t_n t_text t_kids t_pats false false y   rfl hb2 rfl hb3) (by simp_all [aN,aD,aF])
  | false=>
   exact Ends.eqv (aPq t_op t_n t_text t_kids t_pats false x y   rfl hb2) (by simp_all [aN,aD,aF])
theorem bD (o n:Int)(s:aC)(ks:List Term)(ps:List Pat)(a b c:Bool) :Pure PP 188 [Term.av (.mk o n s ks ps),.bool a,.bool b,.bool c] (.bool (aN n s (List.length ps) a b c)) :=
 aV (by kernel_rfl) (by simp [AV.keylessL,gV,AV.keyless]) rfl (bFa o n s ks ps a b c)
theorem rNd_E (t_op t_n :Int)(t_text:aC)(t_kids:List Term)(t_pats:List Pat)(hks:t_kids.length<1000000)(hps:t_pats.length<1000000) :
  Ends PP 0 (start PP 122 [Term.av (.mk t_op t_n t_text t_kids t_pats)]).as (.ret (.bool (aK t_op t_n t_text (List.length t_kids) (List.length t_pats)))) (aG [] 0) :=by
 cases hb1: (t_op== (1:Int))with
 | true=>
  cases hb2: (((List.length t_kids:Nat) :Int) == (0:Int))with
  | true=>
   cases hb3: (aN t_n t_text (List.length t_pats) true false false)with
   | true=>
    exact Ends.eqv (aVd t_op t_n t_text t_kids t_pats  (aN t_n t_text (List.length t_pats) true false false) (bR t_n (-1000000000) 1000000000) hb1 hb2 (bD t_op t_n t_text t_kids t_pats true false false) hb3 (fZ t_n (-1000000000) 1000000000)) (by simp_all [aK,aF] <;>intros<;>omega)
   | false=>
    exact Ends.eqv (aVe t_op t_n t_text t_kids t_pats  (aN t_n t_text (List.length t_pats) true false false) hb1 hb2 (bD t_op t_n t_text t_kids t_pats true false false) hb3) (by simp_all [aK,aF] <;>intros<;>omega)
  | false=>
   exact Ends.eqv (aVf t_op t_n t_text t_kids t_pats   hb1 hb2) (by simp_all [aK,aF] <;>intros<;>omega)
 | false =>
  cases hb4: (t_op== (2:Int))with
  | true=>
   cases hb5: (((List.length t_kids:Nat) :Int) == (0:Int))with
   | true=>
    cases hb6: (aN t_n t_text (List.length t_pats) true false false)with
    | true=>
     exact Ends.eqv (aVg t_op t_n t_text t_kids t_pats  (aN t_n t_text (List.length t_pats) true false false) (bR t_n 0 1) hb1 hb4 hb5 (bD t_op t_n t_text t_kids t_pats true false false) hb6 (fZ t_n 0 1)) (by simp_all [aK,aF] <;>intros<;>omega)
    | false=>
     exact Ends.eqv (aVh t_op t_n t_text t_kids t_pats  (aN t_n t_text (List.length t_pats) true false false) hb1 hb4 hb5 (bD t_op t_n t_text t_kids t_pats true false false) hb6) (by simp_all [aK,aF] <;>intros<;>omega)
   | false=>
    exact Ends.eqv (aVi t_op t_n t_text t_kids t_pats   hb1 hb4 hb5) (by simp_all [aK,aF] <;>intros<;>omega)
  | false =>
   cases hb7: (t_op== (3:Int))with
   | true=>
    cases hb8: (((List.length t_kids:Nat) :Int) == (0:Int))with
    | true=>
     exact Ends.eqv (aVj t_op t_n t_text t_kids t_pats  (aN t_n t_text (List.length t_pats) false false false) hb1 hb4 hb7 hb8 (bD t_op t_n t_text t_kids t_pats false false false)) (by simp_all [aK,aF] <;>intros<;>omega)
    | false=>
     exact Ends.eqv (aVk t_op t_n t_text t_kids t_pats   hb1 hb4 hb7 hb8) (by simp_all [aK,aF] <;>intros<;>omega)
   | false =>
    cases hb9: (t_op== (21:Int))with
    | true=>
     cases hb10: (((List.length t_kids:Nat) :Int) == (0:Int))with
     | true=>
      exact Ends.eqv (aVl t_op t_n t_text t_kids t_pats  (aN t_n t_text (List.length t_pats) false false false) hb1 hb4 hb7 hb9 hb10 (bD t_op t_n t_text t_kids t_pats false false false)) (by simp_all [aK,aF] <;>intros<;>omega)
     | false=>
      exact Ends.eqv (aVm t_op t_n t_text t_kids t_pats   hb1 hb4 hb7 hb9 hb10) (by simp_all [aK,aF] <;>intros<;>omega)
    | false =>
     cases hb11: (t_op== (25:Int))with
     | true=>
      cases hb12: (((List.length t_kids:Nat) :Int) == (0:Int))with
      | true=>
       exact Ends.eqv (aPr t_op t_n t_text t_kids t_pats  (aN t_n t_text (List.length t_pats) false false false) hb1 hb4 hb7 hb9 hb11 hb12 (bD t_op t_n t_text t_kids t_pats false false false)) (by simp_all [aK,aF] <;>intros<;>omega)
      | false=>
       exact Ends.eqv (aPs t_op t_n t_text t_kids t_pats   hb1 hb4 hb7 hb9 hb11 hb12) (by simp_all [aK,aF] <;>intros<;>omega)
     | false =>
      cases hb13: (t_op== (28:Int))with
      | true=>
       cases hb14: (((List.length t_kids:Nat) :Int) == (0:Int))with
       | true=>
        exact Ends.eqv (aPt t_op t_n t_text t_kids t_pats  (aN t_n t_text (List.length t_pats) false false false) hb1 hb4 hb7 hb9 hb11 hb13 hb14 (bD t_op t_n t_text t_kids t_pats false false false)) (by simp_all [aK,aF] <;>intros<;>omega)
       | false=>
        exact Ends.eqv (aPu t_op t_n t_text t_kids t_pats   hb1 hb4 hb7 hb9 hb11 hb13 hb14) (by simp_all [aK,aF] <;>intros<;>omega)
      | false =>
       cases hb15: (t_op== (4:Int))with
       | true=>
        cases hb16: (((List.length t_kids:Nat) :Int) == (0:Int))with
        | true=>
         cases hb17: (aN t_n t_text (List.length t_pats) false true false)with
         | true=>
          exact Ends.eqv (aPv t_op t_n t_text t_kids t_pats  (aN t_n t_text (List.length t_pats) false true false) (eT t_text) hb1 hb4 hb7 hb9 hb11 hb13 hb15 hb16 (bD t_op t_n t_text t_kids t_pats false true false) hb17 (mG t_text)) (by simp_all [aK,aF] <;>intros<;>omega)
         | false=>
          exact Ends.eqv (aPw t_op t_n t_text t_kids t_pats  (aN t_n t_text (List.length t_pats) false true false) hb1 hb4 hb7 hb9 hb11 hb13 hb15 hb16 (bD t_op t_n t_text t_kids t_pats false true false) hb17) (by simp_all [aK,aF] <;>intros<;>omega)
        | false=>
         exact Ends.eqv (aPx t_op t_n t_text t_kids t_pats   hb1 hb4 hb7 hb9 hb11 hb13 hb15 hb16) (by simp_all [aK,aF] <;>intros<;>omega)
       | false =>
        cases hb18: (t_op== (5:Int))with
        | true=>
         cases hb19: (((List.length t_kids:Nat) :Int) == (1:Int))with
         | true=>
          cases hb20: (aN t_n t_text (List.length t_pats) false true false)with
          | true=>
           exact Ends.eqv (aPy t_op t_n t_text t_kids t_pats  (aN t_n t_text (List.length t_pats) false true false) (eT t_text) hb1 hb4 hb7 hb9 hb11 hb13 hb15 hb18 hb19 (bD t_op t_n t_text t_kids t_pats false true false) hb20 (mG t_text)) (by simp_all [aK,aF] <;>intros<;>omega)
          | false=>
           exact Ends.eqv (aPz t_op t_n t_text t_kids t_pats  (aN t_n t_text (List.length t_pats) false true false) hb1 hb4 hb7 hb9 hb11 hb13 hb15 hb18 hb19 (bD t_op t_n t_text t_kids t_pats false true false) hb20) (by simp_all [aK,aF] <;>intros<;>omega)
         | false=>
          exact Ends.eqv (aPA t_op t_n t_text t_kids t_pats   hb1 hb4 hb7 hb9 hb11 hb13 hb15 hb18 hb19) (by simp_all [aK,aF] <;>intros<;>omega)
        | false =>
         cases hb21: (t_op== (27:Int))with
         | true=>
          cases hb22: (((List.length t_kids:Nat) :Int) == (1:Int))with
          | true=>
           cases hb23: (aN t_n t_text (List.length t_pats) false true false)with
           | true=>
            exact Ends.eqv (aPB t_op t_n t_text t_kids t_pats  (aN t_n t_text (List.length t_pats) false true false) (eT t_text) hb1 hb4 hb7 hb9 hb11 hb13 hb15 hb18 hb21 hb22 (bD t_op t_n t_text t_kids t_pats false true false) hb23 (mG t_text)) (by simp_all [aK,aF] <;>intros<;>omega)
           | false=>
            exact Ends.eqv (aPC t_op t_n t_text t_kids t_pats  (aN t_n t_text (List.length t_pats) false true false) hb1 hb4 hb7 hb9 hb11 hb13 hb15 hb18 hb21 hb22 (bD t_op t_n t_text t_kids t_pats false true false) hb23) (by simp_all [aK,aF] <;>intros<;>omega)
          | false=>
           exact Ends.eqv (aPD t_op t_n t_text t_kids t_pats   hb1 hb4 hb7 hb9 hb11 hb13 hb15 hb18 hb21 hb22) (by simp_all [aK,aF] <;>intros<;>omega)
         | false =>
          cases hb24: (t_op== (7:Int))with
          | true=>
           cases hb25: (((List.length t_kids:Nat) :Int) == (2:Int))with
           | true=>
            cases hb26: (aN t_n t_text (List.length t_pats) false true false)with
            | true=>
             exact Ends.eqv (aPE t_op t_n t_text t_kids t_pats  (aN t_n t_text (List.length t_pats) false true false) (eT t_text) hb1 hb4 hb7 hb9 hb11 hb13 hb15 hb18 hb21 hb24 hb25 (bD t_op t_n t_text t_kids t_pats false true false) hb26 (mG t_text)) (by simp_all [aK,aF] <;>intros<;>omega)
            | false=>
             exact Ends.eqv (aPF t_op t_n t_text t_kids t_pats  (aN t_n t_text (List.length t_pats) false true false) hb1 hb4 hb7 hb9 hb11 hb13 hb15 hb18 hb21 hb24 hb25 (bD t_op t_n t_text t_kids t_pats false true false) hb26) (by simp_all [aK,aF] <;>intros<;>omega)
           | false=>
            exact Ends.eqv (aPG t_op t_n t_text t_kids t_pats   hb1 hb4 hb7 hb9 hb11 hb13 hb15 hb18 hb21 hb24 hb25) (by simp_all [aK,aF] <;>intros<;>omega)
          | false =>
           cases hb27: (t_op== (8:Int))with
           | true=>
            cases hb28: (((List.length t_kids:Nat) :Int) == (3:Int))with
            | true=>
             exact Ends.eqv (aPH t_op t_n t_text t_kids t_pats  (aN t_n t_text (List.length t_pats) false false false) hb1 hb4 hb7 hb9 hb11 hb13 hb15 hb18 hb21 hb24 hb27 hb28 (bD t_op t_n t_text t_kids t_pats false false false)) (by simp_all [aK,aF] <;>intros<;>omega)
            | false=>
             exact Ends.eqv (aPI t_op t_n t_text t_kids t_pats   hb1 hb4 hb7 hb9 hb11 hb13 hb15 hb18 hb21 hb24 hb27 hb28) (by simp_all [aK,aF] <;>intros<;>omega)
           | false =>
            cases hb29: (t_op== (14:Int))with
            | true=>
             cases hb30: (decide (((List.length t_kids:Nat) :Int) ≤ (3:Int)))with
             | true=>
              cases hb31: (aN t_n t_text (List.length t_pats) false true false)with
              | true=>
               exact Ends.eqv (aPJ t_op t_n t_text t_kids t_pats  (aN t_n t_text (List.length t_pats) false true false) (cG t_text) hb1 hb4 hb7 hb9 hb11 hb13 hb15 hb18 hb21 hb24 hb27 hb29 hb30 (bD t_op t_n t_text t_kids t_pats false true false) hb31 (mC t_text)) (by simp_all [aK,aF] <;>intros<;>omega)
              | false=>
               exact Ends.eqv (aPK t_op t_n t_text t_kids t_pats  (aN t_n t_text (List.length t_pats) false true false) hb1 hb4 hb7 hb9 hb11 hb13 hb15 hb18 hb21 hb24 hb27 hb29 hb30 (bD t_op t_n t_text t_kids t_pats false true false) hb31) (by simp_all [aK,aF] <;>intros<;>omega)
             | false=>
              exact Ends.eqv (aPL t_op t_n t_text t_kids t_pats   hb1 hb4 hb7 hb9 hb11 hb13 hb15 hb18 hb21 hb24 hb27 hb29 hb30) (by simp_all [aK,aF] <;>intros<;>omega)
            | false =>
             cases hb32: (t_op== (15:Int))with
             | true=>
              cases hb33: (bR ((List.length t_pats:Nat) :Int) 1 5)with
              | true=>
               cases hb34: (((List.length t_kids:Nat) :Int) == ((1:Int) + ((List.length t_pats:Nat) :Int)))with
               | true=>
                exact Ends.eqv (aPM t_op t_n t_text t_kids t_pats  (bR ((List.length t_pats:Nat) :Int) 1 5) (aN t_n t_text (List.length t_pats) false false true) hb1 hb4 hb7 hb9 hb11 hb13 hb15 hb18 hb21 hb24 hb27 hb29 hb32 (fZ ((List.length t_pats:Nat) :Int) 1 5) hb33 sdI hb34 (bD t_op t_n t_text t_kids t_pats false false true)) (by simp_all [aK,aF] <;>intros<;>omega)
               | false=>
                exact Ends.eqv (aPN t_op t_n t_text t_kids t_pats  (bR ((List.length t_pats:Nat) :Int) 1 5) hb1 hb4 hb7 hb9 hb11 hb13 hb15 hb18 hb21 hb24 hb27 hb29 hb32 (fZ ((List.length t_pats:Nat) :Int) 1 5) hb33 sdI hb34) (by simp_all [aK,aF] <;>intros<;>omega)
              | false=>
               exact Ends.eqv (aPO t_op t_n t_text t_kids t_pats  (bR ((List.length t_pats:Nat) :Int) 1 5) hb1 hb4 hb7 hb9 hb11 hb13 hb15 hb18 hb21 hb24 hb27 hb29 hb32 (fZ ((List.length t_pats:Nat) :Int) 1 5) hb33) (by simp_all [aK,aF] <;>intros<;>omega)
             | false =>
              cases hb35: (t_op== (16:Int))with
              | true=>
               cases hb36: (((List.length t_kids:Nat) :Int) == (1:Int))with
               | true=>
                exact Ends.eqv (aPP t_op t_n t_text t_kids t_pats  (aN t_n t_text (List.length t_pats) false false false) hb1 hb4 hb7 hb9 hb11 hb13 hb15 hb18 hb21 hb24 hb27 hb29 hb32 hb35 hb36 (bD t_op t_n t_text t_kids t_pats false false false)) (by simp_all [aK,aF] <;>intros<;>omega)
               | false=>
                exact Ends.eqv (aPQ t_op t_n t_text t_kids t_pats   hb1 hb4 hb7 hb9 hb11 hb13 hb15 hb18 hb21 hb24 hb27 hb29 hb32 hb35 hb36) (by simp_all [aK,aF] <;>intros<;>omega)
              | false =>
               cases hb37: (t_op== (17:Int))with
               | true=>
                cases hb38: (((List.length t_kids:Nat) :Int) == (1:Int))with
                | true=>
                 exact Ends.eqv (aPR t_op t_n t_text t_kids t_pats  (aN t_n t_text (List.length t_pats) false false false) hb1 hb4 hb7 hb9 hb11 hb13 hb15 hb18 hb21 hb24 hb27 hb29 hb32 hb35 hb37 hb38 (bD t_op t_n t_text t_kids t_pats false false false)) (by simp_all [aK,aF] <;>intros<;>omega)
                | false=>
                 exact Ends.eqv (aPS t_op t_n t_text t_kids t_pats   hb1 hb4 hb7 hb9 hb11 hb13 hb15 hb18 hb21 hb24 hb27 hb29 hb32 hb35 hb37 hb38) (by simp_all [aK,aF] <;>intros<;>omega)
               | false =>
                cases hb39: (t_op== (19:Int))with
                | true=>
                 cases hb40: (((List.length t_kids:Nat) :Int) == (1:Int))with
                 | true=>
                  exact Ends.eqv (aPT t_op t_n t_text t_kids t_pats  (aN t_n t_text (List.length t_pats) false false false) hb1 hb4 hb7 hb9 hb11 hb13 hb15 hb18 hb21 hb24 hb27 hb29 hb32 hb35 hb37 hb39 hb40 (bD t_op t_n t_text t_kids t_pats false false false)) (by simp_all [aK,aF] <;>intros<;>omega)
                 | false=>
                  exact Ends.eqv (aPU t_op t_n t_text t_kids t_pats   hb1 hb4 hb7 hb9 hb11 hb13 hb15 hb18 hb21 hb24 hb27 hb29 hb32 hb35 hb37 hb39 hb40) (by simp_all [aK,aF] <;>intros<;>omega)
                | false =>
                 cases hb41: (t_op== (20:Int))with
                 | true=>
                  cases hb42: (((List.length t_kids:Nat) :Int) == (1:Int))with
                  | true=>
                   exact Ends.eqv (aPV t_op t_n t_text t_kids t_pats  (aN t_n t_text (List.length t_pats) false false false) hb1 hb4 hb7 hb9 hb11 hb13 hb15 hb18 hb21 hb24 hb27 hb29 hb32 hb35 hb37 hb39 hb41 hb42 (bD t_op t_n t_text t_kids t_pats false false false)) (by simp_all [aK,aF] <;>intros<;>omega)
                  | false=>
                   exact Ends.eqv (aPW t_op t_n t_text t_kids t_pats   hb1 hb4 hb7 hb9 hb11 hb13 hb15 hb18 hb21 hb24 hb27 hb29 hb32 hb35 hb37 hb39 hb41 hb42) (by simp_all [aK,aF] <;>intros<;>omega)
                 | false =>
                  cases hb43: (t_op== (23:Int))with
                  | true=>
                   cases hb44: (((List.length t_kids:Nat) :Int) == (1:Int))with
                   | true=>
                    exact Ends.eqv (aPX t_op t_n t_text t_kids t_pats  (aN t_n t_text (List.length t_pats) false false false) hb1 hb4 hb7 hb9 hb11 hb13 hb15 hb18 hb21 hb24 hb27 hb29 hb32 hb35 hb37 hb39 hb41 hb43 hb44 (bD t_op t_n t_text t_kids t_pats false false false)) (by simp_all [aK,aF] <;>intros<;>omega)
                   | false=>
                    exact Ends.eqv (aPY t_op t_n t_text t_kids t_pats   hb1 hb4 hb7 hb9 hb11 hb13 hb15 hb18 hb21 hb24 hb27 hb29 hb32 hb35 hb37 hb39 hb41 hb43 hb44) (by simp_all [aK,aF] <;>intros<;>omega)
                  | false =>
                   cases hb45: (t_op== (26:Int))with
                   | true=>
                    cases hb46: (((List.length t_kids:Nat) :Int) == (1:Int))with
                    | true=>
                     exact Ends.eqv (aPZ t_op t_n t_text t_kids t_pats  (aN t_n t_text (List.length t_pats) false false false) hb1 hb4 hb7 hb9 hb11 hb13 hb15 hb18 hb21 hb24 hb27 hb29 hb32 hb35 hb37 hb39 hb41 hb43 hb45 hb46 (bD t_op t_n t_text t_kids t_pats false false false)) (by simp_all [aK,aF] <;>intros<;>omega)
                    | false=>
                     exact Ends.eqv (aP0 t_op t_n t_text t_kids t_pats   hb1 hb4 hb7 hb9 hb11 hb13 hb15 hb18 hb21 hb24 hb27 hb29 hb32 hb35 hb37 hb39 hb41 hb43 hb45 hb46) (by simp_all [aK,aF] <;>intros<;>omega)
                   | false =>
                    cases hb47: (t_op== (24:Int))with
                    | true=>
                     cases hb48: (((List.length t_kids:Nat) :Int) == (1:Int))with
                     | true=>
                      cases hb49: (aN t_n t_text (List.length t_pats) true false false)with
                      | true=>
                       exact Ends.eqv (aP1 t_op t_n t_text t_kids t_pats  (aN t_n t_text (List.length t_pats) true false false) (bR t_n 0 3) hb1 hb4 hb7 hb9 hb11 hb13 hb15 hb18 hb21 hb24 hb27 hb29 hb32 hb35 hb37 hb39 hb41 hb43 hb45 hb47 hb48 (bD t_op t_n t_text t_kids t_pats true false false) hb49 (fZ t_n 0 3)) (by simp_all [aK,aF] <;>intros<;>omega)
                      | false=>
                       exact Ends.eqv (aP2 t_op t_n t_text t_kids t_pats  (aN t_n t_text (List.length t_pats) true false false) hb1 hb4 hb7 hb9 hb11 hb13 hb15 hb18 hb21 hb24 hb27 hb29 hb32 hb35 hb37 hb39 hb41 hb43 hb45 hb47 hb48 (bD t_op t_n t_text t_kids t_pats true false false) hb49) (by simp_all [aK,aF] <;>intros<;>omega)
                     | false=>
                      exact Ends.eqv (aP3 t_op t_n t_text t_kids t_pats   hb1 hb4 hb7 hb9 hb11 hb13 hb15 hb18 hb21 hb24 hb27 hb29 hb32 hb35 hb37 hb39 hb41 hb43 hb45 hb47 hb48) (by simp_all [aK,aF] <;>intros<;>omega)
                    | false =>
                     cases hb50: (t_op== (6:Int))with
                     | true=>
                      cases hb51: (((List.length t_kids:Nat) :Int) == (2:Int))with
                      | true=>
                       exact Ends.eqv (aP4 t_op t_n t_text t_kids t_pats  (aN t_n t_text (List.length t_pats) false false false) hb1 hb4 hb7 hb9 hb11 hb13 hb15 hb18 hb21 hb24 hb27 hb29 hb32 hb35 hb37 hb39 hb41 hb43 hb45 hb47 hb50 hb51 (bD t_op t_n t_text t_kids t_pats false false false)) (by simp_all [aK,aF] <;>intros<;>omega)
                      | false=>
                       exact Ends.eqv (aP5 t_op t_n t_text t_kids t_pats   hb1 hb4 hb7 hb9 hb11 hb13 hb15 hb18 hb21 hb24 hb27 hb29 hb32 hb35 hb37 hb39 hb41 hb43 hb45 hb47 hb50 hb51) (by simp_all [aK,aF] <;>intros<;>omega)
                     | false =>
                      cases hb52: (t_op== (9:Int))with
                      | true=>
                       cases hb53: (((List.length t_kids:Nat) :Int) == (2:Int))with
                       | true=>
                        exact Ends.eqv (aP6 t_op t_n t_text t_kids t_pats  (aN t_n t_text (List.length t_pats) false false false) hb1 hb4 hb7 hb9 hb11 hb13 hb15 hb18 hb21 hb24 hb27 hb29 hb32 hb35 hb37 hb39 hb41 hb43 hb45 hb47 hb50 hb52 hb53 (bD t_op t_n t_text t_kids t_pats false false false)) (by simp_all [aK,aF] <;>intros<;>omega)
                       | false=>
                        exact Ends.eqv (aP7 t_op t_n t_text t_kids t_pats   hb1 hb4 hb7 hb9 hb11 hb13 hb15 hb18 hb21 hb24 hb27 hb29 hb32 hb35 hb37 hb39 hb41 hb43 hb45 hb47 hb50 hb52 hb53) (by simp_all [aK,aF] <;>intros<;>omega)
                      | false =>
                       cases hb54: (t_op== (10:Int))with
                       | true=>
                        cases hb55: (((List.length t_kids:Nat) :Int) == (2:Int))with
                        | true=>
                         exact Ends.eqv (aP8 t_op t_n t_text t_kids t_pats  (aN t_n t_text (List.length t_pats) false false false) hb1 hb4 hb7 hb9 hb11 hb13 hb15 hb18 hb21 hb24 hb27 hb29 hb32 hb35 hb37 hb39 hb41 hb43 hb45 hb47 hb50 hb52 hb54 hb55 (bD t_op t_n t_text t_kids t_pats false false false)) (by simp_all [aK,aF] <;>intros<;>omega)
                        | false=>
                         exact Ends.eqv (aP9 t_op t_n t_text t_kids t_pats   hb1 hb4 hb7 hb9 hb11 hb13 hb15 hb18 hb21 hb24 hb27 hb29 hb32 hb35 hb37 hb39 hb41 hb43 hb45 hb47 hb50 hb52 hb54 hb55) (by simp_all [aK,aF] <;>intros<;>omega)
                       | false =>
                        cases hb56: (t_op== (11:Int))with
                        | true=>
                         cases hb57: (((List.length t_kids:Nat) :Int) == (2:Int))with
                         | true=>
                          exact Ends.eqv (aQa t_op t_n t_text t_kids t_pats  (aN t_n t_text (List.length t_pats) false false false) hb1 hb4 hb7 hb9 hb11 hb13 hb15 hb18 hb21 hb24 hb27 hb29 hb32 hb35 hb37 hb39 hb41 hb43 hb45 hb47 hb50 hb52 hb54 hb56 hb57 (bD t_op t_n t_text t_kids t_pats false false false)) (by simp_all [aK,aF] <;>intros<;>omega)
                         | false=>
                          exact Ends.eqv (aQb t_op t_n t_text t_kids t_pats   hb1 hb4 hb7 hb9 hb11 hb13 hb15 hb18 hb21 hb24 hb27 hb29 hb32 hb35 hb37 hb39 hb41 hb43 hb45 hb47 hb50 hb52 hb54 hb56 hb57) (by simp_all [aK,aF] <;>intros<;>omega)
                        | false=>
                         cases hb58: (t_op== (12:Int))with
                         | true=>
                          cases hb59: (((List.length t_kids:Nat) :Int) == (2:Int))with
                          | true=>
                           exact Ends.eqv (aQc t_op t_n t_text t_kids t_pats  (aN t_n t_text (List.length t_pats) false false false) hb1 hb4 hb7 hb9 hb11 hb13 hb15 hb18 hb21 hb24 hb27 hb29 hb32 hb35 hb37 hb39 hb41 hb43 hb45 hb47 hb50 hb52 hb54 hb56 hb58 hb59 (bD t_op t_n t_text t_kids t_pats false false false)) (by simp_all [aK,aF] <;>intros<;>omega)
                          | false=>
                           exact Ends.eqv (aQd t_op t_n t_text t_kids t_pats   hb1 hb4 hb7 hb9 hb11 hb13 hb15 hb18 hb21 hb24 hb27 hb29 hb32 hb35 hb37 hb39 hb41 hb43 hb45 hb47 hb50 hb52 hb54 hb56 hb58 hb59) (by simp_all [aK,aF] <;>intros<;>omega)
                         | false=>
                          cases hb60: (t_op== (13:Int))with
                          | true=>
                           cases hb61: (((List.length t_kids:Nat) :Int) == (2:Int))with
                           | true=>
                            exact Ends.eqv (aQe t_op t_n t_text t_kids t_pats  (aN t_n t_text (List.length t_pats) false false false) hb1 hb4 hb7 hb9 hb11 hb13 hb15 hb18 hb21 hb24 hb27 hb29 hb32 hb35 hb37 hb39 hb41 hb43 hb45 hb47 hb50 hb52 hb54 hb56 hb58 hb60 hb61 (bD t_op t_n t_text t_kids t_pats false false false)) (by simp_all [aK,aF] <;>intros<;>omega)
                           | false=>
                            exact Ends.eqv (aQf t_op t_n t_text t_kids t_pats   hb1 hb4 hb7 hb9 hb11 hb13 hb15 hb18 hb21 hb24 hb27 hb29 hb32 hb35 hb37 hb39 hb41 hb43 hb45 hb47 hb50 hb52 hb54 hb56 hb58 hb60 hb61) (by simp_all [aK,aF] <;>intros<;>omega)
                          | false=>
                           cases hb62: (t_op== (18:Int))with
                           | true=>
                            cases hb63: (((List.length t_kids:Nat) :Int) == (2:Int))with
                            | true=>
                             exact Ends.eqv (aQg t_op t_n t_text t_kids t_pats  (aN t_n t_text (List.length t_pats) false false false) hb1 hb4 hb7 hb9 hb11 hb13 hb15 hb18 hb21 hb24 hb27 hb29 hb32 hb35 hb37 hb39 hb41 hb43 hb45 hb47 hb50 hb52 hb54 hb56 hb58 hb60 hb62 hb63 (bD t_op t_n t_text t_kids t_pats false false false)) (by simp_all [aK,aF] <;>intros<;>omega)
                            | false=>
                             exact Ends.eqv (aQh t_op t_n t_text t_kids t_pats   hb1 hb4 hb7 hb9 hb11 hb13 hb15 hb18 hb21 hb24 hb27 hb29 hb32 hb35 hb37 hb39 hb41 hb43 hb45 hb47 hb50 hb52 hb54 hb56 hb58 hb60 hb62 hb63) (by simp_all [aK,aF] <;>intros<;>omega)
                           | false=>
                            cases hb64: (t_op== (22:Int))with
                            | true=>
                             cases hb65: (((List.length t_kids:Nat) :Int) == (2:Int))with
                             | true=>
                              exact Ends.eqv (aQi t_op t_n t_text t_kids t_pats  (aN t_n t_text (List.length t_pats) false false false) hb1 hb4 hb7 hb9 hb11 hb13 hb15 hb18 hb21 hb24 hb27 hb29 hb32 hb35 hb37 hb39 hb41 hb43 hb45 hb47 hb50 hb52 hb54 hb56 hb58 hb60 hb62 hb64 hb65 (bD t_op t_n t_text t_kids t_pats false false false)) (by simp_all [aK,aF] <;>intros<;>omega)
                             | false=>
                              exact Ends.eqv (aQj t_op t_n t_text t_kids t_pats   hb1 hb4 hb7 hb9 hb11 hb13 hb15 hb18 hb21 hb24 hb27 hb29 hb32 hb35 hb37 hb39 hb41 hb43 hb45 hb47 hb50 hb52 hb54 hb56 hb58 hb60 hb62 hb64 hb65) (by simp_all [aK,aF] <;>intros<;>omega)
                            | false=>
                             exact Ends.eqv (aQk t_op t_n t_text t_kids t_pats   hb1 hb4 hb7 hb9 hb11 hb13 hb15 hb18 hb21 hb24 hb27 hb29 hb32 hb35 hb37 hb39 hb41 hb43 hb45 hb47 hb50 hb52 hb54 hb56 hb58 hb60 hb62 hb64) (by simp_all [aK,aF] <;>intros<;>omega)
theorem aQn (o n:Int)(s:aC)(ks:List Term)(ps:List Pat)(hks:ks.length<1000000)(hps:ps.length<1000000) :Pure PP 122 [Term.av (.mk o n s ks ps)] (.bool (aK o n s (List.length ks) (List.length ps))) :=
 aV (by kernel_rfl) (by simp [AV.keylessL,gV]) rfl (rNd_E o n s ks ps hks hps)
end Go.Hb
namespace Go.Hb
open Go.Proofs
set_option maxHeartbeats 4000000
mutual
def bX :Term→Nat
 | .mk _ _ _ ks _=>bO ks+1
def bO :List Term→Nat
 | [] =>0
 |t::ts=>bX t+bO ts
end
mutual
def dX :Term→Nat
 | .mk _ _ _ ks _=>dK ks+1
def dK :List Term→Nat
 | [] =>0
 |t::ts=>max (dX t) (dK ts)
end
mutual
def wB :Term→Nat
 | .mk _ _ _ ks ps=>kX ks+aM ps+1
def kX :List Term→Nat
 | [] =>0
 |t::ts=>wB t+kX ts
end
mutual
def hR :Term→Bool
 | .mk o n s ks ps=>aK o n s (List.length ks) (List.length ps) &&ps.all wA&&jM ks
def jM :List Term→Bool
 | [] =>true
 |t::ts=>hR t&&jM ts
end
theorem vS :∀ts:List Term,ts.length≤kX ts
 | [] =>by simp
 | .mk o n s ks ps::ts=>by have:=vS ts;simp only [kX,wB,List.length_cons];omega
def iV (t:Term)(left dep:Int) :Int:=if(bX t:Int) ≤left∧ (dX t:Int) ≤dep then left-bX t else -1
def lW (ts:List Term)(left dep:Int) :Int:=if left<0 then left else if(bO ts:Int) ≤left∧ (dK ts:Int) ≤dep then left-bO ts else -1
theorem qU :∀t:Term,1≤bX t∧1≤dX t
 | .mk _ _ _ ks _=>by simp only [bX,dX];omega
theorem aFQ (t:Term)(ts:List Term){left dep:Int}(h0:0≤left)(hd:0≤dep) :lW (t::ts) left dep=lW ts (iV t left dep) dep:=by
 have hp:=qU t;have hm: ((max (dX t) (dK ts) :Nat) :Int) ≤dep↔ (dX t:Int) ≤dep∧ (dK ts:Int) ≤dep:=by omega
 unfold lW iV;rw [bO,dK];by_cases h1: (bX t:Int) ≤left∧ (dX t:Int) ≤dep
 · rw [if_pos h1,if_neg (show ¬left<0 by omega),if_neg (show ¬left- (bX t:Int) <0 by omega)];by_cases h2: (bO ts:Int) ≤left-bX t∧ (dK ts:Int) ≤dep
   · rw [if_pos h2,if_pos ⟨by omega,by omega⟩];omega
   ·rw [if_neg h2,if_neg (by rintro⟨a,b⟩;exact h2 ⟨by omega,by omega⟩)]
 ·rw [if_neg h1,if_pos (show(-1:Int) <0 by omega),if_neg (show ¬left<0 by omega),if_neg (by rintro⟨a,b⟩;exact h1 ⟨by omega,by omega⟩)]
theorem aHD (ts:List Term){left dep:Int}(h:left<0) :lW ts left dep=left:=by unfold lW;rw [if_pos h]
theorem aHE (o n:Int)(s:aC)(ks:List Term)(ps:List Pat)(l0 dep:Int)(hd:1≤dep)(hd2:dep≤1000)(ih:∀t∈ks,∀left:Int,0≤left→left≤1000→Pure PP 57 [Term.av t,.int .i64 left,.int .i64 (dep-1)] (.int .i64 (iV t left (dep-1)))) :
  ∀ (ts:List Term) (i:Nat) (left:Int),ks.drop i=ts→ -1≤left→ (i:Int) +left≤1000→Ends PP 0 (aFN o n s ks ps l0 dep left (i:Int)).as (.ret (.int .i64 (lW ts left (dep-1)))) (aG [] 0)
 | [],i,left,h,h1,h2=>by
  have:=bA h;have e:lW [] left (dep-1) =left:=by
   unfold lW;by_cases hn:left<0
   ·rw [if_pos hn]
   · rw [if_neg hn,if_pos (by simp only [bO,dK];omega)];simp only [bO];omega
  rw [e];exact aU2 o n s ks ps l0 dep left i sd
 | .mk o' n' s' ks' ps'::ts,i,left,h,h1,h2=>by
  obtain⟨g1,g2,g3⟩ :=aZ h;by_cases h0:0≤left
  · have hp:=qU (.mk o' n' s' ks' ps');rw [aFQ _ _ h0 (by omega)];refine(aU0 o n s ks ps l0 dep left i o' n' s' ks' ps' (iV (.mk o' n' s' ks' ps') left (dep-1)) sd (by simp;omega) sd sd sd (ih _ (List.mem_of_getElem? g1) left h0 (by omega)) sd).ends ?_;exact aHE o n s ks ps l0 dep hd hd2 ih ts (i+1) _ g2 (by unfold iV;split<;>omega) (by unfold iV;split<;>omega)
  · rw [aHD _ (by omega)];exact aU1 o n s ks ps l0 dep left i sd (by simp;omega)
mutual
theorem aCZ :∀ (t:Term) (left dep:Int),-1≤left→left≤1000→0≤dep→dep≤1000→Pure PP 57 [Term.av t,.int .i64 left,.int .i64 dep] (.int .i64 (iV t left dep))
 | .mk o n s ks ps,left,dep,h1,h2,h3,h4=>by
  refine aV (by kernel_rfl) (by simp [AV.keylessL,gV,AV.keyless]) rfl ?_;by_cases ha:left<1
  · have e:iV (.mk o n s ks ps) left dep= -1:=by unfold iV;rw [if_neg (by simp only [bX];omega)]
    rw [e];exact aUX o n s ks ps left dep (by simp [ha])
  · by_cases hb:dep<1
    · have e:iV (.mk o n s ks ps) left dep= -1:=by unfold iV;rw [if_neg (by simp only [dX];omega)]
      rw [e];exact aUY o n s ks ps left dep (by simp;omega) (by simp [hb])
    · have e:iV (.mk o n s ks ps) left dep=lW ks (left-1) (dep-1) :=by
       have e1:bX (.mk o n s ks ps) =bO ks+1:=by rw [bX]
       have e2:dX (.mk o n s ks ps) =dK ks+1:=by rw [dX]
       unfold iV lW;rw [if_neg (show ¬left-1<0 by omega)];by_cases hc: (bO ks:Int) ≤left-1∧ (dK ks:Int) ≤dep-1
       ·rw [if_pos hc,if_pos (by omega)];omega
       ·rw [if_neg hc,if_neg (by omega)]
      rw [e];refine(aUZ o n s ks ps left dep (by simp;omega) (by simp;omega) sd).ends ?_;exact aHE o n s ks ps left dep (by omega) h4 (fun t ht l a b=>aKP ks (dep-1) (by omega) (by omega) t ht l (by omega) b) ks 0 (left-1) rfl (by omega) (by omega)
theorem aKP :∀ (ts:List Term) (dep:Int),0≤dep→dep≤1000→∀t∈ts,∀left:Int,-1≤left→left≤1000→Pure PP 57 [Term.av t,.int .i64 left,.int .i64 dep] (.int .i64 (iV t left dep))
 | [],_,_,_,t,ht=>by cases ht
 | u::ts,dep,h3,h4,t,ht=>by
  rcases List.mem_cons.1 ht with e|ht
  ·rw [e];exact fun left a b=>aCZ u left dep a b h3 h4
  ·exact aKP ts dep h3 h4 t ht
end
theorem bFb (o n:Int)(s:aC)(ks:List Term)(ps:List Pat)(hl:ks.length<1000000)(ih:∀t∈ks,Pure PP 63 [Term.av t] (.bool (hR t))) :
  ∀ (ts:List Term) (i:Nat),ks.drop i=ts→Ends PP 0 (aFP o n s ks ps (i:Int)).as (.ret (.bool (jM ts))) (aG [] 0)
 | [],i,h=>by
  have:=bA h;exact aVu o n s ks ps i sd
 | .mk o' n' s' ks' ps'::ts,i,h=>by
  obtain⟨g1,g2,g3⟩ :=aZ h;have hp:=ih _ (List.mem_of_getElem? g1);rw [jM];cases hb:hR (.mk o' n' s' ks' ps')with
  | true=>
   rw [hb]at hp;exact(aVt o n s ks ps i o' n' s' ks' ps' true sd sd sd hp rfl sd).ends (Ends.eqv (bFb o n s ks ps hl ih ts (i+1) g2) (by simp))
  | false=>
   rw [hb]at hp;exact Ends.eqv (aVs o n s ks ps i o' n' s' ks' ps' false sd sd sd hp rfl) (by simp)
theorem bFc (o n:Int)(s:aC)(ks:List Term)(ps:List Pat)(hl:ks.length<1000000)(hl2:ps.length<1000000)(ih:∀t∈ks,Pure PP 63 [Term.av t] (.bool (hR t))) :
  ∀ (qs:List Pat) (i:Nat),ps.drop i=qs→Ends PP 0 (aFO o n s ks ps (i:Int)).as (.ret (.bool (qs.all wA&&jM ks))) (aG [] 0)
 | [],i,h=>by
  have:=bA h;exact(aVr o n s ks ps i sd).ends (Ends.eqv (bFb o n s ks ps hl ih ks 0 rfl) (by simp))
 | .mk f' n' s' ps'::qs,i,h=>by
  obtain⟨g1,g2,g3⟩ :=aZ h;have hp:=aPn (.mk f' n' s' ps');cases hb:wA (.mk f' n' s' ps')with
  | true=>
   rw [hb]at hp;exact(aVq o n s ks ps i f' n' s' ps' true sd sd sd hp rfl sd).ends (Ends.eqv (bFc o n s ks ps hl hl2 ih qs (i+1) g2) (by simp [hb]))
  | false=>
   rw [hb]at hp;exact Ends.eqv (aVp o n s ks ps i f' n' s' ps' false sd sd sd hp rfl) (by simp [hb])
mutual
theorem aHF :∀ (t:Term),wB t<1000000→Pure PP 63 [Term.av t] (.bool (hR t))
 | .mk o n s ks ps,hf=>by
  simp only [wB]at hf;have:=vS ks;have:=bK ps;refine aV (by kernel_rfl) (by simp [AV.keylessL,gV]) rfl ?_;have hn:=aQn o n s ks ps (by omega) (by omega);rw [hR];cases hb:aK o n s (List.length ks) (List.length ps)with
  | true=>
   rw [hb]at hn;exact(aVo o n s ks ps true hn rfl).ends (Ends.eqv (bFc o n s ks ps (by omega) (by omega) (aKQ ks (by omega)) ps 0 rfl) (by simp))
  | false=>
   rw [hb]at hn;exact Ends.eqv (aVn o n s ks ps false hn rfl) (by simp)
theorem aKQ :∀ (ts:List Term),kX ts<1000000→∀t∈ts,Pure PP 63 [Term.av t] (.bool (hR t))
 | [],_,t,ht=>by cases ht
 | u::ts,hf,t,ht=>by
  simp only [kX]at hf;rcases List.mem_cons.1 ht with e|ht
  ·rw [e];exact aHF u (by omega)
  ·exact aKQ ts (by omega) t ht
end
def aAd (t:Term) :Bool:=decide (bX t≤60) &&decide (dX t≤14) &&hR t
theorem aQo (t:Term)(hf:wB t<1000000) :Pure PP 15 [Term.av t] (.bool (aAd t)) :=by
 have hw:=aCZ t 60 14 (by omega) (by omega) (by omega) (by omega);have hn:=aHF t hf;have hs:=qU t;unfold aAd;unfold iV at hw;obtain⟨o,n,s,ks,ps⟩ :=t;refine aV (by kernel_rfl) (by simp [AV.keylessL,gV]) rfl ?_;by_cases h:bX (.mk o n s ks ps) ≤60∧dX (.mk o n s ks ps) ≤14
 · rw [if_pos (by omega)]at hw;exact Ends.eqv (aVv o n s ks ps _ _ hw (by simp;omega) hn) (by simp [h.1,h.2])
 · rw [if_neg (by omega)]at hw
   exact Ends.eqv (aVw o n s ks ps _ hw (by simp)) (by
    by_cases h1:bX (.mk o n s ks ps) ≤60
    · have:¬dX (.mk o n s ks ps) ≤14:=fun h2=>h ⟨h1,h2⟩;simp [this]
    ·simp [h1])
end Go.Hb
namespace Go.Hb
open Go.Proofs
noncomputable section
open Go.Proofs Tryz
abbrev aJK(a b:Int)(c:aC)(d:List Pat):Nat×AObj×Bool:=oC 3 [(nI a),(nI b),(aA c),(iP d)]
abbrev aJL(a b:Int)(c:aC)(d:List Pat):Nat×AObj×Bool:=oC 2 [(nI a),(nI b),(aA c),(iP d)]
abbrev aAY:Nat ×AObj×Bool:=oC 4 [(nI 0),(nI 0),(.str 0 0),.nils]
abbrev aJM:Nat ×AObj×Bool:=oC 3 [(.func 133 [(.agg [(.map 0),(.map 1)])] [])]
abbrev aAZ:Nat ×AObj×Bool:=oC 2 [(.func 133 [(.agg [(.map 0),(.map 1)])] [])]
abbrev oK(a:List (Int×Int)):Nat×AObj×Bool:=(0,(.map (aB aO aO 0 a) a.length),true)
abbrev oM(a:List (Int×Int)):Nat×AObj×Bool:=(1,(.map (aB aO aO 0 a) a.length),true)
def aQp(a b:List (Int×Int))(c d:Int)(e:aC)(f:List Pat):TS:=bF PP 137 [(.agg [(nI c),(nI d),(aA e),(iP f)]),(.func 133 [(.agg [(.map 0),(.map 1)])] [])] [oK a,oM b] 2
def aFR(a b:List (Int×Int))(c g:Int)(d:aC)(e:List Pat)(f:Int):TS:=⟨(tf 137 19 [kp 2 2,kp 3 3,kp 4 4] [kc f137 14,kc f137 15]),[],[oK a,oM b,aJL c f d e,aJM,aAY],5⟩
def bCb(a b:List (Int×Int))(c:List Pat):TS:=bF PP 106 [(iP c),(.func 193 [] [(.ptr 2 0)])] [oK a,oM b,aAZ] 3
def aFS(c d:List (Int×Int))(a:List Pat)(e:Int)(b:List Pat):TS:=⟨(tf 106 22 [(1,(.func 193 [] [(.ptr 2 0)])),(4,.nils),(5,(.gl 3 4 0 b.length false)),(8,(iP a)),(9,(nI (a.length:Int))),(10,(nI e))] [kc f106 116,kl f106 116,.inBlock 0,kc f106 15]),[],[oK c,oM d,aAZ,oL 3 4 (Pats.av b)],4⟩
def aQq(g i:List (Int×Int))(b:List Pat)(c d:Int)(e:aC)(f:List Pat)(j:Int)(a:List Pat):TS:=⟨(tf 193 7 [kp 1 2,kp 2 3,kp 3 4] [kc f193 6,kc f193 7]),[(tf 106 22 [(1,(.func 193 [] [(.ptr 2 0)])),(4,.nils),(5,(.gl 5 4 0 a.length false)),(8,(iP b)),(9,(nI (b.length:Int))),(10,(nI j)),(14,(.gl 5 4 0 a.length false)),(15,(.func 193 [] [(.ptr 2 0)])),(16,(.agg [(nI c),(nI d),(aA e),(iP f)]))] [ko f106 3737 3,.inBlock 1,kc f106 935,kl f106 116,.inBlock 0,kc f106 15])],[oK g,oM i,aAZ,aJK c d e f,aAY,oL 5 4 (Pats.av a)],6⟩
def aQr(d b:List (Int×Int))(c a:Int)(e:aC)(f:List Pat):=tT 2 (aQp d b c a e f)<|.b 13 7 (c==6) (.o (.y fun g:Int=>.i [rn 16,.ans (.look (some (oH a b,(aO g))))] [.a (cJ a b=some g) (p':=dU (aO a) (aB aO aO 0 b) 0=some (some (oH a b,(aO g)))) (kB aKE)]<|.W 8 6 [2,3,4] (aFR d b c a e f g))<|.i [rn 16,.ans (.look none)] [.a (cJ a b=none) (p':=dU (aO a) (aB aO aO 0 b) 0=some none) (kA aKE)]<|.W 8 6 [2,3,4] (aFR d b c a e f 0))<|.W 3 5 [2,3,4] (aFR d b c a e f a)
def aVx:=fun a b c d e f g i j=>aQr a b c d e f|>.t i|>.1 g j ⟨aI (fun _=>rfl) (fun _=>rfl) _ _ _,⟨aI (fun _=>rfl) (fun _=>rfl) _ _ _,trivial⟩⟩
def aVy:=fun a b c d e f g i=>aQr a b c d e f|>.t g|>.2 i ⟨aI (fun _=>rfl) (fun _=>rfl) _ _ _,⟨aI (fun _=>rfl) (fun _=>rfl) _ _ _,trivial⟩⟩
def aVz:=fun a b c d e f g=>aQr a b c d e f|>.f g ⟨aI (fun _=>rfl) (fun _=>rfl) _ _ _,⟨aI (fun _=>rfl) (fun _=>rfl) _ _ _,trivial⟩⟩
def aFT (a b:List (Int×Int))(c i:Int)(d:aC)(e:List Pat)(f:Int):=fun g j=>(tT 2 (aFR a b c i d e f)<|.y fun g:List Pat=>gk 4 (.enter 106 [(iP e),(.func 193 [] [(.ptr 3 0)])]) [oK a,oM b,aJL c f d e,aJM,aAY] 5 (iP g) [oK a,oM b,aJL c f d e,aJM,aAY] 5<|.E 9 5 [] (.agg [(nI c),(nI f),(aA d),(iP g)]) [oK a,oM b] 2) g j ⟨aI (fun _=>rfl) (fun _=>rfl) _ _ _,⟨aI (fun _=>rfl) (fun _=>rfl) _ _ _,trivial⟩⟩
def aVA (b c:List (Int×Int))(a:List Pat):=(tT 3 (bCb b c a)<|gm 12 aH a<|.i [rn 4,.nilL 5 4] []<|gu 0 3 (Pats.av ([] :List Pat))<|gs 0 5 (.gl 3 4 0 ([] :List Pat).length false)<|.W 0 4 [3] (aFS b c a 0 ([] :List Pat))) ⟨aI (fun _=>rfl) (fun _=>rfl) _ _ _,⟨aI (fun _=>rfl) (fun _=>rfl) _ _ _,⟨cC,trivial⟩⟩⟩
def bCc(d e:List (Int×Int))(a:List Pat)(b:Int)(c:List Pat):=tT 3 (aFS d e a b c)<|gd 5 11 (b< (a.length:Int)) (mU 6 a b<|fun f g i j=>.W 15 7 [5,6,3] (aQq d e a f g i j b c))<|gZ 8 4 3 4 aH cC c false<|.E 0 4 [] (iP c) [oK d,oM e,aAZ] 3
def aVB:=fun a b c d e f g i j k l m=>bCc a b c d e|>.t k f g i j l m ⟨aI (fun _=>rfl) (fun _=>rfl) _ _ _,⟨aI (fun _=>rfl) (fun _=>rfl) _ _ _,⟨cC,trivial⟩⟩⟩
def aVC:=fun a b c d e f=>bCc a b c d e|>.f f ⟨aI (fun _=>rfl) (fun _=>rfl) _ _ _,⟨aI (fun _=>rfl) (fun _=>rfl) _ _ _,trivial⟩⟩
def aVD (f g:List (Int×Int))(n:List Pat)(i j:Int)(k:aC)(l:List Pat)(m:Int)(a:List Pat):=fun b c d e o p q=>(tT 3 (aQq f g n i j k l m a)<|.y fun b:Int=>.y fun c:Int=>.y fun d:aC=>.y fun e:List Pat=>gk 3 (.enter 137 [(.agg [(nI i),(nI j),(aA k),(iP l)]),(.func 133 [(.agg [(.map 0),(.map 1)])] [])]) [oK f,oM g,aAZ,aJK i j k l,aAY,oL 5 4 (Pats.av a)] 6 (.agg [(nI b),(nI c),(aA d),(iP e)]) [oK f,oM g,aAZ,aJK i j k l,aAY,oL 5 4 (Pats.av a)] 6<|gA 5 aH a [(Pat.mk b c d e)]<|gw 5 20 (m+1)<|.W 3 8 [7] (aFS f g n (m+1) (a++ [(Pat.mk b c d e)]))) b c d e o p q ⟨aI (fun _=>rfl) (fun _=>rfl) _ _ _,⟨aI (fun _=>rfl) (fun _=>rfl) _ _ _,⟨cC,trivial⟩⟩⟩
end
end Go.Hb
namespace Go.Hb
open Go.Proofs
noncomputable section
abbrev MO (m:List (Int×Int)) :AObj:=.map (aB aO aO 0 m) (List.length m)
theorem aED (m:List (Int×Int)) : (MO m).kl:=aI (fun _=>rfl) (fun _=>rfl) _ _ _
def sS (m:List (Int×Int))(n:Int) :Int:= (cJ n m).getD 0
mutual
def mH (mc:List (Int×Int)) :Pat→Pat
 | .mk f n t ps=>.mk f (if f=6 then sS mc n else n) t (eH mc ps)
def eH (mc:List (Int×Int)) :List Pat→List Pat
 | [] =>[]
 |p::ps=>mH mc p::eH mc ps
end
abbrev F90 :AV:=.func 133 [.agg [.map 0,.map 1]] []
def aMI (mf mc:List (Int×Int))(q q':Pat) :Prop:=
 Spec PP (.enter 137 [Pat.av q,F90]) (aG [(0,MO mf,true),(1,MO mc,true)] 2) (.ret (Pat.av q')) (aG [(0,MO mf,true),(1,MO mc,true)] 2)
section
variable (mf mc:List (Int×Int))
theorem aQs {q q':Pat}(h:aMI mf mc q q')(f n:Int)(t:aC)(ps l:List Pat) :
  Spec PP (.enter 137 [Pat.av q,F90])
   (aG [(0,MO mf,true),(1,MO mc,true),(2,(.cells (putCells .leaf 0 [F90]) 1 [] false),false),(3,(.cells (putCells .leaf 0 [(.int .i64 f),(.int .i64 n),(aA t),(.ilst 4 (Pats.av ps) false)]) 4 [] false),false),(4,(.cells (putCells .leaf 0 [(.int .i64 0),(.int .i64 0),(.str 0 0),.nils]) 4 [] false),false),(5,(.lst 4 (Pats.av l)),true)] 6)
   (.ret (Pat.av q'))
   (aG [(0,MO mf,true),(1,MO mc,true),(2,(.cells (putCells .leaf 0 [F90]) 1 [] false),false),(3,(.cells (putCells .leaf 0 [(.int .i64 f),(.int .i64 n),(aA t),(.ilst 4 (Pats.av ps) false)]) 4 [] false),false),(4,(.cells (putCells .leaf 0 [(.int .i64 0),(.int .i64 0),(.str 0 0),.nils]) 4 [] false),false),(5,(.lst 4 (Pats.av l)),true)] 6) :=
 aJe h (by simp only [AV.renL];rw [mB _ _ (eE q)];rfl) (eE q') (by rfl) (by kernel_rfl) (by kernel_rfl) ⟨aED mf,aED mc,trivial⟩ (by kernel_rfl) (by kernel_rfl) (by kernel_rfl)
theorem aHG (ps:List Pat)(hl:ps.length<1000000)(ih:∀p∈ps,aMI mf mc p (mH mc p)) :∀ (t:List Pat) (i:Nat) (acc:List Pat),ps.drop i=t→acc.length=i →
  Ends PP 3 (aFS mf mc ps (i:Int) acc).as (.ret (.ilst 4 (Pats.av (acc++eH mc t)) false)) (aG [(0,MO mf,true),(1,MO mc,true),(2,(.cells (putCells .leaf 0 [F90]) 1 [] false),false)] 3)
 | [],i,acc,h,ha=>by
  have:=bA h;rw [eH,List.append_nil];exact aVC mf mc ps i acc sd
 | .mk f1 n1 s1 ps1::t,i,acc,h,ha=>by
  obtain⟨g1,g2,g3⟩ :=aZ h;have h0:=aVB mf mc ps i acc f1 n1 s1 ps1 sd sd sd;have hc:=ih (.mk f1 n1 s1 ps1) (List.mem_of_getElem? g1);rw [mH]at hc;have h1:=aVD mf mc ps f1 n1 s1 ps1 i acc _ _ _ _ (aQs mf mc hc f1 n1 s1 ps1 acc) (by simp;omega) sd;have h2:=aHG ps hl ih t (i+1) (acc++ [.mk f1 (if f1=6 then sS mc n1 else n1) s1 (eH mc ps1)]) g2 (by simp [ha]);rw [eH,mH,show acc++Pat.mk f1 (if f1=6 then sS mc n1 else n1) s1 (eH mc ps1) ::eH mc t= (acc++ [.mk f1 (if f1=6 then sS mc n1 else n1) s1 (eH mc ps1)]) ++eH mc t by simp];exact h0.ends (h1.ends h2)
def bFd (ps:List Pat) :Prop:=Spec PP (.enter 106 [.ilst 4 (Pats.av ps) false,.func 193 [] [.ptr 2 0]])
 (aG [(0,MO mf,true),(1,MO mc,true),(2,(.cells (putCells .leaf 0 [F90]) 1 [] false),false)] 3) (.ret (.ilst 4 (Pats.av (eH mc ps)) false)) (aG [(0,MO mf,true),(1,MO mc,true),(2,(.cells (putCells .leaf 0 [F90]) 1 [] false),false)] 3)
theorem aQt (ps:List Pat)(hl:ps.length<1000000)(ih:∀p∈ps,aMI mf mc p (mH mc p)) :bFd mf mc ps:=
 ⟨(bCb mf mc ps).as.fr,by kernel_rfl,Eq.mp (by kernel_rfl) ((aVA mf mc ps).ends (aHG mf mc ps hl ih ps 0 [] rfl rfl))⟩
theorem aC0 {ps:List Pat}(h:bFd mf mc ps)(f n:Int)(t:aC) :
  Spec PP (.enter 106 [.ilst 4 (Pats.av ps) false,.func 193 [] [.ptr 3 0]])
   (aG [(0,MO mf,true),(1,MO mc,true),(2,(.cells (putCells .leaf 0 [(.int .i64 f),(.int .i64 n),(aA t),(.ilst 4 (Pats.av ps) false)]) 4 [] false),false),(3,(.cells (putCells .leaf 0 [F90]) 1 [] false),false),(4,(.cells (putCells .leaf 0 [(.int .i64 0),(.int .i64 0),(.str 0 0),.nils]) 4 [] false),false)] 5)
   (.ret (.ilst 4 (Pats.av (eH mc ps)) false))
   (aG [(0,MO mf,true),(1,MO mc,true),(2,(.cells (putCells .leaf 0 [(.int .i64 f),(.int .i64 n),(aA t),(.ilst 4 (Pats.av ps) false)]) 4 [] false),false),(3,(.cells (putCells .leaf 0 [F90]) 1 [] false),false),(4,(.cells (putCells .leaf 0 [(.int .i64 0),(.int .i64 0),(.str 0 0),.nils]) 4 [] false),false)] 5) :=
 aTN (ks:=[0,1,3]) h (by kernel_rfl) rfl (by kernel_rfl) (by kernel_rfl) ⟨aED mf,aED mc,trivial⟩ (by kernel_rfl) ⟨aED mf,aED mc,trivial⟩ (by kernel_rfl) (by kernel_rfl) (by kernel_rfl) (by kernel_rfl) (by kernel_rfl) (by kernel_rfl) (by kernel_rfl) (by kernel_rfl)
theorem aMJ {f n:Int}{t:aC}{ps:List Pat}{q':Pat}(h:Ends PP 2 (aQp mf mc f n t ps).as (.ret (Pat.av q')) (aG [(0,MO mf,true),(1,MO mc,true)] 2)) :aMI mf mc (.mk f n t ps) q':=
 ⟨(aQp mf mc f n t ps).as.fr,by kernel_rfl,Eq.mp (by kernel_rfl) h⟩
mutual
theorem aQu :∀ (q:Pat),aQ q<1000000→aMI mf mc q (mH mc q)
 | .mk f n t ps,h=>by
  simp only [aQ]at h;have:=bK ps;have hb:=aQt mf mc ps (by omega) (aKR ps (by omega));refine aMJ mf mc ?_;rw [mH];by_cases hf:f=6
  · rw [if_pos hf];unfold sS;cases hm:cJ n mc with
    |some y=>exact(aVx mf mc f n t ps y (by simp [hf]) hm).ends (aFT mf mc f n t ps y _ (aC0 mf mc hb f y t))
    |none=>exact(aVy mf mc f n t ps (by simp [hf]) hm).ends (aFT mf mc f n t ps 0 _ (aC0 mf mc hb f 0 t))
  · rw [if_neg hf];exact(aVz mf mc f n t ps (by simp [hf])).ends (aFT mf mc f n t ps n _ (aC0 mf mc hb f n t))
theorem aKR :∀ (ps:List Pat),aM ps<1000000→∀p∈ps,aMI mf mc p (mH mc p)
 | [],_,p,hp=>by cases hp
 | q::ps,h,p,hp=>by
  simp only [aM]at h;rcases List.mem_cons.1 hp with e|hp
  ·rw [e];exact aQu q (by omega)
  ·exact aKR ps (by omega) p hp
end
end
def aFU (to:List Int)(k:Int) :Int:=to.getD k.toNat 0
end
end Go.Hb
namespace Go.Hb
open Go.Proofs
set_option maxHeartbeats 1000000
def one (k:Int) :Bool:=decide (k=1)
end Go.Hb
namespace Go.Hb
open Go.Proofs
set_option maxHeartbeats 1000000
def cnt (b:Bool) :Int:=if b=true then 1 else 0
end Go.Hb
namespace Go.Hb
open Go.Proofs
noncomputable section
open Go.Proofs Tryz
def vT(d e:Int)(f:aC)(a:List Pat)(b c:Int):TS:=⟨(tf 195 22 [(2,(nI 0)),(3,(nI b)),(10,(iP a)),(11,(nI (a.length:Int))),(12,(nI c))] [kc f195 244,kl f195 244,.inBlock 0,kc f195 31]),[],[],0⟩
def bFe(a c:Int)(d:aC)(b:List Pat):=tT 0 (start PP 195 [(.agg [(nI a),(nI c),(aA d),(iP b)])])<|.b 12 8 (a==2) (gE 6 1 (nI 1))<|gm 11 aH b<|.W 4 1 [] (vT a c d b 0 0)
def aJN:=fun a b c d e=>bFe a b c d|>.t e tv
def aJO:=fun a b c d e=>bFe a b c d|>.f e tv
def bFf(d e:Int)(f:aC)(b:List Pat)(c a:Int):=tT 0 (vT d e f b c a)<|gd 5 13 (a< (b.length:Int)) (mU 6 b a<|fun i j k l=>gpI 7 195 [(.agg [(nI i),(nI j),(aA k),(iP l)])]<|fun g=>gw 1 19 (c+g)<|gw 5 20 (a+1)<|.W 3 1 [] (vT d e f b (c+g) (a+1)))<|gE 8 0 (nI c)
def aJP:=fun a b c d e f g i j k l m n o p q r=>bFf a b c d e f|>.t m g i j k n o l p q r tv
def aJQ:=fun a b c d e f g=>bFf a b c d e f|>.f g tv
end
end Go.Hb
namespace Go.Hb
open Go.Proofs
noncomputable section
end
end Go.Hb
namespace Go.Hb
open Go.Proofs
theorem Ends.val {P:Program}{m:Nat}{s:AS}{v v':AV}{h':Hp}(h:Ends P m s (.ret v) h')(hv:∀E cv,VR E v cv→VR E v' cv) :Ends P m s (.ret v') h':=fun hm E fr ccs w f fs r cl base=>by
 obtain⟨cl',w',E',s1,⟨cv,e,g⟩,r2,x2⟩ :=h hm E fr ccs w f fs r cl base;exact⟨cl',w',E',s1,⟨cv,e,hv _ _ g⟩,r2,x2⟩
mutual
def bnm :Pat→Int
 | .mk f _ _ ps=>if f=2 then 1 else aBP ps
def aBP :List Pat→Int
 | [] =>0
 |p::ps=>bnm p+aBP ps
end
mutual
theorem aQv :∀p,0≤bnm p∧bnm p≤aQ p
 | .mk f _ _ ps=>by
  have:=aB5 ps;simp only [bnm,aQ];split<;>omega
theorem aB5 :∀ps,0≤aBP ps∧aBP ps≤aM ps
 | [] =>by simp [aBP,aM]
 | p::ps=>by
  have:=aQv p;have:=aB5 ps;simp only [aBP,aM];omega
end
theorem aBx (f n:Int)(s:aC)(ps:List Pat)(hl:ps.length<1000000)(ih:∀p∈ps,Pure PP 195 [Pat.av p] (.int .i64 (bnm p))) :
  ∀ (t:List Pat) (i:Nat) (a:Int),0≤a→a+aBP t≤1000000→ps.drop i=t→Ends PP 0 (vT f n s ps a (i:Int)).as (.ret (.int .i64 (a+aBP t))) (aG [] 0)
 | [],i,a,_,_,h=>by
  have:=bA h;exact Ends.eqv (aJQ f n s ps a i sd) (by simp [aBP])
 | .mk f' n' s' ps'::t,i,a,ha,hb,h=>by
  obtain⟨g1,g2,g3⟩ :=aZ h;have ihp:=ih _ (List.mem_of_getElem? g1);have b1:=aQv (.mk f' n' s' ps');have b2:=aB5 t;rw [aBP]at hb ⊢;refine(aJP f n s ps a i f' n' s' ps' _ sd sd sd ihp sd sd).ends ?_;exact Ends.eqv (aBx f n s ps hl ih t (i+1) (a+bnm (.mk f' n' s' ps')) (by omega) (by omega) g2) (by rw [Int.add_assoc])
mutual
theorem aHH :∀ (p:Pat),aQ p<100000→Pure PP 195 [Pat.av p] (.int .i64 (bnm p))
 | .mk f n s ps,h=>by
  refine aV (by kernel_rfl) (by simp [AV.keylessL,eE]) rfl ?_;simp only [aQ]at h;have:=bK ps;have b:=aB5 ps;by_cases g:f=2
  · subst g;exact Ends.eqv (aJN 2 n s ps rfl) (by simp [bnm])
  · refine(aJO f n s ps (by simpa using g)).ends ?_;exact Ends.eqv (aBx f n s ps (by omega) (aC1 ps (by omega)) ps 0 0 (by omega) (by omega) rfl) (by simp [bnm,g])
theorem aC1 :∀ (ps:List Pat),aM ps<100000→∀p∈ps,Pure PP 195 [Pat.av p] (.int .i64 (bnm p))
 | [],_,p,hp=>by cases hp
 | q::ps,h,p,hp=>by
  simp only [aM]at h;rcases List.mem_cons.1 hp with e|hp
  ·rw [e];exact aHH q (by omega)
  ·exact aC1 ps (by omega) p hp
end
def aHI (x:Node)(k:Int) :Int:=
 if x.op=5∨x.op=27∨ (x.op=7∧k=1)then 1
 else if x.op=15∧k>0 then(match x.pats[(k-1).toNat]? with|some q=>bnm q|none=>0)else 0
structure FineN (cons:List Con) (x:Node) :Prop where
 pats:∀q∈x.pats,aQ q≤12∧dB cons q=true
 mat:x.op=15→x.kids.length=1+x.pats.length
 let2:x.op=7→x.kids.length=2
theorem aVF {p:Prog}{x:Node}(h:sC p x=true) :FineN p.cons x:=by
 simp only [sC,Bool.and_eq_true,decide_eq_true_eq]at h;obtain⟨⟨_,h2⟩,h3⟩ :=h;refine⟨fun q hq=>?_,fun e=>?_,fun e=>?_⟩
 · have:=List.all_eq_true.1 h2 q hq;simpa [aFL]using this
 ·rw [e]at h3;simp [aOq]at h3;omega
 ·rw [e]at h3;simp [aOq]at h3;omega
end Go.Hb
namespace Go.Hb
open Go.Proofs
noncomputable section
end
end Go.Hb
namespace Go.Hb
open Go.Proofs
noncomputable section
end
end Go.Hb
namespace Go.Hb
open Go.Proofs
set_option maxHeartbeats 1000000
structure FineP (p:Prog) :Prop where
 small:p.nodes.length≤320
 fsmall:p.funs.length≤320
 node:∀ (i:Nat) (x:Node),p.nodes[i]?=some x→FineN p.cons x∧x.kids.length≤10∧∀k∈x.kids,(i:Int) <k∧k<p.nodes.length
 funs:∀f∈p.funs,0≤f∧f<p.nodes.length
end Go.Hb
namespace Go.Hb
open Go.Proofs
noncomputable section
open Go.Proofs Tryz
end
end Go.Hb
namespace Go.Hb
open Go.Proofs
set_option maxHeartbeats 1000000
noncomputable section
section
variable (p :Prog) (mf mc:List (Int×Int))
variable {p mf mc}
end
end
end Go.Hb
namespace Go.Hb
open Go.Proofs
set_option maxHeartbeats 2000000
noncomputable section
theorem fE {P:Program}{f:Nat}{args args':List AV}{v v':AV}{l l' lc lc':List (Nat×AObj×Bool)}{m nb nb' n2 n3:Nat}{ks:List Nat}
  (h0:qQ P m (.enter f args) (aG l nb) (.ret v) (aG l' nb')) (e3:nb'-m+n2=n3) (ev:AV.ren (kD m n2 ks) v=v') (hargs:AV.renL (dM 0 nb n2 ks) args=args') (hm:Nat.ble m nb=true) (hm':Nat.ble m nb'=true)
  (hin:cY 0 ⟨⟨0,0,[],[],[],.run,.normal,none⟩,[],l,nb⟩ ks=true) (hl:nH (aG lc n2) (dM 0 nb n2 ks) l=fS (dM 0 nb n2 ks) l) (hkl:fM l)
  (hl':nH (aG lc' n3) (kD m n2 ks) l'=fS (kD m n2 ks) l') (hkl':fM l') (hpl:rW l'=true) (hk':dW nb' l'=true)
  (hx:dW n2 lc=true) (hx':dW n3 lc'=true) (hlt:ks.all (fun k=>Nat.blt k n2) =true) (hout:uN (namesT (kD m n2 ks) l') ks (aG lc n2) lc'=nJ lc') (hll:nJ l'= (l'.map fun p=> (aG l' nb').look p.1)) :
  Spec P (.enter f args') (aG lc n2) (.ret v') (aG lc' n3) :=by
 subst e3 ev;exact aNB h0 hargs hm hm' hin hl hkl hl' hkl' hpl hk' hx hx' hlt hout hll
def bN (mf mc:List (Int×Int))(op n:Int) :Int:=if op=4 then(if 0≤n then n else -1-sS mf (-1-n))else if op=14 then sS mc n else n
def aBy (mf mc:List (Int×Int))(to:List Int)(x:Node) :Node:= ⟨x.op,bN mf mc x.op x.n,x.kids.map (aFU to),eH mc x.pats⟩
section
variable (p :Prog) (mf mc:List (Int×Int)) (to:List Int)
variable {p mf mc to}
end
end
end Go.Hb
namespace Go.Hb
open Go.Proofs
set_option maxHeartbeats 2000000
noncomputable section
section
variable {p :Prog} {mf mc:List (Int×Int)}
end
end
end Go.Hb
