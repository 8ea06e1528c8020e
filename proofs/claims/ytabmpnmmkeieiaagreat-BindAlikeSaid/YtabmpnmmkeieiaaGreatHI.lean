/- A machine on abstract values, its soundness, ways, plain laws. -/
import Derived.Test.YtabmpnmmkeieiaaGreatHF
import Derived.Test.YtabmpnmmkeieiaaGreatHG
import Derived.Test.YtabmpnmmkeieiaaGreatHH
set_option linter.defProp false
set_option linter.unusedVariables false
set_option linter.unusedSimpArgs false
set_option linter.unusedSectionVars false
set_option maxRecDepth 100000
set_option maxHeartbeats 8000000
namespace Go.Hb
open List (length)
open Go.Proofs Tryz
noncomputable section
def aK (n:Int)(s:aB)(m:Int)(a b c:Bool) :Bool:= (a||decide (n=0)) && (b||decide (s= [])) && (c||decide (m=0))
def aL (op n:Int)(s:aB)(k m:Int) :Bool:=
 if op=1 then decide (k=0) &&aK n s m true false false&&cF n (-1000000000) 1000000000
 else if op=2 then decide (k=0) &&aK n s m true false false&&cF n 0 1
 else if op=3∨op=21∨op=25∨op=28 then decide (k=0) &&aK n s m false false false
 else if op=4 then decide (k=0) &&aK n s m false true false&&dK s
 else if op=5∨op=27 then decide (k=1) &&aK n s m false true false&&dK s
 else if op=7 then decide (k=2) &&aK n s m false true false&&dK s
 else if op=8 then decide (k=3) &&aK n s m false false false
 else if op=14 then decide (k≤3) &&aK n s m false true false&&cD s
 else if op=15 then cF m 1 5&&decide (k=1+m) &&aK n s m false false true
 else if op=16∨op=17∨op=19∨op=20∨op=23∨op=26 then decide (k=1) &&aK n s m false false false
 else if op=24 then decide (k=1) &&aK n s m true false false&&cF n 0 3
 else if op=6∨op=9∨op=10∨op=11∨op=12∨op=13∨op=18∨op=22 then decide (k=2) &&aK n s m false false false
 else false
theorem aF {α:Type}(l:List α)(c:Int) : (((length l:Nat) :Int) ==c) =decide (((length l:Nat) :Int) =c) :=by
 by_cases h: ((length l:Nat) :Int) =c<;>simp [h]
theorem bGM (t_op t_n:Int)(t_text:aB)(t_kids:List Term)(t_pats:List Pat)(n x y:Bool) :
  Ends PP 0 (start PP 188 [Term.av (.mk t_op t_n t_text t_kids t_pats),.bool n,.bool x,.bool y]).as (.ret (.bool (aK t_n t_text (length t_pats) n x y))) (aG [] 0) :=by
 cases n with
 | true=>
  cases x with
  | true=>
   cases y with
   | true=>
    exact Ends.eqv (aWq t_op t_n t_text t_kids t_pats true true true   rfl rfl rfl) (by simp_all [aK,aE,aF])
   | false=>
    exact Ends.eqv (aWr t_op t_n t_text t_kids t_pats true true false   rfl rfl rfl) (by simp_all [aK,aE,aF])
  | false=>
   cases hb1: (bA (length t_text) (aD t_text) 0 0)with
   | true=>
    cases y with
    | true=>
     exact Ends.eqv (aWs t_op t_n t_text t_kids t_pats true false true   rfl rfl hb1 rfl) (by simp_all [aK,aE,aF])
    | false=>
     exact Ends.eqv (aWt t_op t_n t_text t_kids t_pats true false false   rfl rfl hb1 rfl) (by simp_all [aK,aE,aF])
   | false=>
    exact Ends.eqv (aWu t_op t_n t_text t_kids t_pats true false y   rfl rfl hb1) (by simp_all [aK,aE,aF])
 | false=>
  cases hb2: (t_n== (0:Int))with
  | true=>
   cases x with
   | true=>
    cases y with
    | true=>
     exact Ends.eqv (aWv t_op t_n t_text t_kids t_pats false true true   rfl hb2 rfl rfl) (by simp_all [aK,aE,aF])
    | false=>
     exact Ends.eqv (aWw t_op t_n t_text t_kids t_pats false true false   rfl hb2 rfl rfl) (by simp_all [aK,aE,aF])
   | false=>
    cases hb3: (bA (length t_text) (aD t_text) 0 0)with
    | true=>
     cases y with
     | true=>
      exact Ends.eqv (aWx t_op t_n t_text t_kids t_pats false false true   rfl hb2 rfl hb3 rfl) (by simp_all [aK,aE,aF])
     | false=>
      exact Ends.eqv (aWy t_op t_n t_text t_kids t_pats false false false   rfl hb2 rfl hb3 rfl) (by simp_all [aK,aE,aF])
    | false=>
     exact Ends.eqv (aWz t_op t_n t_text t_kids t_pats false false y   rfl hb2 rfl hb3) (by simp_all [aK,aE,aF])
  | false=>
   exact Ends.eqv (aQm t_op t_n t_text t_kids t_pats false x y   rfl hb2) (by simp_all [aK,aE,aF])
theorem bJ (o n:Int)(s:aB)(ks:List Term)(ps:List Pat)(a b c:Bool) :Pure PP 188 [Term.av (.mk o n s ks ps),.bool a,.bool b,.bool c] (.bool (aK n s (length ps) a b c)) :=
 bC (by kernel_rfl) (by simp [AV.keylessL,dF,AV.keyless]) rfl (bGM o n s ks ps a b c)
theorem rNd_E (t_op t_n :Int)(t_text:aB)(t_kids:List Term)(t_pats:List Pat)(hks:t_kids.length<1000000)(hps:t_pats.length<1000000) :
  Ends PP 0 (start PP 122 [Term.av (.mk t_op t_n t_text t_kids t_pats)]).as (.ret (.bool (aL t_op t_n t_text (length t_kids) (length t_pats)))) (aG [] 0) :=by
 cases hb1: (t_op== (1:Int))with
 | true=>
  cases hb2: (((length t_kids:Nat) :Int) == (0:Int))with
  | true=>
   cases hb3: (aK t_n t_text (length t_pats) true false false)with
   | true=>
    exact Ends.eqv (aWA t_op t_n t_text t_kids t_pats  (aK t_n t_text (length t_pats) true false false) (cF t_n (-1000000000) 1000000000) hb1 hb2 (bJ t_op t_n t_text t_kids t_pats true false false) hb3 (hI t_n (-1000000000) 1000000000)) (by simp_all [aL,aF] <;>intros<;>omega)
   | false=>
    exact Ends.eqv (aWB t_op t_n t_text t_kids t_pats  (aK t_n t_text (length t_pats) true false false) hb1 hb2 (bJ t_op t_n t_text t_kids t_pats true false false) hb3) (by simp_all [aL,aF] <;>intros<;>omega)
  | false=>
   exact Ends.eqv (aWC t_op t_n t_text t_kids t_pats   hb1 hb2) (by simp_all [aL,aF] <;>intros<;>omega)
 | false =>
  cases hb4: (t_op== (2:Int))with
  | true=>
   cases hb5: (((length t_kids:Nat) :Int) == (0:Int))with
   | true=>
    cases hb6: (aK t_n t_text (length t_pats) true false false)with
    | true=>
     exact Ends.eqv (aWD t_op t_n t_text t_kids t_pats  (aK t_n t_text (length t_pats) true false false) (cF t_n 0 1) hb1 hb4 hb5 (bJ t_op t_n t_text t_kids t_pats true false false) hb6 (hI t_n 0 1)) (by simp_all [aL,aF] <;>intros<;>omega)
    | false=>
     exact Ends.eqv (aWE t_op t_n t_text t_kids t_pats  (aK t_n t_text (length t_pats) true false false) hb1 hb4 hb5 (bJ t_op t_n t_text t_kids t_pats true false false) hb6) (by simp_all [aL,aF] <;>intros<;>omega)
   | false=>
    exact Ends.eqv (aWF t_op t_n t_text t_kids t_pats   hb1 hb4 hb5) (by simp_all [aL,aF] <;>intros<;>omega)
  | false =>
   cases hb7: (t_op== (3:Int))with
   | true=>
    cases hb8: (((length t_kids:Nat) :Int) == (0:Int))with
    | true=>
     exact Ends.eqv (aWG t_op t_n t_text t_kids t_pats  (aK t_n t_text (length t_pats) false false false) hb1 hb4 hb7 hb8 (bJ t_op t_n t_text t_kids t_pats false false false)) (by simp_all [aL,aF] <;>intros<;>omega)
    | false=>
     exact Ends.eqv (aWH t_op t_n t_text t_kids t_pats   hb1 hb4 hb7 hb8) (by simp_all [aL,aF] <;>intros<;>omega)
   | false =>
    cases hb9: (t_op== (21:Int))with
    | true=>
     cases hb10: (((length t_kids:Nat) :Int) == (0:Int))with
     | true=>
      exact Ends.eqv (aWI t_op t_n t_text t_kids t_pats  (aK t_n t_text (length t_pats) false false false) hb1 hb4 hb7 hb9 hb10 (bJ t_op t_n t_text t_kids t_pats false false false)) (by simp_all [aL,aF] <;>intros<;>omega)
     | false=>
      exact Ends.eqv (aWJ t_op t_n t_text t_kids t_pats   hb1 hb4 hb7 hb9 hb10) (by simp_all [aL,aF] <;>intros<;>omega)
    | false =>
     cases hb11: (t_op== (25:Int))with
     | true=>
      cases hb12: (((length t_kids:Nat) :Int) == (0:Int))with
      | true=>
       exact Ends.eqv (aQn t_op t_n t_text t_kids t_pats  (aK t_n t_text (length t_pats) false false false) hb1 hb4 hb7 hb9 hb11 hb12 (bJ t_op t_n t_text t_kids t_pats false false false)) (by simp_all [aL,aF] <;>intros<;>omega)
      | false=>
       exact Ends.eqv (aQo t_op t_n t_text t_kids t_pats   hb1 hb4 hb7 hb9 hb11 hb12) (by simp_all [aL,aF] <;>intros<;>omega)
     | false =>
      cases hb13: (t_op== (28:Int))with
      | true=>
       cases hb14: (((length t_kids:Nat) :Int) == (0:Int))with
       | true=>
        exact Ends.eqv (aQp t_op t_n t_text t_kids t_pats  (aK t_n t_text (length t_pats) false false false) hb1 hb4 hb7 hb9 hb11 hb13 hb14 (bJ t_op t_n t_text t_kids t_pats false false false)) (by simp_all [aL,aF] <;>intros<;>omega)
       | false=>
        exact Ends.eqv (aQq t_op t_n t_text t_kids t_pats   hb1 hb4 hb7 hb9 hb11 hb13 hb14) (by simp_all [aL,aF] <;>intros<;>omega)
      | false =>
       cases hb15: (t_op== (4:Int))with
       | true=>
        cases hb16: (((length t_kids:Nat) :Int) == (0:Int))with
        | true=>
         cases hb17: (aK t_n t_text (length t_pats) false true false)with
         | true=>
          exact Ends.eqv (aQr t_op t_n t_text t_kids t_pats  (aK t_n t_text (length t_pats) false true false) (dK t_text) hb1 hb4 hb7 hb9 hb11 hb13 hb15 hb16 (bJ t_op t_n t_text t_kids t_pats false true false) hb17 (lI t_text)) (by simp_all [aL,aF] <;>intros<;>omega)
         | false=>
          exact Ends.eqv (aQs t_op t_n t_text t_kids t_pats  (aK t_n t_text (length t_pats) false true false) hb1 hb4 hb7 hb9 hb11 hb13 hb15 hb16 (bJ t_op t_n t_text t_kids t_pats false true false) hb17) (by simp_all [aL,aF] <;>intros<;>omega)
        | false=>
         exact Ends.eqv (aQt t_op t_n t_text t_kids t_pats   hb1 hb4 hb7 hb9 hb11 hb13 hb15 hb16) (by simp_all [aL,aF] <;>intros<;>omega)
       | false =>
        cases hb18: (t_op== (5:Int))with
        | true=>
         cases hb19: (((length t_kids:Nat) :Int) == (1:Int))with
         | true=>
          cases hb20: (aK t_n t_text (length t_pats) false true false)with
          | true=>
           exact Ends.eqv (aQu t_op t_n t_text t_kids t_pats  (aK t_n t_text (length t_pats) false true false) (dK t_text) hb1 hb4 hb7 hb9 hb11 hb13 hb15 hb18 hb19 (bJ t_op t_n t_text t_kids t_pats false true false) hb20 (lI t_text)) (by simp_all [aL,aF] <;>intros<;>omega)
          | false=>
           exact Ends.eqv (aQv t_op t_n t_text t_kids t_pats  (aK t_n t_text (length t_pats) false true false) hb1 hb4 hb7 hb9 hb11 hb13 hb15 hb18 hb19 (bJ t_op t_n t_text t_kids t_pats false true false) hb20) (by simp_all [aL,aF] <;>intros<;>omega)
         | false=>
          exact Ends.eqv (aQw t_op t_n t_text t_kids t_pats   hb1 hb4 hb7 hb9 hb11 hb13 hb15 hb18 hb19) (by simp_all [aL,aF] <;>intros<;>omega)
        | false =>
         cases hb21: (t_op== (27:Int))with
         | true=>
          cases hb22: (((length t_kids:Nat) :Int) == (1:Int))with
          | true=>
           cases hb23: (aK t_n t_text (length t_pats) false true false)with
           | true=>
            exact Ends.eqv (aQx t_op t_n t_text t_kids t_pats  (aK t_n t_text (length t_pats) false true false) (dK t_text) hb1 hb4 hb7 hb9 hb11 hb13 hb15 hb18 hb21 hb22 (bJ t_op t_n t_text t_kids t_pats false true false) hb23 (lI t_text)) (by simp_all [aL,aF] <;>intros<;>omega)
           | false=>
            exact Ends.eqv (aQy t_op t_n t_text t_kids t_pats  (aK t_n t_text (length t_pats) false true false) hb1 hb4 hb7 hb9 hb11 hb13 hb15 hb18 hb21 hb22 (bJ t_op t_n t_text t_kids t_pats false true false) hb23) (by simp_all [aL,aF] <;>intros<;>omega)
          | false=>
           exact Ends.eqv (aQz t_op t_n t_text t_kids t_pats   hb1 hb4 hb7 hb9 hb11 hb13 hb15 hb18 hb21 hb22) (by simp_all [aL,aF] <;>intros<;>omega)
         | false =>
          cases hb24: (t_op== (7:Int))with
          | true=>
           cases hb25: (((length t_kids:Nat) :Int) == (2:Int))with
           | true=>
            cases hb26: (aK t_n t_text (length t_pats) false true false)with
            | true=>
             exact Ends.eqv (aQA t_op t_n t_text t_kids t_pats  (aK t_n t_text (length t_pats) false true false) (dK t_text) hb1 hb4 hb7 hb9 hb11 hb13 hb15 hb18 hb21 hb24 hb25 (bJ t_op t_n t_text t_kids t_pats false true false) hb26 (lI t_text)) (by simp_all [aL,aF] <;>intros<;>omega)
            | false=>
             exact Ends.eqv (aQB t_op t_n t_text t_kids t_pats  (aK t_n t_text (length t_pats) false true false) hb1 hb4 hb7 hb9 hb11 hb13 hb15 hb18 hb21 hb24 hb25 (bJ t_op t_n t_text t_kids t_pats false true false) hb26) (by simp_all [aL,aF] <;>intros<;>omega)
           | false=>
            exact Ends.eqv (aQC t_op t_n t_text t_kids t_pats   hb1 hb4 hb7 hb9 hb11 hb13 hb15 hb18 hb21 hb24 hb25) (by simp_all [aL,aF] <;>intros<;>omega)
          | false =>
           cases hb27: (t_op== (8:Int))with
           | true=>
            cases hb28: (((length t_kids:Nat) :Int) == (3:Int))with
            | true=>
             exact Ends.eqv (aQD t_op t_n t_text t_kids t_pats  (aK t_n t_text (length t_pats) false false false) hb1 hb4 hb7 hb9 hb11 hb13 hb15 hb18 hb21 hb24 hb27 hb28 (bJ t_op t_n t_text t_kids t_pats false false false)) (by simp_all [aL,aF] <;>intros<;>omega)
            | false=>
             exact Ends.eqv (aQE t_op t_n t_text t_kids t_pats   hb1 hb4 hb7 hb9 hb11 hb13 hb15 hb18 hb21 hb24 hb27 hb28) (by simp_all [aL,aF] <;>intros<;>omega)
           | false =>
            cases hb29: (t_op== (14:Int))with
            | true=>
             cases hb30: (decide (((length t_kids:Nat) :Int) ≤ (3:Int)))with
             | true=>
              cases hb31: (aK t_n t_text (length t_pats) false true false)with
              | true=>
               exact Ends.eqv (aQF t_op t_n t_text t_kids t_pats  (aK t_n t_text (length t_pats) false true false) (cD t_text) hb1 hb4 hb7 hb9 hb11 hb13 hb15 hb18 hb21 hb24 hb27 hb29 hb30 (bJ t_op t_n t_text t_kids t_pats false true false) hb31 (nG t_text)) (by simp_all [aL,aF] <;>intros<;>omega)
              | false=>
               exact Ends.eqv (aQG t_op t_n t_text t_kids t_pats  (aK t_n t_text (length t_pats) false true false) hb1 hb4 hb7 hb9 hb11 hb13 hb15 hb18 hb21 hb24 hb27 hb29 hb30 (bJ t_op t_n t_text t_kids t_pats false true false) hb31) (by simp_all [aL,aF] <;>intros<;>omega)
             | false=>
              exact Ends.eqv (aQH t_op t_n t_text t_kids t_pats   hb1 hb4 hb7 hb9 hb11 hb13 hb15 hb18 hb21 hb24 hb27 hb29 hb30) (by simp_all [aL,aF] <;>intros<;>omega)
            | false =>
             cases hb32: (t_op== (15:Int))with
             | true=>
              cases hb33: (cF ((length t_pats:Nat) :Int) 1 5)with
              | true=>
               cases hb34: (((length t_kids:Nat) :Int) == ((1:Int) + ((length t_pats:Nat) :Int)))with
               | true=>
                exact Ends.eqv (aQI t_op t_n t_text t_kids t_pats  (cF ((length t_pats:Nat) :Int) 1 5) (aK t_n t_text (length t_pats) false false true) hb1 hb4 hb7 hb9 hb11 hb13 hb15 hb18 hb21 hb24 hb27 hb29 hb32 (hI ((length t_pats:Nat) :Int) 1 5) hb33 sdI hb34 (bJ t_op t_n t_text t_kids t_pats false false true)) (by simp_all [aL,aF] <;>intros<;>omega)
               | false=>
                exact Ends.eqv (aQJ t_op t_n t_text t_kids t_pats  (cF ((length t_pats:Nat) :Int) 1 5) hb1 hb4 hb7 hb9 hb11 hb13 hb15 hb18 hb21 hb24 hb27 hb29 hb32 (hI ((length t_pats:Nat) :Int) 1 5) hb33 sdI hb34) (by simp_all [aL,aF] <;>intros<;>omega)
              | false=>
               exact Ends.eqv (aQK t_op t_n t_text t_kids t_pats  (cF ((length t_pats:Nat) :Int) 1 5) hb1 hb4 hb7 hb9 hb11 hb13 hb15 hb18 hb21 hb24 hb27 hb29 hb32 (hI ((length t_pats:Nat) :Int) 1 5) hb33) (by simp_all [aL,aF] <;>intros<;>omega)
             | false =>
              cases hb35: (t_op== (16:Int))with
              | true=>
               cases hb36: (((length t_kids:Nat) :Int) == (1:Int))with
               | true=>
                exact Ends.eqv (aQL t_op t_n t_text t_kids t_pats  (aK t_n t_text (length t_pats) false false false) hb1 hb4 hb7 hb9 hb11 hb13 hb15 hb18 hb21 hb24 hb27 hb29 hb32 hb35 hb36 (bJ t_op t_n t_text t_kids t_pats false false false)) (by simp_all [aL,aF] <;>intros<;>omega)
               | false=>
                exact Ends.eqv (aQM t_op t_n t_text t_kids t_pats   hb1 hb4 hb7 hb9 hb11 hb13 hb15 hb18 hb21 hb24 hb27 hb29 hb32 hb35 hb36) (by simp_all [aL,aF] <;>intros<;>omega)
              | false =>
               cases hb37: (t_op== (17:Int))with
               | true=>
                cases hb38: (((length t_kids:Nat) :Int) == (1:Int))with
                | true=>
                 exact Ends.eqv (aQN t_op t_n t_text t_kids t_pats  (aK t_n t_text (length t_pats) false false false) hb1 hb4 hb7 hb9 hb11 hb13 hb15 hb18 hb21 hb24 hb27 hb29 hb32 hb35 hb37 hb38 (bJ t_op t_n t_text t_kids t_pats false false false)) (by simp_all [aL,aF] <;>intros<;>omega)
                | false=>
                 exact Ends.eqv (aQO t_op t_n t_text t_kids t_pats   hb1 hb4 hb7 hb9 hb11 hb13 hb15 hb18 hb21 hb24 hb27 hb29 hb32 hb35 hb37 hb38) (by simp_all [aL,aF] <;>intros<;>omega)
               | false =>
                cases hb39: (t_op== (19:Int))with
                | true=>
                 cases hb40: (((length t_kids:Nat) :Int) == (1:Int))with
                 | true=>
                  exact Ends.eqv (aQP t_op t_n t_text t_kids t_pats  (aK t_n t_text (length t_pats) false false false) hb1 hb4 hb7 hb9 hb11 hb13 hb15 hb18 hb21 hb24 hb27 hb29 hb32 hb35 hb37 hb39 hb40 (bJ t_op t_n t_text t_kids t_pats false false false)) (by simp_all [aL,aF] <;>intros<;>omega)
                 | false=>
                  exact Ends.eqv (aQQ t_op t_n t_text t_kids t_pats   hb1 hb4 hb7 hb9 hb11 hb13 hb15 hb18 hb21 hb24 hb27 hb29 hb32 hb35 hb37 hb39 hb40) (by simp_all [aL,aF] <;>intros<;>omega)
                | false =>
                 cases hb41: (t_op== (20:Int))with
                 | true=>
                  cases hb42: (((length t_kids:Nat) :Int) == (1:Int))with
                  | true=>
                   exact Ends.eqv (aQR t_op t_n t_text t_kids t_pats  (aK t_n t_text (length t_pats) false false false) hb1 hb4 hb7 hb9 hb11 hb13 hb15 hb18 hb21 hb24 hb27 hb29 hb32 hb35 hb37 hb39 hb41 hb42 (bJ t_op t_n t_text t_kids t_pats false false false)) (by simp_all [aL,aF] <;>intros<;>omega)
                  | false=>
                   exact Ends.eqv (aQS t_op t_n t_text t_kids t_pats   hb1 hb4 hb7 hb9 hb11 hb13 hb15 hb18 hb21 hb24 hb27 hb29 hb32 hb35 hb37 hb39 hb41 hb42) (by simp_all [aL,aF] <;>intros<;>omega)
                 | false =>
                  cases hb43: (t_op== (23:Int))with
                  | true=>
                   cases hb44: (((length t_kids:Nat) :Int) == (1:Int))with
                   | true=>
                    exact Ends.eqv (aQT t_op t_n t_text t_kids t_pats  (aK t_n t_text (length t_pats) false false false) hb1 hb4 hb7 hb9 hb11 hb13 hb15 hb18 hb21 hb24 hb27 hb29 hb32 hb35 hb37 hb39 hb41 hb43 hb44 (bJ t_op t_n t_text t_kids t_pats false false false)) (by simp_all [aL,aF] <;>intros<;>omega)
                   | false=>
                    exact Ends.eqv (aQU t_op t_n t_text t_kids t_pats   hb1 hb4 hb7 hb9 hb11 hb13 hb15 hb18 hb21 hb24 hb27 hb29 hb32 hb35 hb37 hb39 hb41 hb43 hb44) (by simp_all [aL,aF] <;>intros<;>omega)
                  | false =>
                   cases hb45: (t_op== (26:Int))with
                   | true=>
                    cases hb46: (((length t_kids:Nat) :Int) == (1:Int))with
                    | true=>
                     exact Ends.eqv (aQV t_op t_n t_text t_kids t_pats  (aK t_n t_text (length t_pats) false false false) hb1 hb4 hb7 hb9 hb11 hb13 hb15 hb18 hb21 hb24 hb27 hb29 hb32 hb35 hb37 hb39 hb41 hb43 hb45 hb46 (bJ t_op t_n t_text t_kids t_pats false false false)) (by simp_all [aL,aF] <;>intros<;>omega)
                    | false=>
                     exact Ends.eqv (aQW t_op t_n t_text t_kids t_pats   hb1 hb4 hb7 hb9 hb11 hb13 hb15 hb18 hb21 hb24 hb27 hb29 hb32 hb35 hb37 hb39 hb41 hb43 hb45 hb46) (by simp_all [aL,aF] <;>intros<;>omega)
                   | false =>
                    cases hb47: (t_op== (24:Int))with
                    | true=>
                     cases hb48: (((length t_kids:Nat) :Int) == (1:Int))with
                     | true=>
                      cases hb49: (aK t_n t_text (length t_pats) true false false)with
                      | true=>
                       exact Ends.eqv (aQX t_op t_n t_text t_kids t_pats  (aK t_n t_text (length t_pats) true false false) (cF t_n 0 3) hb1 hb4 hb7 hb9 hb11 hb13 hb15 hb18 hb21 hb24 hb27 hb29 hb32 hb35 hb37 hb39 hb41 hb43 hb45 hb47 hb48 (bJ t_op t_n t_text t_kids t_pats true false false) hb49 (hI t_n 0 3)) (by simp_all [aL,aF] <;>intros<;>omega)
                      | false=>
                       exact Ends.eqv (aQY t_op t_n t_text t_kids t_pats  (aK t_n t_text (length t_pats) true false false) hb1 hb4 hb7 hb9 hb11 hb13 hb15 hb18 hb21 hb24 hb27 hb29 hb32 hb35 hb37 hb39 hb41 hb43 hb45 hb47 hb48 (bJ t_op t_n t_text t_kids t_pats true false false) hb49) (by simp_all [aL,aF] <;>intros<;>omega)
                     | false=>
                      exact Ends.eqv (aQZ t_op t_n t_text t_kids t_pats   hb1 hb4 hb7 hb9 hb11 hb13 hb15 hb18 hb21 hb24 hb27 hb29 hb32 hb35 hb37 hb39 hb41 hb43 hb45 hb47 hb48) (by simp_all [aL,aF] <;>intros<;>omega)
                    | false =>
                     cases hb50: (t_op== (6:Int))with
                     | true=>
                      cases hb51: (((length t_kids:Nat) :Int) == (2:Int))with
                      | true=>
                       exact Ends.eqv (aQ0 t_op t_n t_text t_kids t_pats  (aK t_n t_text (length t_pats) false false false) hb1 hb4 hb7 hb9 hb11 hb13 hb15 hb18 hb21 hb24 hb27 hb29 hb32 hb35 hb37 hb39 hb41 hb43 hb45 hb47 hb50 hb51 (bJ t_op t_n t_text t_kids t_pats false false false)) (by simp_all [aL,aF] <;>intros<;>omega)
                      | false=>
                       exact Ends.eqv (aQ1 t_op t_n t_text t_kids t_pats   hb1 hb4 hb7 hb9 hb11 hb13 hb15 hb18 hb21 hb24 hb27 hb29 hb32 hb35 hb37 hb39 hb41 hb43 hb45 hb47 hb50 hb51) (by simp_all [aL,aF] <;>intros<;>omega)
                     | false =>
                      cases hb52: (t_op== (9:Int))with
                      | true=>
                       cases hb53: (((length t_kids:Nat) :Int) == (2:Int))with
                       | true=>
                        exact Ends.eqv (aQ2 t_op t_n t_text t_kids t_pats  (aK t_n t_text (length t_pats) false false false) hb1 hb4 hb7 hb9 hb11 hb13 hb15 hb18 hb21 hb24 hb27 hb29 hb32 hb35 hb37 hb39 hb41 hb43 hb45 hb47 hb50 hb52 hb53 (bJ t_op t_n t_text t_kids t_pats false false false)) (by simp_all [aL,aF] <;>intros<;>omega)
                       | false=>
                        exact Ends.eqv (aQ3 t_op t_n t_text t_kids t_pats   hb1 hb4 hb7 hb9 hb11 hb13 hb15 hb18 hb21 hb24 hb27 hb29 hb32 hb35 hb37 hb39 hb41 hb43 hb45 hb47 hb50 hb52 hb53) (by simp_all [aL,aF] <;>intros<;>omega)
                      | false =>
                       cases hb54: (t_op== (10:Int))with
                       | true=>
                        cases hb55: (((length t_kids:Nat) :Int) == (2:Int))with
                        | true=>
                         exact Ends.eqv (aQ4 t_op t_n t_text t_kids t_pats  (aK t_n t_text (length t_pats) false false false) hb1 hb4 hb7 hb9 hb11 hb13 hb15 hb18 hb21 hb24 hb27 hb29 hb32 hb35 hb37 hb39 hb41 hb43 hb45 hb47 hb50 hb52 hb54 hb55 (bJ t_op t_n t_text t_kids t_pats false false false)) (by simp_all [aL,aF] <;>intros<;>omega)
                        | false=>
                         exact Ends.eqv (aQ5 t_op t_n t_text t_kids t_pats   hb1 hb4 hb7 hb9 hb11 hb13 hb15 hb18 hb21 hb24 hb27 hb29 hb32 hb35 hb37 hb39 hb41 hb43 hb45 hb47 hb50 hb52 hb54 hb55) (by simp_all [aL,aF] <;>intros<;>omega)
                       | false =>
                        cases hb56: (t_op== (11:Int))with
                        | true=>
                         cases hb57: (((length t_kids:Nat) :Int) == (2:Int))with
                         | true=>
                          exact Ends.eqv (aQ6 t_op t_n t_text t_kids t_pats  (aK t_n t_text (length t_pats) false false false) hb1 hb4 hb7 hb9 hb11 hb13 hb15 hb18 hb21 hb24 hb27 hb29 hb32 hb35 hb37 hb39 hb41 hb43 hb45 hb47 hb50 hb52 hb54 hb56 hb57 (bJ t_op t_n t_text t_kids t_pats false false false)) (by simp_all [aL,aF] <;>intros<;>omega)
                         | false=>
                          exact Ends.eqv (aQ7 t_op t_n t_text t_kids t_pats   hb1 hb4 hb7 hb9 hb11 hb13 hb15 hb18 hb21 hb24 hb27 hb29 hb32 hb35 hb37 hb39 hb41 hb43 hb45 hb47 hb50 hb52 hb54 hb56 hb57) (by simp_all [aL,aF] <;>intros<;>omega)
                        | false=>
                         cases hb58: (t_op== (12:Int))with
                         | true=>
                          cases hb59: (((length t_kids:Nat) :Int) == (2:Int))with
                          | true=>
                           exact Ends.eqv (aQ8 t_op t_n t_text t_kids t_pats  (aK t_n t_text (length t_pats) false false false) hb1 hb4 hb7 hb9 hb11 hb13 hb15 hb18 hb21 hb24 hb27 hb29 hb32 hb35 hb37 hb39 hb41 hb43 hb45 hb47 hb50 hb52 hb54 hb56 hb58 hb59 (bJ t_op t_n t_text t_kids t_pats false false false)) (by simp_all [aL,aF] <;>intros<;>omega)
                          | false=>
                           exact Ends.eqv (aQ9 t_op t_n t_text t_kids t_pats   hb1 hb4 hb7 hb9 hb11 hb13 hb15 hb18 hb21 hb24 hb27 hb29 hb32 hb35 hb37 hb39 hb41 hb43 hb45 hb47 hb50 hb52 hb54 hb56 hb58 hb59) (by simp_all [aL,aF] <;>intros<;>omega)
                         | false=>
                          cases hb60: (t_op== (13:Int))with
                          | true=>
                           cases hb61: (((length t_kids:Nat) :Int) == (2:Int))with
                           | true=>
                            exact Ends.eqv (aRa t_op t_n t_text t_kids t_pats  (aK t_n t_text (length t_pats) false false false) hb1 hb4 hb7 hb9 hb11 hb13 hb15 hb18 hb21 hb24 hb27 hb29 hb32 hb35 hb37 hb39 hb41 hb43 hb45 hb47 hb50 hb52 hb54 hb56 hb58 hb60 hb61 (bJ t_op t_n t_text t_kids t_pats false false false)) (by simp_all [aL,aF] <;>intros<;>omega)
                           | false=>
                            exact Ends.eqv (aRb t_op t_n t_text t_kids t_pats   hb1 hb4 hb7 hb9 hb11 hb13 hb15 hb18 hb21 hb24 hb27 hb29 hb32 hb35 hb37 hb39 hb41 hb43 hb45 hb47 hb50 hb52 hb54 hb56 hb58 hb60 hb61) (by simp_all [aL,aF] <;>intros<;>omega)
                          | false=>
                           cases hb62: (t_op== (18:Int))with
                           | true=>
                            cases hb63: (((length t_kids:Nat) :Int) == (2:Int))with
                            | true=>
                             exact Ends.eqv (aRc t_op t_n t_text t_kids t_pats  (aK t_n t_text (length t_pats) false false false) hb1 hb4 hb7 hb9 hb11 hb13 hb15 hb18 hb21 hb24 hb27 hb29 hb32 hb35 hb37 hb39 hb41 hb43 hb45 hb47 hb50 hb52 hb54 hb56 hb58 hb60 hb62 hb63 (bJ t_op t_n t_text t_kids t_pats false false false)) (by simp_all [aL,aF] <;>intros<;>omega)
                            | false=>
                             exact Ends.eqv (aRd t_op t_n t_text t_kids t_pats   hb1 hb4 hb7 hb9 hb11 hb13 hb15 hb18 hb21 hb24 hb27 hb29 hb32 hb35 hb37 hb39 hb41 hb43 hb45 hb47 hb50 hb52 hb54 hb56 hb58 hb60 hb62 hb63) (by simp_all [aL,aF] <;>intros<;>omega)
                           | false=>
                            cases hb64: (t_op== (22:Int))with
                            | true=>
                             cases hb65: (((length t_kids:Nat) :Int) == (2:Int))with
                             | true=>
                              exact Ends.eqv (aRe t_op t_n t_text t_kids t_pats  (aK t_n t_text (length t_pats) false false false) hb1 hb4 hb7 hb9 hb11 hb13 hb15 hb18 hb21 hb24 hb27 hb29 hb32 hb35 hb37 hb39 hb41 hb43 hb45 hb47 hb50 hb52 hb54 hb56 hb58 hb60 hb62 hb64 hb65 (bJ t_op t_n t_text t_kids t_pats false false false)) (by simp_all [aL,aF] <;>intros<;>omega)
                             | false=>
                              exact Ends.eqv (aRf t_op t_n t_text t_kids t_pats   hb1 hb4 hb7 hb9 hb11 hb13 hb15 hb18 hb21 hb24 hb27 hb29 hb32 hb35 hb37 hb39 hb41 hb43 hb45 hb47 hb50 hb52 hb54 hb56 hb58 hb60 hb62 hb64 hb65) (by simp_all [aL,aF] <;>intros<;>omega)
                            | false=>
                             exact Ends.eqv (aRg t_op t_n t_text t_kids t_pats   hb1 hb4 hb7 hb9 hb11 hb13 hb15 hb18 hb21 hb24 hb27 hb29 hb32 hb35 hb37 hb39 hb41 hb43 hb45 hb47 hb50 hb52 hb54 hb56 hb58 hb60 hb62 hb64) (by simp_all [aL,aF] <;>intros<;>omega)
theorem aRj (o n:Int)(s:aB)(ks:List Term)(ps:List Pat)(hks:ks.length<1000000)(hps:ps.length<1000000) :Pure PP 122 [Term.av (.mk o n s ks ps)] (.bool (aL o n s (length ks) (length ps))) :=
 bC (by kernel_rfl) (by simp [AV.keylessL,dF]) rfl (rNd_E o n s ks ps hks hps)
mutual
def bD :Term→Nat
 | .mk _ _ _ ks _=>aY ks+1
def aY :List Term→Nat
 | [] =>0
 |t::ts=>bD t+aY ts
end
mutual
def fK :Term→Nat
 | .mk _ _ _ ks _=>fW ks+1
def fW :List Term→Nat
 | [] =>0
 |t::ts=>max (fK t) (fW ts)
end
mutual
def fA :Term→Nat
 | .mk _ _ _ ks ps=>cZ ks+aM ps+1
def cZ :List Term→Nat
 | [] =>0
 |t::ts=>fA t+cZ ts
end
mutual
def fH :Term→Bool
 | .mk o n s ks ps=>aL o n s (length ks) (length ps) &&ps.all sB&&jK ks
def jK :List Term→Bool
 | [] =>true
 |t::ts=>fH t&&jK ts
end
theorem sC :∀ts:List Term,ts.length≤cZ ts
 | [] =>by simp
 | .mk o n s ks ps::ts=>by have:=sC ts;simp only [cZ,fA,List.length_cons];omega
def jL (t:Term)(left dep:Int) :Int:=if(bD t:Int) ≤left∧ (fK t:Int) ≤dep then left-bD t else -1
def nB (ts:List Term)(left dep:Int) :Int:=if left<0 then left else if(aY ts:Int) ≤left∧ (fW ts:Int) ≤dep then left-aY ts else -1
theorem sD :∀t:Term,1≤bD t∧1≤fK t
 | .mk _ _ _ ks _=>by simp only [bD,fK];omega
theorem aHd (t:Term)(ts:List Term){left dep:Int}(h0:0≤left)(hd:0≤dep) :nB (t::ts) left dep=nB ts (jL t left dep) dep:=by
 have hp:=sD t;have hm: ((max (fK t) (fW ts) :Nat) :Int) ≤dep↔ (fK t:Int) ≤dep∧ (fW ts:Int) ≤dep:=by omega
 unfold nB jL;rw [aY,fW];by_cases h1: (bD t:Int) ≤left∧ (fK t:Int) ≤dep
 · rw [if_pos h1,if_neg (show ¬left<0 by omega),if_neg (show ¬left- (bD t:Int) <0 by omega)];by_cases h2: (aY ts:Int) ≤left-bD t∧ (fW ts:Int) ≤dep
   · rw [if_pos h2,if_pos ⟨by omega,by omega⟩];omega
   ·rw [if_neg h2,if_neg (by rintro⟨a,b⟩;exact h2 ⟨by omega,by omega⟩)]
 ·rw [if_neg h1,if_pos (show(-1:Int) <0 by omega),if_neg (show ¬left<0 by omega),if_neg (by rintro⟨a,b⟩;exact h1 ⟨by omega,by omega⟩)]
theorem aIX (ts:List Term){left dep:Int}(h:left<0) :nB ts left dep=left:=by unfold nB;rw [if_pos h]
theorem aIY (o n:Int)(s:aB)(ks:List Term)(ps:List Pat)(l0 dep:Int)(hd:1≤dep)(hd2:dep≤1000)(ih:∀t∈ks,∀left:Int,0≤left→left≤1000→Pure PP 57 [Term.av t,.int .i64 left,.int .i64 (dep-1)] (.int .i64 (jL t left (dep-1)))) :
  ∀ (ts:List Term) (i:Nat) (left:Int),ks.drop i=ts→ -1≤left→ (i:Int) +left≤1000→Ends PP 0 (aHa o n s ks ps l0 dep left (i:Int)).as (.ret (.int .i64 (nB ts left (dep-1)))) (aG [] 0)
 | [],i,left,h,h1,h2=>by
  have:=bL h;have e:nB [] left (dep-1) =left:=by
   unfold nB;by_cases hn:left<0
   ·rw [if_pos hn]
   · rw [if_neg hn,if_pos (by simp only [aY,fW];omega)];simp only [aY];omega
  rw [e];exact aWp o n s ks ps l0 dep left i sd
 | .mk o' n' s' ks' ps'::ts,i,left,h,h1,h2=>by
  obtain⟨g1,g2,g3⟩ :=bH h;by_cases h0:0≤left
  · have hp:=sD (.mk o' n' s' ks' ps');rw [aHd _ _ h0 (by omega)];refine(aWn o n s ks ps l0 dep left i o' n' s' ks' ps' (jL (.mk o' n' s' ks' ps') left (dep-1)) sd (by simp;omega) sd sd sd (ih _ (List.mem_of_getElem? g1) left h0 (by omega)) sd).ends ?_;exact aIY o n s ks ps l0 dep hd hd2 ih ts (i+1) _ g2 (by unfold jL;split<;>omega) (by unfold jL;split<;>omega)
  · rw [aIX _ (by omega)];exact aWo o n s ks ps l0 dep left i sd (by simp;omega)
mutual
theorem aDX :∀ (t:Term) (left dep:Int),-1≤left→left≤1000→0≤dep→dep≤1000→Pure PP 57 [Term.av t,.int .i64 left,.int .i64 dep] (.int .i64 (jL t left dep))
 | .mk o n s ks ps,left,dep,h1,h2,h3,h4=>by
  refine bC (by kernel_rfl) (by simp [AV.keylessL,dF,AV.keyless]) rfl ?_;by_cases ha:left<1
  · have e:jL (.mk o n s ks ps) left dep= -1:=by unfold jL;rw [if_neg (by simp only [bD];omega)]
    rw [e];exact aWk o n s ks ps left dep (by simp [ha])
  · by_cases hb:dep<1
    · have e:jL (.mk o n s ks ps) left dep= -1:=by unfold jL;rw [if_neg (by simp only [fK];omega)]
      rw [e];exact aWl o n s ks ps left dep (by simp;omega) (by simp [hb])
    · have e:jL (.mk o n s ks ps) left dep=nB ks (left-1) (dep-1) :=by
       have e1:bD (.mk o n s ks ps) =aY ks+1:=by rw [bD]
       have e2:fK (.mk o n s ks ps) =fW ks+1:=by rw [fK]
       unfold jL nB;rw [if_neg (show ¬left-1<0 by omega)];by_cases hc: (aY ks:Int) ≤left-1∧ (fW ks:Int) ≤dep-1
       ·rw [if_pos hc,if_pos (by omega)];omega
       ·rw [if_neg hc,if_neg (by omega)]
      rw [e];refine(aWm o n s ks ps left dep (by simp;omega) (by simp;omega) sd).ends ?_;exact aIY o n s ks ps left dep (by omega) h4 (fun t ht l a b=>aMq ks (dep-1) (by omega) (by omega) t ht l (by omega) b) ks 0 (left-1) rfl (by omega) (by omega)
theorem aMq :∀ (ts:List Term) (dep:Int),0≤dep→dep≤1000→∀t∈ts,∀left:Int,-1≤left→left≤1000→Pure PP 57 [Term.av t,.int .i64 left,.int .i64 dep] (.int .i64 (jL t left dep))
 | [],_,_,_,t,ht=>by cases ht
 | u::ts,dep,h3,h4,t,ht=>by
  rcases List.mem_cons.1 ht with e|ht
  ·rw [e];exact fun left a b=>aDX u left dep a b h3 h4
  ·exact aMq ts dep h3 h4 t ht
end
theorem bGN (o n:Int)(s:aB)(ks:List Term)(ps:List Pat)(hl:ks.length<1000000)(ih:∀t∈ks,Pure PP 63 [Term.av t] (.bool (fH t))) :
  ∀ (ts:List Term) (i:Nat),ks.drop i=ts→Ends PP 0 (aHc o n s ks ps (i:Int)).as (.ret (.bool (jK ts))) (aG [] 0)
 | [],i,h=>by
  have:=bL h;exact aWR o n s ks ps i sd
 | .mk o' n' s' ks' ps'::ts,i,h=>by
  obtain⟨g1,g2,g3⟩ :=bH h;have hp:=ih _ (List.mem_of_getElem? g1);rw [jK];cases hb:fH (.mk o' n' s' ks' ps')with
  | true=>
   rw [hb]at hp;exact(aWQ o n s ks ps i o' n' s' ks' ps' true sd sd sd hp rfl sd).ends (Ends.eqv (bGN o n s ks ps hl ih ts (i+1) g2) (by simp))
  | false=>
   rw [hb]at hp;exact Ends.eqv (aWP o n s ks ps i o' n' s' ks' ps' false sd sd sd hp rfl) (by simp)
theorem bGO (o n:Int)(s:aB)(ks:List Term)(ps:List Pat)(hl:ks.length<1000000)(hl2:ps.length<1000000)(ih:∀t∈ks,Pure PP 63 [Term.av t] (.bool (fH t))) :
  ∀ (qs:List Pat) (i:Nat),ps.drop i=qs→Ends PP 0 (aHb o n s ks ps (i:Int)).as (.ret (.bool (qs.all sB&&jK ks))) (aG [] 0)
 | [],i,h=>by
  have:=bL h;exact(aWO o n s ks ps i sd).ends (Ends.eqv (bGN o n s ks ps hl ih ks 0 rfl) (by simp))
 | .mk f' n' s' ps'::qs,i,h=>by
  obtain⟨g1,g2,g3⟩ :=bH h;have hp:=aQj (.mk f' n' s' ps');cases hb:sB (.mk f' n' s' ps')with
  | true=>
   rw [hb]at hp;exact(aWN o n s ks ps i f' n' s' ps' true sd sd sd hp rfl sd).ends (Ends.eqv (bGO o n s ks ps hl hl2 ih qs (i+1) g2) (by simp [hb]))
  | false=>
   rw [hb]at hp;exact Ends.eqv (aWM o n s ks ps i f' n' s' ps' false sd sd sd hp rfl) (by simp [hb])
mutual
theorem aIZ :∀ (t:Term),fA t<1000000→Pure PP 63 [Term.av t] (.bool (fH t))
 | .mk o n s ks ps,hf=>by
  simp only [fA]at hf;have:=sC ks;have:=cP ps;refine bC (by kernel_rfl) (by simp [AV.keylessL,dF]) rfl ?_;have hn:=aRj o n s ks ps (by omega) (by omega);rw [fH];cases hb:aL o n s (length ks) (length ps)with
  | true=>
   rw [hb]at hn;exact(aWL o n s ks ps true hn rfl).ends (Ends.eqv (bGO o n s ks ps (by omega) (by omega) (aMr ks (by omega)) ps 0 rfl) (by simp))
  | false=>
   rw [hb]at hn;exact Ends.eqv (aWK o n s ks ps false hn rfl) (by simp)
theorem aMr :∀ (ts:List Term),cZ ts<1000000→∀t∈ts,Pure PP 63 [Term.av t] (.bool (fH t))
 | [],_,t,ht=>by cases ht
 | u::ts,hf,t,ht=>by
  simp only [cZ]at hf;rcases List.mem_cons.1 ht with e|ht
  ·rw [e];exact aIZ u (by omega)
  ·exact aMr ts (by omega) t ht
end
def wC (t:Term) :Bool:=decide (bD t≤60) &&decide (fK t≤14) &&fH t
theorem aI0 (t:Term)(hf:fA t<1000000) :Pure PP 15 [Term.av t] (.bool (wC t)) :=by
 have hw:=aDX t 60 14 (by omega) (by omega) (by omega) (by omega);have hn:=aIZ t hf;have hs:=sD t;unfold wC;unfold jL at hw;obtain⟨o,n,s,ks,ps⟩ :=t;refine bC (by kernel_rfl) (by simp [AV.keylessL,dF]) rfl ?_;by_cases h:bD (.mk o n s ks ps) ≤60∧fK (.mk o n s ks ps) ≤14
 · rw [if_pos (by omega)]at hw;exact Ends.eqv (aWS o n s ks ps _ _ hw (by simp;omega) hn) (by simp [h.1,h.2])
 · rw [if_neg (by omega)]at hw
   exact Ends.eqv (aWT o n s ks ps _ hw (by simp)) (by
    by_cases h1:bD (.mk o n s ks ps) ≤60
    · have:¬fK (.mk o n s ks ps) ≤14:=fun h2=>h ⟨h1,h2⟩;simp [this]
    ·simp [h1])
def mAt (m:List (Int×Int))(n:Int) :Int:= (cQ n m).getD 0
mutual
def aLu (mc:List (Int×Int)) :Pat→Pat
 | .mk f n t ps=>.mk f (if f=6 then mAt mc n else n) t (aAT mc ps)
def aAT (mc:List (Int×Int)) :List Pat→List Pat
 | [] =>[]
 |p::ps=>aLu mc p::aAT mc ps
end
section
variable (mf mc:List (Int×Int))
end
def aHe (to:List Int)(k:Int) :Int:=to.getD k.toNat 0
def one (k:Int) :Bool:=decide (k=1)
def cnt (b:Bool) :Int:=if b=true then 1 else 0
theorem Ends.val {P:Program}{m:Nat}{s:AS}{v v':AV}{h':Hp}(h:Ends P m s (.ret v) h')(hv:∀E cv,VR E v cv→VR E v' cv) :Ends P m s (.ret v') h':=fun hm E fr ccs w f fs r cl base=>by
 obtain⟨cl',w',E',s1,⟨cv,e,g⟩,r2,x2⟩ :=h hm E fr ccs w f fs r cl base;exact⟨cl',w',E',s1,⟨cv,e,hv _ _ g⟩,r2,x2⟩
mutual
def bnm :Pat→Int
 | .mk f _ _ ps=>if f=2 then 1 else bGP ps
def bGP :List Pat→Int
 | [] =>0
 |p::ps=>bnm p+bGP ps
end
def aI1 (x:Node)(k:Int) :Int:=
 if x.op=5∨x.op=27∨ (x.op=7∧k=1)then 1
 else if x.op=15∧k>0 then(match x.pats[(k-1).toNat]? with|some q=>bnm q|none=>0)else 0
structure FineN (cons:List Con) (x:Node) :Prop where
 pats:∀q∈x.pats,aV q≤12∧aFJ cons q=true
 mat:x.op=15→x.kids.length=1+x.pats.length
 let2:x.op=7→x.kids.length=2
theorem aWU {p:Prog}{x:Node}(h:tG p x=true) :FineN p.cons x:=by
 simp only [tG,Bool.and_eq_true,decide_eq_true_eq]at h;obtain⟨⟨_,h2⟩,h3⟩ :=h;refine⟨fun q hq=>?_,fun e=>?_,fun e=>?_⟩
 · have:=List.all_eq_true.1 h2 q hq;simpa [aG8]using this
 ·rw [e]at h3;simp [aPF]at h3;omega
 ·rw [e]at h3;simp [aPF]at h3;omega
structure FineP (p:Prog) :Prop where
 small:p.nodes.length≤320
 fsmall:p.funs.length≤320
 node:∀ (i:Nat) (x:Node),p.nodes[i]?=some x→FineN p.cons x∧x.kids.length≤10∧∀k∈x.kids,(i:Int) <k∧k<p.nodes.length
 funs:∀f∈p.funs,0≤f∧f<p.nodes.length
section
variable (p :Prog) (mf mc:List (Int×Int))
variable {p mf mc}
end
theorem kS {P:Program}{f:Nat}{args args':List AV}{v v':AV}{l l' lc lc':List (Nat×AObj×Bool)}{m nb nb' n2 n3:Nat}{ks:List Nat}
  (h0:rW P m (.enter f args) (aG l nb) (.ret v) (aG l' nb')) (e3:nb'-m+n2=n3) (ev:AV.ren (kU m n2 ks) v=v') (hargs:AV.renL (dV 0 nb n2 ks) args=args') (hm:Nat.ble m nb=true) (hm':Nat.ble m nb'=true)
  (hin:cS 0 ⟨⟨0,0,[],[],[],.run,.normal,none⟩,[],l,nb⟩ ks=true) (hl:oI (aG lc n2) (dV 0 nb n2 ks) l=gI (dV 0 nb n2 ks) l) (hkl:fG l)
  (hl':oI (aG lc' n3) (kU m n2 ks) l'=gI (kU m n2 ks) l') (hkl':fG l') (hpl:tB l'=true:=by kernel_rfl) (hk':eI nb' l'=true:=by kernel_rfl)
  (hx:eI n2 lc=true:=by kernel_rfl) (hx':eI n3 lc'=true:=by kernel_rfl) (hlt:ks.all (fun k=>Nat.blt k n2) =true:=by kernel_rfl) (hout:vT (namesT (kU m n2 ks) l') ks (aG lc n2) lc'=nT lc':=by kernel_rfl) (hll:nT l'= (l'.map fun p=> (aG l' nb').look p.1) :=by kernel_rfl) :
  Spec P (.enter f args') (aG lc n2) (.ret v') (aG lc' n3) :=by
 subst e3 ev;exact aO6 h0 hargs hm hm' hin hl hkl hl' hkl' hpl hk' hx hx' hlt hout hll
def bN (mf mc:List (Int×Int))(op n:Int) :Int:=if op=4 then(if 0≤n then n else -1-mAt mf (-1-n))else if op=14 then mAt mc n else n
def aCp (mf mc:List (Int×Int))(to:List Int)(x:Node) :Node:= ⟨x.op,bN mf mc x.op x.n,x.kids.map (aHe to),aAT mc x.pats⟩
section
variable (p :Prog) (mf mc:List (Int×Int)) (to:List Int)
variable {p mf mc to}
end
section
variable {p :Prog} {mf mc:List (Int×Int)}
end
end
end Go.Hb
