/-
  OWN WORK (V105, V106, H11, V35, V15, V16, H3, H4, V21, H1, H2, V22, H12, V36, V37, V38): a machine on abstract values, its soundness, ways through the text (the ways WRITTEN BY A PROGRAM), plain laws.
-/
import Derived.Test.YtabmpnmmkeieiaaGreatHF
import Derived.Test.YtabmpnmmkeieiaaGreatHG
import Derived.Test.YtabmpnmmkeieiaaGreatHH
set_option linter.defProp false
set_option linter.unusedVariables false
set_option linter.unusedSimpArgs false
set_option linter.unusedSectionVars false
set_option maxRecDepth 100000
namespace Go.Hb
open Go.Proofs
set_option maxHeartbeats 8000000
def aJ (n:Int)(s:aE)(m:Int)(a b c:Bool) :Bool:= (a||decide (n=0)) && (b||decide (s= [])) && (c||decide (m=0))
def aI (op n:Int)(s:aE)(k m:Int) :Bool:=
 if op=1 then decide (k=0) &&aJ n s m true false false&&aW n (-1000000000) 1000000000
 else if op=2 then decide (k=0) &&aJ n s m true false false&&aW n 0 1
 else if op=3∨op=21∨op=25∨op=28 then decide (k=0) &&aJ n s m false false false
 else if op=4 then decide (k=0) &&aJ n s m false true false&&dE s
 else if op=5∨op=27 then decide (k=1) &&aJ n s m false true false&&dE s
 else if op=7 then decide (k=2) &&aJ n s m false true false&&dE s
 else if op=8 then decide (k=3) &&aJ n s m false false false
 else if op=14 then decide (k≤3) &&aJ n s m false true false&&cH s
 else if op=15 then aW m 1 5&&decide (k=1+m) &&aJ n s m false false true
 else if op=16∨op=17∨op=19∨op=20∨op=23∨op=26 then decide (k=1) &&aJ n s m false false false
 else if op=24 then decide (k=1) &&aJ n s m true false false&&aW n 0 3
 else if op=6∨op=9∨op=10∨op=11∨op=12∨op=13∨op=18∨op=22 then decide (k=2) &&aJ n s m false false false
 else false
theorem aD {α:Type}(l:List α)(c:Int) : (((List.length l:Nat) :Int) ==c) =decide (((List.length l:Nat) :Int) =c) :=by
 by_cases h: ((List.length l:Nat) :Int) =c<;>simp [h]
theorem bHZ (t_op t_n:Int)(t_text:aE)(t_kids:List Term)(t_pats:List Pat)(n x y:Bool) :
  Ends PP 0 (start PP 188 [Term.av (.mk t_op t_n t_text t_kids t_pats),.bool n,.bool x,.bool y]).as (.ret (.bool (aJ t_n t_text (List.length t_pats) n x y))) (aG [] 0) :=by
 cases n with
 | true=>
  cases x with
  | true=>
   cases y with
   | true=>
    exact Ends.eqv (aZg t_op t_n t_text t_kids t_pats true true true   rfl rfl rfl) (by simp_all [aJ,aA,aD])
   | false=>
    exact Ends.eqv (aZh t_op t_n t_text t_kids t_pats true true false   rfl rfl rfl) (by simp_all [aJ,aA,aD])
  | false=>
   cases hb1: (aQ (List.length t_text) (aB t_text) 0 0)with
   | true=>
    cases y with
    | true=>
     exact Ends.eqv (aZi t_op t_n t_text t_kids t_pats true false true   rfl rfl hb1 rfl) (by simp_all [aJ,aA,aD])
    | false=>
     exact Ends.eqv (aZj t_op t_n t_text t_kids t_pats true false false   rfl rfl hb1 rfl) (by simp_all [aJ,aA,aD])
   | false=>
    exact Ends.eqv (aZk t_op t_n t_text t_kids t_pats true false y   rfl rfl hb1) (by simp_all [aJ,aA,aD])
 | false=>
  cases hb2: (t_n== (0:Int))with
  | true=>
   cases x with
   | true=>
    cases y with
    | true=>
     exact Ends.eqv (aZl t_op t_n t_text t_kids t_pats false true true   rfl hb2 rfl rfl) (by simp_all [aJ,aA,aD])
    | false=>
     exact Ends.eqv (aZm t_op t_n t_text t_kids t_pats false true false   rfl hb2 rfl rfl) (by simp_all [aJ,aA,aD])
   | false=>
    cases hb3: (aQ (List.length t_text) (aB t_text) 0 0)with
    | true=>
     cases y with
     | true=>
      exact Ends.eqv (aZn t_op t_n t_text t_kids t_pats false false true   rfl hb2 rfl hb3 rfl) (by simp_all [aJ,aA,aD])
     | false=>
      exact Ends.eqv (aZo t_op t_n t_text t_kids t_pats false false false   rfl hb2 rfl hb3 rfl) (by simp_all [aJ,aA,aD])
    | false=>
     exact Ends.eqv (aZp t_op t_n t_text t_kids t_pats false false y   rfl hb2 rfl hb3) (by simp_all [aJ,aA,aD])
  | false=>
   exact Ends.eqv (aTQ t_op t_n t_text t_kids t_pats false x y   rfl hb2) (by simp_all [aJ,aA,aD])
theorem bF (o n:Int)(s:aE)(ks:List Term)(ps:List Pat)(a b c:Bool) :Pure PP 188 [Term.av (.mk o n s ks ps),.bool a,.bool b,.bool c] (.bool (aJ n s (List.length ps) a b c)) :=
 aM (by kernel_rfl) (by simp [AV.keylessL,eF,AV.keyless]) rfl (bHZ o n s ks ps a b c)
theorem rNd_E (t_op t_n :Int)(t_text:aE)(t_kids:List Term)(t_pats:List Pat)(hks:t_kids.length<1000000)(hps:t_pats.length<1000000) :
  Ends PP 0 (start PP 122 [Term.av (.mk t_op t_n t_text t_kids t_pats)]).as (.ret (.bool (aI t_op t_n t_text (List.length t_kids) (List.length t_pats)))) (aG [] 0) :=by
 cases hb1: (t_op== (1:Int))with
 | true=>
  cases hb2: (((List.length t_kids:Nat) :Int) == (0:Int))with
  | true=>
   cases hb3: (aJ t_n t_text (List.length t_pats) true false false)with
   | true=>
    exact Ends.eqv (aZq t_op t_n t_text t_kids t_pats  (aJ t_n t_text (List.length t_pats) true false false) (aW t_n (-1000000000) 1000000000) hb1 hb2 (bF t_op t_n t_text t_kids t_pats true false false) hb3 (jL t_n (-1000000000) 1000000000)) (by simp_all [aI,aD] <;>intros<;>omega)
   | false=>
    exact Ends.eqv (aZr t_op t_n t_text t_kids t_pats  (aJ t_n t_text (List.length t_pats) true false false) hb1 hb2 (bF t_op t_n t_text t_kids t_pats true false false) hb3) (by simp_all [aI,aD] <;>intros<;>omega)
  | false=>
   exact Ends.eqv (aZs t_op t_n t_text t_kids t_pats   hb1 hb2) (by simp_all [aI,aD] <;>intros<;>omega)
 | false =>
  cases hb4: (t_op== (2:Int))with
  | true=>
   cases hb5: (((List.length t_kids:Nat) :Int) == (0:Int))with
   | true=>
    cases hb6: (aJ t_n t_text (List.length t_pats) true false false)with
    | true=>
     exact Ends.eqv (aZt t_op t_n t_text t_kids t_pats  (aJ t_n t_text (List.length t_pats) true false false) (aW t_n 0 1) hb1 hb4 hb5 (bF t_op t_n t_text t_kids t_pats true false false) hb6 (jL t_n 0 1)) (by simp_all [aI,aD] <;>intros<;>omega)
    | false=>
     exact Ends.eqv (aZu t_op t_n t_text t_kids t_pats  (aJ t_n t_text (List.length t_pats) true false false) hb1 hb4 hb5 (bF t_op t_n t_text t_kids t_pats true false false) hb6) (by simp_all [aI,aD] <;>intros<;>omega)
   | false=>
    exact Ends.eqv (aZv t_op t_n t_text t_kids t_pats   hb1 hb4 hb5) (by simp_all [aI,aD] <;>intros<;>omega)
  | false =>
   cases hb7: (t_op== (3:Int))with
   | true=>
    cases hb8: (((List.length t_kids:Nat) :Int) == (0:Int))with
    | true=>
     exact Ends.eqv (aZw t_op t_n t_text t_kids t_pats  (aJ t_n t_text (List.length t_pats) false false false) hb1 hb4 hb7 hb8 (bF t_op t_n t_text t_kids t_pats false false false)) (by simp_all [aI,aD] <;>intros<;>omega)
    | false=>
     exact Ends.eqv (aZx t_op t_n t_text t_kids t_pats   hb1 hb4 hb7 hb8) (by simp_all [aI,aD] <;>intros<;>omega)
   | false =>
    cases hb9: (t_op== (21:Int))with
    | true=>
     cases hb10: (((List.length t_kids:Nat) :Int) == (0:Int))with
     | true=>
      exact Ends.eqv (aZy t_op t_n t_text t_kids t_pats  (aJ t_n t_text (List.length t_pats) false false false) hb1 hb4 hb7 hb9 hb10 (bF t_op t_n t_text t_kids t_pats false false false)) (by simp_all [aI,aD] <;>intros<;>omega)
     | false=>
      exact Ends.eqv (aZz t_op t_n t_text t_kids t_pats   hb1 hb4 hb7 hb9 hb10) (by simp_all [aI,aD] <;>intros<;>omega)
    | false =>
     cases hb11: (t_op== (25:Int))with
     | true=>
      cases hb12: (((List.length t_kids:Nat) :Int) == (0:Int))with
      | true=>
       exact Ends.eqv (aTR t_op t_n t_text t_kids t_pats  (aJ t_n t_text (List.length t_pats) false false false) hb1 hb4 hb7 hb9 hb11 hb12 (bF t_op t_n t_text t_kids t_pats false false false)) (by simp_all [aI,aD] <;>intros<;>omega)
      | false=>
       exact Ends.eqv (aTS t_op t_n t_text t_kids t_pats   hb1 hb4 hb7 hb9 hb11 hb12) (by simp_all [aI,aD] <;>intros<;>omega)
     | false =>
      cases hb13: (t_op== (28:Int))with
      | true=>
       cases hb14: (((List.length t_kids:Nat) :Int) == (0:Int))with
       | true=>
        exact Ends.eqv (aTT t_op t_n t_text t_kids t_pats  (aJ t_n t_text (List.length t_pats) false false false) hb1 hb4 hb7 hb9 hb11 hb13 hb14 (bF t_op t_n t_text t_kids t_pats false false false)) (by simp_all [aI,aD] <;>intros<;>omega)
       | false=>
        exact Ends.eqv (aTU t_op t_n t_text t_kids t_pats   hb1 hb4 hb7 hb9 hb11 hb13 hb14) (by simp_all [aI,aD] <;>intros<;>omega)
      | false =>
       cases hb15: (t_op== (4:Int))with
       | true=>
        cases hb16: (((List.length t_kids:Nat) :Int) == (0:Int))with
        | true=>
         cases hb17: (aJ t_n t_text (List.length t_pats) false true false)with
         | true=>
          exact Ends.eqv (aTV t_op t_n t_text t_kids t_pats  (aJ t_n t_text (List.length t_pats) false true false) (dE t_text) hb1 hb4 hb7 hb9 hb11 hb13 hb15 hb16 (bF t_op t_n t_text t_kids t_pats false true false) hb17 (sF t_text)) (by simp_all [aI,aD] <;>intros<;>omega)
         | false=>
          exact Ends.eqv (aTW t_op t_n t_text t_kids t_pats  (aJ t_n t_text (List.length t_pats) false true false) hb1 hb4 hb7 hb9 hb11 hb13 hb15 hb16 (bF t_op t_n t_text t_kids t_pats false true false) hb17) (by simp_all [aI,aD] <;>intros<;>omega)
        | false=>
         exact Ends.eqv (aTX t_op t_n t_text t_kids t_pats   hb1 hb4 hb7 hb9 hb11 hb13 hb15 hb16) (by simp_all [aI,aD] <;>intros<;>omega)
       | false =>
        cases hb18: (t_op== (5:Int))with
        | true=>
         cases hb19: (((List.length t_kids:Nat) :Int) == (1:Int))with
         | true=>
          cases hb20: (aJ t_n t_text (List.length t_pats) false true false)with
          | true=>
           exact Ends.eqv (aTY t_op t_n t_text t_kids t_pats  (aJ t_n t_text (List.length t_pats) false true false) (dE t_text) hb1 hb4 hb7 hb9 hb11 hb13 hb15 hb18 hb19 (bF t_op t_n t_text t_kids t_pats false true false) hb20 (sF t_text)) (by simp_all [aI,aD] <;>intros<;>omega)
          | false=>
           exact Ends.eqv (aTZ t_op t_n t_text t_kids t_pats  (aJ t_n t_text (List.length t_pats) false true false) hb1 hb4 hb7 hb9 hb11 hb13 hb15 hb18 hb19 (bF t_op t_n t_text t_kids t_pats false true false) hb20) (by simp_all [aI,aD] <;>intros<;>omega)
         | false=>
          exact Ends.eqv (aT0 t_op t_n t_text t_kids t_pats   hb1 hb4 hb7 hb9 hb11 hb13 hb15 hb18 hb19) (by simp_all [aI,aD] <;>intros<;>omega)
        | false =>
         cases hb21: (t_op== (27:Int))with
         | true=>
          cases hb22: (((List.length t_kids:Nat) :Int) == (1:Int))with
          | true=>
           cases hb23: (aJ t_n t_text (List.length t_pats) false true false)with
           | true=>
            exact Ends.eqv (aT1 t_op t_n t_text t_kids t_pats  (aJ t_n t_text (List.length t_pats) false true false) (dE t_text) hb1 hb4 hb7 hb9 hb11 hb13 hb15 hb18 hb21 hb22 (bF t_op t_n t_text t_kids t_pats false true false) hb23 (sF t_text)) (by simp_all [aI,aD] <;>intros<;>omega)
           | false=>
            exact Ends.eqv (aT2 t_op t_n t_text t_kids t_pats  (aJ t_n t_text (List.length t_pats) false true false) hb1 hb4 hb7 hb9 hb11 hb13 hb15 hb18 hb21 hb22 (bF t_op t_n t_text t_kids t_pats false true false) hb23) (by simp_all [aI,aD] <;>intros<;>omega)
          | false=>
           exact Ends.eqv (aT3 t_op t_n t_text t_kids t_pats   hb1 hb4 hb7 hb9 hb11 hb13 hb15 hb18 hb21 hb22) (by simp_all [aI,aD] <;>intros<;>omega)
         | false =>
          cases hb24: (t_op== (7:Int))with
          | true=>
           cases hb25: (((List.length t_kids:Nat) :Int) == (2:Int))with
           | true=>
            cases hb26: (aJ t_n t_text (List.length t_pats) false true false)with
            | true=>
             exact Ends.eqv (aT4 t_op t_n t_text t_kids t_pats  (aJ t_n t_text (List.length t_pats) false true false) (dE t_text) hb1 hb4 hb7 hb9 hb11 hb13 hb15 hb18 hb21 hb24 hb25 (bF t_op t_n t_text t_kids t_pats false true false) hb26 (sF t_text)) (by simp_all [aI,aD] <;>intros<;>omega)
            | false=>
             exact Ends.eqv (aT5 t_op t_n t_text t_kids t_pats  (aJ t_n t_text (List.length t_pats) false true false) hb1 hb4 hb7 hb9 hb11 hb13 hb15 hb18 hb21 hb24 hb25 (bF t_op t_n t_text t_kids t_pats false true false) hb26) (by simp_all [aI,aD] <;>intros<;>omega)
           | false=>
            exact Ends.eqv (aT6 t_op t_n t_text t_kids t_pats   hb1 hb4 hb7 hb9 hb11 hb13 hb15 hb18 hb21 hb24 hb25) (by simp_all [aI,aD] <;>intros<;>omega)
          | false =>
           cases hb27: (t_op== (8:Int))with
           | true=>
            cases hb28: (((List.length t_kids:Nat) :Int) == (3:Int))with
            | true=>
             exact Ends.eqv (aT7 t_op t_n t_text t_kids t_pats  (aJ t_n t_text (List.length t_pats) false false false) hb1 hb4 hb7 hb9 hb11 hb13 hb15 hb18 hb21 hb24 hb27 hb28 (bF t_op t_n t_text t_kids t_pats false false false)) (by simp_all [aI,aD] <;>intros<;>omega)
            | false=>
             exact Ends.eqv (aT8 t_op t_n t_text t_kids t_pats   hb1 hb4 hb7 hb9 hb11 hb13 hb15 hb18 hb21 hb24 hb27 hb28) (by simp_all [aI,aD] <;>intros<;>omega)
           | false =>
            cases hb29: (t_op== (14:Int))with
            | true=>
             cases hb30: (decide (((List.length t_kids:Nat) :Int) ≤ (3:Int)))with
             | true=>
              cases hb31: (aJ t_n t_text (List.length t_pats) false true false)with
              | true=>
               exact Ends.eqv (aT9 t_op t_n t_text t_kids t_pats  (aJ t_n t_text (List.length t_pats) false true false) (cH t_text) hb1 hb4 hb7 hb9 hb11 hb13 hb15 hb18 hb21 hb24 hb27 hb29 hb30 (bF t_op t_n t_text t_kids t_pats false true false) hb31 (qO t_text)) (by simp_all [aI,aD] <;>intros<;>omega)
              | false=>
               exact Ends.eqv (aUa t_op t_n t_text t_kids t_pats  (aJ t_n t_text (List.length t_pats) false true false) hb1 hb4 hb7 hb9 hb11 hb13 hb15 hb18 hb21 hb24 hb27 hb29 hb30 (bF t_op t_n t_text t_kids t_pats false true false) hb31) (by simp_all [aI,aD] <;>intros<;>omega)
             | false=>
              exact Ends.eqv (aUb t_op t_n t_text t_kids t_pats   hb1 hb4 hb7 hb9 hb11 hb13 hb15 hb18 hb21 hb24 hb27 hb29 hb30) (by simp_all [aI,aD] <;>intros<;>omega)
            | false =>
             cases hb32: (t_op== (15:Int))with
             | true=>
              cases hb33: (aW ((List.length t_pats:Nat) :Int) 1 5)with
              | true=>
               cases hb34: (((List.length t_kids:Nat) :Int) == ((1:Int) + ((List.length t_pats:Nat) :Int)))with
               | true=>
                exact Ends.eqv (aUc t_op t_n t_text t_kids t_pats  (aW ((List.length t_pats:Nat) :Int) 1 5) (aJ t_n t_text (List.length t_pats) false false true) hb1 hb4 hb7 hb9 hb11 hb13 hb15 hb18 hb21 hb24 hb27 hb29 hb32 (jL ((List.length t_pats:Nat) :Int) 1 5) hb33 sdI hb34 (bF t_op t_n t_text t_kids t_pats false false true)) (by simp_all [aI,aD] <;>intros<;>omega)
               | false=>
                exact Ends.eqv (aUd t_op t_n t_text t_kids t_pats  (aW ((List.length t_pats:Nat) :Int) 1 5) hb1 hb4 hb7 hb9 hb11 hb13 hb15 hb18 hb21 hb24 hb27 hb29 hb32 (jL ((List.length t_pats:Nat) :Int) 1 5) hb33 sdI hb34) (by simp_all [aI,aD] <;>intros<;>omega)
              | false=>
               exact Ends.eqv (aUe t_op t_n t_text t_kids t_pats  (aW ((List.length t_pats:Nat) :Int) 1 5) hb1 hb4 hb7 hb9 hb11 hb13 hb15 hb18 hb21 hb24 hb27 hb29 hb32 (jL ((List.length t_pats:Nat) :Int) 1 5) hb33) (by simp_all [aI,aD] <;>intros<;>omega)
             | false =>
              cases hb35: (t_op== (16:Int))with
              | true=>
               cases hb36: (((List.length t_kids:Nat) :Int) == (1:Int))with
               | true=>
                exact Ends.eqv (aUf t_op t_n t_text t_kids t_pats  (aJ t_n t_text (List.length t_pats) false false false) hb1 hb4 hb7 hb9 hb11 hb13 hb15 hb18 hb21 hb24 hb27 hb29 hb32 hb35 hb36 (bF t_op t_n t_text t_kids t_pats false false false)) (by simp_all [aI,aD] <;>intros<;>omega)
               | false=>
                exact Ends.eqv (aUg t_op t_n t_text t_kids t_pats   hb1 hb4 hb7 hb9 hb11 hb13 hb15 hb18 hb21 hb24 hb27 hb29 hb32 hb35 hb36) (by simp_all [aI,aD] <;>intros<;>omega)
              | false =>
               cases hb37: (t_op== (17:Int))with
               | true=>
                cases hb38: (((List.length t_kids:Nat) :Int) == (1:Int))with
                | true=>
                 exact Ends.eqv (aUh t_op t_n t_text t_kids t_pats  (aJ t_n t_text (List.length t_pats) false false false) hb1 hb4 hb7 hb9 hb11 hb13 hb15 hb18 hb21 hb24 hb27 hb29 hb32 hb35 hb37 hb38 (bF t_op t_n t_text t_kids t_pats false false false)) (by simp_all [aI,aD] <;>intros<;>omega)
                | false=>
                 exact Ends.eqv (aUi t_op t_n t_text t_kids t_pats   hb1 hb4 hb7 hb9 hb11 hb13 hb15 hb18 hb21 hb24 hb27 hb29 hb32 hb35 hb37 hb38) (by simp_all [aI,aD] <;>intros<;>omega)
               | false =>
                cases hb39: (t_op== (19:Int))with
                | true=>
                 cases hb40: (((List.length t_kids:Nat) :Int) == (1:Int))with
                 | true=>
                  exact Ends.eqv (aUj t_op t_n t_text t_kids t_pats  (aJ t_n t_text (List.length t_pats) false false false) hb1 hb4 hb7 hb9 hb11 hb13 hb15 hb18 hb21 hb24 hb27 hb29 hb32 hb35 hb37 hb39 hb40 (bF t_op t_n t_text t_kids t_pats false false false)) (by simp_all [aI,aD] <;>intros<;>omega)
                 | false=>
                  exact Ends.eqv (aUk t_op t_n t_text t_kids t_pats   hb1 hb4 hb7 hb9 hb11 hb13 hb15 hb18 hb21 hb24 hb27 hb29 hb32 hb35 hb37 hb39 hb40) (by simp_all [aI,aD] <;>intros<;>omega)
                | false =>
                 cases hb41: (t_op== (20:Int))with
                 | true=>
                  cases hb42: (((List.length t_kids:Nat) :Int) == (1:Int))with
                  | true=>
                   exact Ends.eqv (aUl t_op t_n t_text t_kids t_pats  (aJ t_n t_text (List.length t_pats) false false false) hb1 hb4 hb7 hb9 hb11 hb13 hb15 hb18 hb21 hb24 hb27 hb29 hb32 hb35 hb37 hb39 hb41 hb42 (bF t_op t_n t_text t_kids t_pats false false false)) (by simp_all [aI,aD] <;>intros<;>omega)
                  | false=>
                   exact Ends.eqv (aUm t_op t_n t_text t_kids t_pats   hb1 hb4 hb7 hb9 hb11 hb13 hb15 hb18 hb21 hb24 hb27 hb29 hb32 hb35 hb37 hb39 hb41 hb42) (by simp_all [aI,aD] <;>intros<;>omega)
                 | false =>
                  cases hb43: (t_op== (23:Int))with
                  | true=>
                   cases hb44: (((List.length t_kids:Nat) :Int) == (1:Int))with
                   | true=>
                    exact Ends.eqv (aUn t_op t_n t_text t_kids t_pats  (aJ t_n t_text (List.length t_pats) false false false) hb1 hb4 hb7 hb9 hb11 hb13 hb15 hb18 hb21 hb24 hb27 hb29 hb32 hb35 hb37 hb39 hb41 hb43 hb44 (bF t_op t_n t_text t_kids t_pats false false false)) (by simp_all [aI,aD] <;>intros<;>omega)
                   | false=>
                    exact Ends.eqv (aUo t_op t_n t_text t_kids t_pats   hb1 hb4 hb7 hb9 hb11 hb13 hb15 hb18 hb21 hb24 hb27 hb29 hb32 hb35 hb37 hb39 hb41 hb43 hb44) (by simp_all [aI,aD] <;>intros<;>omega)
                  | false =>
                   cases hb45: (t_op== (26:Int))with
                   | true=>
                    cases hb46: (((List.length t_kids:Nat) :Int) == (1:Int))with
                    | true=>
                     exact Ends.eqv (aUp t_op t_n t_text t_kids t_pats  (aJ t_n t_text (List.length t_pats) false false false) hb1 hb4 hb7 hb9 hb11 hb13 hb15 hb18 hb21 hb24 hb27 hb29 hb32 hb35 hb37 hb39 hb41 hb43 hb45 hb46 (bF t_op t_n t_text t_kids t_pats false false false)) (by simp_all [aI,aD] <;>intros<;>omega)
                    | false=>
                     exact Ends.eqv (aUq t_op t_n t_text t_kids t_pats   hb1 hb4 hb7 hb9 hb11 hb13 hb15 hb18 hb21 hb24 hb27 hb29 hb32 hb35 hb37 hb39 hb41 hb43 hb45 hb46) (by simp_all [aI,aD] <;>intros<;>omega)
                   | false =>
                    cases hb47: (t_op== (24:Int))with
                    | true=>
                     cases hb48: (((List.length t_kids:Nat) :Int) == (1:Int))with
                     | true=>
                      cases hb49: (aJ t_n t_text (List.length t_pats) true false false)with
                      | true=>
                       exact Ends.eqv (aUr t_op t_n t_text t_kids t_pats  (aJ t_n t_text (List.length t_pats) true false false) (aW t_n 0 3) hb1 hb4 hb7 hb9 hb11 hb13 hb15 hb18 hb21 hb24 hb27 hb29 hb32 hb35 hb37 hb39 hb41 hb43 hb45 hb47 hb48 (bF t_op t_n t_text t_kids t_pats true false false) hb49 (jL t_n 0 3)) (by simp_all [aI,aD] <;>intros<;>omega)
                      | false=>
                       exact Ends.eqv (aUs t_op t_n t_text t_kids t_pats  (aJ t_n t_text (List.length t_pats) true false false) hb1 hb4 hb7 hb9 hb11 hb13 hb15 hb18 hb21 hb24 hb27 hb29 hb32 hb35 hb37 hb39 hb41 hb43 hb45 hb47 hb48 (bF t_op t_n t_text t_kids t_pats true false false) hb49) (by simp_all [aI,aD] <;>intros<;>omega)
                     | false=>
                      exact Ends.eqv (aUt t_op t_n t_text t_kids t_pats   hb1 hb4 hb7 hb9 hb11 hb13 hb15 hb18 hb21 hb24 hb27 hb29 hb32 hb35 hb37 hb39 hb41 hb43 hb45 hb47 hb48) (by simp_all [aI,aD] <;>intros<;>omega)
                    | false =>
                     cases hb50: (t_op== (6:Int))with
                     | true=>
                      cases hb51: (((List.length t_kids:Nat) :Int) == (2:Int))with
                      | true=>
                       exact Ends.eqv (aUu t_op t_n t_text t_kids t_pats  (aJ t_n t_text (List.length t_pats) false false false) hb1 hb4 hb7 hb9 hb11 hb13 hb15 hb18 hb21 hb24 hb27 hb29 hb32 hb35 hb37 hb39 hb41 hb43 hb45 hb47 hb50 hb51 (bF t_op t_n t_text t_kids t_pats false false false)) (by simp_all [aI,aD] <;>intros<;>omega)
                      | false=>
                       exact Ends.eqv (aUv t_op t_n t_text t_kids t_pats   hb1 hb4 hb7 hb9 hb11 hb13 hb15 hb18 hb21 hb24 hb27 hb29 hb32 hb35 hb37 hb39 hb41 hb43 hb45 hb47 hb50 hb51) (by simp_all [aI,aD] <;>intros<;>omega)
                     | false =>
                      cases hb52: (t_op== (9:Int))with
                      | true=>
                       cases hb53: (((List.length t_kids:Nat) :Int) == (2:Int))with
                       | true=>
                        exact Ends.eqv (aUw t_op t_n t_text t_kids t_pats  (aJ t_n t_text (List.length t_pats) false false false) hb1 hb4 hb7 hb9 hb11 hb13 hb15 hb18 hb21 hb24 hb27 hb29 hb32 hb35 hb37 hb39 hb41 hb43 hb45 hb47 hb50 hb52 hb53 (bF t_op t_n t_text t_kids t_pats false false false)) (by simp_all [aI,aD] <;>intros<;>omega)
                       | false=>
                        exact Ends.eqv (aUx t_op t_n t_text t_kids t_pats   hb1 hb4 hb7 hb9 hb11 hb13 hb15 hb18 hb21 hb24 hb27 hb29 hb32 hb35 hb37 hb39 hb41 hb43 hb45 hb47 hb50 hb52 hb53) (by simp_all [aI,aD] <;>intros<;>omega)
                      | false =>
                       cases hb54: (t_op== (10:Int))with
                       | true=>
                        cases hb55: (((List.length t_kids:Nat) :Int) == (2:Int))with
                        | true=>
                         exact Ends.eqv (aUy t_op t_n t_text t_kids t_pats  (aJ t_n t_text (List.length t_pats) false false false) hb1 hb4 hb7 hb9 hb11 hb13 hb15 hb18 hb21 hb24 hb27 hb29 hb32 hb35 hb37 hb39 hb41 hb43 hb45 hb47 hb50 hb52 hb54 hb55 (bF t_op t_n t_text t_kids t_pats false false false)) (by simp_all [aI,aD] <;>intros<;>omega)
                        | false=>
                         exact Ends.eqv (aUz t_op t_n t_text t_kids t_pats   hb1 hb4 hb7 hb9 hb11 hb13 hb15 hb18 hb21 hb24 hb27 hb29 hb32 hb35 hb37 hb39 hb41 hb43 hb45 hb47 hb50 hb52 hb54 hb55) (by simp_all [aI,aD] <;>intros<;>omega)
                       | false =>
                        cases hb56: (t_op== (11:Int))with
                        | true=>
                         cases hb57: (((List.length t_kids:Nat) :Int) == (2:Int))with
                         | true=>
                          exact Ends.eqv (aUA t_op t_n t_text t_kids t_pats  (aJ t_n t_text (List.length t_pats) false false false) hb1 hb4 hb7 hb9 hb11 hb13 hb15 hb18 hb21 hb24 hb27 hb29 hb32 hb35 hb37 hb39 hb41 hb43 hb45 hb47 hb50 hb52 hb54 hb56 hb57 (bF t_op t_n t_text t_kids t_pats false false false)) (by simp_all [aI,aD] <;>intros<;>omega)
                         | false=>
                          exact Ends.eqv (aUB t_op t_n t_text t_kids t_pats   hb1 hb4 hb7 hb9 hb11 hb13 hb15 hb18 hb21 hb24 hb27 hb29 hb32 hb35 hb37 hb39 hb41 hb43 hb45 hb47 hb50 hb52 hb54 hb56 hb57) (by simp_all [aI,aD] <;>intros<;>omega)
                        | false=>
                         cases hb58: (t_op== (12:Int))with
                         | true=>
                          cases hb59: (((List.length t_kids:Nat) :Int) == (2:Int))with
                          | true=>
                           exact Ends.eqv (aUC t_op t_n t_text t_kids t_pats  (aJ t_n t_text (List.length t_pats) false false false) hb1 hb4 hb7 hb9 hb11 hb13 hb15 hb18 hb21 hb24 hb27 hb29 hb32 hb35 hb37 hb39 hb41 hb43 hb45 hb47 hb50 hb52 hb54 hb56 hb58 hb59 (bF t_op t_n t_text t_kids t_pats false false false)) (by simp_all [aI,aD] <;>intros<;>omega)
                          | false=>
                           exact Ends.eqv (aUD t_op t_n t_text t_kids t_pats   hb1 hb4 hb7 hb9 hb11 hb13 hb15 hb18 hb21 hb24 hb27 hb29 hb32 hb35 hb37 hb39 hb41 hb43 hb45 hb47 hb50 hb52 hb54 hb56 hb58 hb59) (by simp_all [aI,aD] <;>intros<;>omega)
                         | false=>
                          cases hb60: (t_op== (13:Int))with
                          | true=>
                           cases hb61: (((List.length t_kids:Nat) :Int) == (2:Int))with
                           | true=>
                            exact Ends.eqv (aUE t_op t_n t_text t_kids t_pats  (aJ t_n t_text (List.length t_pats) false false false) hb1 hb4 hb7 hb9 hb11 hb13 hb15 hb18 hb21 hb24 hb27 hb29 hb32 hb35 hb37 hb39 hb41 hb43 hb45 hb47 hb50 hb52 hb54 hb56 hb58 hb60 hb61 (bF t_op t_n t_text t_kids t_pats false false false)) (by simp_all [aI,aD] <;>intros<;>omega)
                           | false=>
                            exact Ends.eqv (aUF t_op t_n t_text t_kids t_pats   hb1 hb4 hb7 hb9 hb11 hb13 hb15 hb18 hb21 hb24 hb27 hb29 hb32 hb35 hb37 hb39 hb41 hb43 hb45 hb47 hb50 hb52 hb54 hb56 hb58 hb60 hb61) (by simp_all [aI,aD] <;>intros<;>omega)
                          | false=>
                           cases hb62: (t_op== (18:Int))with
                           | true=>
                            cases hb63: (((List.length t_kids:Nat) :Int) == (2:Int))with
                            | true=>
                             exact Ends.eqv (aUG t_op t_n t_text t_kids t_pats  (aJ t_n t_text (List.length t_pats) false false false) hb1 hb4 hb7 hb9 hb11 hb13 hb15 hb18 hb21 hb24 hb27 hb29 hb32 hb35 hb37 hb39 hb41 hb43 hb45 hb47 hb50 hb52 hb54 hb56 hb58 hb60 hb62 hb63 (bF t_op t_n t_text t_kids t_pats false false false)) (by simp_all [aI,aD] <;>intros<;>omega)
                            | false=>
                             exact Ends.eqv (aUH t_op t_n t_text t_kids t_pats   hb1 hb4 hb7 hb9 hb11 hb13 hb15 hb18 hb21 hb24 hb27 hb29 hb32 hb35 hb37 hb39 hb41 hb43 hb45 hb47 hb50 hb52 hb54 hb56 hb58 hb60 hb62 hb63) (by simp_all [aI,aD] <;>intros<;>omega)
                           | false=>
                            cases hb64: (t_op== (22:Int))with
                            | true=>
                             cases hb65: (((List.length t_kids:Nat) :Int) == (2:Int))with
                             | true=>
                              exact Ends.eqv (aUI t_op t_n t_text t_kids t_pats  (aJ t_n t_text (List.length t_pats) false false false) hb1 hb4 hb7 hb9 hb11 hb13 hb15 hb18 hb21 hb24 hb27 hb29 hb32 hb35 hb37 hb39 hb41 hb43 hb45 hb47 hb50 hb52 hb54 hb56 hb58 hb60 hb62 hb64 hb65 (bF t_op t_n t_text t_kids t_pats false false false)) (by simp_all [aI,aD] <;>intros<;>omega)
                             | false=>
                              exact Ends.eqv (aUJ t_op t_n t_text t_kids t_pats   hb1 hb4 hb7 hb9 hb11 hb13 hb15 hb18 hb21 hb24 hb27 hb29 hb32 hb35 hb37 hb39 hb41 hb43 hb45 hb47 hb50 hb52 hb54 hb56 hb58 hb60 hb62 hb64 hb65) (by simp_all [aI,aD] <;>intros<;>omega)
                            | false=>
                             exact Ends.eqv (aUK t_op t_n t_text t_kids t_pats   hb1 hb4 hb7 hb9 hb11 hb13 hb15 hb18 hb21 hb24 hb27 hb29 hb32 hb35 hb37 hb39 hb41 hb43 hb45 hb47 hb50 hb52 hb54 hb56 hb58 hb60 hb62 hb64) (by simp_all [aI,aD] <;>intros<;>omega)
theorem aUN (o n:Int)(s:aE)(ks:List Term)(ps:List Pat)(hks:ks.length<1000000)(hps:ps.length<1000000) :Pure PP 122 [Term.av (.mk o n s ks ps)] (.bool (aI o n s (List.length ks) (List.length ps))) :=
 aM (by kernel_rfl) (by simp [AV.keylessL,eF]) rfl (rNd_E o n s ks ps hks hps)
end Go.Hb
namespace Go.Hb
open Go.Proofs
set_option maxHeartbeats 4000000
mutual
def hJ :Term→Nat
 | .mk _ _ _ ks _=>eW ks+1
def eW :List Term→Nat
 | [] =>0
 |t::ts=>hJ t+eW ts
end
mutual
def iK :Term→Nat
 | .mk _ _ _ ks _=>fR ks+1
def fR :List Term→Nat
 | [] =>0
 |t::ts=>max (iK t) (fR ts)
end
mutual
def mY :Term→Nat
 | .mk _ _ _ ks ps=>lK ks+aK ps+1
def lK :List Term→Nat
 | [] =>0
 |t::ts=>mY t+lK ts
end
mutual
def mZ :Term→Bool
 | .mk o n s ks ps=>aI o n s (List.length ks) (List.length ps) &&ps.all aD7&&uC ks
def uC :List Term→Bool
 | [] =>true
 |t::ts=>mZ t&&uC ts
end
theorem xN :∀ts:List Term,ts.length≤lK ts
 | [] =>by simp
 | .mk o n s ks ps::ts=>by have:=xN ts;simp only [lK,mY,List.length_cons];omega
def kA (t:Term)(left dep:Int) :Int:=if(hJ t:Int) ≤left∧ (iK t:Int) ≤dep then left-hJ t else -1
def mL (ts:List Term)(left dep:Int) :Int:=if left<0 then left else if(eW ts:Int) ≤left∧ (fR ts:Int) ≤dep then left-eW ts else -1
theorem sG :∀t:Term,1≤hJ t∧1≤iK t
 | .mk _ _ _ ks _=>by simp only [hJ,iK];omega
theorem aHM (t:Term)(ts:List Term){left dep:Int}(h0:0≤left)(hd:0≤dep) :mL (t::ts) left dep=mL ts (kA t left dep) dep:=by
 have hp:=sG t;have hm: ((max (iK t) (fR ts) :Nat) :Int) ≤dep↔ (iK t:Int) ≤dep∧ (fR ts:Int) ≤dep:=by omega
 unfold mL kA;rw [eW,fR];by_cases h1: (hJ t:Int) ≤left∧ (iK t:Int) ≤dep
 · rw [if_pos h1,if_neg (show ¬left<0 by omega),if_neg (show ¬left- (hJ t:Int) <0 by omega)];by_cases h2: (eW ts:Int) ≤left-hJ t∧ (fR ts:Int) ≤dep
   · rw [if_pos h2,if_pos ⟨by omega,by omega⟩];omega
   ·rw [if_neg h2,if_neg (by rintro⟨a,b⟩;exact h2 ⟨by omega,by omega⟩)]
 ·rw [if_neg h1,if_pos (show(-1:Int) <0 by omega),if_neg (show ¬left<0 by omega),if_neg (by rintro⟨a,b⟩;exact h1 ⟨by omega,by omega⟩)]
theorem aKk (ts:List Term){left dep:Int}(h:left<0) :mL ts left dep=left:=by unfold mL;rw [if_pos h]
theorem aKl (o n:Int)(s:aE)(ks:List Term)(ps:List Pat)(l0 dep:Int)(hd:1≤dep)(hd2:dep≤1000)(ih:∀t∈ks,∀left:Int,0≤left→left≤1000→Pure PP 57 [Term.av t,.int .i64 left,.int .i64 (dep-1)] (.int .i64 (kA t left (dep-1)))) :
  ∀ (ts:List Term) (i:Nat) (left:Int),ks.drop i=ts→ -1≤left→ (i:Int) +left≤1000→Ends PP 0 (aHJ o n s ks ps l0 dep left (i:Int)).as (.ret (.int .i64 (mL ts left (dep-1)))) (aG [] 0)
 | [],i,left,h,h1,h2=>by
  have:=bD h;have e:mL [] left (dep-1) =left:=by
   unfold mL;by_cases hn:left<0
   ·rw [if_pos hn]
   · rw [if_neg hn,if_pos (by simp only [eW,fR];omega)];simp only [eW];omega
  rw [e];exact aZf o n s ks ps l0 dep left i sd
 | .mk o' n' s' ks' ps'::ts,i,left,h,h1,h2=>by
  obtain⟨g1,g2,g3⟩ :=bB h;by_cases h0:0≤left
  · have hp:=sG (.mk o' n' s' ks' ps');rw [aHM _ _ h0 (by omega)];refine(aZd o n s ks ps l0 dep left i o' n' s' ks' ps' (kA (.mk o' n' s' ks' ps') left (dep-1)) sd (by simp;omega) sd sd sd (ih _ (List.mem_of_getElem? g1) left h0 (by omega)) sd).ends ?_;exact aKl o n s ks ps l0 dep hd hd2 ih ts (i+1) _ g2 (by unfold kA;split<;>omega) (by unfold kA;split<;>omega)
  · rw [aKk _ (by omega)];exact aZe o n s ks ps l0 dep left i sd (by simp;omega)
mutual
theorem aKm :∀ (t:Term) (left dep:Int),-1≤left→left≤1000→0≤dep→dep≤1000→Pure PP 57 [Term.av t,.int .i64 left,.int .i64 dep] (.int .i64 (kA t left dep))
 | .mk o n s ks ps,left,dep,h1,h2,h3,h4=>by
  refine aM (by kernel_rfl) (by simp [AV.keylessL,eF,AV.keyless]) rfl ?_;by_cases ha:left<1
  · have e:kA (.mk o n s ks ps) left dep= -1:=by unfold kA;rw [if_neg (by simp only [hJ];omega)]
    rw [e];exact aZa o n s ks ps left dep (by simp [ha])
  · by_cases hb:dep<1
    · have e:kA (.mk o n s ks ps) left dep= -1:=by unfold kA;rw [if_neg (by simp only [iK];omega)]
      rw [e];exact aZb o n s ks ps left dep (by simp;omega) (by simp [hb])
    · have e:kA (.mk o n s ks ps) left dep=mL ks (left-1) (dep-1) :=by
       have e1:hJ (.mk o n s ks ps) =eW ks+1:=by rw [hJ]
       have e2:iK (.mk o n s ks ps) =fR ks+1:=by rw [iK]
       unfold kA mL;rw [if_neg (show ¬left-1<0 by omega)];by_cases hc: (eW ks:Int) ≤left-1∧ (fR ks:Int) ≤dep-1
       ·rw [if_pos hc,if_pos (by omega)];omega
       ·rw [if_neg hc,if_neg (by omega)]
      rw [e];refine(aZc o n s ks ps left dep (by simp;omega) (by simp;omega) sd).ends ?_;exact aKl o n s ks ps left dep (by omega) h4 (fun t ht l a b=>aOk ks (dep-1) (by omega) (by omega) t ht l (by omega) b) ks 0 (left-1) rfl (by omega) (by omega)
theorem aOk :∀ (ts:List Term) (dep:Int),0≤dep→dep≤1000→∀t∈ts,∀left:Int,-1≤left→left≤1000→Pure PP 57 [Term.av t,.int .i64 left,.int .i64 dep] (.int .i64 (kA t left dep))
 | [],_,_,_,t,ht=>by cases ht
 | u::ts,dep,h3,h4,t,ht=>by
  rcases List.mem_cons.1 ht with e|ht
  ·rw [e];exact fun left a b=>aKm u left dep a b h3 h4
  ·exact aOk ts dep h3 h4 t ht
end
theorem bH0 (o n:Int)(s:aE)(ks:List Term)(ps:List Pat)(hl:ks.length<1000000)(ih:∀t∈ks,Pure PP 63 [Term.av t] (.bool (mZ t))) :
  ∀ (ts:List Term) (i:Nat),ks.drop i=ts→Ends PP 0 (aHL o n s ks ps (i:Int)).as (.ret (.bool (uC ts))) (aG [] 0)
 | [],i,h=>by
  have:=bD h;exact aZH o n s ks ps i sd
 | .mk o' n' s' ks' ps'::ts,i,h=>by
  obtain⟨g1,g2,g3⟩ :=bB h;have hp:=ih _ (List.mem_of_getElem? g1);rw [uC];cases hb:mZ (.mk o' n' s' ks' ps')with
  | true=>
   rw [hb]at hp;exact(aZG o n s ks ps i o' n' s' ks' ps' true sd sd sd hp rfl sd).ends (Ends.eqv (bH0 o n s ks ps hl ih ts (i+1) g2) (by simp))
  | false=>
   rw [hb]at hp;exact Ends.eqv (aZF o n s ks ps i o' n' s' ks' ps' false sd sd sd hp rfl) (by simp)
theorem bH1 (o n:Int)(s:aE)(ks:List Term)(ps:List Pat)(hl:ks.length<1000000)(hl2:ps.length<1000000)(ih:∀t∈ks,Pure PP 63 [Term.av t] (.bool (mZ t))) :
  ∀ (qs:List Pat) (i:Nat),ps.drop i=qs→Ends PP 0 (aHK o n s ks ps (i:Int)).as (.ret (.bool (qs.all aD7&&uC ks))) (aG [] 0)
 | [],i,h=>by
  have:=bD h;exact(aZE o n s ks ps i sd).ends (Ends.eqv (bH0 o n s ks ps hl ih ks 0 rfl) (by simp))
 | .mk f' n' s' ps'::qs,i,h=>by
  obtain⟨g1,g2,g3⟩ :=bB h;have hp:=aTN (.mk f' n' s' ps');cases hb:aD7 (.mk f' n' s' ps')with
  | true=>
   rw [hb]at hp;exact(aZD o n s ks ps i f' n' s' ps' true sd sd sd hp rfl sd).ends (Ends.eqv (bH1 o n s ks ps hl hl2 ih qs (i+1) g2) (by simp [hb]))
  | false=>
   rw [hb]at hp;exact Ends.eqv (aZC o n s ks ps i f' n' s' ps' false sd sd sd hp rfl) (by simp [hb])
mutual
theorem aKn :∀ (t:Term),mY t<1000000→Pure PP 63 [Term.av t] (.bool (mZ t))
 | .mk o n s ks ps,hf=>by
  simp only [mY]at hf;have:=xN ks;have:=cL ps;refine aM (by kernel_rfl) (by simp [AV.keylessL,eF]) rfl ?_;have hn:=aUN o n s ks ps (by omega) (by omega);rw [mZ];cases hb:aI o n s (List.length ks) (List.length ps)with
  | true=>
   rw [hb]at hn;exact(aZB o n s ks ps true hn rfl).ends (Ends.eqv (bH1 o n s ks ps (by omega) (by omega) (aOl ks (by omega)) ps 0 rfl) (by simp))
  | false=>
   rw [hb]at hn;exact Ends.eqv (aZA o n s ks ps false hn rfl) (by simp)
theorem aOl :∀ (ts:List Term),lK ts<1000000→∀t∈ts,Pure PP 63 [Term.av t] (.bool (mZ t))
 | [],_,t,ht=>by cases ht
 | u::ts,hf,t,ht=>by
  simp only [lK]at hf;rcases List.mem_cons.1 ht with e|ht
  ·rw [e];exact aKn u (by omega)
  ·exact aOl ts (by omega) t ht
end
def lF (t:Term) :Bool:=decide (hJ t≤60) &&decide (iK t≤14) &&mZ t
theorem aUO (t:Term)(hf:mY t<1000000) :Pure PP 15 [Term.av t] (.bool (lF t)) :=by
 have hw:=aKm t 60 14 (by omega) (by omega) (by omega) (by omega);have hn:=aKn t hf;have hs:=sG t;unfold lF;unfold kA at hw;obtain⟨o,n,s,ks,ps⟩ :=t;refine aM (by kernel_rfl) (by simp [AV.keylessL,eF]) rfl ?_;by_cases h:hJ (.mk o n s ks ps) ≤60∧iK (.mk o n s ks ps) ≤14
 · rw [if_pos (by omega)]at hw;exact Ends.eqv (aZI o n s ks ps _ _ hw (by simp;omega) hn) (by simp [h.1,h.2])
 · rw [if_neg (by omega)]at hw
   exact Ends.eqv (aZJ o n s ks ps _ hw (by simp)) (by
    by_cases h1:hJ (.mk o n s ks ps) ≤60
    · have:¬iK (.mk o n s ks ps) ≤14:=fun h2=>h ⟨h1,h2⟩;simp [this]
    ·simp [h1])
end Go.Hb
namespace Go.Hb
open Go.Proofs
noncomputable section
open Go.Proofs Tryz
abbrev aM7(a b:Int)(c:aE)(d:List Pat):Nat×AObj×Bool:=oC 3 [(nI a),(nI b),(aC c),(iP d)]
abbrev aM8(a b:Int)(c:aE)(d:List Pat):Nat×AObj×Bool:=oC 2 [(nI a),(nI b),(aC c),(iP d)]
abbrev aBD:Nat ×AObj×Bool:=oC 4 [(nI 0),(nI 0),(.str 0 0),.nils]
abbrev aM9:Nat ×AObj×Bool:=oC 3 [(.func 133 [(.agg [(.map 0),(.map 1)])] [])]
abbrev aBE:Nat ×AObj×Bool:=oC 2 [(.func 133 [(.agg [(.map 0),(.map 1)])] [])]
abbrev pP(a:List (Int×Int)):Nat×AObj×Bool:=(0,(.map (aV dF dF 0 a) a.length),true)
abbrev pQ(a:List (Int×Int)):Nat×AObj×Bool:=(1,(.map (aV dF dF 0 a) a.length),true)
def aUP(a b:List (Int×Int))(c d:Int)(e:aE)(f:List Pat):TS:=bW PP 137 [(.agg [(nI c),(nI d),(aC e),(iP f)]),(.func 133 [(.agg [(.map 0),(.map 1)])] [])] [pP a,pQ b] 2
def aHN(a b:List (Int×Int))(c g:Int)(d:aE)(e:List Pat)(f:Int):TS:=⟨(tf 137 19 [kp 2 2,kp 3 3,kp 4 4] [kc f137 14,kc f137 15]),[],[pP a,pQ b,aM8 c f d e,aM9,aBD],5⟩
def bEV(a b:List (Int×Int))(c:List Pat):TS:=bW PP 106 [(iP c),(.func 193 [] [(.ptr 2 0)])] [pP a,pQ b,aBE] 3
def aHO(c d:List (Int×Int))(a:List Pat)(e:Int)(b:List Pat):TS:=⟨(tf 106 22 [(1,(.func 193 [] [(.ptr 2 0)])),(4,.nils),(5,(.gl 3 4 0 b.length false)),(8,(iP a)),(9,(nI (a.length:Int))),(10,(nI e))] [kc f106 116,kl f106 116,.inBlock 0,kc f106 15]),[],[pP c,pQ d,aBE,oL 3 4 (Pats.av b)],4⟩
def aUQ(g i:List (Int×Int))(b:List Pat)(c d:Int)(e:aE)(f:List Pat)(j:Int)(a:List Pat):TS:=⟨(tf 193 7 [kp 1 2,kp 2 3,kp 3 4] [kc f193 6,kc f193 7]),[(tf 106 22 [(1,(.func 193 [] [(.ptr 2 0)])),(4,.nils),(5,(.gl 5 4 0 a.length false)),(8,(iP b)),(9,(nI (b.length:Int))),(10,(nI j)),(14,(.gl 5 4 0 a.length false)),(15,(.func 193 [] [(.ptr 2 0)])),(16,(.agg [(nI c),(nI d),(aC e),(iP f)]))] [ko f106 3737 3,.inBlock 1,kc f106 935,kl f106 116,.inBlock 0,kc f106 15])],[pP g,pQ i,aBE,aM7 c d e f,aBD,oL 5 4 (Pats.av a)],6⟩
def aUR(d b:List (Int×Int))(c a:Int)(e:aE)(f:List Pat):=tT 2 (aUP d b c a e f)<|.b 13 7 (c==6) (.o (.y fun g:Int=>.i [rn 16,.ans (.look (some (aDG a b,(dF g))))] [.a (iU a b=some g) (p':=iL (dF a) (aV dF dF 0 b) 0=some (some (aDG a b,(dF g)))) (aFI aN8)]<|.W 8 6 [2,3,4] (aHN d b c a e f g))<|.i [rn 16,.ans (.look none)] [.a (iU a b=none) (p':=iL (dF a) (aV dF dF 0 b) 0=some none) (aFH aN8)]<|.W 8 6 [2,3,4] (aHN d b c a e f 0))<|.W 3 5 [2,3,4] (aHN d b c a e f a)
def aZK:=fun a b c d e f g i j=>aUR a b c d e f|>.t i|>.1 g j ⟨bK (fun _=>rfl) (fun _=>rfl) _ _ _,⟨bK (fun _=>rfl) (fun _=>rfl) _ _ _,trivial⟩⟩
def aZL:=fun a b c d e f g i=>aUR a b c d e f|>.t g|>.2 i ⟨bK (fun _=>rfl) (fun _=>rfl) _ _ _,⟨bK (fun _=>rfl) (fun _=>rfl) _ _ _,trivial⟩⟩
def aZM:=fun a b c d e f g=>aUR a b c d e f|>.f g ⟨bK (fun _=>rfl) (fun _=>rfl) _ _ _,⟨bK (fun _=>rfl) (fun _=>rfl) _ _ _,trivial⟩⟩
def aHP (a b:List (Int×Int))(c i:Int)(d:aE)(e:List Pat)(f:Int):=fun g j=>(tT 2 (aHN a b c i d e f)<|.y fun g:List Pat=>gk 4 (.enter 106 [(iP e),(.func 193 [] [(.ptr 3 0)])]) [pP a,pQ b,aM8 c f d e,aM9,aBD] 5 (iP g) [pP a,pQ b,aM8 c f d e,aM9,aBD] 5<|.E 9 5 [] (.agg [(nI c),(nI f),(aC d),(iP g)]) [pP a,pQ b] 2) g j ⟨bK (fun _=>rfl) (fun _=>rfl) _ _ _,⟨bK (fun _=>rfl) (fun _=>rfl) _ _ _,trivial⟩⟩
def aZN (b c:List (Int×Int))(a:List Pat):=(tT 3 (bEV b c a)<|gm 12 aF a<|.i [rn 4,.nilL 5 4] []<|gu 0 3 (Pats.av ([] :List Pat))<|gs 0 5 (.gl 3 4 0 ([] :List Pat).length false)<|.W 0 4 [3] (aHO b c a 0 ([] :List Pat))) ⟨bK (fun _=>rfl) (fun _=>rfl) _ _ _,⟨bK (fun _=>rfl) (fun _=>rfl) _ _ _,⟨bL,trivial⟩⟩⟩
def bEW(d e:List (Int×Int))(a:List Pat)(b:Int)(c:List Pat):=tT 3 (aHO d e a b c)<|gd 5 11 (b< (a.length:Int)) (mW 6 a b<|fun f g i j=>.W 15 7 [5,6,3] (aUQ d e a f g i j b c))<|gZ 8 4 3 4 aF bL c false<|.E 0 4 [] (iP c) [pP d,pQ e,aBE] 3
def aZO:=fun a b c d e f g i j k l m=>bEW a b c d e|>.t k f g i j l m ⟨bK (fun _=>rfl) (fun _=>rfl) _ _ _,⟨bK (fun _=>rfl) (fun _=>rfl) _ _ _,⟨bL,trivial⟩⟩⟩
def aZP:=fun a b c d e f=>bEW a b c d e|>.f f ⟨bK (fun _=>rfl) (fun _=>rfl) _ _ _,⟨bK (fun _=>rfl) (fun _=>rfl) _ _ _,trivial⟩⟩
def aZQ (f g:List (Int×Int))(n:List Pat)(i j:Int)(k:aE)(l:List Pat)(m:Int)(a:List Pat):=fun b c d e o p q=>(tT 3 (aUQ f g n i j k l m a)<|.y fun b:Int=>.y fun c:Int=>.y fun d:aE=>.y fun e:List Pat=>gk 3 (.enter 137 [(.agg [(nI i),(nI j),(aC k),(iP l)]),(.func 133 [(.agg [(.map 0),(.map 1)])] [])]) [pP f,pQ g,aBE,aM7 i j k l,aBD,oL 5 4 (Pats.av a)] 6 (.agg [(nI b),(nI c),(aC d),(iP e)]) [pP f,pQ g,aBE,aM7 i j k l,aBD,oL 5 4 (Pats.av a)] 6<|gA 5 aF a [(Pat.mk b c d e)]<|gw 5 20 (m+1)<|.W 3 8 [7] (aHO f g n (m+1) (a++ [(Pat.mk b c d e)]))) b c d e o p q ⟨bK (fun _=>rfl) (fun _=>rfl) _ _ _,⟨bK (fun _=>rfl) (fun _=>rfl) _ _ _,⟨bL,trivial⟩⟩⟩
end
end Go.Hb
namespace Go.Hb
open Go.Proofs
noncomputable section
abbrev MO (m:List (Int×Int)) :AObj:=.map (aV dF dF 0 m) (List.length m)
theorem aFX (m:List (Int×Int)) : (MO m).kl:=bK (fun _=>rfl) (fun _=>rfl) _ _ _
def uQ (m:List (Int×Int))(n:Int) :Int:= (iU n m).getD 0
mutual
def nA (mc:List (Int×Int)) :Pat→Pat
 | .mk f n t ps=>.mk f (if f=6 then uQ mc n else n) t (eO mc ps)
def eO (mc:List (Int×Int)) :List Pat→List Pat
 | [] =>[]
 |p::ps=>nA mc p::eO mc ps
end
abbrev F90 :AV:=.func 133 [.agg [.map 0,.map 1]] []
def aQH (mf mc:List (Int×Int))(q q':Pat) :Prop:=
 Spec PP (.enter 137 [Pat.av q,F90]) (aG [(0,MO mf,true),(1,MO mc,true)] 2) (.ret (Pat.av q')) (aG [(0,MO mf,true),(1,MO mc,true)] 2)
section
variable (mf mc:List (Int×Int))
theorem aUS {q q':Pat}(h:aQH mf mc q q')(f n:Int)(t:aE)(ps l:List Pat) :
  Spec PP (.enter 137 [Pat.av q,F90])
   (aG [(0,MO mf,true),(1,MO mc,true),(2,(.cells (putCells .leaf 0 [F90]) 1 [] false),false),(3,(.cells (putCells .leaf 0 [(.int .i64 f),(.int .i64 n),(aC t),(.ilst 4 (Pats.av ps) false)]) 4 [] false),false),(4,(.cells (putCells .leaf 0 [(.int .i64 0),(.int .i64 0),(.str 0 0),.nils]) 4 [] false),false),(5,(.lst 4 (Pats.av l)),true)] 6)
   (.ret (Pat.av q'))
   (aG [(0,MO mf,true),(1,MO mc,true),(2,(.cells (putCells .leaf 0 [F90]) 1 [] false),false),(3,(.cells (putCells .leaf 0 [(.int .i64 f),(.int .i64 n),(aC t),(.ilst 4 (Pats.av ps) false)]) 4 [] false),false),(4,(.cells (putCells .leaf 0 [(.int .i64 0),(.int .i64 0),(.str 0 0),.nils]) 4 [] false),false),(5,(.lst 4 (Pats.av l)),true)] 6) :=
 aDw h (by simp only [AV.renL];rw [mT _ _ (fC q)];rfl) (fC q') (by rfl) (by kernel_rfl) (by kernel_rfl) ⟨aFX mf,aFX mc,trivial⟩ (by kernel_rfl) (by kernel_rfl) (by kernel_rfl)
theorem aKo (ps:List Pat)(hl:ps.length<1000000)(ih:∀p∈ps,aQH mf mc p (nA mc p)) :∀ (t:List Pat) (i:Nat) (acc:List Pat),ps.drop i=t→acc.length=i →
  Ends PP 3 (aHO mf mc ps (i:Int) acc).as (.ret (.ilst 4 (Pats.av (acc++eO mc t)) false)) (aG [(0,MO mf,true),(1,MO mc,true),(2,(.cells (putCells .leaf 0 [F90]) 1 [] false),false)] 3)
 | [],i,acc,h,ha=>by
  have:=bD h;rw [eO,List.append_nil];exact aZP mf mc ps i acc sd
 | .mk f1 n1 s1 ps1::t,i,acc,h,ha=>by
  obtain⟨g1,g2,g3⟩ :=bB h;have h0:=aZO mf mc ps i acc f1 n1 s1 ps1 sd sd sd;have hc:=ih (.mk f1 n1 s1 ps1) (List.mem_of_getElem? g1);rw [nA]at hc;have h1:=aZQ mf mc ps f1 n1 s1 ps1 i acc _ _ _ _ (aUS mf mc hc f1 n1 s1 ps1 acc) (by simp;omega) sd;have h2:=aKo ps hl ih t (i+1) (acc++ [.mk f1 (if f1=6 then uQ mc n1 else n1) s1 (eO mc ps1)]) g2 (by simp [ha]);rw [eO,nA,show acc++Pat.mk f1 (if f1=6 then uQ mc n1 else n1) s1 (eO mc ps1) ::eO mc t= (acc++ [.mk f1 (if f1=6 then uQ mc n1 else n1) s1 (eO mc ps1)]) ++eO mc t by simp];exact h0.ends (h1.ends h2)
def bH2 (ps:List Pat) :Prop:=Spec PP (.enter 106 [.ilst 4 (Pats.av ps) false,.func 193 [] [.ptr 2 0]])
 (aG [(0,MO mf,true),(1,MO mc,true),(2,(.cells (putCells .leaf 0 [F90]) 1 [] false),false)] 3) (.ret (.ilst 4 (Pats.av (eO mc ps)) false)) (aG [(0,MO mf,true),(1,MO mc,true),(2,(.cells (putCells .leaf 0 [F90]) 1 [] false),false)] 3)
theorem aUT (ps:List Pat)(hl:ps.length<1000000)(ih:∀p∈ps,aQH mf mc p (nA mc p)) :bH2 mf mc ps:=
 ⟨(bEV mf mc ps).as.fr,by kernel_rfl,Eq.mp (by kernel_rfl) ((aZN mf mc ps).ends (aKo mf mc ps hl ih ps 0 [] rfl rfl))⟩
theorem aD8 {ps:List Pat}(h:bH2 mf mc ps)(f n:Int)(t:aE) :
  Spec PP (.enter 106 [.ilst 4 (Pats.av ps) false,.func 193 [] [.ptr 3 0]])
   (aG [(0,MO mf,true),(1,MO mc,true),(2,(.cells (putCells .leaf 0 [(.int .i64 f),(.int .i64 n),(aC t),(.ilst 4 (Pats.av ps) false)]) 4 [] false),false),(3,(.cells (putCells .leaf 0 [F90]) 1 [] false),false),(4,(.cells (putCells .leaf 0 [(.int .i64 0),(.int .i64 0),(.str 0 0),.nils]) 4 [] false),false)] 5)
   (.ret (.ilst 4 (Pats.av (eO mc ps)) false))
   (aG [(0,MO mf,true),(1,MO mc,true),(2,(.cells (putCells .leaf 0 [(.int .i64 f),(.int .i64 n),(aC t),(.ilst 4 (Pats.av ps) false)]) 4 [] false),false),(3,(.cells (putCells .leaf 0 [F90]) 1 [] false),false),(4,(.cells (putCells .leaf 0 [(.int .i64 0),(.int .i64 0),(.str 0 0),.nils]) 4 [] false),false)] 5) :=
 aAN (ks:=[0,1,3]) h (by kernel_rfl) rfl (by kernel_rfl) (by kernel_rfl) ⟨aFX mf,aFX mc,trivial⟩ (by kernel_rfl) ⟨aFX mf,aFX mc,trivial⟩ (by kernel_rfl) (by kernel_rfl) (by kernel_rfl) (by kernel_rfl) (by kernel_rfl) (by kernel_rfl) (by kernel_rfl) (by kernel_rfl)
theorem aQI {f n:Int}{t:aE}{ps:List Pat}{q':Pat}(h:Ends PP 2 (aUP mf mc f n t ps).as (.ret (Pat.av q')) (aG [(0,MO mf,true),(1,MO mc,true)] 2)) :aQH mf mc (.mk f n t ps) q':=
 ⟨(aUP mf mc f n t ps).as.fr,by kernel_rfl,Eq.mp (by kernel_rfl) h⟩
mutual
theorem aUU :∀ (q:Pat),aP q<1000000→aQH mf mc q (nA mc q)
 | .mk f n t ps,h=>by
  simp only [aP]at h;have:=cL ps;have hb:=aUT mf mc ps (by omega) (aOm ps (by omega));refine aQI mf mc ?_;rw [nA];by_cases hf:f=6
  · rw [if_pos hf];unfold uQ;cases hm:iU n mc with
    |some y=>exact(aZK mf mc f n t ps y (by simp [hf]) hm).ends (aHP mf mc f n t ps y _ (aD8 mf mc hb f y t))
    |none=>exact(aZL mf mc f n t ps (by simp [hf]) hm).ends (aHP mf mc f n t ps 0 _ (aD8 mf mc hb f 0 t))
  · rw [if_neg hf];exact(aZM mf mc f n t ps (by simp [hf])).ends (aHP mf mc f n t ps n _ (aD8 mf mc hb f n t))
theorem aOm :∀ (ps:List Pat),aK ps<1000000→∀p∈ps,aQH mf mc p (nA mc p)
 | [],_,p,hp=>by cases hp
 | q::ps,h,p,hp=>by
  simp only [aK]at h;rcases List.mem_cons.1 hp with e|hp
  ·rw [e];exact aUU q (by omega)
  ·exact aOm ps (by omega) p hp
end
end
def aHQ (to:List Int)(k:Int) :Int:=to.getD k.toNat 0
end
end Go.Hb
namespace Go.Hb
open Go.Proofs
set_option maxHeartbeats 1000000
def wK :List aE→List (aE×Bool) →List (aE×Bool)
 | [],m=>m
 |x::t,m=>wK t (fB x true m)
theorem aAZ (l:List aE)(hl:l.length<1000000) :∀ (t:List aE) (i:Nat) (m:List (aE×Bool)),l.drop i=t→Ends PP 0 (tZ l (i:Int) m).as (.ret (.bool (decide ((wK t m).length=l.length)))) (aG [] 0)
 | [],i,m,h=>by
  have:=bD h;refine Ends.eqv (aJV l i m sd) ?_;have: (((List.length m:Nat) :Int) == ((List.length l:Nat) :Int)) =decide (m.length=l.length) :=by
   by_cases k:m.length=l.length<;>simp [k] <;>omega
  rw [this];rfl
 | x::t,i,m,h=>by
  obtain⟨g1,g2,g3⟩ :=bB h;refine(aJU l i m x sd sd sd sd).ends ?_;exact aAZ l hl t (i+1) _ g2
theorem aD9 {k:aE}{v w:Bool}:∀ {m:List (aE×Bool)},iU k m=some w→ (fB k v m).map Prod.fst=m.map Prod.fst
 | [],h=>by cases h
 | e::m,h=>by
  unfold iU at h;unfold fB;split at h
  ·rename_i hk;rw [if_pos hk];simp [hk]
  ·rename_i hk;rw [if_neg hk];simp [aD9 h]
theorem aEa {k:aE}{v:Bool}:∀ {m:List (aE×Bool)},iU k m=none→ (fB k v m).map Prod.fst=m.map Prod.fst++ [k]
 | [],_=>rfl
 | e::m,h=>by
  unfold iU at h;unfold fB;split at h
  ·cases h
  ·rename_i hk;rw [if_neg hk];simp [aEa h]
theorem aEb {k:aE}:∀ {m:List (aE×Bool)},(iU k m).isSome=jG (m.map Prod.fst) k
 | [] =>rfl
 | e ::m=>by
  unfold iU;split
  ·rename_i hk;simp [jG,hk]
  · rename_i hk;have:¬e.1=k:=fun h=>hk h.symm;rw [aEb];simp [jG,this]
theorem aFY :∀ (t:List aE) (m:List (aE×Bool)),(wK t m).length≤m.length+t.length
 | [],m=>by simp [wK]
 | x::t,m=>by
  have a:=aFY t (fB x true m);have b: (fB x true m).length≤m.length+1:=by
   cases h:iU x m with
   |none=>have:=congrArg List.length (aEa (v:=true) h);simp at this;omega
   |some w=>have:=congrArg List.length (aD9 (v:=true) h);simp at this;omega
  simp only [wK,List.length_cons];omega
theorem aEc :∀ (t:List aE) (m:List (aE×Bool)),(wK t m).length=m.length+t.length↔dK (m.map Prod.fst) t=true
 | [],m=>by simp [wK,dK]
 | x::t,m=>by
  simp only [wK,dK];cases h:iU x m with
  | some w=>
   have e:=aD9 (v:=true) h;have hs:jG (m.map Prod.fst) x=true:=by rw [←aEb,h];rfl
   have a:=aFY t (fB x true m);have b:=congrArg List.length e;simp only [List.length_map]at b;rw [hs];constructor
   ·intro g;simp only [List.length_cons]at g;omega
   ·intro g;simp at g
  | none=>
   have e:=aEa (v:=true) h;have hs:jG (m.map Prod.fst) x=false:=by rw [←aEb,h];rfl
   have ih:=aEc t (fB x true m);have b:=congrArg List.length e;simp only [List.length_map,List.length_append,List.length_singleton]at b;rw [hs,←e];simp only [Bool.not_false,Bool.true_and,List.length_cons];rw [←ih,b];omega
theorem aHR (l:List aE)(hl:l.length<1000000) :Pure PP 157 [.ilst 1 (List.map aC l) false] (.bool (jW l)) :=by
 refine aM (by kernel_rfl) rfl rfl ((aJT l).ends (Ends.eqv (aAZ l hl l 0 [] rfl) ?_));have:=aEc l [];simp only [List.length_nil,Nat.zero_add,List.map_nil]at this;congr 1;cases k:jW l with
 |true=>exact decide_eq_true (this.2 k)
 |false=>exact decide_eq_false fun g=>by have:=this.1 g;unfold jW at k;rw [k]at this;cases this
theorem aFZ (l:List Con)(hl:l.length<1000000) :∀ (t:List Con) (i:Nat),l.drop i=t→Ends PP 0 (aCQ l (i:Int)).as (.ret (.bool (t.all gI))) (aG [] 0)
 | [],i,h=>by
  have:=bD h;exact Ends.eqv (aS1 l i sd) (by simp)
 | c::t,i,h=>by
  obtain⟨g1,g2,g3⟩ :=bB h;have hq:=aQC c;cases k:gI c with
  |false=>rw [k]at hq;exact Ends.eqv (aSZ l i c false sd sd sd hq rfl) (by simp [k])
  | true=>
   rw [k]at hq;refine(aS0 l i c true sd sd sd hq rfl sd).ends ?_;exact Ends.eqv (aFZ l hl t (i+1) g2) (by simp [k])
theorem aQJ (l:List Con)(hl:l.length<1000000) :Pure PP 155 [.ilst 2 (List.map Con.av l) false,.func 156 [] []] (.bool (l.all gI)) :=
 aM (by kernel_rfl) rfl rfl ((aSY l).ends (aFZ l hl l 0 rfl))
theorem aF0 (l:List Node)(p:Prog)(hl:l.length<1000000)(ih:∀x∈l,Pure PP 161 [Prog.av p,Node.av x] (.bool (cO p x))) :∀ (t:List Node) (i:Nat),l.drop i=t→Ends PP 0 (aCP l p (i:Int)).as (.ret (.bool (t.all (cO p)))) (aG [] 0)
 | [],i,h=>by
  have:=bD h;exact Ends.eqv (aSX l p i sd) (by simp)
 | c::t,i,h=>by
  obtain⟨g1,g2,g3⟩ :=bB h;have hq:=ih c (List.mem_of_getElem? g1);cases k:cO p c with
  |false=>rw [k]at hq;exact Ends.eqv (aSV l p i c false sd sd sd hq rfl) (by simp [k])
  | true=>
   rw [k]at hq;refine(aSW l p i c true sd sd sd hq rfl sd).ends ?_;exact Ends.eqv (aF0 l p hl ih t (i+1) g2) (by simp [k])
theorem aQK (l:List Node)(p:Prog)(hl:l.length<1000000)(ih:∀x∈l,Pure PP 161 [Prog.av p,Node.av x] (.bool (cO p x))) :Pure PP 160 [.ilst 4 (List.map Node.av l) false,.func 161 [Prog.av p] []] (.bool (l.all (cO p))) :=
 aM (by kernel_rfl) rfl rfl ((aSU l p).ends (aF0 l p hl ih l 0 rfl))
def one (k:Int) :Bool:=decide (k=1)
theorem aF1 (l:List Int)(hl:l.length<1000000) :∀ (t:List Int) (i:Nat),l.drop i=t→Ends PP 0 (aCR l (i:Int)).as (.ret (.bool (t.all one))) (aG [] 0)
 | [],i,h=>by
  have:=bD h;exact Ends.eqv (aS5 l i sd) (by simp)
 | c ::t,i,h=>by
  obtain⟨g1,g2,g3⟩ :=bB h;by_cases k:c=1
  · refine(aS4 l i c sd sd sd (by simp [k]) sd).ends ?_;exact Ends.eqv (aF1 l hl t (i+1) g2) (by simp [k,one])
  ·exact Ends.eqv (aS3 l i c sd sd sd (by simp [k])) (by simp [k,one])
theorem aQL (l:List Int)(hl:l.length<1000000) :Pure PP 162 [.ilst 1 (List.map dF l) true,.func 163 [] []] (.bool (l.all one)) :=
 aM (by kernel_rfl) rfl rfl ((aS2 l).ends (aF1 l hl l 0 rfl))
theorem aF2 (l:List Con)(hl:l.length<100000) :∀ (t:List Con) (i:Nat),l.drop i=t→Ends PP 0 (aCS l (i:Int) (bH (l.take i))).as (.ret (.ilst 1 (List.map aC (bH l)) false)) (aG [] 0)
 | [],i,h=>by
  have hi:=bD h;have e:bH (l.take i) =bH l:=by rw [List.take_of_length_le hi]
  rw [e];exact aS8 l i _ sd
 | c::t,i,h=>by
  obtain⟨g1,g2,g3⟩ :=bB h;have e:bH (l.take i) ++ [c.name] =bH (l.take (i+1)) :=by
   rw [List.take_add_one,g1];simp [bH]
  refine(aS7 l i (bH (l.take i)) c sd sd sd (by simp [bH];omega) sd).ends ?_;rw [e];exact aF2 l hl t (i+1) g2
theorem aQM (l:List Con)(hl:l.length<100000) :Pure PP 158 [.ilst 2 (List.map Con.av l) false,.func 159 [] []] (.ilst 1 (List.map aC (bH l)) false) :=
 aM (by kernel_rfl) rfl rfl ((aS6 l).ends (aF2 l hl l 0 rfl))
def nN (lo n:Int) :List Int→List Int→Option (List Int)
 | [],c=>some c
 |k::ks,c=>if aW k lo (n-1) =true then nN lo n ks (c.set k.toNat (c.getD k.toNat 0+1))else none
def lY (p:Prog) :Nat→List Node→List Int→Option (List Int)
 |_,[],c=>some c
 | i,x::t,c=>match nN ((i:Int) +1) (p.nodes.length:Int) x.kids c with
   |some d=>lY p (i+1) t d
   |none=>none
def qQ :Option (List Int) →Bool
 |some c=>c.all one
 |none=>false
def below (b:Int)(c:List Int) :Prop:=∀k∈c,0≤k∧k≤b
theorem aBF {b:Int}{c:List Int}(h:below b c){i:Nat}{z:Int}(hz:c[i]?=some z) :0≤z∧z≤b:=h z (List.mem_of_getElem? hz)
theorem aF3 {b:Int}{c:List Int}(h:below b c){i:Nat}{z:Int}(hz:c[i]?=some z) :below (b+1) (c.set i (z+1)) :=fun k hk=>by
 rcases List.mem_or_eq_of_mem_set hk with g|g
 ·have:=h k g;omega
 ·have:=aBF h hz;omega
theorem bF2 (p:Prog)(i:Nat)(hi:i<p.nodes.length)(hn:p.nodes.length≤1000)(ks:List Int)(hk:ks.length≤1000)(K:List Int→Bool)(B:Int)(hB:0≤B)(hB2:B≤1000000)
  (hb:∀v:List Int,v.length=p.nodes.length→below (B+ks.length) v→Ends PP 0 (pN p v ((i:Int) +1)).as (.ret (.bool (K v))) (aG [] 0)) :
  ∀ (t:List Int) (k:Nat) (c:List Int),c.length=p.nodes.length→k≤ks.length→below (B+k) c→ks.drop k=t→Ends PP 0 (uB p ks (ks.length:Int) c (k:Int) (i:Int) (i:Int)).as (.ret (.bool (match nN ((i:Int) +1) p.nodes.length t c with|some v=>K v|none=>false))) (aG [] 0)
 | [],k,c,hc,hkl,hbl,h=>by
  have:=bD h;have e:k=ks.length:=by omega
  subst e;refine(aKc p ks ks.length c ks.length i i sd sd).ends ?_;exact hb c hc hbl
 | y ::t,k,c,hc,hkl,hbl,h=>by
  obtain⟨g1,g2,g3⟩ :=bB h;have hin:=fP y ((i:Int) +1) ((p.nodes.length:Int) -1);cases k1:aW y ((i:Int) +1) ((p.nodes.length:Int) -1)with
  | false=>
   rw [k1]at hin;exact Ends.eqv (aKa p ks ks.length c k i i y false sd sd sd sd sd hin rfl) (by simp [nN,k1])
  | true=>
   rw [k1]at hin;have hy:=inB_iff.1 k1;obtain⟨z,hz⟩ :∃z,c[y.toNat]?=some z:= ⟨_,List.getElem?_eq_getElem (by omega)⟩;have hzb:=aBF hbl hz;refine(aKb p ks ks.length c k i i y true z sd sd sd sd sd hin rfl (by omega) (by omega) hz sd sd).ends ?_;have e:c.getD y.toNat 0=z:=by rw [List.getD_eq_getElem?_getD,hz];rfl
   have ei:nN ((i:Int) +1) p.nodes.length (y::t) c=nN ((i:Int) +1) p.nodes.length t (c.set y.toNat (z+1)) :=by
    rw [nN,if_pos k1,e]
   rw [ei];refine bF2 p i hi hn ks hk K B hB hB2 hb t (k+1) (c.set y.toNat (z+1)) (by simpa using hc) (by omega) ?_ g2;have:=aF3 hbl hz;intro q hq;have:=this q hq
   push_cast
   omega
def uD :List Node→Nat
 | [] =>0
 |x::t=>x.kids.length+uD t
theorem aEd :∀ (t:List Node),(∀x∈t,x.kids.length≤10) →uD t≤10*t.length
 | [],_=>by simp [uD]
 | x::t,h=>by
  have a:=aEd t (fun y hy=>h y (List.mem_cons_of_mem _ hy));have b:=h x (List.mem_cons_self ..);simp only [uD,List.length_cons];omega
theorem bF1 (p:Prog)(hp:aN p=true)(hn:p.nodes.length≤1000) :∀ (t:List Node) (i:Nat) (c:List Int) (B:Int),0≤B→B+uD t≤100000→c.length=p.nodes.length→below B c→p.nodes.drop i=t →
  Ends PP 0 (pN p c (i:Int)).as (.ret (.bool (qQ (lY p i t c)))) (aG [] 0)
 | [],i,c,B,h0,h1,hc,hb,h=>by
  have:=bD h;exact Ends.eqv (aJ9 p c i _ sd (aQL c (by omega))) rfl
 | x::t,i,c,B,h0,h1,hc,hb,h=>by
  obtain⟨g1,g2,g3⟩ :=bB h;have hx:bQ x=true:=by
   simp only [aN,Bool.and_eq_true]at hp;exact List.all_eq_true.1 hp.2 x (List.mem_of_getElem? g1)
  simp only [bQ,Bool.and_eq_true,decide_eq_true_eq]at hx;simp only [uD]at h1;refine(aJ8 p c i x sd sd sd).ends ?_;refine Ends.eqv (bF2 p i g3 hn x.kids (by omega) (fun v=>qQ (lY p (i+1) t v)) B h0 (by omega) (fun v hv hbv=>bF1 p hp hn t (i+1) v (B+x.kids.length) (by omega) (by omega) hv hbv g2) x.kids 0 c hc (by omega) (by simpa using hb) rfl) ?_;rw [lY];cases nN ((i:Int) +1) (p.nodes.length:Int) x.kids c<;>rfl
theorem bF0 (p:Prog)(hp:aN p=true)(hn:p.nodes.length≤1000)(hks:uD p.nodes≤10000)(hf:p.funs.length≤1000) :∀ (t:List Int) (i:Nat) (c:List Int),i≤p.funs.length→c.length=p.nodes.length→below (i:Int) c→p.funs.drop i=t →
  Ends PP 0 (uA p (i:Int) c).as (.ret (.bool (match nN 0 p.nodes.length t c with|some v=>qQ (lY p 0 p.nodes v) |none=>false))) (aG [] 0)
 | [],i,c,hi,hc,hb,h=>by
  have:=bD h;refine(aJ7 p i c sd).ends ?_;exact bF1 p hp hn p.nodes 0 c i (by omega) (by omega) hc hb rfl
 | y ::t,i,c,hi,hc,hb,h=>by
  obtain⟨g1,g2,g3⟩ :=bB h;have hin:=fP y 0 ((p.nodes.length:Int) -1);cases k1:aW y 0 ((p.nodes.length:Int) -1)with
  | false=>
   rw [k1]at hin;exact Ends.eqv (aJ5 p i c y false sd sd sd sd hin rfl) (by simp [nN,k1])
  | true=>
   rw [k1]at hin;have hy:=inB_iff.1 k1;obtain⟨z,hz⟩ :∃z,c[y.toNat]?=some z:= ⟨_,List.getElem?_eq_getElem (by omega)⟩;have hzb:=aBF hb hz;refine(aJ6 p i c y true z sd sd sd sd hin rfl (by omega) (by omega) hz sd sd).ends ?_;have e:c.getD y.toNat 0=z:=by rw [List.getD_eq_getElem?_getD,hz];rfl
   have ei:nN 0 p.nodes.length (y::t) c=nN 0 p.nodes.length t (c.set y.toNat (z+1)) :=by
    rw [nN,if_pos k1,e]
   rw [ei];refine bF0 p hp hn hks hf t (i+1) (c.set y.toNat (z+1)) (by omega) (by simpa using hc) ?_ g2;have:=aF3 hb hz;intro q hq;have:=this q hq
   push_cast
   omega
end Go.Hb
namespace Go.Hb
open Go.Proofs
set_option maxHeartbeats 1000000
def dL (p:Prog) :Bool:=
 eM p&&decide (p.cons.length≤20) &&p.cons.all gI&&jW (bH p.cons) &&p.nodes.all (cO p) &&
  (match nN 0 (p.nodes.length:Int) p.funs (List.replicate p.nodes.length 0)with
  |some v=>qQ (lY p 0 p.nodes v)
  |none=>false)
theorem aKp {p:Prog}(hp:aN p=true) :∀x∈p.nodes,x.kids.length≤10∧x.pats.length≤10:=fun x hx=>by
 simp only [aN,Bool.and_eq_true]at hp;have:=List.all_eq_true.1 hp.2 x hx;simp only [bQ,Bool.and_eq_true,decide_eq_true_eq]at this;exact this.1
theorem aHS (p:Prog)(hp:aN p=true) :Pure PP 93 [Prog.av p] (.bool (dL p)) :=by
 refine aM (by kernel_rfl) rfl rfl ?_;have hs:=hp;simp only [aN,Bool.and_eq_true,decide_eq_true_eq]at hs;obtain⟨⟨⟨⟨s1,s2⟩,s3⟩,_⟩,_⟩ :=hs;have hno:=aKp hp;by_cases k0:p.nodes.length≤300
 · by_cases k1 :1≤p.funs.length
   · by_cases k2:p.funs.length≤p.nodes.length
     · have kk :aW (p.funs.length:Int) 1 (p.nodes.length:Int) =true:=inB_iff.2 ⟨by omega,by omega⟩;by_cases k3:p.cons.length≤20
       · have hi:=fP p.main 0 ((p.funs.length:Int) -1);cases k4:aW p.main 0 ((p.funs.length:Int) -1)with
         | false=>
          rw [k4]at hi;exact Ends.eqv (aJ0 p false sd sd sd sd sd hi rfl) (by simp [dL,eM,k4])
         | true =>
          rw [k4]at hi;have hh:eM p=true:=by simp [eM,k0,kk,k4]
          have hc:=aQJ p.cons (by omega);cases k5:p.cons.all gI with
          | false=>
           rw [k5]at hc;exact Ends.eqv (aJ1 p true false sd sd sd sd sd hi rfl hc rfl) (by simp only [dL,k5,Bool.and_false,Bool.false_and])
          | true=>
           rw [k5]at hc;have hm:=aQM p.cons (by omega);have hd:=aHR (bH p.cons) (by simp [bH];omega);cases k6:jW (bH p.cons)with
           | false=>
            rw [k6]at hd;exact Ends.eqv (aJ2 p true true (bH p.cons) false sd sd sd sd sd hi rfl hc rfl hm hd rfl) (by simp only [dL,k6,Bool.and_false,Bool.false_and])
           | true=>
            rw [k6]at hd;have hn:=aQK p.nodes p (by omega) (fun x hx=>aM6 p x (by omega) (by omega) (hno x hx).2 (hno x hx).1);cases k7:p.nodes.all (cO p)with
            | false=>
             rw [k7]at hn;exact Ends.eqv (aJ3 p true true (bH p.cons) true false sd sd sd sd sd hi rfl hc rfl hm hd rfl hn rfl) (by simp only [dL,k7,Bool.and_false,Bool.false_and])
            | true=>
             rw [k7]at hn;refine(aJ4 p true true (bH p.cons) true true sd sd sd sd sd hi rfl hc rfl hm hd rfl hn rfl (by omega)).ends ?_;have hks:=aEd p.nodes (fun x hx=> (hno x hx).1);refine Ends.eqv (bF0 p hp (by omega) (by omega) (by omega) p.funs 0 _ (by omega) (by simp) ?_ rfl) ?_
             · intro q hq;have:= (List.mem_replicate.1 hq).2;omega
             ·simp only [dL,hh,decide_eq_true k3,k5,k6,k7,Bool.true_and] <;>rfl
       ·exact Ends.eqv (aJZ p sd sd sd sd) (by simp [dL,k3])
     · have kk:aW (p.funs.length:Int) 1 (p.nodes.length:Int) =false:=inB_not.2 (by omega);exact Ends.eqv (aJY p sd sd sd) (by simp [dL,eM,kk])
   · have kk:aW (p.funs.length:Int) 1 (p.nodes.length:Int) =false:=inB_not.2 (by omega);exact Ends.eqv (aJX p sd sd) (by simp [dL,eM,kk])
 ·exact Ends.eqv (aJW p sd) (by simp [dL,eM,k0])
theorem aKq (p:Prog)(hp:aN p=true) :Pure PP 32 [Prog.av p] (.int .i64 (checkN (dL p))) :=by
 refine aM (by kernel_rfl) rfl rfl ?_;have h:=aHS p hp;cases k:dL p with
 |false=>rw [k]at h;exact aM1 p false h rfl
 |true=>rw [k]at h;exact aM2 p true h rfl
def cnt (b:Bool) :Int:=if b=true then 1 else 0
def uE (u:List Bool) :List Int:=u.map cnt
def zO (c:List Int) :Prop:= (∃ (i:Nat) (z:Int),c[i]?=some z∧2≤z) ∧∀z∈c,0≤z
theorem aKr {c:List Int}(h:zO c) :c.all one=false:=by
 obtain⟨⟨i,z,h1,h2⟩,_⟩ :=h;cases k:c.all one with
 |false=>rfl
 | true=>
  have:=List.all_eq_true.1 k z (List.mem_of_getElem? h1);simp only [one,decide_eq_true_eq]at this;omega
theorem aNa {c:List Int}{j:Nat}(h:zO c) :zO (c.set j (c.getD j 0+1)) :=by
 obtain⟨⟨i,z,h1,h2⟩,h3⟩ :=h;have hi:= (List.getElem?_eq_some_iff.1 h1).1;refine⟨⟨i,if j=i then z+1 else z,?_,by split<;>omega⟩,fun q hq=>?_⟩
 · rw [List.getElem?_set];by_cases e:j=i
   · subst e;rw [if_pos rfl,if_pos hi,if_pos rfl,List.getD_eq_getElem?_getD,h1];rfl
   ·rw [if_neg e,if_neg e];exact h1
 · rcases List.mem_or_eq_of_mem_set hq with g|g
   ·exact h3 q g
   · rw [g,List.getD_eq_getElem?_getD];cases k:c[j]? with
     |none=>simp
     |some w=>have:=h3 w (List.mem_of_getElem? k);simp;omega
theorem wL {lo n:Int}:∀ {ks c:List Int} {d:List Int},zO c→nN lo n ks c=some d→zO d
 | [],c,d,h,e=>by simp only [nN,Option.some.injEq]at e;rw [←e];exact h
 | k::ks,c,d,h,e=>by
  simp only [nN]at e;split at e
  ·exact wL (aNa h) e
  ·cases e
theorem aKs (u:List Bool) :∀z∈uE u,0≤z:=fun z hz=>by
 obtain⟨b,_,rfl⟩ :=List.mem_map.1 hz;cases b<;>simp [cnt]
theorem zP {lo n:Int}(hlo:0≤lo) :∀ (ks:List Int) (u:List Bool),n≤u.length →
  (∀v,marks lo n ks u=some v→nN lo n ks (uE u) =some (uE v)) ∧ (marks lo n ks u=none→∀d,nN lo n ks (uE u) =some d→zO d)
 | [],u,hn=>by
  simp only [marks,nN,Option.some.injEq];exact⟨fun v e=>by rw [e],fun e=>by cases e⟩
 | k :: ks,u,hn=>by
  simp only [marks,nN];by_cases h1:aW k lo (n-1) =true
  · have hk:=inB_iff.1 h1;have hlt:k.toNat<u.length:=by omega
    have hget:u[k.toNat]?=some u[k.toNat] :=List.getElem?_eq_getElem hlt;have hc: (uE u).getD k.toNat 0=cnt u[k.toNat] :=by
     rw [List.getD_eq_getElem?_getD,uE,List.getElem?_map,hget];rfl
    rw [if_pos h1];cases hb:u[k.toNat]with
    | false=>
     rw [hb]at hget hc;rw [if_pos ⟨h1,hget⟩];have e: (uE u).set k.toNat ((uE u).getD k.toNat 0+1) =uE (u.set k.toNat true) :=by
      rw [hc,uE,uE,List.map_set];rfl
     rw [e];exact zP hlo ks (u.set k.toNat true) (by simpa using hn)
    | true=>
     rw [hb]at hget hc;rw [if_neg (by rw [hget];simp)];refine And.intro (fun v e=>nomatch e) (fun _ d e=>wL (And.intro ⟨k.toNat,2,?_,by omega⟩ ?_) e)
     ·rw [hc,List.getElem?_set_self (by simp [uE];exact hlt)];rfl
     · intro z hz;rcases List.mem_or_eq_of_mem_set hz with g|g
       ·exact aKs u z g
       ·rw [g,hc];simp [cnt]
  · rw [if_neg h1,if_neg (fun g=>h1 g.1)];exact And.intro (fun v e=>nomatch e) (fun _ d e=>nomatch e)
theorem rJ (p:Prog) :∀ (t:List Node) (i:Nat) (c:List Int),zO c→qQ (lY p i t c) =false
 | [],i,c,h=>by rw [lY];exact aKr h
 | x::t,i,c,h=>by
  rw [lY];cases e:nN ((i:Int) +1) (p.nodes.length:Int) x.kids c with
  |none=>rfl
  |some d=>exact rJ p t (i+1) d (wL h e)
theorem aF4 :∀ (u:List Bool),(uE u).all one=u.all fun b=>b
 | [] =>rfl
 | b::u=>by
  have:=aF4 u;simp only [uE,List.map_cons,List.all_cons]at this ⊢;rw [this];cases b<;>simp [cnt,one]
theorem aKt (p:Prog) :∀ (t:List Node) (i:Nat) (u:List Bool),u.length=p.nodes.length→t.all (cO p) =true→allT (cI p i t u) =qQ (lY p i t (uE u))
 | [],i,u,hu,_=>by simp only [cI,lY,allT,qQ,aF4]
 | x::t,i,u,hu,ha=>by
  simp only [List.all_cons,Bool.and_eq_true]at ha;obtain⟨m1,m2⟩ :=zP (lo:= (i:Int) +1) (n:= (p.nodes.length:Int)) (by omega) x.kids u (by omega);simp only [cI,lY,if_pos ha.1];cases hm:marks ((i:Int) +1) (p.nodes.length:Int) x.kids u with
  | some v=>
   rw [m1 v hm];exact aKt p t (i+1) v (by rw [lW hm,hu]) ha.2
  | none=>
   cases hi:nN ((i:Int) +1) (p.nodes.length:Int) x.kids (uE u)with
   |none=>rfl
   |some d=>exact(rJ p t (i+1) d (m2 hm d hi)).symm
theorem aA0 (p:Prog) :∀ (t:List Node) (i:Nat) (u:List Bool),t.all (cO p) =false→allT (cI p i t u) =false
 | [],i,u,h=>by simp at h
 | x ::t,i,u,h=>by
  simp only [cI];by_cases hx:cO p x=true
  · rw [if_pos hx];have ht:t.all (cO p) =false:=by simpa [hx]using h
    cases marks ((i:Int) +1) (p.nodes.length:Int) x.kids u with
    |none=>rfl
    |some v=>exact aA0 p t (i+1) v ht
  ·rw [if_neg hx];rfl
theorem aQN (p:Prog) :dL p=bC p:=by
 have e1:dL p= (eM p&&zK p.cons&& (p.nodes.all (cO p) && (match nN 0 (p.nodes.length:Int) p.funs (List.replicate p.nodes.length 0)with
  |some v=>qQ (lY p 0 p.nodes v)
  |none=>false))) :=by
  unfold dL zK;cases eM p<;>cases p.cons.all gI<;>cases jW (bH p.cons) <;>cases p.nodes.all (cO p) <;>cases decide (p.cons.length≤20) <;>simp
 rw [e1,bC];congr 1;have ez:List.replicate p.nodes.length (0:Int) =uE (List.replicate p.nodes.length false) :=by rw [uE,List.map_replicate];rfl
 rw [ez];obtain⟨m1,m2⟩ :=zP (lo:=0) (n:= (p.nodes.length:Int)) (by omega) p.funs (List.replicate p.nodes.length false) (by simp);cases hm:marks 0 (p.nodes.length:Int) p.funs (List.replicate p.nodes.length false)with
 | some v=>
  rw [m1 v hm];cases ha:p.nodes.all (cO p)with
  |true=>simp only [Bool.true_and];exact(aKt p p.nodes 0 v (by rw [lW hm];simp) ha).symm
  |false=>simp only [Bool.false_and];exact(aA0 p p.nodes 0 v ha).symm
 | none=>
  simp only;cases hi:nN 0 (p.nodes.length:Int) p.funs (uE (List.replicate p.nodes.length false))with
  |none=>simp
  |some d=>simp only [rJ p p.nodes 0 d (m2 hm d hi),Bool.and_false]
end Go.Hb
namespace Go.Hb
open Go.Proofs
noncomputable section
open Go.Proofs Tryz
def xO(d e:Int)(f:aE)(a:List Pat)(b c:Int):TS:=⟨(tf 195 22 [(2,(nI 0)),(3,(nI b)),(10,(iP a)),(11,(nI (a.length:Int))),(12,(nI c))] [kc f195 244,kl f195 244,.inBlock 0,kc f195 31]),[],[],0⟩
def aNb(a:Node)(b:Int):=tT 0 (start PP 141 [(Node.av a),(nI b)])<|.b 13 9 (a.op==5) (gE 21 1 (nI 1))<|.b 5 14 (a.op==27) (gE 16 1 (nI 1))<|.b 4 18 (a.op==7) (.b 6 5 (b==1) (gE 6 1 (nI 1))<|.b 7 27 (a.op==15) .x<|gE 13 1 (nI 0))<|.b 13 27 (a.op==15) (gd 5 23 (b>0) (gw 7 34 (b-1)<|mW 0 a.pats (b-1)<|fun c d e f=>gpI 1 195 [(.agg [(nI c),(nI d),(aC e),(iP f)])]<|fun g=>gE 3 1 (nI g))<|gE 8 1 (nI 0))<|gE 13 1 (nI 0)
def aQO:=fun a b c=>aNb a b|>.t c tv
def aQP:=fun a b c d=>aNb a b|>.f c|>.t d tv
def aQQ:=fun a b c d e f=>aNb a b|>.f c|>.f d|>.t e|>.t f tv
def aQR:=fun a b c d e f g=>aNb a b|>.f c|>.f d|>.t e|>.f f|>.f g tv
def aQS:=fun a b c d e f g i j k l m n o p q=>aNb a b|>.f i|>.f j|>.f k|>.t l|>.t m n c d e f o p g q tv
def aQT:=fun a b c d e f g=>aNb a b|>.f c|>.f d|>.f e|>.t f|>.f g tv
def aQU:=fun a b c d e f=>aNb a b|>.f c|>.f d|>.f e|>.f f tv
def bH3(a c:Int)(d:aE)(b:List Pat):=tT 0 (start PP 195 [(.agg [(nI a),(nI c),(aC d),(iP b)])])<|.b 12 8 (a==2) (gE 6 1 (nI 1))<|gm 11 aF b<|.W 4 1 [] (xO a c d b 0 0)
def aNc:=fun a b c d e=>bH3 a b c d|>.t e tv
def aNd:=fun a b c d e=>bH3 a b c d|>.f e tv
def bH4(d e:Int)(f:aE)(b:List Pat)(c a:Int):=tT 0 (xO d e f b c a)<|gd 5 13 (a< (b.length:Int)) (mW 6 b a<|fun i j k l=>gpI 7 195 [(.agg [(nI i),(nI j),(aC k),(iP l)])]<|fun g=>gw 1 19 (c+g)<|gw 5 20 (a+1)<|.W 3 1 [] (xO d e f b (c+g) (a+1)))<|gE 8 0 (nI c)
def aNe:=fun a b c d e f g i j k l m n o p q r=>bH4 a b c d e f|>.t m g i j k n o l p q r tv
def aNf:=fun a b c d e f g=>bH4 a b c d e f|>.f g tv
end
end Go.Hb
namespace Go.Hb
open Go.Proofs
noncomputable section
end
end Go.Hb
namespace Go.Hb
open Go.Proofs
theorem Ends.val {P:Program}{m:Nat}{s:AS}{v v':AV}{h':Hp}(h:Ends P m s (.ret v) h')(hv:∀E cv,VR E v cv→VR E v' cv) :Ends P m s (.ret v') h':=fun hm E fr ccs w f fs r cl base=>by
 obtain⟨cl',w',E',s1,⟨cv,e,g⟩,r2,x2⟩ :=h hm E fr ccs w f fs r cl base;exact⟨cl',w',E',s1,⟨cv,e,hv _ _ g⟩,r2,x2⟩
mutual
def bnm :Pat→Int
 | .mk f _ _ ps=>if f=2 then 1 else aCD ps
def aCD :List Pat→Int
 | [] =>0
 |p::ps=>bnm p+aCD ps
end
mutual
theorem aNh :∀p,0≤bnm p∧bnm p≤aP p
 | .mk f _ _ ps=>by
  have:=aCT ps;simp only [bnm,aP];split<;>omega
theorem aCT :∀ps,0≤aCD ps∧aCD ps≤aK ps
 | [] =>by simp [aCD,aK]
 | p::ps=>by
  have:=aNh p;have:=aCT ps;simp only [aCD,aK];omega
end
theorem aCd (f n:Int)(s:aE)(ps:List Pat)(hl:ps.length<1000000)(ih:∀p∈ps,Pure PP 195 [Pat.av p] (.int .i64 (bnm p))) :
  ∀ (t:List Pat) (i:Nat) (a:Int),0≤a→a+aCD t≤1000000→ps.drop i=t→Ends PP 0 (xO f n s ps a (i:Int)).as (.ret (.int .i64 (a+aCD t))) (aG [] 0)
 | [],i,a,_,_,h=>by
  have:=bD h;exact Ends.eqv (aNf f n s ps a i sd) (by simp [aCD])
 | .mk f' n' s' ps'::t,i,a,ha,hb,h=>by
  obtain⟨g1,g2,g3⟩ :=bB h;have ihp:=ih _ (List.mem_of_getElem? g1);have b1:=aNh (.mk f' n' s' ps');have b2:=aCT t;rw [aCD]at hb ⊢;refine(aNe f n s ps a i f' n' s' ps' _ sd sd sd ihp sd sd).ends ?_;exact Ends.eqv (aCd f n s ps hl ih t (i+1) (a+bnm (.mk f' n' s' ps')) (by omega) (by omega) g2) (by rw [Int.add_assoc])
mutual
theorem aCe :∀ (p:Pat),aP p<100000→Pure PP 195 [Pat.av p] (.int .i64 (bnm p))
 | .mk f n s ps,h=>by
  refine aM (by kernel_rfl) (by simp [AV.keylessL,fC]) rfl ?_;simp only [aP]at h;have:=cL ps;have b:=aCT ps;by_cases g:f=2
  · subst g;exact Ends.eqv (aNc 2 n s ps rfl) (by simp [bnm])
  · refine(aNd f n s ps (by simpa using g)).ends ?_;exact Ends.eqv (aCd f n s ps (by omega) (aEe ps (by omega)) ps 0 0 (by omega) (by omega) rfl) (by simp [bnm,g])
theorem aEe :∀ (ps:List Pat),aK ps<100000→∀p∈ps,Pure PP 195 [Pat.av p] (.int .i64 (bnm p))
 | [],_,p,hp=>by cases hp
 | q::ps,h,p,hp=>by
  simp only [aK]at h;rcases List.mem_cons.1 hp with e|hp
  ·rw [e];exact aCe q (by omega)
  ·exact aEe ps (by omega) p hp
end
def bJ (x:Node)(k:Int) :Int:=
 if x.op=5∨x.op=27∨ (x.op=7∧k=1)then 1
 else if x.op=15∧k>0 then(match x.pats[(k-1).toNat]? with|some q=>bnm q|none=>0)else 0
structure FineN (cons:List Con) (x:Node) :Prop where
 pats:∀q∈x.pats,aP q≤12∧cT cons q=true
 mat:x.op=15→x.kids.length=1+x.pats.length
 let2:x.op=7→x.kids.length=2
theorem aOn {p:Prog}{x:Node}(h:cO p x=true) :FineN p.cons x:=by
 simp only [cO,Bool.and_eq_true,decide_eq_true_eq]at h;obtain⟨⟨_,h2⟩,h3⟩ :=h;refine⟨fun q hq=>?_,fun e=>?_,fun e=>?_⟩
 · have:=List.all_eq_true.1 h2 q hq;simpa [jK]using this
 ·rw [e]at h3;simp [dH]at h3;omega
 ·rw [e]at h3;simp [dH]at h3;omega
theorem sH {cons:List Con}{x:Node}(hf:FineN cons x)(k:Int) :0≤bJ x k∧bJ x k≤12:=by
 unfold bJ;split
 ·omega
 · split
   · split
     · rename_i q hq;have:= (hf.pats q (List.mem_of_getElem? hq)).1;have:=aNh q;omega
     ·omega
   ·omega
theorem aBG {x:Node}{k:Int}(h15:x.op=15)(hk:k>0){q:Pat}(hq:x.pats[(k-1).toNat]?=some q) :bJ x k=bnm q:=by
 unfold bJ;rw [if_neg (by rw [h15];omega),if_pos ⟨h15,hk⟩,hq]
theorem zQ {cons:List Con}{x:Node}(hf:FineN cons x){k:Int}(h0:0≤k)(h1:k<x.kids.length)(hk:x.kids.length≤10) :Pure PP 141 [Node.av x,.int .i64 k] (.int .i64 (bJ x k)) :=by
 refine aM (by kernel_rfl) rfl rfl ?_
 have mt:x.op=15→k>0→∃f n s ps,x.pats[(k-1).toNat]?=some (.mk f n s ps) ∧Pure PP 195 [Pat.av (.mk f n s ps)] (.int .i64 (bnm (.mk f n s ps))) :=fun e g=>by
  have hl:=hf.mat e;obtain⟨q,hq⟩ :∃q,x.pats[(k-1).toNat]?=some q:= ⟨_,List.getElem?_eq_getElem (by omega)⟩;obtain⟨f,n,s,ps⟩ :=q;have:= (hf.pats _ (List.mem_of_getElem? hq)).1;exact⟨f,n,s,ps,hq,aCe _ (by omega)⟩
 by_cases g5:x.op=5
 ·exact Ends.eqv (aQO x k (by simp [g5])) (by simp [bJ,g5])
 · by_cases g27:x.op=27
   ·exact Ends.eqv (aQP x k (by simp [g5]) (by simp [g27])) (by simp [bJ,g27])
   · by_cases g7:x.op=7
     · by_cases gk:k=1
       ·exact Ends.eqv (aQQ x k (by simp [g5]) (by simp [g27]) (by simp [g7]) (by simp [gk])) (by simp [bJ,g7,gk])
       ·exact Ends.eqv (aQR x k (by simp [g5]) (by simp [g27]) (by simp [g7]) (by simp [gk]) (by simp [g7])) (by simp [bJ,g7,gk])
     · by_cases g15:x.op=15
       · by_cases gk:k>0
         · obtain⟨f,n,s,ps,hq,hp⟩ :=mt g15 gk;exact Ends.eqv (aQS x k f n s ps _ (by simp [g5]) (by simp [g27]) (by simp [g7]) (by simp [g15]) (by simpa using gk) sd (by omega) hq hp) (by rw [aBG g15 gk hq])
         ·exact Ends.eqv (aQT x k (by simp [g5]) (by simp [g27]) (by simp [g7]) (by simp [g15]) (by simpa using gk)) (by simp [bJ,g15,gk])
       ·exact Ends.eqv (aQU x k (by simp [g5]) (by simp [g27]) (by simp [g7]) (by simp [g15])) (by simp [bJ,g5,g27,g7,g15])
end Go.Hb
namespace Go.Hb
open Go.Proofs
noncomputable section
end
end Go.Hb
namespace Go.Hb
open Go.Proofs
noncomputable section
end
end Go.Hb
namespace Go.Hb
open Go.Proofs
set_option maxHeartbeats 1000000
structure FineP (p:Prog) :Prop where
 small:p.nodes.length≤320
 fsmall:p.funs.length≤320
 node:∀ (i:Nat) (x:Node),p.nodes[i]?=some x→FineN p.cons x∧x.kids.length≤10∧∀k∈x.kids,(i:Int) <k∧k<p.nodes.length
 funs:∀f∈p.funs,0≤f∧f<p.nodes.length
def bGL (a fn sz:Int) :AV:=.agg [.int .i64 a,.int .i64 fn,.int .i64 sz]
end Go.Hb
namespace Go.Hb
open Go.Proofs
noncomputable section
open Go.Proofs Tryz
end
end Go.Hb
namespace Go.Hb
open Go.Proofs
set_option maxHeartbeats 1000000
noncomputable section
section
variable (p :Prog) (mf mc:List (Int×Int))
variable {p mf mc}
end
end
end Go.Hb
namespace Go.Hb
open Go.Proofs
set_option maxHeartbeats 2000000
noncomputable section
def bN (mf mc:List (Int×Int))(op n:Int) :Int:=if op=4 then(if 0≤n then n else -1-uQ mf (-1-n))else if op=14 then uQ mc n else n
def aCf (mf mc:List (Int×Int))(to:List Int)(x:Node) :Node:= ⟨x.op,bN mf mc x.op x.n,x.kids.map (aHQ to),eO mc x.pats⟩
section
variable (p :Prog) (mf mc:List (Int×Int)) (to:List Int)
variable {p mf mc to}
end
end
end Go.Hb
namespace Go.Hb
open Go.Proofs
set_option maxHeartbeats 2000000
noncomputable section
section
variable {p :Prog} {mf mc:List (Int×Int)}
end
end
end Go.Hb
