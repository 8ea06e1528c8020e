/- A machine on abstract values, its soundness, ways, plain laws. -/
import Derived.Test.YtabmpnmmkeieiaaGreatHF
import Derived.Test.YtabmpnmmkeieiaaGreatHG
import Derived.Test.YtabmpnmmkeieiaaGreatHJ
import Derived.Test.YtabmpnmmkeieiaaGreatHL
import Derived.Test.YtabmpnmmkeieiaaGreatHM
import Derived.Test.YtabmpnmmkeieiaaGreatHN
import Derived.Test.YtabmpnmmkeieiaaGreatHO
set_option linter.defProp false
set_option linter.unusedVariables false
set_option linter.unusedSimpArgs false
set_option linter.unusedSectionVars false
set_option maxRecDepth 100000
set_option maxHeartbeats 4000000
namespace Go.Hb
open AV (agg keyless keylessL)
open Bool (and_eq_true)
open List (append_assoc append_nil drop length length_append length_cons length_map length_set map map_append map_cons map_nil mem_append_left mem_append_right mem_of_getElem? set singleton_append take)
open Nat (ble blt le_refl)
open Option (getD_some map_some toList_some)
open Terms (av)
open Go.Proofs Tryz
noncomputable section
abbrev WL (mf mc:List (aB×Int)) :List (Nat×AObj×Bool) :=[(0,lQ mf,true),(1,lQ mc,true)]
theorem aJP (mf mc:List (aB×Int)) :fG (WL mf mc) := ⟨aI (fun _=>rfl) (fun _=>rfl) _ _ _,aI (fun _=>rfl) (fun _=>rfl) _ _ _,trivial⟩
theorem frW {f:Nat}{args:List AV}{res:Res}{mf mc:List (aB×Int)}{lc:List (Nat×AObj×Bool)}{n2:Nat}(h:Spec PP (.enter f args) (WH mf mc) res (WH mf mc))(hv:yF res)
  (h1:AV.renL (dV 0 2 n2 [0,1]) args=args:=by kernel_rfl) (hl:oI (aG lc n2) (dV 0 2 n2 [0,1]) (WL mf mc) =gI (dV 0 2 n2 [0,1]) (WL mf mc) :=by kernel_rfl) (hx:eI n2 lc=true:=by kernel_rfl)
  (hlt: [0,1].all (fun k=>blt k n2) =true:=by kernel_rfl) (hout:vT (namesT (dV 0 2 n2 [0,1]) (WL mf mc)) [0,1] (aG lc n2) lc=nT lc:=by kernel_rfl) :Spec PP (.enter f args) (aG lc n2) res (aG lc n2) :=
 dP h h1 hv (by kernel_rfl) hl (aJP mf mc) hl (aJP mf mc) (by kernel_rfl) (by kernel_rfl) hx hx (by kernel_rfl) hlt hout (by kernel_rfl)
mutual
def wP (mc:List (aB×Int))(ar:List Int) :Pat→Option Pat
 | .mk f n s ps=>match wPs mc ar ps with
  |none=>none
  | some qs=>if f=6 then(match aHA mc ar s (length ps)with
   |none=>none
   |some k=>some (.mk f k [] qs))else some (.mk f n [] qs)
def wPs (mc:List (aB×Int))(ar:List Int) :List Pat→Option (List Pat)
 | [] =>some []
 | p::ps=>match wP mc ar p with
  |none=>none
  | some q=>match wPs mc ar ps with
   |none=>none
   |some qs=>some (q::qs)
end
abbrev WVa (ar:List Int) :AV:=.agg [.map 0,.map 1,.ilst 1 (map aP ar) false]
def bFV :Option Pat→Res
 |none=>.pan UB
 |some p=>.ret (Pat.av p)
def aOl (acc:List Pat) :Option (List Pat) →Res
 |none=>.pan UB
 |some qs=>.ret (.ilst 4 (Pats.av (acc++qs)) false)
theorem aLM :yF (.pan UB) :=fun x hx=>by
 simp only [UB,List.mem_singleton]at hx;subst hx;rfl
theorem bB9 :∀o,yF (bFV o)
 |none=>aLM
 |some p=>kB p
theorem aNd (acc:List Pat) :∀o,yF (aOl acc o)
 |none=>aLM
 |some qs=>by simp [aOl,yF,keyless]
theorem aHS :∀o,yF (aOd o)
 |none=>aLM
 |some n=>rfl
section
variable (mf mc:List (aB×Int)) (ar:List Int)
def WPS (p:Pat) :Prop:=Spec PP (.enter 107 [WVa ar,Pat.av p]) (WH mf mc) (bFV (wP mc ar p)) (WH mf mc)
theorem aJQ (ql:List Pat)(hl:ql.length<1000000)(ih:∀p∈ql,WPS mf mc ar p) :∀ (t:List Pat) (i:Nat) (acc:List Pat),ql.drop i=t→acc.length=i →
  Ends PP 2 (aHR mf mc ar ql (i:Int) acc).as (aOl acc (wPs mc ar t)) (WH mf mc)
 | [],i,acc,h,_=>by
  have:=bL h;rw [wPs];simp only [aOl,append_nil];exact bB8 mf mc ar ql i acc sd
 | .mk f n s ps::t,i,acc,h,ha=>by
  obtain⟨g1,g2,g3⟩ :=bH h;have hi:= (List.getElem?_eq_some_iff.1 g1).1;have hs:=ih _ (mem_of_getElem? g1);unfold WPS at hs;have hs':=frW (lc:=[(0,lQ mf,true),(1,lQ mc,true),(2,.lst 4 (Pats.av acc),true),(3,aHO f n s ps,false)]) (n2:=4) hs (bB9 _);rw [wPs];cases hw:wP mc ar (.mk f n s ps)with
  | none=>
   rw [hw]at hs';exact bB6 mf mc ar ql i acc f n s ps sd sd sd hs'
  | some q=>
   rw [hw]at hs';obtain⟨f',n',s',ps'⟩ :=q;have h1:=bB7 mf mc ar ql i acc f n s ps f' n' s' ps' sd sd sd hs' (by simp;omega) sd;have h2:=aJQ ql hl ih t (i+1) (acc++ [.mk f' n' s' ps']) g2 (by simp [ha]);simp only;cases hr:wPs mc ar t with
   |none=>rw [hr]at h2;exact h1.ends h2
   | some qs=>
    rw [hr]at h2;simp only [aOl]at h2 ⊢;rw [show acc++ .mk f' n' s' ps'::qs= (acc++ [.mk f' n' s' ps']) ++qs by simp];exact h1.ends h2
theorem aJR (ql:List Pat)(hl:ql.length<1000000)(ih:∀p∈ql,WPS mf mc ar p) :Spec PP (.enter 106 [.ilst 4 (Pats.av ql) false,.func 107 [WVa ar] []]) (WH mf mc) (aOl [] (wPs mc ar ql)) (WH mf mc) :=
 ⟨(bED mf mc ar ql).as.fr,by kernel_rfl,Eq.mp (by kernel_rfl) ((bB5 mf mc ar ql).ends (aJQ mf mc ar ql hl ih ql 0 [] rfl rfl))⟩
mutual
theorem aTM (hn:∀s n,cQ s mc=some n→0≤n∧n<ar.length) :∀p:Pat,aV p<1000000→WPS mf mc ar p
 | .mk f n s ps,hp=>by
  simp only [aV]at hp;have:=cP ps;have hm:=aJR mf mc ar ps (by omega) (aBU hn ps (by omega));have hm':=frW (lc:=[(0,lQ mf,true),(1,lQ mc,true),(2,.cells (putCells .leaf 0 [.map 0,.map 1,.ilst 1 (map aP ar) false]) 3 [] false,false),(3,aHO f n s ps,false),(4,.cells (putCells .leaf 0 [.int .i64 0,.int .i64 0,.str 0 0,.nils]) 4 [] false,false)]) (n2:=6) hm (aNd _ _);refine⟨(aNb mf mc ar f n s ps).as.fr,by kernel_rfl,?_⟩;have E:Ends PP 2 (aNb mf mc ar f n s ps).as (bFV (wP mc ar (.mk f n s ps))) (WH mf mc) :=by
   rw [wP];cases hr:wPs mc ar ps with
   | none=>
    rw [hr]at hm';exact bB1 mf mc ar f n s ps hm'
   | some qs=>
    rw [hr]at hm';simp only;by_cases h6:f=6
    · rw [if_pos h6];have hc:=aJl mf mc ar s (length ps) (hn s);have hc':=frW (lc:=[(0,lQ mf,true),(1,lQ mc,true),(2,.cells (putCells .leaf 0 [.map 0,.map 1,.ilst 1 (map aP ar) false]) 3 [] false,false),(3,aHO f n s ps,false),(4,.cells (putCells .leaf 0 [.int .i64 0,.int .i64 0,.str 0 0,.nils]) 4 [] false,false),(5,.cells (putCells .leaf 0 [.int .i64 f,.int .i64 n,.str 0 0,.ilst 4 (Pats.av qs) false]) 4 [] false,false)]) (n2:=6) hc (aHS _);cases hk:aHA mc ar s (length ps)with
      | none=>
       rw [hk]at hc';exact bB2 mf mc ar f n s ps qs hm' (by simp [h6]) hc'
      | some k=>
       rw [hk]at hc';exact bB3 mf mc ar f n s ps qs k hm' (by simp [h6]) hc'
    · rw [if_neg h6];exact bB4 mf mc ar f n s ps qs hm' (by simp [h6])
  exact Eq.mp (by kernel_rfl) E
theorem aBU (hn:∀s n,cQ s mc=some n→0≤n∧n<ar.length) :∀qs:List Pat,aM qs<1000000→∀p∈qs,WPS mf mc ar p
 | [],_,p,hp=>by cases hp
 | q::qs,h,p,hp=>by
  simp only [aM]at h;rcases List.mem_cons.1 hp with e|hp
  ·rw [e];exact aTM hn q (by omega)
  ·exact aBU hn qs (by omega) p hp
end
end
theorem bCa {P:Program}{α:Type}{f:α→AV}{t:TypeId}{e:Nat}(hu:qP P t e=true){xs:List α}{kk:IntKind} :
  bEv P t (.ilst e (map f xs) false) none (some (.int kk ((length xs:Nat) :Int))) (some (.int kk ((length xs:Nat) :Int))) (.ilst e (map f xs) true) :=by
 refine⟨_,_,_,eW,mG (by omega),mG (by omega),.inr ⟨?_,?_⟩⟩
 ·unfold jX;split<;>simp_all
 · unfold oV;simp only [hu,cond,getD_some,Option.getD_none,length_map];rw [if_pos ⟨by omega,le_refl _,by simp⟩];simp [List.take_of_length_le]
def bEE(a b:List (aB×Int))(d:List Int)(e:List aB)(c:List ONode)(f g:Int)(i:aB)(j:List Term)(k:List Pat):TS:=bQ PP 44 [(.ptr 2 0),(.agg [(.map 0),(.map 1),(iI d),(iS e)]),(.agg [(nI f),(nI g),(aA i),(.ilst 5 (av j) false),(iP k)])] [(0,(.map (aC aA aP 0 a) a.length),true),(1,(.map (aC aA aP 0 b) b.length),true),oC 2 [(.gl 3 4 0 c.length false)],oL 3 4 (map ONode.av c)] 4
def aBV(a b:List (aB×Int))(d:List Int)(e:List aB)(c:List ONode)(f g:Int)(i:aB)(j:List Term)(k:List Pat):TS:=⟨(tf 44 94 [kp 0 2,kp 4 3,kp 5 4,(6,(nI 0))] [kc f44 6,kc f44 7]),[],[(0,(.map (aC aA aP 0 a) a.length),true),(1,(.map (aC aA aP 0 b) b.length),true),oC 2 [(.gl 5 4 0 c.length false)],oC 3 [(.map 0),(.map 1),(iI d),(iS e)],oC 4 [(nI f),(nI g),(aA i),(.ilst 5 (av j) false),(iP k)],oL 5 4 (map ONode.av c)],6⟩
def wO(b c:List (aB×Int))(e:List Int)(f:List aB)(g:List ONode)(i j:Int)(k:aB)(a:List Term)(l:List Pat)(d:List ONode):TS:=⟨(tf 44 94 [kp 0 2,kp 4 3,kp 5 4,(6,(nI 0)),(7,(nI (g.length:Int))),(59,(.ilst 5 (av a) false)),(60,(nI (a.length:Int))),(61,(nI 0))] [kc f44 1012,kl f44 1012,.inBlock 1,kc f44 127]),[],[(0,(.map (aC aA aP 0 b) b.length),true),(1,(.map (aC aA aP 0 c) c.length),true),oC 2 [(.gl 5 4 0 d.length false)],oC 3 [(.map 0),(.map 1),(iI e),(iS f)],oC 4 [(nI i),(nI j),(aA k),(.ilst 5 (av a) false),(iP l)],oL 5 4 (map ONode.av d)],6⟩
def aTN(b c:List (aB×Int))(e:List Int)(f:List aB)(g:List ONode)(i j:Int)(k:aB)(a:List Term)(l:List Pat)(m:Int)(d:List ONode):TS:=⟨(tf 44 94 [kp 0 2,kp 4 3,kp 5 4,(6,(nI 0)),(7,(nI (g.length:Int))),(11,(nI m)),(59,(.ilst 5 (av a) false)),(60,(nI (a.length:Int))),(61,(nI 0))] [kc f44 64819,.inBlock 2,kc f44 8103,kl f44 1012,.inBlock 1,kc f44 127]),[],[(0,(.map (aC aA aP 0 b) b.length),true),(1,(.map (aC aA aP 0 c) c.length),true),oC 2 [(.gl 5 4 0 d.length false)],oC 3 [(.map 0),(.map 1),(iI e),(iS f)],oC 4 [(nI i),(nI j),(aA k),(.ilst 5 (av a) false),(iP l)],oL 5 4 (map ONode.av d)],6⟩
def aNe(b c:List (aB×Int))(e:List Int)(f:List aB)(g:List ONode)(i j:Int)(k:aB)(a:List Term)(l:List Pat)(m:Int)(d:List ONode)(n:Nat)(o p:Int)(q:List Pat):TS:=⟨(tf 44 94 [kp 0 2,kp 4 3,kp 5 4,(6,(nI 0)),(7,(nI (g.length:Int))),(11,(nI m)),(59,(.ilst 5 (av a) false)),(60,(nI (a.length:Int))),(61,(nI 0))] [kc f44 64819,.inBlock 2,kc f44 8103,kl f44 1012,.inBlock 1,kc f44 127]),[],[(0,(.map (aC aA aP 0 b) b.length),true),(1,(.map (aC aA aP 0 c) c.length),true),oC 2 [(.gl 5 4 0 d.length false)],oC 3 [(.map 0),(.map 1),(iI e),(iS f)],oC 4 [(nI i),(nI j),(aA k),(.ilst 5 (av a) false),(iP l)],(5,(.lst 4 (set (map ONode.av d) n (.agg [(nI o),(nI p),(.gl 6 1 0 ([] :List Int).length false),(iP q)]))),false),oL 6 1 (jI ([] :List Int))],7⟩
def zX(b c:List (aB×Int))(e:List Int)(f:List aB)(g:List ONode)(i j:Int)(k:aB)(a:List Term)(l:List Pat)(d:List ONode)(m:List Int)(n:Value)(o:Int):TS:=⟨(tf 44 94 [kp 0 2,kp 4 3,kp 5 4,(6,(nI 0)),(7,(nI (g.length:Int))),(59,(.ilst 5 (av a) false)),(60,(nI (a.length:Int))),(61,(nI o))] [kc f44 1012,kl f44 1012,.inBlock 1,kc f44 127]),[],[(0,(.map (aC aA aP 0 b) b.length),true),(1,(.map (aC aA aP 0 c) c.length),true),oC 2 [(.gl 5 4 0 d.length false)],oC 3 [(.map 0),(.map 1),(iI e),(iS f)],oC 4 [(nI i),(nI j),(aA k),(.ilst 5 (av a) false),(iP l)],oL 5 4 (map ONode.av d),(6,(.lstv n 1 (jI m)),true)],7⟩
def aTO(b c:List (aB×Int))(e:List Int)(f:List aB)(g:List ONode)(i j:Int)(k:aB)(a:List Term)(l:List Pat)(m:Int)(d:List ONode)(n:List Int)(o:Value)(p:Int):TS:=⟨(tf 44 94 [kp 0 2,kp 4 3,kp 5 4,(6,(nI 0)),(7,(nI (g.length:Int))),(11,(nI m)),(59,(.ilst 5 (av a) false)),(60,(nI (a.length:Int))),(61,(nI p))] [kc f44 64819,.inBlock 2,kc f44 8103,kl f44 1012,.inBlock 1,kc f44 127]),[],[(0,(.map (aC aA aP 0 b) b.length),true),(1,(.map (aC aA aP 0 c) c.length),true),oC 2 [(.gl 5 4 0 d.length false)],oC 3 [(.map 0),(.map 1),(iI e),(iS f)],oC 4 [(nI i),(nI j),(aA k),(.ilst 5 (av a) false),(iP l)],oL 5 4 (map ONode.av d),(6,(.lstv o 1 (jI n)),true)],7⟩
def aNf(b c:List (aB×Int))(f:List Int)(g:List aB)(i:List ONode)(j k:Int)(l:aB)(a:List Term)(m:List Pat)(n:Int)(d:List ONode)(e:List Int)(o:Int)(p:Nat)(q r:Int)(s:List Pat):TS:=⟨(tf 44 94 [kp 0 2,kp 4 3,kp 5 4,(6,(nI 0)),(7,(nI (i.length:Int))),(11,(nI n)),(59,(.ilst 5 (av a) false)),(60,(nI (a.length:Int))),(61,(nI o))] [kc f44 64819,.inBlock 2,kc f44 8103,kl f44 1012,.inBlock 1,kc f44 127]),[],[(0,(.map (aC aA aP 0 b) b.length),true),(1,(.map (aC aA aP 0 c) c.length),true),oC 2 [(.gl 5 4 0 d.length false)],oC 3 [(.map 0),(.map 1),(iI f),(iS g)],oC 4 [(nI j),(nI k),(aA l),(.ilst 5 (av a) false),(iP m)],(5,(.lst 4 (set (map ONode.av d) p (.agg [(nI q),(nI r),(.gl 6 1 0 e.length false),(iP s)]))),false),oL 6 1 (jI e)],7⟩
def bCb (a b:List (aB×Int))(c:List Int)(d:List aB)(e:List ONode)(f g:Int)(i:aB)(j:List Term)(k:List Pat):=(tT 3 (bEE a b c d e f g i j k)<|.W 7 6 [4,5,3] (aBV a b c d e f g i j k)) ⟨aI (fun _=>rfl) (fun _=>rfl) _ _ _,⟨aI (fun _=>rfl) (fun _=>rfl) _ _ _,⟨(bE _ (fun _=>gW _) _),trivial⟩⟩⟩
def aJS(d e:List (aB×Int))(i:List Int)(k:List aB)(a:List ONode)(b c:Int)(j:aB)(g:List Term)(l:List Pat):=tT 3 (aBV d e i k a b c j g l)<|.y fun f:List Pat=>.i [rn 9,.reg (rd 9 (.call (iP f) (aG [(0,(.map (aC aA aP 0 d) d.length),true),(1,(.map (aC aA aP 0 e) e.length),true),oC 2 [(.gl 5 4 0 a.length false)],oC 3 [(.map 0),(.map 1),(iI i),(iS k)],oC 4 [(nI b),(nI c),(aA j),(.ilst 5 (av g) false),(iP l)],oL 5 4 (map ONode.av a)] 7)::rd 3 []))] [hA (Spec PP (.enter 106 [(iP l),(.func 107 [(.agg [(.map 0),(.map 1),(iI i)])] [])]) (aG [(0,(.map (aC aA aP 0 d) d.length),true),(1,(.map (aC aA aP 0 e) e.length),true),oC 2 [(.gl 5 4 0 a.length false)],oC 3 [(.map 0),(.map 1),(iI i),(iS k)],oC 4 [(nI b),(nI c),(aA j),(.ilst 5 (av g) false),(iP l)],oL 5 4 (map ONode.av a)] 7) (.ret (iP f)) (aG [(0,(.map (aC aA aP 0 d) d.length),true),(1,(.map (aC aA aP 0 e) e.length),true),oC 2 [(.gl 5 4 0 a.length false)],oC 3 [(.map 0),(.map 1),(iI i),(iS k)],oC 4 [(nI b),(nI c),(aA j),(.ilst 5 (av g) false),(iP l)],oL 5 4 (map ONode.av a)] 7)),hr (nI c),hr (nI c),hr (nI b),hr (nI b)]<|.b 12 30 (b==4) (.o (gK 5 (.enter 108 [(.agg [(.map 0),(.map 1),(iI i),(iS k)]),(aA j)]) [(0,(.map (aC aA aP 0 d) d.length),true),(1,(.map (aC aA aP 0 e) e.length),true),oC 2 [(.gl 5 4 0 a.length false)],oC 3 [(.map 0),(.map 1),(iI i),(iS k)],oC 4 [(nI b),(nI c),(aA j),(.ilst 5 (av g) false),(iP l)],oL 5 4 (map ONode.av a),oC 6 [(nI b),(nI c),.nils,(iP f)]] 7 [((.iface 82 (.agg [])),false)] [(0,(.map (aC aA aP 0 d) d.length),true),(1,(.map (aC aA aP 0 e) e.length),true),oC 2 [(.gl 5 4 0 a.length false)],oC 3 [(.map 0),(.map 1),(iI i),(iS k)],oC 4 [(nI b),(nI c),(aA j),(.ilst 5 (av g) false),(iP l)],oL 5 4 (map ONode.av a),oC 6 [(nI b),(nI c),.nils,(iP f)]] 7<|.P 0 7 [] [((.iface 82 (.agg [])),false)] [(0,(.map (aC aA aP 0 d) d.length),true),(1,(.map (aC aA aP 0 e) e.length),true)] 3)<|.y fun m:Int=>gk 5 (.enter 108 [(.agg [(.map 0),(.map 1),(iI i),(iS k)]),(aA j)]) [(0,(.map (aC aA aP 0 d) d.length),true),(1,(.map (aC aA aP 0 e) e.length),true),oC 2 [(.gl 5 4 0 a.length false)],oC 3 [(.map 0),(.map 1),(iI i),(iS k)],oC 4 [(nI b),(nI c),(aA j),(.ilst 5 (av g) false),(iP l)],oL 5 4 (map ONode.av a),oC 6 [(nI b),(nI c),.nils,(iP f)]] 7 (nI m) [(0,(.map (aC aA aP 0 d) d.length),true),(1,(.map (aC aA aP 0 e) e.length),true),oC 2 [(.gl 5 4 0 a.length false)],oC 3 [(.map 0),(.map 1),(iI i),(iS k)],oC 4 [(nI b),(nI c),(aA j),(.ilst 5 (av g) false),(iP l)],oL 5 4 (map ONode.av a),oC 6 [(nI b),(nI c),.nils,(iP f)]] 7<|.i [rn 5,.reg (rd 7 (.app (map ONode.av (a++ [(ONode.mk b m KV.nil f)])) (a++ [(ONode.mk b m KV.nil f)]).length::rd 3 []))] [hb ONode.av a,hA (length (a++ [(ONode.mk b m KV.nil f)]) ≤1000000),hc ONode.av a [(ONode.mk b m KV.nil f)],he ONode.av a [(ONode.mk b m KV.nil f)]]<|gm 5 aU g<|.W 4 9 [3,4,8] (wO d e i k a b c j g l (a++ [(ONode.mk b m KV.nil f)])))<|.b 6 37 (b==14) (gm 8 aU g<|.o (gK 0 (.enter 109 [(.agg [(.map 0),(.map 1),(iI i)]),(aA j),(nI (g.length:Int))]) [(0,(.map (aC aA aP 0 d) d.length),true),(1,(.map (aC aA aP 0 e) e.length),true),oC 2 [(.gl 5 4 0 a.length false)],oC 3 [(.map 0),(.map 1),(iI i),(iS k)],oC 4 [(nI b),(nI c),(aA j),(.ilst 5 (av g) false),(iP l)],oL 5 4 (map ONode.av a),oC 6 [(nI b),(nI c),.nils,(iP f)]] 7 [((.iface 82 (.agg [])),false)] [(0,(.map (aC aA aP 0 d) d.length),true),(1,(.map (aC aA aP 0 e) e.length),true),oC 2 [(.gl 5 4 0 a.length false)],oC 3 [(.map 0),(.map 1),(iI i),(iS k)],oC 4 [(nI b),(nI c),(aA j),(.ilst 5 (av g) false),(iP l)],oL 5 4 (map ONode.av a),oC 6 [(nI b),(nI c),.nils,(iP f)]] 7<|.P 0 7 [] [((.iface 82 (.agg [])),false)] [(0,(.map (aC aA aP 0 d) d.length),true),(1,(.map (aC aA aP 0 e) e.length),true)] 3)<|.y fun m:Int=>gk 0 (.enter 109 [(.agg [(.map 0),(.map 1),(iI i)]),(aA j),(nI (g.length:Int))]) [(0,(.map (aC aA aP 0 d) d.length),true),(1,(.map (aC aA aP 0 e) e.length),true),oC 2 [(.gl 5 4 0 a.length false)],oC 3 [(.map 0),(.map 1),(iI i),(iS k)],oC 4 [(nI b),(nI c),(aA j),(.ilst 5 (av g) false),(iP l)],oL 5 4 (map ONode.av a),oC 6 [(nI b),(nI c),.nils,(iP f)]] 7 (nI m) [(0,(.map (aC aA aP 0 d) d.length),true),(1,(.map (aC aA aP 0 e) e.length),true),oC 2 [(.gl 5 4 0 a.length false)],oC 3 [(.map 0),(.map 1),(iI i),(iS k)],oC 4 [(nI b),(nI c),(aA j),(.ilst 5 (av g) false),(iP l)],oL 5 4 (map ONode.av a),oC 6 [(nI b),(nI c),.nils,(iP f)]] 7<|.i [rn 5,.reg (rd 7 (.app (map ONode.av (a++ [(ONode.mk b m KV.nil f)])) (a++ [(ONode.mk b m KV.nil f)]).length::rd 3 []))] [hb ONode.av a,hA (length (a++ [(ONode.mk b m KV.nil f)]) ≤1000000),hc ONode.av a [(ONode.mk b m KV.nil f)],he ONode.av a [(ONode.mk b m KV.nil f)]]<|gm 5 aU g<|.W 4 9 [3,4,8] (wO d e i k a b c j g l (a++ [(ONode.mk b m KV.nil f)])))<|.i [rn 4,.reg (rd 7 (.app (map ONode.av (a++ [(ONode.mk b c KV.nil f)])) (a++ [(ONode.mk b c KV.nil f)]).length::rd 3 []))] [hb ONode.av a,hA (length (a++ [(ONode.mk b c KV.nil f)]) ≤1000000),hc ONode.av a [(ONode.mk b c KV.nil f)],he ONode.av a [(ONode.mk b c KV.nil f)]]<|gm 5 aU g<|.W 4 9 [3,4,8] (wO d e i k a b c j g l (a++ [(ONode.mk b c KV.nil f)]))
def bCc:=fun a b c d e f g i j k l m n o=>aJS a b c d e f g i j k l m|>.t n|>.1 o ⟨aI (fun _=>rfl) (fun _=>rfl) _ _ _,⟨aI (fun _=>rfl) (fun _=>rfl) _ _ _,trivial⟩⟩
def bCd:=fun a b c d e f g i j k l m n o p q=>aJS a b c d e f g i j k l n|>.t o|>.2 m p q ⟨aI (fun _=>rfl) (fun _=>rfl) _ _ _,⟨aI (fun _=>rfl) (fun _=>rfl) _ _ _,⟨(bE _ (fun _=>gW _) _),trivial⟩⟩⟩
def bCe:=fun a b c d e f g i j k l m n o p=>aJS a b c d e f g i j k l m|>.f n|>.t o|>.1 p ⟨aI (fun _=>rfl) (fun _=>rfl) _ _ _,⟨aI (fun _=>rfl) (fun _=>rfl) _ _ _,trivial⟩⟩
def bCf:=fun a b c d e f g i j k l m n o p q r=>aJS a b c d e f g i j k l n|>.f o|>.t p|>.2 m q r ⟨aI (fun _=>rfl) (fun _=>rfl) _ _ _,⟨aI (fun _=>rfl) (fun _=>rfl) _ _ _,⟨(bE _ (fun _=>gW _) _),trivial⟩⟩⟩
def bCg:=fun a b c d e f g i j k l m n o p=>aJS a b c d e f g i j k l m|>.f n|>.f o p ⟨aI (fun _=>rfl) (fun _=>rfl) _ _ _,⟨aI (fun _=>rfl) (fun _=>rfl) _ _ _,⟨(bE _ (fun _=>gW _) _),trivial⟩⟩⟩
def bEF(c d:List (aB×Int))(e:List Int)(f:List aB)(g:List ONode)(o p:Int)(q:aB)(i:List Term)(r:List Pat)(a:List ONode):=tT 3 (wO c d e f g o p q i r a)<|gd 5 62 (0< (i.length:Int)) (aAP 7 i 0<|fun j k l m n=>.y fun s:List aB=>.y fun t:List Node=>.i [rn 6,.reg (rd 4 [.pure (iS s),.call (.agg [(.map 0),(.map 1),(iI e),(iS (f++s))]) (aG [(0,(.map (aC aA aP 0 c) c.length),true),(1,(.map (aC aA aP 0 d) d.length),true),oC 2 [(.gl 5 4 0 a.length false)],oC 3 [(.map 0),(.map 1),(iI e),(iS f)],oC 4 [(nI o),(nI p),(aA q),(.ilst 5 (av i) false),(iP r)],oL 5 4 (map ONode.av a),oC 6 [(nI j),(nI k),(aA l),(.ilst 5 (av m) false),(iP n)]] 7),.d,.call (nI (a.length:Int)) (aG [(0,(.map (aC aA aP 0 c) c.length),true),(1,(.map (aC aA aP 0 d) d.length),true),oC 2 [(.gl 7 4 0 (a++map Node.o t).length false)],oC 3 [(.map 0),(.map 1),(iI e),(iS f)],oC 4 [(nI o),(nI p),(aA q),(.ilst 5 (av i) false),(iP r)],oC 6 [(nI j),(nI k),(aA l),(.ilst 5 (av m) false),(iP n)],oL 7 4 (map ONode.av (a++map Node.o t))] 8),.d])] [hA (Pure PP 111 [(.agg [(nI o),(nI p),(aA q),(.ilst 5 (av i) false),(iP r)]),(nI 0)] (iS s)),hA (Spec PP (.enter 110 [(.agg [(.map 0),(.map 1),(iI e),(iS f)]),(iS s)]) (aG [(0,(.map (aC aA aP 0 c) c.length),true),(1,(.map (aC aA aP 0 d) d.length),true),oC 2 [(.gl 5 4 0 a.length false)],oC 3 [(.map 0),(.map 1),(iI e),(iS f)],oC 4 [(nI o),(nI p),(aA q),(.ilst 5 (av i) false),(iP r)],oL 5 4 (map ONode.av a),oC 6 [(nI j),(nI k),(aA l),(.ilst 5 (av m) false),(iP n)]] 7) (.ret (.agg [(.map 0),(.map 1),(iI e),(iS (f++s))])) (aG [(0,(.map (aC aA aP 0 c) c.length),true),(1,(.map (aC aA aP 0 d) d.length),true),oC 2 [(.gl 5 4 0 a.length false)],oC 3 [(.map 0),(.map 1),(iI e),(iS f)],oC 4 [(nI o),(nI p),(aA q),(.ilst 5 (av i) false),(iP r)],oL 5 4 (map ONode.av a),oC 6 [(nI j),(nI k),(aA l),(.ilst 5 (av m) false),(iP n)]] 7)),hA (Spec PP (.enter 44 [(.ptr 2 0),(.agg [(.map 0),(.map 1),(iI e),(iS (f++s))]),(.agg [(nI j),(nI k),(aA l),(.ilst 5 (av m) false),(iP n)])]) (aG [(0,(.map (aC aA aP 0 c) c.length),true),(1,(.map (aC aA aP 0 d) d.length),true),oC 2 [(.gl 5 4 0 a.length false)],oC 3 [(.map 0),(.map 1),(iI e),(iS f)],oC 4 [(nI o),(nI p),(aA q),(.ilst 5 (av i) false),(iP r)],oL 5 4 (map ONode.av a),oC 6 [(nI j),(nI k),(aA l),(.ilst 5 (av m) false),(iP n)]] 7) (.ret (nI (a.length:Int))) (aG [(0,(.map (aC aA aP 0 c) c.length),true),(1,(.map (aC aA aP 0 d) d.length),true),oC 2 [(.gl 7 4 0 (a++map Node.o t).length false)],oC 3 [(.map 0),(.map 1),(iI e),(iS f)],oC 4 [(nI o),(nI p),(aA q),(.ilst 5 (av i) false),(iP r)],oC 6 [(nI j),(nI k),(aA l),(.ilst 5 (av m) false),(iP n)],oL 7 4 (map ONode.av (a++map Node.o t))] 8)),hr (agg [(nI j),(nI k),(aA l),(.ilst 5 (av m) false),(iP n)]),hr (agg [(nI j),(nI k),(aA l),(.ilst 5 (av m) false),(iP n)]),hr (agg [(nI j),(nI k),(aA l),(.ilst 5 (av m) false),(iP n)]),hr (agg [(.map 0),(.map 1),(iI e),(iS f)]),hr (agg [(.map 0),(.map 1),(iI e),(iS f)])]<|.W 0 8 [3,4,7] (aTN c d e f g o p q i r (a.length:Int) (a++map Node.o t)))<|.y fun b:ONode=>.i [rn 8,.lw 5 (map ONode.av (set a g.length (ONode.mk b.op b.n (KV.row []) b.pats)))] [.a (a[g.length]?=some b) (p':=(map ONode.av a) ≠ []) aPi,.a (a[g.length]?=some b∧b.kv=KV.nil) (p':=VW (map ONode.av a) (map ONode.av (set a g.length (ONode.mk b.op b.n (KV.row []) b.pats)))) fun⟨ha,hb⟩=>(bFn ha hb)]<|.i [.cset 2 0 (.gl 5 4 0 (set a g.length (ONode.mk b.op b.n (KV.row []) b.pats)).length false)] [.q (p:=(AV.gl 5 4 0 a.length false) = (.gl 5 4 0 (set a g.length (ONode.mk b.op b.n (KV.row []) b.pats)).length false)) (dY (length_set ..).symm)]<|.E 0 6 [5] (nI (g.length:Int)) [(0,(.map (aC aA aP 0 c) c.length),true),(1,(.map (aC aA aP 0 d) d.length),true),oC 2 [(.gl 3 4 0 (set a g.length (ONode.mk b.op b.n (KV.row []) b.pats)).length false)],oL 3 4 (map ONode.av (set a g.length (ONode.mk b.op b.n (KV.row []) b.pats)))] 4
def bCh:=fun a b c d e f g i j k l m n o p q r s t u v w x y=>bEF a b c d e f g i j k l|>.t t m n o p q u v r s w x y ⟨aI (fun _=>rfl) (fun _=>rfl) _ _ _,⟨aI (fun _=>rfl) (fun _=>rfl) _ _ _,⟨(bE _ (fun _=>gW _) _),trivial⟩⟩⟩
def bCi:=fun b c d e f g i j k l m n o a p=>bEF b c d e f g i j k l m|>.f o n a ⟨a,p⟩ ⟨aI (fun _=>rfl) (fun _=>rfl) _ _ _,⟨aI (fun _=>rfl) (fun _=>rfl) _ _ _,⟨(bE _ (fun _=>gW _) _),trivial⟩⟩⟩
def bEG(c d:List (aB×Int))(f:List Int)(g:List aB)(i:List ONode)(q r:Int)(s:aB)(j:List Term)(t:List Pat)(a:List ONode)(e:List Int)(k:Value)(v:Int):=tT 3 (zX c d f g i q r s j t a e k v)<|gd 5 62 (v< (j.length:Int)) (aAP 7 j v<|fun l m n o p=>.y fun u:List aB=>.y fun w:List Node=>.i [rn 6,.reg (rd 4 [.pure (iS u),.call (.agg [(.map 0),(.map 1),(iI f),(iS (g++u))]) (aG [(0,(.map (aC aA aP 0 c) c.length),true),(1,(.map (aC aA aP 0 d) d.length),true),oC 2 [(.gl 5 4 0 a.length false)],oC 3 [(.map 0),(.map 1),(iI f),(iS g)],oC 4 [(nI q),(nI r),(aA s),(.ilst 5 (av j) false),(iP t)],oL 5 4 (map ONode.av a),(6,(.lstv k 1 (jI e)),true),oC 7 [(nI l),(nI m),(aA n),(.ilst 5 (av o) false),(iP p)]] 8),.d,.call (nI (a.length:Int)) (aG [(0,(.map (aC aA aP 0 c) c.length),true),(1,(.map (aC aA aP 0 d) d.length),true),oC 2 [(.gl 8 4 0 (a++map Node.o w).length false)],oC 3 [(.map 0),(.map 1),(iI f),(iS g)],oC 4 [(nI q),(nI r),(aA s),(.ilst 5 (av j) false),(iP t)],(6,(.lstv k 1 (jI e)),true),oC 7 [(nI l),(nI m),(aA n),(.ilst 5 (av o) false),(iP p)],oL 8 4 (map ONode.av (a++map Node.o w))] 9),.d])] [hA (Pure PP 111 [(.agg [(nI q),(nI r),(aA s),(.ilst 5 (av j) false),(iP t)]),(nI v)] (iS u)),hA (Spec PP (.enter 110 [(.agg [(.map 0),(.map 1),(iI f),(iS g)]),(iS u)]) (aG [(0,(.map (aC aA aP 0 c) c.length),true),(1,(.map (aC aA aP 0 d) d.length),true),oC 2 [(.gl 5 4 0 a.length false)],oC 3 [(.map 0),(.map 1),(iI f),(iS g)],oC 4 [(nI q),(nI r),(aA s),(.ilst 5 (av j) false),(iP t)],oL 5 4 (map ONode.av a),(6,(.lstv k 1 (jI e)),true),oC 7 [(nI l),(nI m),(aA n),(.ilst 5 (av o) false),(iP p)]] 8) (.ret (.agg [(.map 0),(.map 1),(iI f),(iS (g++u))])) (aG [(0,(.map (aC aA aP 0 c) c.length),true),(1,(.map (aC aA aP 0 d) d.length),true),oC 2 [(.gl 5 4 0 a.length false)],oC 3 [(.map 0),(.map 1),(iI f),(iS g)],oC 4 [(nI q),(nI r),(aA s),(.ilst 5 (av j) false),(iP t)],oL 5 4 (map ONode.av a),(6,(.lstv k 1 (jI e)),true),oC 7 [(nI l),(nI m),(aA n),(.ilst 5 (av o) false),(iP p)]] 8)),hA (Spec PP (.enter 44 [(.ptr 2 0),(.agg [(.map 0),(.map 1),(iI f),(iS (g++u))]),(.agg [(nI l),(nI m),(aA n),(.ilst 5 (av o) false),(iP p)])]) (aG [(0,(.map (aC aA aP 0 c) c.length),true),(1,(.map (aC aA aP 0 d) d.length),true),oC 2 [(.gl 5 4 0 a.length false)],oC 3 [(.map 0),(.map 1),(iI f),(iS g)],oC 4 [(nI q),(nI r),(aA s),(.ilst 5 (av j) false),(iP t)],oL 5 4 (map ONode.av a),(6,(.lstv k 1 (jI e)),true),oC 7 [(nI l),(nI m),(aA n),(.ilst 5 (av o) false),(iP p)]] 8) (.ret (nI (a.length:Int))) (aG [(0,(.map (aC aA aP 0 c) c.length),true),(1,(.map (aC aA aP 0 d) d.length),true),oC 2 [(.gl 8 4 0 (a++map Node.o w).length false)],oC 3 [(.map 0),(.map 1),(iI f),(iS g)],oC 4 [(nI q),(nI r),(aA s),(.ilst 5 (av j) false),(iP t)],(6,(.lstv k 1 (jI e)),true),oC 7 [(nI l),(nI m),(aA n),(.ilst 5 (av o) false),(iP p)],oL 8 4 (map ONode.av (a++map Node.o w))] 9)),hr (agg [(nI l),(nI m),(aA n),(.ilst 5 (av o) false),(iP p)]),hr (agg [(nI l),(nI m),(aA n),(.ilst 5 (av o) false),(iP p)]),hr (agg [(nI l),(nI m),(aA n),(.ilst 5 (av o) false),(iP p)]),hr (agg [(.map 0),(.map 1),(iI f),(iS g)]),hr (agg [(.map 0),(.map 1),(iI f),(iS g)])]<|.W 0 9 [3,4,8,6] (aTO c d f g i q r s j t (a.length:Int) (a++map Node.o w) e k v))<|.y fun b:ONode=>.i [rn 8,.vfrz 6 5 (map ONode.av (set a i.length (ONode.mk b.op b.n (KV.row e) b.pats)))] [.a (a[i.length]?=some b) (p':=(map ONode.av a) ≠ []) aPi,hk aP e,.a (a[i.length]?=some b∧b.kv=KV.val k) (p':=VQ k 1 (jI e) (map ONode.av a) (map ONode.av (set a i.length (ONode.mk b.op b.n (KV.row e) b.pats)))) fun⟨ha,hb⟩=>(bFo ha hb)]<|.i [.cset 2 0 (.gl 5 4 0 (set a i.length (ONode.mk b.op b.n (KV.row e) b.pats)).length false)] [.q (p:=(AV.gl 5 4 0 a.length false) = (.gl 5 4 0 (set a i.length (ONode.mk b.op b.n (KV.row e) b.pats)).length false)) (dY (length_set ..).symm)]<|.E 0 7 [5] (nI (i.length:Int)) [(0,(.map (aC aA aP 0 c) c.length),true),(1,(.map (aC aA aP 0 d) d.length),true),oC 2 [(.gl 3 4 0 (set a i.length (ONode.mk b.op b.n (KV.row e) b.pats)).length false)],oL 3 4 (map ONode.av (set a i.length (ONode.mk b.op b.n (KV.row e) b.pats)))] 4
def bCj:=fun a b c d e f g i j k l m n o p q r s t u v w x y z A B=>bEG a b c d e f g i j k l m n o|>.t w p q r s t x y u v z A B ⟨aI (fun _=>rfl) (fun _=>rfl) _ _ _,⟨aI (fun _=>rfl) (fun _=>rfl) _ _ _,⟨(bE _ (fun _=>gW _) _),⟨kk,trivial⟩⟩⟩⟩
def bCk:=fun b c d e f g i j k l m n o p q r a s=>bEG b c d e f g i j k l m n o p|>.f r q a ⟨a,s⟩ ⟨aI (fun _=>rfl) (fun _=>rfl) _ _ _,⟨aI (fun _=>rfl) (fun _=>rfl) _ _ _,⟨(bE _ (fun _=>gW _) _),trivial⟩⟩⟩
theorem bCl (mf: (List (aB×Int)))(mc: (List (aB×Int)))(ar:List Int)(pls:List aB)(L:List ONode)(t_op t_n:Int)(t_text:aB)(t_kids:List Term)(t_pats:List Pat)(h0:Spec PP (.enter 106 [(iP t_pats),(.func 107 [(.agg [(.map 0),(.map 1),(iI ar)])] [])]) (aG [(0,(.map (aC aA aP 0 mf) mf.length),true),(1,(.map (aC aA aP 0 mc) mc.length),true),oC 2 [(.gl 5 4 0 L.length false)],oC 3 [(.map 0),(.map 1),(iI ar),(iS pls)],oC 4 [(nI t_op),(nI t_n),(aA t_text),(.ilst 5 (av t_kids) false),(iP t_pats)],oL 5 4 (map ONode.av L)] 7) (.pan [((.iface 82 (.agg [])),false)]) (aG [(0,(.map (aC aA aP 0 mf) mf.length),true),(1,(.map (aC aA aP 0 mc) mc.length),true),oC 2 [(.gl 5 4 0 L.length false)],oC 3 [(.map 0),(.map 1),(iI ar),(iS pls)],oC 4 [(nI t_op),(nI t_n),(aA t_text),(.ilst 5 (av t_kids) false),(iP t_pats)],oL 5 4 (map ONode.av L)] 7)) :
  Ends PP 3 (aBV mf mc ar pls L t_op t_n t_text t_kids t_pats).as (.pan [((.iface 82 (.agg [])),false)]) (aG [(0,(.map (aC aA aP 0 mf) mf.length),true),(1,(.map (aC aA aP 0 mc) mc.length),true)] 3) :=
 tR (n1:=7) (ks:=[]) (e:=9) (is1:=[.d,.d,.d,.d,.d,.d,.d,.d,.d]) (v:= (iP ([] :List Pat))) (h2:=aG [(0,(.map (aC aA aP 0 mf) mf.length),true),(1,(.map (aC aA aP 0 mc) mc.length),true),oC 2 [(.gl 5 4 0 L.length false)],oC 3 [(.map 0),(.map 1),(iI ar),(iS pls)],oC 4 [(nI t_op),(nI t_n),(aA t_text),(.ilst 5 (av t_kids) false),(iP t_pats)],oL 5 4 (map ONode.av L)] 7) (is2:=[.d,.d,.d]) (os:=[]) (h':=aG [(0,(.map (aC aA aP 0 mf) mf.length),true),(1,(.map (aC aA aP 0 mc) mc.length),true),oC 2 [(.gl 5 4 0 L.length false)],oC 3 [(.map 0),(.map 1),(iI ar),(iS pls)],oC 4 [(nI t_op),(nI t_n),(aA t_text),(.ilst 5 (av t_kids) false),(iP t_pats)],oL 5 4 (map ONode.av L)] 7) (hp:=[(0,(.map (aC aA aP 0 mf) mf.length),true),(1,(.map (aC aA aP 0 mc) mc.length),true)]) (ch:=[((.iface 82 (.agg [])),false)]) (ps:=[(nI t_n) = (nI t_n),(nI t_n) = (nI t_n),(nI t_op) = (nI t_op),(nI t_op) = (nI t_op),Spec PP (.enter 106 [(iP t_pats),(.func 107 [(.agg [(.map 0),(.map 1),(iI ar)])] [])]) (aG [(0,(.map (aC aA aP 0 mf) mf.length),true),(1,(.map (aC aA aP 0 mc) mc.length),true),oC 2 [(.gl 5 4 0 L.length false)],oC 3 [(.map 0),(.map 1),(iI ar),(iS pls)],oC 4 [(nI t_op),(nI t_n),(aA t_text),(.ilst 5 (av t_kids) false),(iP t_pats)],oL 5 4 (map ONode.av L)] 7) (.pan [((.iface 82 (.agg [])),false)]) (aG [(0,(.map (aC aA aP 0 mf) mf.length),true),(1,(.map (aC aA aP 0 mc) mc.length),true),oC 2 [(.gl 5 4 0 L.length false)],oC 3 [(.map 0),(.map 1),(iI ar),(iS pls)],oC 4 [(nI t_op),(nI t_n),(aA t_text),(.ilst 5 (av t_kids) false),(iP t_pats)],oL 5 4 (map ONode.av L)] 7)]) (is:=[.run 9]) (by kernel_rfl) (by kernel_rfl) ⟨aI (fun _=>rfl) (fun _=>rfl) _ _ _,⟨aI (fun _=>rfl) (fun _=>rfl) _ _ _,trivial⟩⟩ ⟨rfl,rfl,rfl,rfl,h0⟩
theorem bCm (mf: (List (aB×Int)))(mc: (List (aB×Int)))(ar:List Int)(pls:List aB)(L:List ONode)(t_op t_n:Int)(t_text:aB)(t_kids:List Term)(t_pats:List Pat)(l5:List ONode)(y_op0 y_n1:Int)(y_text2:aB)(y_kids3:List Term)(y_pats4:List Pat)(y5:List aB)(h0:decide ((0:Int) < (t_kids.length:Int)) =true)(h1:0≤ (0:Int))(h2: ((t_kids)[(0:Int).toNat]?) =some (Term.mk y_op0 y_n1 y_text2 y_kids3 y_pats4))(h3:Pure PP 111 [(.agg [(nI t_op),(nI t_n),(aA t_text),(.ilst 5 (av t_kids) false),(iP t_pats)]),(nI 0)] (iS y5))(h4:Spec PP (.enter 110 [(.agg [(.map 0),(.map 1),(iI ar),(iS pls)]),(iS y5)]) (aG [(0,(.map (aC aA aP 0 mf) mf.length),true),(1,(.map (aC aA aP 0 mc) mc.length),true),oC 2 [(.gl 5 4 0 l5.length false)],oC 3 [(.map 0),(.map 1),(iI ar),(iS pls)],oC 4 [(nI t_op),(nI t_n),(aA t_text),(.ilst 5 (av t_kids) false),(iP t_pats)],oL 5 4 (map ONode.av l5),oC 6 [(nI y_op0),(nI y_n1),(aA y_text2),(.ilst 5 (av y_kids3) false),(iP y_pats4)]] 7) (.ret (.agg [(.map 0),(.map 1),(iI ar),(iS (pls++y5))])) (aG [(0,(.map (aC aA aP 0 mf) mf.length),true),(1,(.map (aC aA aP 0 mc) mc.length),true),oC 2 [(.gl 5 4 0 l5.length false)],oC 3 [(.map 0),(.map 1),(iI ar),(iS pls)],oC 4 [(nI t_op),(nI t_n),(aA t_text),(.ilst 5 (av t_kids) false),(iP t_pats)],oL 5 4 (map ONode.av l5),oC 6 [(nI y_op0),(nI y_n1),(aA y_text2),(.ilst 5 (av y_kids3) false),(iP y_pats4)]] 7))(h5:Spec PP (.enter 44 [(.ptr 2 0),(.agg [(.map 0),(.map 1),(iI ar),(iS (pls++y5))]),(.agg [(nI y_op0),(nI y_n1),(aA y_text2),(.ilst 5 (av y_kids3) false),(iP y_pats4)])]) (aG [(0,(.map (aC aA aP 0 mf) mf.length),true),(1,(.map (aC aA aP 0 mc) mc.length),true),oC 2 [(.gl 5 4 0 l5.length false)],oC 3 [(.map 0),(.map 1),(iI ar),(iS pls)],oC 4 [(nI t_op),(nI t_n),(aA t_text),(.ilst 5 (av t_kids) false),(iP t_pats)],oL 5 4 (map ONode.av l5),oC 6 [(nI y_op0),(nI y_n1),(aA y_text2),(.ilst 5 (av y_kids3) false),(iP y_pats4)]] 7) (.pan [((.iface 82 (.agg [])),false)]) (aG [(0,(.map (aC aA aP 0 mf) mf.length),true),(1,(.map (aC aA aP 0 mc) mc.length),true),oC 3 [(.map 0),(.map 1),(iI ar),(iS pls)],oC 4 [(nI t_op),(nI t_n),(aA t_text),(.ilst 5 (av t_kids) false),(iP t_pats)],oC 6 [(nI y_op0),(nI y_n1),(aA y_text2),(.ilst 5 (av y_kids3) false),(iP y_pats4)]] 7)) :
  Ends PP 3 (wO mf mc ar pls L t_op t_n t_text t_kids t_pats l5).as (.pan [((.iface 82 (.agg [])),false)]) (aG [(0,(.map (aC aA aP 0 mf) mf.length),true),(1,(.map (aC aA aP 0 mc) mc.length),true)] 3) :=
 tR (n1:=7) (ks:=[]) (e:=7) (is1:=[.d,.d,.d,.d,.pure (iS y5),.call (.agg [(.map 0),(.map 1),(iI ar),(iS (pls++y5))]) (aG [(0,(.map (aC aA aP 0 mf) mf.length),true),(1,(.map (aC aA aP 0 mc) mc.length),true),oC 2 [(.gl 5 4 0 l5.length false)],oC 3 [(.map 0),(.map 1),(iI ar),(iS pls)],oC 4 [(nI t_op),(nI t_n),(aA t_text),(.ilst 5 (av t_kids) false),(iP t_pats)],oL 5 4 (map ONode.av l5),oC 6 [(nI y_op0),(nI y_n1),(aA y_text2),(.ilst 5 (av y_kids3) false),(iP y_pats4)]] 7),.d]) (v:= (nI 0)) (h2:=aG [(0,(.map (aC aA aP 0 mf) mf.length),true),(1,(.map (aC aA aP 0 mc) mc.length),true),oC 3 [(.map 0),(.map 1),(iI ar),(iS pls)],oC 4 [(nI t_op),(nI t_n),(aA t_text),(.ilst 5 (av t_kids) false),(iP t_pats)],oC 6 [(nI y_op0),(nI y_n1),(aA y_text2),(.ilst 5 (av y_kids3) false),(iP y_pats4)]] 7) (is2:=[.d]) (os:=[]) (h':=aG [(0,(.map (aC aA aP 0 mf) mf.length),true),(1,(.map (aC aA aP 0 mc) mc.length),true),oC 3 [(.map 0),(.map 1),(iI ar),(iS pls)],oC 4 [(nI t_op),(nI t_n),(aA t_text),(.ilst 5 (av t_kids) false),(iP t_pats)],oC 6 [(nI y_op0),(nI y_n1),(aA y_text2),(.ilst 5 (av y_kids3) false),(iP y_pats4)]] 7) (hp:=[(0,(.map (aC aA aP 0 mf) mf.length),true),(1,(.map (aC aA aP 0 mc) mc.length),true)]) (ch:=[((.iface 82 (.agg [])),false)]) (ps:=[decide ((0:Int) < (t_kids.length:Int)) =true,0≤ (0:Int),(av t_kids)[(0:Int).toNat]?=some (Term.av (Term.mk y_op0 y_n1 y_text2 y_kids3 y_pats4)),Pure PP 111 [(.agg [(nI t_op),(nI t_n),(aA t_text),(.ilst 5 (av t_kids) false),(iP t_pats)]),(nI 0)] (iS y5),Spec PP (.enter 110 [(.agg [(.map 0),(.map 1),(iI ar),(iS pls)]),(iS y5)]) (aG [(0,(.map (aC aA aP 0 mf) mf.length),true),(1,(.map (aC aA aP 0 mc) mc.length),true),oC 2 [(.gl 5 4 0 l5.length false)],oC 3 [(.map 0),(.map 1),(iI ar),(iS pls)],oC 4 [(nI t_op),(nI t_n),(aA t_text),(.ilst 5 (av t_kids) false),(iP t_pats)],oL 5 4 (map ONode.av l5),oC 6 [(nI y_op0),(nI y_n1),(aA y_text2),(.ilst 5 (av y_kids3) false),(iP y_pats4)]] 7) (.ret (.agg [(.map 0),(.map 1),(iI ar),(iS (pls++y5))])) (aG [(0,(.map (aC aA aP 0 mf) mf.length),true),(1,(.map (aC aA aP 0 mc) mc.length),true),oC 2 [(.gl 5 4 0 l5.length false)],oC 3 [(.map 0),(.map 1),(iI ar),(iS pls)],oC 4 [(nI t_op),(nI t_n),(aA t_text),(.ilst 5 (av t_kids) false),(iP t_pats)],oL 5 4 (map ONode.av l5),oC 6 [(nI y_op0),(nI y_n1),(aA y_text2),(.ilst 5 (av y_kids3) false),(iP y_pats4)]] 7),(agg [(nI y_op0),(nI y_n1),(aA y_text2),(.ilst 5 (av y_kids3) false),(iP y_pats4)]) = (agg [(nI y_op0),(nI y_n1),(aA y_text2),(.ilst 5 (av y_kids3) false),(iP y_pats4)]),(agg [(nI y_op0),(nI y_n1),(aA y_text2),(.ilst 5 (av y_kids3) false),(iP y_pats4)]) = (agg [(nI y_op0),(nI y_n1),(aA y_text2),(.ilst 5 (av y_kids3) false),(iP y_pats4)]),(agg [(nI y_op0),(nI y_n1),(aA y_text2),(.ilst 5 (av y_kids3) false),(iP y_pats4)]) = (agg [(nI y_op0),(nI y_n1),(aA y_text2),(.ilst 5 (av y_kids3) false),(iP y_pats4)]),(agg [(.map 0),(.map 1),(iI ar),(iS pls)]) = (agg [(.map 0),(.map 1),(iI ar),(iS pls)]),(agg [(.map 0),(.map 1),(iI ar),(iS pls)]) = (agg [(.map 0),(.map 1),(iI ar),(iS pls)]),Spec PP (.enter 44 [(.ptr 2 0),(.agg [(.map 0),(.map 1),(iI ar),(iS (pls++y5))]),(.agg [(nI y_op0),(nI y_n1),(aA y_text2),(.ilst 5 (av y_kids3) false),(iP y_pats4)])]) (aG [(0,(.map (aC aA aP 0 mf) mf.length),true),(1,(.map (aC aA aP 0 mc) mc.length),true),oC 2 [(.gl 5 4 0 l5.length false)],oC 3 [(.map 0),(.map 1),(iI ar),(iS pls)],oC 4 [(nI t_op),(nI t_n),(aA t_text),(.ilst 5 (av t_kids) false),(iP t_pats)],oL 5 4 (map ONode.av l5),oC 6 [(nI y_op0),(nI y_n1),(aA y_text2),(.ilst 5 (av y_kids3) false),(iP y_pats4)]] 7) (.pan [((.iface 82 (.agg [])),false)]) (aG [(0,(.map (aC aA aP 0 mf) mf.length),true),(1,(.map (aC aA aP 0 mc) mc.length),true),oC 3 [(.map 0),(.map 1),(iI ar),(iS pls)],oC 4 [(nI t_op),(nI t_n),(aA t_text),(.ilst 5 (av t_kids) false),(iP t_pats)],oC 6 [(nI y_op0),(nI y_n1),(aA y_text2),(.ilst 5 (av y_kids3) false),(iP y_pats4)]] 7)]) (is:=[.run 5,.b 62 true,.run 7,.ans (.idx (Term.av (Term.mk y_op0 y_n1 y_text2 y_kids3 y_pats4))),.run 6]) (by kernel_rfl) (by kernel_rfl) ⟨aI (fun _=>rfl) (fun _=>rfl) _ _ _,⟨aI (fun _=>rfl) (fun _=>rfl) _ _ _,trivial⟩⟩ ⟨h0,h1,(eX aU h2),h3,h4,rfl,rfl,rfl,rfl,rfl,h5⟩
theorem bCn (mf: (List (aB×Int)))(mc: (List (aB×Int)))(ar:List Int)(pls:List aB)(L:List ONode)(t_op t_n:Int)(t_text:aB)(t_kids:List Term)(t_pats:List Pat)(kid11:Int)(l5:List ONode)(ix:Nat)(w_op w_n:Int)(w_pats:List Pat)(h0:0≤ ((L.length:Nat) :Int))(h1: ((L.length:Nat) :Int) < ((l5.length:Nat) :Int))(h2: ((L.length:Nat) :Int).toNat=ix)(h3:ix<length l5)(h4:length (([] :List Int) ++ [kid11]) ≤1000000){res:Res}{h':Hp}(hk:∀ua un uc,Ends PP 3 (let u:=Value.slice ua un uc; (zX mf mc ar pls L t_op t_n t_text t_kids t_pats (set l5 ix (ONode.mk w_op w_n (KV.val u) w_pats)) (([] :List Int) ++ [kid11]) u 1)).as res h') :
  Ends PP 3 (aNe mf mc ar pls L t_op t_n t_text t_kids t_pats kid11 l5 ix w_op w_n w_pats).as res h':=
 aEo (n1:=9) (t:=fun u=> (zX mf mc ar pls L t_op t_n t_text t_kids t_pats (set l5 ix (ONode.mk w_op w_n (KV.val u) w_pats)) (([] :List Int) ++ [kid11]) u 1)) (k:=5) (b:=8) (i:=ix) (o:=2) (ys:=fun u=> (map ONode.av (set l5 ix (ONode.mk w_op w_n (KV.val u) w_pats)))) (ks:=[3,4,5,8]) (ps:=fun u=>[NQ (set (map ONode.av l5) ix (.agg [(nI w_op),(nI w_n),(.gl 8 1 0 (([] :List Int) ++ [kid11]).length false),(iP w_pats)])) ix 2 8 1 (jI (([] :List Int) ++ [kid11])).length u (map ONode.av (set l5 ix (ONode.mk w_op w_n (KV.val u) w_pats))),0≤ ((L.length:Nat) :Int),((L.length:Nat) :Int) < ((l5.length:Nat) :Int),(set (map ONode.av l5) ix (.agg [(nI w_op),(nI w_n),(.gl 6 1 0 ([] :List Int).length false),(iP w_pats)]))[(0+ ((L.length:Nat) :Int).toNat)]?=some (.agg [(nI w_op),(nI w_n),(.gl 6 1 0 ([] :List Int).length false),(iP w_pats)]),0+ ([] :List Int).length≤length (jI ([] :List Int)),length (([] :List Int) ++ [kid11]) ≤1000000,take ([] :List Int).length (drop 0 (jI ([] :List Int))) ++ (jI [kid11]) = (jI (([] :List Int) ++ [kid11])),([] :List Int).length+length (jI [kid11]) =length (([] :List Int) ++ [kid11]),0≤ ((L.length:Nat) :Int),((L.length:Nat) :Int) < ((l5.length:Nat) :Int),(set (map ONode.av l5) ix (.agg [(nI w_op),(nI w_n),(.gl 6 1 0 ([] :List Int).length false),(iP w_pats)]))[(0+ ((L.length:Nat) :Int).toNat)]?=some (.agg [(nI w_op),(nI w_n),(.gl 6 1 0 ([] :List Int).length false),(iP w_pats)]),pW (.agg [(nI w_op),(nI w_n),(.gl 6 1 0 ([] :List Int).length false),(iP w_pats)]) 2 [(.gl 8 1 0 (([] :List Int) ++ [kid11]).length false)] =some (.agg [(nI w_op),(nI w_n),(.gl 8 1 0 (([] :List Int) ++ [kid11]).length false),(iP w_pats)]),(AV.gl 5 4 0 l5.length false) = (AV.gl 5 4 0 l5.length false),(AV.gl 5 4 0 l5.length false) = (AV.gl 5 4 0 l5.length false),(set (map ONode.av l5) ix (.agg [(nI w_op),(nI w_n),(.gl 6 1 0 ([] :List Int).length false),(iP w_pats)])).set (0+ ((L.length:Nat) :Int).toNat) (.agg [(nI w_op),(nI w_n),(.gl 8 1 0 (([] :List Int) ++ [kid11]).length false),(iP w_pats)]) = (set (map ONode.av l5) ix (.agg [(nI w_op),(nI w_n),(.gl 8 1 0 (([] :List Int) ++ [kid11]).length false),(iP w_pats)])),(AV.gl 5 4 0 l5.length false) = (.gl 5 4 0 (set l5 ix (ONode.mk w_op w_n (KV.val u) w_pats)).length false),(AV.gl 5 4 0 l5.length false) = (.gl 5 4 0 (set l5 ix (ONode.mk w_op w_n (KV.val u) w_pats)).length false),(AV.gl 5 4 0 l5.length false) = (.gl 5 4 0 (set l5 ix (ONode.mk w_op w_n (KV.val u) w_pats)).length false)]) (is:=[.reg [.d,.d,.d,.d,.d,.d,.d,.d,.d,.d,.ans (.ix),.d,.ans (.idx (.agg [(nI w_op),(nI w_n),(.gl 6 1 0 ([] :List Int).length false),(iP w_pats)])),.d,.d,.app (jI (([] :List Int) ++ [kid11])) (([] :List Int) ++ [kid11]).length,.ans (.ix),.d,.st (.agg [(nI w_op),(nI w_n),(.gl 6 1 0 ([] :List Int).length false),(iP w_pats)]) (.agg [(nI w_op),(nI w_n),(.gl 8 1 0 (([] :List Int) ++ [kid11]).length false),(iP w_pats)])],.lset 5 (set (map ONode.av l5) ix (.agg [(nI w_op),(nI w_n),(.gl 8 1 0 (([] :List Int) ++ [kid11]).length false),(iP w_pats)])),.run 1]) (is2:=fun u=>[.set 77 (.gl 5 4 0 (set l5 ix (ONode.mk w_op w_n (KV.val u) w_pats)).length false),.set 82 (.gl 5 4 0 (set l5 ix (ONode.mk w_op w_n (KV.val u) w_pats)).length false),.cset 2 0 (.gl 5 4 0 (set l5 ix (ONode.mk w_op w_n (KV.val u) w_pats)).length false),.run 5]) (fun u=>by kernel_rfl) (fun u=>by kernel_rfl) (fun u=> ⟨aI (fun _=>rfl) (fun _=>rfl) _ _ _,⟨aI (fun _=>rfl) (fun _=>rfl) _ _ _,⟨(bE _ (fun _=>gW _) _),⟨(bE _ (fun _=>rfl) _),trivial⟩⟩⟩⟩) (fun u=> ⟨(bEt [(nI w_op),(nI w_n)] [(iP w_pats)] h3 (length_map ..) (by simp) rfl),h0,h1,(aHN h2 h3),(aG1 _ _),h4,(aG2 _ _ _),(aG3 _ _ _),h0,h1,(aHN h2 h3),rfl,rfl,rfl,(aTD h2),(dY (length_set ..).symm),(dY (length_set ..).symm),(dY (length_set ..).symm)⟩) hk
theorem bCo (mf: (List (aB×Int)))(mc: (List (aB×Int)))(ar:List Int)(pls:List aB)(L:List ONode)(t_op t_n:Int)(t_text:aB)(t_kids:List Term)(t_pats:List Pat)(l5:List ONode)(k6:List Int)(u6:Value)(t61 y_op0 y_n1:Int)(y_text2:aB)(y_kids3:List Term)(y_pats4:List Pat)(y5:List aB)(h0:decide (t61< (t_kids.length:Int)) =true)(h1:0≤t61)(h2: ((t_kids)[t61.toNat]?) =some (Term.mk y_op0 y_n1 y_text2 y_kids3 y_pats4))(h3:Pure PP 111 [(.agg [(nI t_op),(nI t_n),(aA t_text),(.ilst 5 (av t_kids) false),(iP t_pats)]),(nI t61)] (iS y5))(h4:Spec PP (.enter 110 [(.agg [(.map 0),(.map 1),(iI ar),(iS pls)]),(iS y5)]) (aG [(0,(.map (aC aA aP 0 mf) mf.length),true),(1,(.map (aC aA aP 0 mc) mc.length),true),oC 2 [(.gl 5 4 0 l5.length false)],oC 3 [(.map 0),(.map 1),(iI ar),(iS pls)],oC 4 [(nI t_op),(nI t_n),(aA t_text),(.ilst 5 (av t_kids) false),(iP t_pats)],oL 5 4 (map ONode.av l5),(6,(.lstv u6 1 (jI k6)),true),oC 7 [(nI y_op0),(nI y_n1),(aA y_text2),(.ilst 5 (av y_kids3) false),(iP y_pats4)]] 8) (.ret (.agg [(.map 0),(.map 1),(iI ar),(iS (pls++y5))])) (aG [(0,(.map (aC aA aP 0 mf) mf.length),true),(1,(.map (aC aA aP 0 mc) mc.length),true),oC 2 [(.gl 5 4 0 l5.length false)],oC 3 [(.map 0),(.map 1),(iI ar),(iS pls)],oC 4 [(nI t_op),(nI t_n),(aA t_text),(.ilst 5 (av t_kids) false),(iP t_pats)],oL 5 4 (map ONode.av l5),(6,(.lstv u6 1 (jI k6)),true),oC 7 [(nI y_op0),(nI y_n1),(aA y_text2),(.ilst 5 (av y_kids3) false),(iP y_pats4)]] 8))(h5:Spec PP (.enter 44 [(.ptr 2 0),(.agg [(.map 0),(.map 1),(iI ar),(iS (pls++y5))]),(.agg [(nI y_op0),(nI y_n1),(aA y_text2),(.ilst 5 (av y_kids3) false),(iP y_pats4)])]) (aG [(0,(.map (aC aA aP 0 mf) mf.length),true),(1,(.map (aC aA aP 0 mc) mc.length),true),oC 2 [(.gl 5 4 0 l5.length false)],oC 3 [(.map 0),(.map 1),(iI ar),(iS pls)],oC 4 [(nI t_op),(nI t_n),(aA t_text),(.ilst 5 (av t_kids) false),(iP t_pats)],oL 5 4 (map ONode.av l5),(6,(.lstv u6 1 (jI k6)),true),oC 7 [(nI y_op0),(nI y_n1),(aA y_text2),(.ilst 5 (av y_kids3) false),(iP y_pats4)]] 8) (.pan [((.iface 82 (.agg [])),false)]) (aG [(0,(.map (aC aA aP 0 mf) mf.length),true),(1,(.map (aC aA aP 0 mc) mc.length),true),oC 3 [(.map 0),(.map 1),(iI ar),(iS pls)],oC 4 [(nI t_op),(nI t_n),(aA t_text),(.ilst 5 (av t_kids) false),(iP t_pats)],(6,(.lstv u6 1 (jI k6)),true),oC 7 [(nI y_op0),(nI y_n1),(aA y_text2),(.ilst 5 (av y_kids3) false),(iP y_pats4)]] 8)) :
  Ends PP 3 (zX mf mc ar pls L t_op t_n t_text t_kids t_pats l5 k6 u6 t61).as (.pan [((.iface 82 (.agg [])),false)]) (aG [(0,(.map (aC aA aP 0 mf) mf.length),true),(1,(.map (aC aA aP 0 mc) mc.length),true)] 3) :=
 tR (n1:=8) (ks:=[]) (e:=7) (is1:=[.d,.d,.d,.d,.pure (iS y5),.call (.agg [(.map 0),(.map 1),(iI ar),(iS (pls++y5))]) (aG [(0,(.map (aC aA aP 0 mf) mf.length),true),(1,(.map (aC aA aP 0 mc) mc.length),true),oC 2 [(.gl 5 4 0 l5.length false)],oC 3 [(.map 0),(.map 1),(iI ar),(iS pls)],oC 4 [(nI t_op),(nI t_n),(aA t_text),(.ilst 5 (av t_kids) false),(iP t_pats)],oL 5 4 (map ONode.av l5),(6,(.lstv u6 1 (jI k6)),true),oC 7 [(nI y_op0),(nI y_n1),(aA y_text2),(.ilst 5 (av y_kids3) false),(iP y_pats4)]] 8),.d]) (v:= (nI 0)) (h2:=aG [(0,(.map (aC aA aP 0 mf) mf.length),true),(1,(.map (aC aA aP 0 mc) mc.length),true),oC 3 [(.map 0),(.map 1),(iI ar),(iS pls)],oC 4 [(nI t_op),(nI t_n),(aA t_text),(.ilst 5 (av t_kids) false),(iP t_pats)],(6,(.lstv u6 1 (jI k6)),true),oC 7 [(nI y_op0),(nI y_n1),(aA y_text2),(.ilst 5 (av y_kids3) false),(iP y_pats4)]] 8) (is2:=[.d]) (os:=[]) (h':=aG [(0,(.map (aC aA aP 0 mf) mf.length),true),(1,(.map (aC aA aP 0 mc) mc.length),true),oC 3 [(.map 0),(.map 1),(iI ar),(iS pls)],oC 4 [(nI t_op),(nI t_n),(aA t_text),(.ilst 5 (av t_kids) false),(iP t_pats)],(6,(.lstv u6 1 (jI k6)),true),oC 7 [(nI y_op0),(nI y_n1),(aA y_text2),(.ilst 5 (av y_kids3) false),(iP y_pats4)]] 8) (hp:=[(0,(.map (aC aA aP 0 mf) mf.length),true),(1,(.map (aC aA aP 0 mc) mc.length),true)]) (ch:=[((.iface 82 (.agg [])),false)]) (ps:=[decide (t61< (t_kids.length:Int)) =true,0≤t61,(av t_kids)[t61.toNat]?=some (Term.av (Term.mk y_op0 y_n1 y_text2 y_kids3 y_pats4)),Pure PP 111 [(.agg [(nI t_op),(nI t_n),(aA t_text),(.ilst 5 (av t_kids) false),(iP t_pats)]),(nI t61)] (iS y5),Spec PP (.enter 110 [(.agg [(.map 0),(.map 1),(iI ar),(iS pls)]),(iS y5)]) (aG [(0,(.map (aC aA aP 0 mf) mf.length),true),(1,(.map (aC aA aP 0 mc) mc.length),true),oC 2 [(.gl 5 4 0 l5.length false)],oC 3 [(.map 0),(.map 1),(iI ar),(iS pls)],oC 4 [(nI t_op),(nI t_n),(aA t_text),(.ilst 5 (av t_kids) false),(iP t_pats)],oL 5 4 (map ONode.av l5),(6,(.lstv u6 1 (jI k6)),true),oC 7 [(nI y_op0),(nI y_n1),(aA y_text2),(.ilst 5 (av y_kids3) false),(iP y_pats4)]] 8) (.ret (.agg [(.map 0),(.map 1),(iI ar),(iS (pls++y5))])) (aG [(0,(.map (aC aA aP 0 mf) mf.length),true),(1,(.map (aC aA aP 0 mc) mc.length),true),oC 2 [(.gl 5 4 0 l5.length false)],oC 3 [(.map 0),(.map 1),(iI ar),(iS pls)],oC 4 [(nI t_op),(nI t_n),(aA t_text),(.ilst 5 (av t_kids) false),(iP t_pats)],oL 5 4 (map ONode.av l5),(6,(.lstv u6 1 (jI k6)),true),oC 7 [(nI y_op0),(nI y_n1),(aA y_text2),(.ilst 5 (av y_kids3) false),(iP y_pats4)]] 8),(agg [(nI y_op0),(nI y_n1),(aA y_text2),(.ilst 5 (av y_kids3) false),(iP y_pats4)]) = (agg [(nI y_op0),(nI y_n1),(aA y_text2),(.ilst 5 (av y_kids3) false),(iP y_pats4)]),(agg [(nI y_op0),(nI y_n1),(aA y_text2),(.ilst 5 (av y_kids3) false),(iP y_pats4)]) = (agg [(nI y_op0),(nI y_n1),(aA y_text2),(.ilst 5 (av y_kids3) false),(iP y_pats4)]),(agg [(nI y_op0),(nI y_n1),(aA y_text2),(.ilst 5 (av y_kids3) false),(iP y_pats4)]) = (agg [(nI y_op0),(nI y_n1),(aA y_text2),(.ilst 5 (av y_kids3) false),(iP y_pats4)]),(agg [(.map 0),(.map 1),(iI ar),(iS pls)]) = (agg [(.map 0),(.map 1),(iI ar),(iS pls)]),(agg [(.map 0),(.map 1),(iI ar),(iS pls)]) = (agg [(.map 0),(.map 1),(iI ar),(iS pls)]),Spec PP (.enter 44 [(.ptr 2 0),(.agg [(.map 0),(.map 1),(iI ar),(iS (pls++y5))]),(.agg [(nI y_op0),(nI y_n1),(aA y_text2),(.ilst 5 (av y_kids3) false),(iP y_pats4)])]) (aG [(0,(.map (aC aA aP 0 mf) mf.length),true),(1,(.map (aC aA aP 0 mc) mc.length),true),oC 2 [(.gl 5 4 0 l5.length false)],oC 3 [(.map 0),(.map 1),(iI ar),(iS pls)],oC 4 [(nI t_op),(nI t_n),(aA t_text),(.ilst 5 (av t_kids) false),(iP t_pats)],oL 5 4 (map ONode.av l5),(6,(.lstv u6 1 (jI k6)),true),oC 7 [(nI y_op0),(nI y_n1),(aA y_text2),(.ilst 5 (av y_kids3) false),(iP y_pats4)]] 8) (.pan [((.iface 82 (.agg [])),false)]) (aG [(0,(.map (aC aA aP 0 mf) mf.length),true),(1,(.map (aC aA aP 0 mc) mc.length),true),oC 3 [(.map 0),(.map 1),(iI ar),(iS pls)],oC 4 [(nI t_op),(nI t_n),(aA t_text),(.ilst 5 (av t_kids) false),(iP t_pats)],(6,(.lstv u6 1 (jI k6)),true),oC 7 [(nI y_op0),(nI y_n1),(aA y_text2),(.ilst 5 (av y_kids3) false),(iP y_pats4)]] 8)]) (is:=[.run 5,.b 62 true,.run 7,.ans (.idx (Term.av (Term.mk y_op0 y_n1 y_text2 y_kids3 y_pats4))),.run 6]) (by kernel_rfl) (by kernel_rfl) ⟨aI (fun _=>rfl) (fun _=>rfl) _ _ _,⟨aI (fun _=>rfl) (fun _=>rfl) _ _ _,trivial⟩⟩ ⟨h0,h1,(eX aU h2),h3,h4,rfl,rfl,rfl,rfl,rfl,h5⟩
theorem bCp (mf: (List (aB×Int)))(mc: (List (aB×Int)))(ar:List Int)(pls:List aB)(L:List ONode)(t_op t_n:Int)(t_text:aB)(t_kids:List Term)(t_pats:List Pat)(kid11:Int)(l5:List ONode)(k6:List Int)(t61:Int)(ix:Nat)(w_op w_n:Int)(w_pats:List Pat)(h0:0≤ ((L.length:Nat) :Int))(h1: ((L.length:Nat) :Int) < ((l5.length:Nat) :Int))(h2: ((L.length:Nat) :Int).toNat=ix)(h3:ix<length l5)(h4:length (k6++ [kid11]) ≤1000000)(h5: (IntKind.i64.wrap (t61+ (1:Int))) = (t61+ (1:Int))){res:Res}{h':Hp}(hk:∀ua un uc,Ends PP 3 (let u:=Value.slice ua un uc; (zX mf mc ar pls L t_op t_n t_text t_kids t_pats (set l5 ix (ONode.mk w_op w_n (KV.val u) w_pats)) (k6++ [kid11]) u (t61+ (1:Int)))).as res h') :
  Ends PP 3 (aNf mf mc ar pls L t_op t_n t_text t_kids t_pats kid11 l5 k6 t61 ix w_op w_n w_pats).as res h':=
 aEo (n1:=9) (t:=fun u=> (zX mf mc ar pls L t_op t_n t_text t_kids t_pats (set l5 ix (ONode.mk w_op w_n (KV.val u) w_pats)) (k6++ [kid11]) u (t61+ (1:Int)))) (k:=5) (b:=8) (i:=ix) (o:=2) (ys:=fun u=> (map ONode.av (set l5 ix (ONode.mk w_op w_n (KV.val u) w_pats)))) (ks:=[3,4,5,8]) (ps:=fun u=>[NQ (set (map ONode.av l5) ix (.agg [(nI w_op),(nI w_n),(.gl 8 1 0 (k6++ [kid11]).length false),(iP w_pats)])) ix 2 8 1 (jI (k6++ [kid11])).length u (map ONode.av (set l5 ix (ONode.mk w_op w_n (KV.val u) w_pats))),0≤ ((L.length:Nat) :Int),((L.length:Nat) :Int) < ((l5.length:Nat) :Int),(set (map ONode.av l5) ix (.agg [(nI w_op),(nI w_n),(.gl 6 1 0 k6.length false),(iP w_pats)]))[(0+ ((L.length:Nat) :Int).toNat)]?=some (.agg [(nI w_op),(nI w_n),(.gl 6 1 0 k6.length false),(iP w_pats)]),0+k6.length≤length (jI k6),length (k6++ [kid11]) ≤1000000,take k6.length (drop 0 (jI k6)) ++ (jI [kid11]) = (jI (k6++ [kid11])),k6.length+length (jI [kid11]) =length (k6++ [kid11]),0≤ ((L.length:Nat) :Int),((L.length:Nat) :Int) < ((l5.length:Nat) :Int),(set (map ONode.av l5) ix (.agg [(nI w_op),(nI w_n),(.gl 6 1 0 k6.length false),(iP w_pats)]))[(0+ ((L.length:Nat) :Int).toNat)]?=some (.agg [(nI w_op),(nI w_n),(.gl 6 1 0 k6.length false),(iP w_pats)]),pW (.agg [(nI w_op),(nI w_n),(.gl 6 1 0 k6.length false),(iP w_pats)]) 2 [(.gl 8 1 0 (k6++ [kid11]).length false)] =some (.agg [(nI w_op),(nI w_n),(.gl 8 1 0 (k6++ [kid11]).length false),(iP w_pats)]),(AV.gl 5 4 0 l5.length false) = (AV.gl 5 4 0 l5.length false),(AV.gl 5 4 0 l5.length false) = (AV.gl 5 4 0 l5.length false),(set (map ONode.av l5) ix (.agg [(nI w_op),(nI w_n),(.gl 6 1 0 k6.length false),(iP w_pats)])).set (0+ ((L.length:Nat) :Int).toNat) (.agg [(nI w_op),(nI w_n),(.gl 8 1 0 (k6++ [kid11]).length false),(iP w_pats)]) = (set (map ONode.av l5) ix (.agg [(nI w_op),(nI w_n),(.gl 8 1 0 (k6++ [kid11]).length false),(iP w_pats)])),(AV.gl 5 4 0 l5.length false) = (.gl 5 4 0 (set l5 ix (ONode.mk w_op w_n (KV.val u) w_pats)).length false),(AV.gl 5 4 0 l5.length false) = (.gl 5 4 0 (set l5 ix (ONode.mk w_op w_n (KV.val u) w_pats)).length false),(AV.gl 5 4 0 l5.length false) = (.gl 5 4 0 (set l5 ix (ONode.mk w_op w_n (KV.val u) w_pats)).length false),(nI (IntKind.i64.wrap (t61+ (1:Int)))) = (nI (t61+ (1:Int)))]) (is:=[.reg [.d,.d,.d,.d,.d,.d,.d,.d,.d,.d,.ans (.ix),.d,.ans (.idx (.agg [(nI w_op),(nI w_n),(.gl 6 1 0 k6.length false),(iP w_pats)])),.d,.d,.app (jI (k6++ [kid11])) (k6++ [kid11]).length,.ans (.ix),.d,.st (.agg [(nI w_op),(nI w_n),(.gl 6 1 0 k6.length false),(iP w_pats)]) (.agg [(nI w_op),(nI w_n),(.gl 8 1 0 (k6++ [kid11]).length false),(iP w_pats)])],.lset 5 (set (map ONode.av l5) ix (.agg [(nI w_op),(nI w_n),(.gl 8 1 0 (k6++ [kid11]).length false),(iP w_pats)])),.run 1]) (is2:=fun u=>[.set 77 (.gl 5 4 0 (set l5 ix (ONode.mk w_op w_n (KV.val u) w_pats)).length false),.set 82 (.gl 5 4 0 (set l5 ix (ONode.mk w_op w_n (KV.val u) w_pats)).length false),.cset 2 0 (.gl 5 4 0 (set l5 ix (ONode.mk w_op w_n (KV.val u) w_pats)).length false),.run 2,.set 92 (nI (t61+ (1:Int))),.run 3]) (fun u=>by kernel_rfl) (fun u=>by kernel_rfl) (fun u=> ⟨aI (fun _=>rfl) (fun _=>rfl) _ _ _,⟨aI (fun _=>rfl) (fun _=>rfl) _ _ _,⟨(bE _ (fun _=>gW _) _),⟨(bE _ (fun _=>rfl) _),trivial⟩⟩⟩⟩) (fun u=> ⟨(bEt [(nI w_op),(nI w_n)] [(iP w_pats)] h3 (length_map ..) (by simp) rfl),h0,h1,(aHN h2 h3),(aG1 _ _),h4,(aG2 _ _ _),(aG3 _ _ _),h0,h1,(aHN h2 h3),rfl,rfl,rfl,(aTD h2),(dY (length_set ..).symm),(dY (length_set ..).symm),(dY (length_set ..).symm),(congrArg (AV.int .i64) h5)⟩) hk
def bEH(a:List aB):TS:=bQ PP 184 [(iS a)] [] 0
def bCq (a:List aB):=(tT 0 (bEH a)<|gl 8 aA a<|gl 1 aA a<|.i [.ans (.ev (.ilst 1 (map aA a) true))] [.q (p:=bEv PP 92 (iS a) none (some (nI (a.length:Int))) (some (nI (a.length:Int))) (.ilst 1 (map aA a) true)) (bCa (by kernel_rfl))]<|gE 3 0 (.ilst 1 (map aA a) true)) tv
mutual
theorem aJT :∀p:Pat,uC p=true→nmP p=aO p
 | .mk f n s ps,h=>by
  rw [uC,and_eq_true]at h;rw [nmP,aO];by_cases h2:f=2
  · rw [if_pos h2,if_pos h2];have h1:=h.1;simp only [bK,h2,and_eq_true,decide_eq_true_eq]at h1;simp at h1;have:ps= [] :=List.length_eq_zero_iff.1 (by simpa using h1.1.1);rw [this,zV];rfl
  · rw [if_neg h2,if_neg h2,List.nil_append];exact aFX ps h.2
theorem aFX :∀ps:List Pat,lL ps=true→zV ps=bY ps
 | [],_=>by rw [zV,bY]
 | p::ps,h=>by
  rw [lL,and_eq_true]at h;rw [zV,bY,aJT p h.1,aFX ps h.2]
end
theorem aOm {p:Pat}(hg:sB p=true) :Pure PP 185 [Pat.av p] (.tup [.ilst 1 (map aA (aO p)) false,.int .i64 0]) :=by
 have h:=hg;simp only [sB,and_eq_true,decide_eq_true_eq]at h;rw [←aJT p h.1.2];exact aTI p (by omega) hg
theorem aJU (o n:Int)(s:aB)(ks:List Term)(ps:List Pat)(k:Nat)(hk:k≤1000)(h15:o=15→k≤ps.length)(hp:∀p∈ps,sB p=true) :Pure PP 111 [Term.av (.mk o n s ks ps),.int .i64 (k:Int)] (.ilst 1 (map aA (aR o s ps k)) false) :=by
 have W:∀ {l:List aB} {x:Bool},Ends PP 0 (aS2 o n s ks ps (k:Int)).as (.ret (.ilst 1 (map aA l) x)) (aG [] 0) →Pure PP 111 [Term.av (.mk o n s ks ps),.int .i64 (k:Int)] (.ilst 1 (map aA l) false) :=fun {l x} he=>by
  have h0:Pure PP 111 [Term.av (.mk o n s ks ps),.int .i64 (k:Int)] (.ilst 1 (map aA l) x) :=cB (s:=aS2 o n s ks ps (k:Int)) (by kernel_rfl) (by kernel_rfl) (by simp [keylessL,dF,keyless]) (by simp [keyless]) he;cases x with
  |false=>exact h0
  |true=>exact aFP h0 (fun E cv h=>aAV h)
 unfold aR;by_cases h5:o=5
 ·rw [if_pos (.inl h5)];exact W (bAn o n s ks ps k (by simp [h5]))
 · by_cases h27:o=27
   ·rw [if_pos (.inr h27)];exact W (bAo o n s ks ps k (by simp [h5]) (by simp [h27]))
   · rw [if_neg (by simp [h5,h27])];by_cases h7:o=7
     · rw [if_pos h7];by_cases hk1:k=1
       ·rw [if_pos hk1];exact W (bAp o n s ks ps k (by simp [h5]) (by simp [h27]) (by simp [h7]) (by simp [hk1]))
       ·rw [if_neg hk1];exact W (bAq o n s ks ps k (by simp [h5]) (by simp [h27]) (by simp [h7]) (by simp;omega) (by simp [h7]))
     · rw [if_neg h7];by_cases ho:o=15
       · rw [if_pos ho];cases k with
         |zero=>exact W (bAs o n s ks ps _ (by simp [h5]) (by simp [h27]) (by simp [h7]) (by simp [ho]) (by simp))
         | succ j=>
          have hj:=h15 ho;obtain⟨p,hpj⟩ :∃p,ps[j]?=some p:= ⟨_,List.getElem?_eq_getElem (by omega)⟩;simp only [hpj];have hg:=hp p (mem_of_getElem? hpj);have hn:=aOm hg;obtain⟨f',n',s',ps'⟩ :=p;have e: ((j+1:Nat) :Int) -1= (j:Int) :=by omega
          exact W (bAr o n s ks ps ((j+1:Nat) :Int) f' n' s' ps' _ 0 (by simp [h5]) (by simp [h27]) (by simp [h7]) (by simp [ho]) (by simp;try omega) (by apply wrap64<;>omega) (by omega) (by rw [e,Int.toNat_natCast];exact hpj) hn)
       ·rw [if_neg ho];exact W (bAt o n s ks ps k (by simp [h5]) (by simp [h27]) (by simp [h7]) (by simp [ho]))
theorem aTP (l:List aB) :Pure PP 184 [.ilst 1 (map aA l) false] (.ilst 1 (map aA l) true) :=
 cB (s:=bEH l) (by kernel_rfl) (by kernel_rfl) (by simp [keylessL,keyless]) (by simp [keyless]) (bCq l)
abbrev SCa (ar:List Int)(pl:List aB) :AV:=.agg [.map 0,.map 1,.ilst 1 (map aP ar) false,.ilst 1 (map aA pl) false]
theorem aTQ (mf mc:List (aB×Int))(ar:List Int)(q:aB)(pl l:List aB)(h: ((q::pl) ++l).length≤1000000) :Spec PP (.enter 110 [SCa ar (q::pl),.ilst 1 (map aA l) false]) (WH mf mc) (.ret (SCa ar ((q::pl) ++l))) (WH mf mc) :=
 ⟨(bD3 mf mc ar q pl l).as.fr,by kernel_rfl,Eq.mp (by kernel_rfl) (bAc mf mc ar q pl l (aTP (q::pl) _) h)⟩
theorem aTR {mf mc:List (aB×Int)}{ar:List Int}{q:aB}{pl l:List aB}{lc:List (Nat×AObj×Bool)}{n2:Nat}(h: ((q::pl) ++l).length≤1000000)(e3:2-2+n2=n2)
  (hl:oI (aG lc n2) (dV 0 2 n2 [0,1]) (WL mf mc) =gI (dV 0 2 n2 [0,1]) (WL mf mc) :=by kernel_rfl) (hl':oI (aG lc n2) (kU 2 n2 [0,1]) (WL mf mc) =gI (kU 2 n2 [0,1]) (WL mf mc) :=by kernel_rfl) (hx:eI n2 lc=true:=by kernel_rfl)
  (hlt: [0,1].all (fun k=>blt k n2) =true:=by kernel_rfl) (hout:vT (namesT (kU 2 n2 [0,1]) (WL mf mc)) [0,1] (aG lc n2) lc=nT lc:=by kernel_rfl) (ha:AV.renL (dV 0 2 n2 [0,1]) [SCa ar (q::pl),.ilst 1 (map aA l) false] = [SCa ar (q::pl),.ilst 1 (map aA l) false] :=by kernel_rfl) (hv:AV.ren (kU 2 n2 [0,1]) (SCa ar ((q::pl) ++l)) =SCa ar ((q::pl) ++l) :=by kernel_rfl) :
  Spec PP (.enter 110 [SCa ar (q::pl),.ilst 1 (map aA l) false]) (aG lc n2) (.ret (SCa ar ((q::pl) ++l))) (aG lc n2) :=
 kS (m:=2) (ks:=[0,1]) (nb:=2) (nb':=2) (aTQ mf mc ar q pl l h) e3 hv ha rfl rfl (by kernel_rfl) hl (aJP mf mc) hl' (aJP mf mc) (by kernel_rfl) (by kernel_rfl) hx hx hlt hout (by kernel_rfl)
theorem tU {P:Program}{f:Nat}{args args':List AV}{res:Res}{l l' lc lc':List (Nat×AObj×Bool)}{m nb nb' n2 n3:Nat}{ks:List Nat}
  (h0:rW P m (.enter f args) (aG l nb) res (aG l' nb')) (e3:nb'-m+n2=n3) (hv:yF res) (hargs:AV.renL (dV 0 nb n2 ks) args=args') (hm:ble m nb=true) (hm':ble m nb'=true)
  (hin:cS 0 ⟨⟨0,0,[],[],[],.run,.normal,none⟩,[],l,nb⟩ ks=true) (hl:oI (aG lc n2) (dV 0 nb n2 ks) l=gI (dV 0 nb n2 ks) l) (hkl:fG l)
  (hl':oI (aG lc' n3) (kU m n2 ks) l'=gI (kU m n2 ks) l') (hkl':fG l') (hpl:tB l'=true:=by kernel_rfl) (hk':eI nb' l'=true:=by kernel_rfl)
  (hx:eI n2 lc=true:=by kernel_rfl) (hx':eI n3 lc'=true:=by kernel_rfl) (hlt:ks.all (fun k=>blt k n2) =true:=by kernel_rfl) (hout:vT (namesT (kU m n2 ks) l') ks (aG lc n2) lc'=nT lc':=by kernel_rfl) (hll:nT l'= (l'.map fun p=> (aG l' nb').look p.1) :=by kernel_rfl) :
  Spec P (.enter f args') (aG lc n2) res (aG lc' n3) :=by
 subst e3;exact aFD h0 (fun _ g=>bDx hv g) hargs hm hm' hin hl hkl hl' hkl' hpl hk' hx hx' hlt hout hll
abbrev MKc (b n:Nat) :AObj:=.cells (putCells .leaf 0 [.gl b 4 0 n false]) 1 [] false
abbrev MH (mf mc:List (aB×Int))(L:List ONode) :List (Nat×AObj×Bool) :=[(0,lQ mf,true),(1,lQ mc,true),(2,MKc 3 (length L),false),(3,OL L,true)]
theorem aLN (mf mc:List (aB×Int))(L:List ONode) :fG (MH mf mc L) := ⟨aI (fun _=>rfl) (fun _=>rfl) _ _ _,aI (fun _=>rfl) (fun _=>rfl) _ _ _,aMl L,trivial⟩
def aTS (mf mc:List (aB×Int))(ar:List Int)(pl:List aB)(o n:Int)(s:aB)(k:Nat) :Option Int:=
 if o=4 then aFR mf pl s else if o=14 then aHA mc ar s k else some n
mutual
def mT (mf mc:List (aB×Int))(ar:List Int) :Term→List aB→Nat→Option (List Node)
 | .mk o n s ks ps,pl,a=>match wPs mc ar ps,aTS mf mc ar pl o n s (length ks),mTs mf mc ar o s ps ks 0 pl (a+1)with
  |some qs,some N,some r=>some (⟨o,N,r.1,qs⟩ ::r.2)
  |_,_,_=>none
def mTs (mf mc:List (aB×Int))(ar:List Int)(o:Int)(s:aB)(ps:List Pat) :List Term→Nat→List aB→Nat→Option (List Int×List Node)
 | [],_,_,_=>some ([],[])
 | t::ts,i,pl,a=>match mT mf mc ar t (pl++aR o s ps i) a with
  |none=>none
  | some ns=>match mTs mf mc ar o s ps ts (i+1) pl (a+ns.length)with
   |none=>none
   |some r=>some (((a:Nat) :Int) ::r.1,ns++r.2)
end
mutual
theorem aHT (mf mc:List (aB×Int))(ar:List Int) :∀ (t:Term) (pl:List aB) (a:Nat) (ns:List Node),mT mf mc ar t pl a=some ns→ns.length=bD t
 | .mk o n s ks ps,pl,a,ns,h=>by
  rw [mT]at h;split at h
  · rename_i qs N r h1 h2 h3;cases h;rw [length_cons,aNg mf mc ar o s ps ks 0 pl (a+1) r h3,bD]
  ·cases h
theorem aNg (mf mc:List (aB×Int))(ar:List Int)(o:Int)(s:aB)(ps:List Pat) :∀ (ts:List Term) (i:Nat) (pl:List aB) (a:Nat) (r:List Int×List Node),mTs mf mc ar o s ps ts i pl a=some r→r.2.length=aY ts
 | [],i,pl,a,r,h=>by rw [mTs]at h;cases h;rfl
 | t ::ts,i,pl,a,r,h=>by
  rw [mTs]at h;split at h
  ·cases h
  · rename_i ns h1;split at h
    ·cases h
    · rename_i r1 h2;cases h;rw [length_append,aHT mf mc ar t _ _ ns h1,aNg mf mc ar o s ps ts _ _ _ r1 h2,aY]
end
def bFW (L:List ONode) :Option (List Node) →Res
 |none=>.pan UB
 |some _=>.ret (.int .i64 ((length L:Nat) :Int))
def hpN (mf mc:List (aB×Int))(L:List ONode) :Option (List Node) →Hp
 |none=>aG (WL mf mc) 3
 |some ns=>aG (MH mf mc (L++map Node.o ns)) 4
def MPS (mf mc:List (aB×Int))(ar:List Int)(t:Term)(pl:List aB)(L:List ONode)(r:Option (List Node)) :Prop:=
 rW PP 3 (.enter 44 [.ptr 2 0,SCa ar pl,Term.av t]) (aG (MH mf mc L) 4) (bFW L r) (hpN mf mc L r)
def aFY (mf mc:List (aB×Int))(L:List ONode)(s:TS)(r:Option (List Node)) :Prop:=Ends PP 3 s.as (bFW L r) (hpN mf mc L r)
section
variable (mf mc:List (aB×Int)) (ar:List Int) (q:aB) (pl:List aB) (L:List ONode) (o n:Int) (s:aB) (ks:List Term) (ps:List Pat)
theorem aOo (kid:Int)(l:List ONode){ix:Nat}{a b:Int}{P:List Pat}(h:l[ix]?=some ⟨a,b,.nil,P⟩) :LeadsM PP 3 (aTN mf mc ar (q::pl) L o n s ks ps kid l).as (aNe mf mc ar (q::pl) L o n s ks ps kid l ix a b P).as:=
 bFS (k:=5) (e0:=4) (e:=1) (by kernel_rfl) (by kernel_rfl) (bEu (f:=ONode.av) [.int .i64 a,.int .i64 b] [.ilst 4 (Pats.av P) false] h rfl) (by kernel_rfl)
theorem aOp (kid:Int)(l:List ONode)(k3:List Int)(u:Value)(i:Int){ix:Nat}{a b:Int}{P:List Pat}(h:l[ix]?=some ⟨a,b,.val u,P⟩) :LeadsM PP 3 (aTO mf mc ar (q::pl) L o n s ks ps kid l k3 u i).as (aNf mf mc ar (q::pl) L o n s ks ps kid l k3 i ix a b P).as:=
 bBO (k:=5) (b:=6) (e0:=4) (e:=1) (u:=u) (xs:=map aP k3) (n:=length k3) (by kernel_rfl) (by kernel_rfl) (by decide) (length_map ..) (bEu (f:=ONode.av) [.int .i64 a,.int .i64 b] [.ilst 4 (Pats.av P) false] h rfl) (by kernel_rfl)
variable (hkl :ks.length≤900) (h15:o=15→ks.length≤ps.length+1) (hps:∀p∈ps,aV p≤1000) (hpg:∀p∈ps,sB p=true) (he:pl.length≤900000)
 (ih:∀t∈ks,∀ (e:List aB) (M:List ONode),e.length≤pl.length+1000→M.length+bD t≤1000000→MPS mf mc ar t (q::e) M (mT mf mc ar t (q::e) M.length))
include hkl h15 hps hpg he ih
theorem aJV (v:Int)(P:List Pat) :∀ (ts:List Term) (i:Nat) (u:Value) (r0:List Node) (k3:List Int),ks.drop i=ts→k3.length=i→L.length+1+r0.length+aY ts≤1000000 →
  aFY mf mc L (zX mf mc ar (q::pl) L o n s ks ps (L++ ⟨o,v,.val u,P⟩ ::map Node.o r0) k3 u (i:Int)) ((mTs mf mc ar o s ps ts i (q::pl) (L.length+1+r0.length)).map fun r=> ⟨o,v,k3++r.1,P⟩ :: (r0++r.2))
 | [],i,u,r0,k3,h,hk,_=>by
  have:=bL h;have h1:=bCk mf mc ar (q::pl) L o n s ks ps (L++ ⟨o,v,.val u,P⟩ ::map Node.o r0) k3 u i ⟨o,v,.val u,P⟩ sd (aAR ..) rfl;rw [aAS]at h1;rw [mTs];simp only [map_some,append_nil];exact h1
 | .mk o' n' s' ks' ps'::ts,i,u,r0,k3,h,hk,hb=>by
  obtain⟨g1,g2,g3⟩ :=bH h;have hi:= (List.getElem?_eq_some_iff.1 g1).1;simp only [aY]at hb;have hbl:=aFQ hps o s i;have hb1:=aJU o n s ks ps i (by omega) (fun h=>by have:=h15 h;omega) hpg;have hlen: (L++ (⟨o,v,.val u,P⟩ :ONode) ::map Node.o r0).length=L.length+1+r0.length:=by simp;omega
  have hs:=ih _ (mem_of_getElem? g1) (pl++aR o s ps i) (L++ ⟨o,v,.val u,P⟩ ::map Node.o r0) (by simp;omega) (by rw [hlen];omega);rw [hlen]at hs
  have hw:=aTR (mf:=mf) (mc:=mc) (ar:=ar) (q:=q) (pl:=pl) (l:=aR o s ps i) (n2:=8)
   (lc:=[(0,lQ mf,true),(1,lQ mc,true),(2,MKc 5 (length (L++ (⟨o,v,.val u,P⟩ :ONode) ::map Node.o r0)),false),(3,.cells (putCells .leaf 0 [.map 0,.map 1,.ilst 1 (map aP ar) false,.ilst 1 (map aA (q::pl)) false]) 4 [] false,false),(4,jB o n s ks ps,false),(5,OL (L++ ⟨o,v,.val u,P⟩ ::map Node.o r0),true),(6,.lstv u 1 (map aP k3),true),(7,jB o' n' s' ks' ps',false)]) (by simp;omega) rfl
  rw [mTs];have hns:∀ns,mT mf mc ar (.mk o' n' s' ks' ps') (q::pl++aR o s ps i) (L.length+1+r0.length) =some ns→ns.length=bD (.mk o' n' s' ks' ps') :=fun ns h=>aHT mf mc ar _ _ _ ns h;have hcons:q:: (pl++aR o s ps i) =q::pl++aR o s ps i:=rfl;rw [hcons]at hs;cases hm:mT mf mc ar (.mk o' n' s' ks' ps') (q::pl++aR o s ps i) (L.length+1+r0.length)with
  | none=>
   rw [hm]at hs
   have hs':=tU (m:=3) (ks:=[0,1,2,5]) (n2:=8) (n3:=8) (args':=[.ptr 2 0,SCa ar (q::pl++aR o s ps i),Term.av (.mk o' n' s' ks' ps')])
    (lc:=[(0,lQ mf,true),(1,lQ mc,true),(2,MKc 5 (length (L++ (⟨o,v,.val u,P⟩ :ONode) ::map Node.o r0)),false),(3,.cells (putCells .leaf 0 [.map 0,.map 1,.ilst 1 (map aP ar) false,.ilst 1 (map aA (q::pl)) false]) 4 [] false,false),(4,jB o n s ks ps,false),(5,OL (L++ ⟨o,v,.val u,P⟩ ::map Node.o r0),true),(6,.lstv u 1 (map aP k3),true),(7,jB o' n' s' ks' ps',false)])
    (lc':=[(0,lQ mf,true),(1,lQ mc,true),(3,.cells (putCells .leaf 0 [.map 0,.map 1,.ilst 1 (map aP ar) false,.ilst 1 (map aA (q::pl)) false]) 4 [] false,false),(4,jB o n s ks ps,false),(6,.lstv u 1 (map aP k3),true),(7,jB o' n' s' ks' ps',false)])
    hs (by rfl) aLM (by kernel_rfl) (by rfl) (by rfl) (by kernel_rfl) (by kernel_rfl) (aLN _ _ _) (by kernel_rfl) (aJP _ _)
   exact bCo mf mc ar (q::pl) L o n s ks ps (L++ ⟨o,v,.val u,P⟩ ::map Node.o r0) k3 u i o' n' s' ks' ps' _ sd sd sd hb1 hw hs'
  | some ns=>
   have hnl:=hns ns hm;rw [hm]at hs
   have hs':=kS (m:=3) (ks:=[0,1,2,5]) (n2:=8) (n3:=9) (v':=.int .i64 ((length (L++ (⟨o,v,.val u,P⟩ :ONode) ::map Node.o r0) :Nat) :Int)) (args':=[.ptr 2 0,SCa ar (q::pl++aR o s ps i),Term.av (.mk o' n' s' ks' ps')])
    (lc:=[(0,lQ mf,true),(1,lQ mc,true),(2,MKc 5 (length (L++ (⟨o,v,.val u,P⟩ :ONode) ::map Node.o r0)),false),(3,.cells (putCells .leaf 0 [.map 0,.map 1,.ilst 1 (map aP ar) false,.ilst 1 (map aA (q::pl)) false]) 4 [] false,false),(4,jB o n s ks ps,false),(5,OL (L++ ⟨o,v,.val u,P⟩ ::map Node.o r0),true),(6,.lstv u 1 (map aP k3),true),(7,jB o' n' s' ks' ps',false)])
    (lc':=[(0,lQ mf,true),(1,lQ mc,true),(2,MKc 8 (length ((L++ (⟨o,v,.val u,P⟩ :ONode) ::map Node.o r0) ++map Node.o ns)),false),(3,.cells (putCells .leaf 0 [.map 0,.map 1,.ilst 1 (map aP ar) false,.ilst 1 (map aA (q::pl)) false]) 4 [] false,false),(4,jB o n s ks ps,false),(6,.lstv u 1 (map aP k3),true),(7,jB o' n' s' ks' ps',false),(8,OL ((L++ ⟨o,v,.val u,P⟩ ::map Node.o r0) ++map Node.o ns),true)])
    hs (by rfl) (by rfl) (by kernel_rfl) (by rfl) (by rfl) (by kernel_rfl) (by kernel_rfl) (aLN _ _ _) (by kernel_rfl) (aLN _ _ _)
   have h0:=bCj mf mc ar (q::pl) L o n s ks ps (L++ ⟨o,v,.val u,P⟩ ::map Node.o r0) k3 u i o' n' s' ks' ps' _ ns sd sd sd hb1 hw hs';have e2: (L++ (⟨o,v,.val u,P⟩ :ONode) ::map Node.o r0) ++map Node.o ns=L++ ⟨o,v,.val u,P⟩ ::map Node.o (r0++ns) :=by simp
   rw [e2,hlen]at h0;refine LeadsM.ends (h0.trans (aOp mf mc ar q pl L o n s ks ps _ _ k3 u i (aAR L _ _))) ?_;refine bCp mf mc ar (q::pl) L o n s ks ps _ _ k3 i (length L) o v P (by omega) (by simp;omega) (by omega) (by simp) (by simp;omega) sd (fun ua un uc=>?_);have hr:=aJV v P ts (i+1) (.slice ua un uc) (r0++ns) (k3++ [((L.length+1+r0.length:Nat) :Int)]) g2 (by simp [hk]) (by simp;omega);dsimp only;rw [aAS];rw [length_append,←Nat.add_assoc]at hr;cases ht:mTs mf mc ar o s ps ts (i+1) (q::pl) (L.length+1+r0.length+ns.length)with
   |none=>rw [ht]at hr;exact hr
   | some r=>
    rw [ht]at hr;simp only [map_some,append_assoc,singleton_append]at hr ⊢;exact hr
theorem aTT (v:Int)(P:List Pat)(hb:L.length+1+aY ks≤1000000) :
  aFY mf mc L (wO mf mc ar (q::pl) L o n s ks ps (L++ [⟨o,v,.nil,P⟩])) ((mTs mf mc ar o s ps ks 0 (q::pl) (L.length+1)).map fun r=> ⟨o,v,r.1,P⟩ ::r.2) :=by
 cases hks:ks with
 | nil=>
  subst hks;have h1:=bCi mf mc ar (q::pl) L o n s [] ps (L++ [⟨o,v,.nil,P⟩]) ⟨o,v,.nil,P⟩ (by simp) (aAR ..) rfl;rw [aAS]at h1;rw [mTs];exact h1
 | cons t ts=>
  obtain⟨o',n',s',ks',ps'⟩ :=t;have g1:ks[0]?=some (.mk o' n' s' ks' ps') :=by rw [hks];rfl
  rw [←hks];have hbl:=aFQ hps o s 0;have hb1:=aJU o n s ks ps 0 (by omega) (fun h=>by have:=h15 h;omega) hpg;have hlen: (L++ [(⟨o,v,.nil,P⟩ :ONode)]).length=L.length+1:=by simp
  have hb0:bD (.mk o' n' s' ks' ps') +aY ts=aY ks:=by rw [hks,aY]
  have hs:=ih _ (mem_of_getElem? g1) (pl++aR o s ps 0) (L++ [⟨o,v,.nil,P⟩]) (by simp;omega) (by rw [hlen];omega);rw [hlen]at hs
  have hw:=aTR (mf:=mf) (mc:=mc) (ar:=ar) (q:=q) (pl:=pl) (l:=aR o s ps 0) (n2:=7)
   (lc:=[(0,lQ mf,true),(1,lQ mc,true),(2,MKc 5 (length (L++ [(⟨o,v,.nil,P⟩ :ONode)])),false),(3,.cells (putCells .leaf 0 [.map 0,.map 1,.ilst 1 (map aP ar) false,.ilst 1 (map aA (q::pl)) false]) 4 [] false,false),(4,jB o n s ks ps,false),(5,OL (L++ [⟨o,v,.nil,P⟩]),true),(6,jB o' n' s' ks' ps',false)]) (by simp;omega) rfl
  have ep:mTs mf mc ar o s ps ks 0 (q::pl) (L.length+1) =mTs mf mc ar o s ps (.mk o' n' s' ks' ps'::ts) 0 (q::pl) (L.length+1) :=by rw [hks]
  rw [ep,mTs];have hns:∀ns,mT mf mc ar (.mk o' n' s' ks' ps') (q::pl++aR o s ps 0) (L.length+1) =some ns→ns.length=bD (.mk o' n' s' ks' ps') :=fun ns h=>aHT mf mc ar _ _ _ ns h;have hcons:q:: (pl++aR o s ps 0) =q::pl++aR o s ps 0:=rfl;rw [hcons]at hs;cases hm:mT mf mc ar (.mk o' n' s' ks' ps') (q::pl++aR o s ps 0) (L.length+1)with
  | none=>
   rw [hm]at hs
   have hs':=tU (m:=3) (ks:=[0,1,2,5]) (n2:=7) (n3:=7) (args':=[.ptr 2 0,SCa ar (q::pl++aR o s ps 0),Term.av (.mk o' n' s' ks' ps')])
    (lc:=[(0,lQ mf,true),(1,lQ mc,true),(2,MKc 5 (length (L++ [(⟨o,v,.nil,P⟩ :ONode)])),false),(3,.cells (putCells .leaf 0 [.map 0,.map 1,.ilst 1 (map aP ar) false,.ilst 1 (map aA (q::pl)) false]) 4 [] false,false),(4,jB o n s ks ps,false),(5,OL (L++ [⟨o,v,.nil,P⟩]),true),(6,jB o' n' s' ks' ps',false)])
    (lc':=[(0,lQ mf,true),(1,lQ mc,true),(3,.cells (putCells .leaf 0 [.map 0,.map 1,.ilst 1 (map aP ar) false,.ilst 1 (map aA (q::pl)) false]) 4 [] false,false),(4,jB o n s ks ps,false),(6,jB o' n' s' ks' ps',false)])
    hs (by rfl) aLM (by kernel_rfl) (by rfl) (by rfl) (by kernel_rfl) (by kernel_rfl) (aLN _ _ _) (by kernel_rfl) (aJP _ _)
   exact bCm mf mc ar (q::pl) L o n s ks ps (L++ [(⟨o,v,.nil,P⟩ :ONode)]) o' n' s' ks' ps' _ (by rw [hks];simp) (by omega) (by simpa using g1) hb1 hw hs'
  | some ns=>
   have hnl:=hns ns hm;rw [hm]at hs
   have hs':=kS (m:=3) (ks:=[0,1,2,5]) (n2:=7) (n3:=8) (v':=.int .i64 ((length (L++ [(⟨o,v,.nil,P⟩ :ONode)]) :Nat) :Int)) (args':=[.ptr 2 0,SCa ar (q::pl++aR o s ps 0),Term.av (.mk o' n' s' ks' ps')])
    (lc:=[(0,lQ mf,true),(1,lQ mc,true),(2,MKc 5 (length (L++ [(⟨o,v,.nil,P⟩ :ONode)])),false),(3,.cells (putCells .leaf 0 [.map 0,.map 1,.ilst 1 (map aP ar) false,.ilst 1 (map aA (q::pl)) false]) 4 [] false,false),(4,jB o n s ks ps,false),(5,OL (L++ [⟨o,v,.nil,P⟩]),true),(6,jB o' n' s' ks' ps',false)])
    (lc':=[(0,lQ mf,true),(1,lQ mc,true),(2,MKc 7 (length ((L++ [(⟨o,v,.nil,P⟩ :ONode)]) ++map Node.o ns)),false),(3,.cells (putCells .leaf 0 [.map 0,.map 1,.ilst 1 (map aP ar) false,.ilst 1 (map aA (q::pl)) false]) 4 [] false,false),(4,jB o n s ks ps,false),(6,jB o' n' s' ks' ps',false),(7,OL ((L++ [⟨o,v,.nil,P⟩]) ++map Node.o ns),true)])
    hs (by rfl) (by rfl) (by kernel_rfl) (by rfl) (by rfl) (by kernel_rfl) (by kernel_rfl) (aLN _ _ _) (by kernel_rfl) (aLN _ _ _)
   have h0:=bCh mf mc ar (q::pl) L o n s ks ps (L++ [(⟨o,v,.nil,P⟩ :ONode)]) o' n' s' ks' ps' _ ns (by rw [hks];simp) (by omega) (by simpa using g1) hb1 hw hs';have e2: (L++ [(⟨o,v,.nil,P⟩ :ONode)]) ++map Node.o ns=L++ ⟨o,v,.nil,P⟩ ::map Node.o ns:=by simp
   rw [e2,hlen]at h0;refine LeadsM.ends (h0.trans (aOo mf mc ar q pl L o n s ks ps _ _ (aAR L _ _))) ?_;refine bCn mf mc ar (q::pl) L o n s ks ps _ _ (length L) o v P (by omega) (by simp;omega) (by omega) (by simp) (by simp) (fun ua un uc=>?_);have hr:=aJV mf mc ar q pl L o n s ks ps hkl h15 hps hpg he ih v P ts 1 (.slice ua un uc) ns [((L.length+1:Nat) :Int)] (by rw [hks];rfl) rfl (by omega);dsimp only;rw [aAS];cases ht:mTs mf mc ar o s ps ts (0+1) (q::pl) (L.length+1+ns.length)with
   |none=>rw [show(0+1) =1 from rfl]at ht;rw [ht]at hr;exact hr
   | some r=>
    rw [show(0+1) =1 from rfl]at ht;rw [ht]at hr;simp only [map_some,singleton_append]at hr ⊢;exact hr
end
def aTU(a:Mod):TS:=bQ PP 10 [(.agg [(aA a.name),(.ilst 2 (map DataD.av a.datas) false),(.ilst 15 (FunDs.av a.funs) false)])] [] 0
def aHU(a:Mod)(f:List Con)(g:List Int)(b c:List (aB×Int))(i:Int)(d:List Int)(e:List ONode):TS:=⟨(tf 10 59 [kp 2 0,kp 3 1,kp 4 2,(5,(iC f)),kp 6 3,(7,(.gl 4 1 0 d.length false)),(23,(.ilst 15 (FunDs.av a.funs) false)),(24,(nI (a.funs.length:Int))),(25,(nI i))] [kc f10 2036,kl f10 2036,.inBlock 0,kc f10 255] (defers:=[.fn 42 [(.ptr 0 0),(.ptr 1 0)]])),[],[oC 0 [.nils,.nils,(nI 0),.nils],oC 1 [(nI 0)],oC 2 [(.map 5),(.map 6),(iI g)],oC 3 [(.gl 7 4 0 e.length false)],oL 4 1 (jI d),(5,(.map (aC aA aP 0 b) b.length),true),(6,(.map (aC aA aP 0 c) c.length),true),oL 7 4 (map ONode.av e)],8⟩
def bEI(a:Node):TS:=bQ PP 46 [(Node.av a)] [] 0
def bEJ(a:List Node):TS:=bQ PP 112 [(iN a),(.func 46 [] [])] [] 0
def aHV(a:List Node)(b:Int):TS:=⟨(tf 112 19 [(0,(iN a)),(1,(.func 46 [] [])),(4,(nI 0)),(7,(nI (a.length:Int))),(8,(nI b))] [kc f112 52,kl f112 52,.inBlock 0,kc f112 7]),[],[],0⟩
def bEK(a:List Node):TS:=bQ PP 45 [(iN a),(.func 46 [] [])] [] 0
def aTV(a:Mod):=tT 0 (aTU a)<|gpI 10 41 [(.agg [(aA a.name),(.ilst 2 (map DataD.av a.datas) false),(.ilst 15 (FunDs.av a.funs) false)])]<|fun f=>.b 2 12 (f != 0) (.i [rn 8,.cnilI 1 0 4] []<|.i [.cnilI 1 1 1] []<|.i [.cnilI 1 3 2] []<|gE 0 3 (.tup [(.agg [(.ilst 4 (jN ([] :List Node)) true),(.ilst 1 (jI ([] :List Int)) true),(nI 0),(.ilst 2 (jC ([] :List Con)) true)]),(nI 2)]))<|.o (gK 10 (.enter 43 [(.agg [(aA a.name),(.ilst 2 (map DataD.av a.datas) false),(.ilst 15 (FunDs.av a.funs) false)])]) [oC 0 [(aA a.name),(.ilst 2 (map DataD.av a.datas) false),(.ilst 15 (FunDs.av a.funs) false)],oC 1 [.nils,.nils,(nI 0),.nils],oC 2 [(nI 0)]] 3 [((.iface 82 (.agg [])),false)] [oC 0 [(aA a.name),(.ilst 2 (map DataD.av a.datas) false),(.ilst 15 (FunDs.av a.funs) false)],oC 1 [.nils,.nils,(nI 0),.nils],oC 2 [(nI 0)]] 3<|.i [rn 31,.cnilI 1 0 4] []<|.i [.cnilI 1 1 1] []<|.i [.cnilI 1 3 2] []<|gE 0 4 (.tup [(.agg [(.ilst 4 (jN ([] :List Node)) true),(.ilst 1 (jI ([] :List Int)) true),(nI 0),(.ilst 2 (jC ([] :List Con)) true)]),(nI 7)]))<|.y fun b:List (aB×Int)=>.y fun c:List (aB×Int)=>.y fun d:List Int=>.y fun e:List Con=>gk 10 (.enter 43 [(.agg [(aA a.name),(.ilst 2 (map DataD.av a.datas) false),(.ilst 15 (FunDs.av a.funs) false)])]) [oC 0 [(aA a.name),(.ilst 2 (map DataD.av a.datas) false),(.ilst 15 (FunDs.av a.funs) false)],oC 1 [.nils,.nils,(nI 0),.nils],oC 2 [(nI 0)]] 3 (.tup [(.agg [(.map 3),(.map 4),(iI d)]),(iC e)]) [oC 0 [(aA a.name),(.ilst 2 (map DataD.av a.datas) false),(.ilst 15 (FunDs.av a.funs) false)],oC 1 [.nils,.nils,(nI 0),.nils],oC 2 [(nI 0)],(3,(.map (aC aA aP 0 b) b.length),true),(4,(.map (aC aA aP 0 c) c.length),true)] 5<|gm 22 cJ a.funs<|.i [rn 4,.nilL 7 1] []<|gu 0 7 (jI ([] :List Int))<|gs 0 7 (.gl 7 1 0 ([] :List Int).length false)<|.i [.cnil 6 0 4] []<|gu 0 8 (map ONode.av ([] :List ONode))<|gv 0 6 0 (.gl 8 4 0 ([] :List ONode).length false)<|.W 0 9 [1,2,5,6,7,3,4,8] (aHU a e d b c 0 ([] :List Int) ([] :List ONode))
def bCr:=fun a b c d=>aTV a b c|>.t d tv
def bCs:=fun a b c d e=>aTV a b c|>.f d|>.1 e tv
def bCt:=fun a b c d e f g i j=>aTV a b g|>.f i|>.2 c d e f j ⟨kk,⟨aI (fun _=>rfl) (fun _=>rfl) _ _ _,⟨aI (fun _=>rfl) (fun _=>rfl) _ _ _,⟨(bE _ (fun _=>gW _) _),trivial⟩⟩⟩⟩
def aNh(y:Mod)(z:List Con)(f:List Int)(a d:List (aB×Int))(o:Int)(e:List Int)(b:List ONode):=tT 0 (aHU y z f a d o e b)<|gd 5 26 (o< (y.funs.length:Int)) (.y fun p:aB=>.y fun g:aB=>.y fun q:Int=>.y fun r:Int=>.y fun s:aB=>.y fun t:List Typ=>.y fun u:Int=>.y fun v:Int=>.y fun w:aB=>.y fun x:List Typ=>.y fun i:Int=>.y fun j:Int=>.y fun k:aB=>.y fun l:List Term=>.y fun m:List Pat=>giF cJ 6 y.funs o (FunD.mk p g (Typ.mk q r s t) (Typ.mk u v w x) (Term.mk i j k l m))<|.o (gK 14 (.enter 44 [(.ptr 3 0),(.agg [(.map 5),(.map 6),(iI f),(.slice 9 0 1 1 1 true)]),(.agg [(nI i),(nI j),(aA k),(.ilst 5 (av l) false),(iP m)])]) [oC 0 [.nils,.nils,(nI 0),.nils],oC 1 [(nI 0)],oC 2 [(.map 5),(.map 6),(iI f)],oC 3 [(.gl 7 4 0 b.length false)],oL 4 1 (jI e),(5,(.map (aC aA aP 0 a) a.length),true),(6,(.map (aC aA aP 0 d) d.length),true),oL 7 4 (map ONode.av b),oC 8 [(aA p),(aA g),(nI q),(nI r),(aA s),(.ilst 4 (Typs.av t) false),(nI u),(nI v),(aA w),(.ilst 4 (Typs.av x) false),(nI i),(nI j),(aA k),(.ilst 5 (av l) false),(iP m)],oC 9 [(aA g)]] 10 [((.iface 82 (.agg [])),false)] [oC 0 [.nils,.nils,(nI 0),.nils],oC 1 [(nI 0)],oC 2 [(.map 5),(.map 6),(iI f)],oL 4 1 (jI e),(5,(.map (aC aA aP 0 a) a.length),true),(6,(.map (aC aA aP 0 d) d.length),true),oC 8 [(aA p),(aA g),(nI q),(nI r),(aA s),(.ilst 4 (Typs.av t) false),(nI u),(nI v),(aA w),(.ilst 4 (Typs.av x) false),(nI i),(nI j),(aA k),(.ilst 5 (av l) false),(iP m)]] 10<|.i [rn 31,.cnilI 0 0 4] []<|.i [.cnilI 0 1 1] []<|.i [.cnilI 0 3 2] []<|gE 0 11 (.tup [(.agg [(.ilst 4 (jN ([] :List Node)) true),(.ilst 1 (jI ([] :List Int)) true),(nI 0),(.ilst 2 (jC ([] :List Con)) true)]),(nI 7)]))<|.y fun A:List Node=>gk 14 (.enter 44 [(.ptr 3 0),(.agg [(.map 5),(.map 6),(iI f),(.slice 9 0 1 1 1 true)]),(.agg [(nI i),(nI j),(aA k),(.ilst 5 (av l) false),(iP m)])]) [oC 0 [.nils,.nils,(nI 0),.nils],oC 1 [(nI 0)],oC 2 [(.map 5),(.map 6),(iI f)],oC 3 [(.gl 7 4 0 b.length false)],oL 4 1 (jI e),(5,(.map (aC aA aP 0 a) a.length),true),(6,(.map (aC aA aP 0 d) d.length),true),oL 7 4 (map ONode.av b),oC 8 [(aA p),(aA g),(nI q),(nI r),(aA s),(.ilst 4 (Typs.av t) false),(nI u),(nI v),(aA w),(.ilst 4 (Typs.av x) false),(nI i),(nI j),(aA k),(.ilst 5 (av l) false),(iP m)],oC 9 [(aA g)]] 10 (nI (b.length:Int)) [oC 0 [.nils,.nils,(nI 0),.nils],oC 1 [(nI 0)],oC 2 [(.map 5),(.map 6),(iI f)],oC 3 [(.gl 10 4 0 (b++map Node.o A).length false)],oL 4 1 (jI e),(5,(.map (aC aA aP 0 a) a.length),true),(6,(.map (aC aA aP 0 d) d.length),true),oC 8 [(aA p),(aA g),(nI q),(nI r),(aA s),(.ilst 4 (Typs.av t) false),(nI u),(nI v),(aA w),(.ilst 4 (Typs.av x) false),(nI i),(nI j),(aA k),(.ilst 5 (av l) false),(iP m)],oL 10 4 (map ONode.av (b++map Node.o A))] 11<|ga 1 aP e [(b.length:Int)]<|gw 5 41 (o+1)<|.W 3 13 [0,1,2,3,12,5,6,10] (aHU y z f a d (o+1) (e++ [(b.length:Int)]) (b++map Node.o A)))<|.y fun c:List Node=>.i [rn 3,.lset 7 (jN c)] [.a (b=map Node.o c) (p':=(map ONode.av b) = (jN c)) aOi]<|.i [.cset 3 0 (.gl 7 4 0 c.length false)] [.a (c.length=b.length) (p':=(AV.gl 7 4 0 b.length false) = (.gl 7 4 0 c.length false)) (fun h=>(dY h.symm))]<|gy 0 3 0 7 4 Node.av c false<|gz 0 7 4 1 aP e false<|.o (.y fun n:Int=>.i [.reg (rd 7 (.ans (.look (some (qZ (strOf [109,97,105,110]) a,(aP n))))::rd 3 []))] [.a (cQ (strOf [109,97,105,110]) a=some n) (p':=eK (aA (strOf [109,97,105,110])) (aC aA aP 0 a) 0=some (some (qZ (strOf [109,97,105,110]) a,(aP n)))) (mI fD)]<|dR 7 45 [(iN c),(.func 46 [] [])]<|fun B=>.b 1 56 B (.i [rn 25,.cnilI 0 0 4] []<|.i [.cnilI 0 1 1] []<|.i [.cnilI 0 3 2] []<|gE 0 8 (.tup [(.agg [(.ilst 4 (jN ([] :List Node)) true),(.ilst 1 (jI ([] :List Int)) true),(nI 0),(.ilst 2 (jC ([] :List Con)) true)]),(nI 3)]))<|gE 26 8 (.tup [(.agg [(iN c),(iI e),(nI n),(iC z)]),(nI 0)]))<|.i [.reg (rd 7 (.ans (.look none)::rd 3 []))] [.a (cQ (strOf [109,97,105,110]) a=none) (p':=eK (aA (strOf [109,97,105,110])) (aC aA aP 0 a) 0=some none) (mH fD)]<|dR 7 45 [(iN c),(.func 46 [] [])]<|fun n=>.b 1 56 n (.i [rn 25,.cnilI 0 0 4] []<|.i [.cnilI 0 1 1] []<|.i [.cnilI 0 3 2] []<|gE 0 8 (.tup [(.agg [(.ilst 4 (jN ([] :List Node)) true),(.ilst 1 (jI ([] :List Int)) true),(nI 0),(.ilst 2 (jC ([] :List Con)) true)]),(nI 3)]))<|gE 26 8 (.tup [(.agg [(iN c),(iI e),(nI 0),(iC z)]),(nI 0)])
def bCu:=fun a b c d e f g i j k l m n o p q r s t u v w x y z A B=>aNh a b c d e f g i|>.t y j k l m n o p q r s t u v w x z A|>.1 B tv
def bCv:=fun a b c d e f g i j k l m n o p q r s t u v w x y z A B C D F=>aNh a b c d e f g i|>.t z j k l m n o p q r s t u v w x A B|>.2 y C D F ⟨kk,⟨aI (fun _=>rfl) (fun _=>rfl) _ _ _,⟨aI (fun _=>rfl) (fun _=>rfl) _ _ _,⟨(bE _ (fun _=>gW _) _),trivial⟩⟩⟩⟩
def bCw:=fun a b c d e f g i j k l m n o p q r=>aNh a b c d e f g i|>.f m j n o|>.1 k p l q|>.t r tv
def bCx:=fun a b c d e f g i j k l m n o p q r=>aNh a b c d e f g i|>.f m j n o|>.1 k p l q|>.f r tv
def bEL(a:Node):=tT 0 (bEI a)<|.b 11 6 (a.op==4) (gE 7 1 (bV (decide (a.n≥30))))<|gE 7 1 (bV false)
def bCy:=fun a b=>bEL a|>.t b tv
def bCz:=fun a b=>bEL a|>.f b tv
def bCA (a:List Node):=(tT 0 (bEJ a)<|gl 8 Node.av a<|.W 4 0 [] (aHV a 0)) tv
def aTW(b:List Node)(a:Int):=tT 0 (aHV b a)<|gd 5 9 (a< (b.length:Int)) (gX Node.av 14 b a<|fun c=>dR 1 46 [(Node.av c)]<|fun d=>.b 1 16 d (gE 7 0 (nI a))<|gw 5 18 (a+1)<|.W 3 0 [] (aHV b (a+1)))<|gE 7 0 (nI (-1))
def bCB:=fun a b c d e f g i j=>aTW a b|>.t e c f g d i|>.t j tv
def bCC:=fun a b c d e f g i j k=>aTW a b|>.t e c f g d i|>.f j k tv
def bCD:=fun a b c=>aTW a b|>.f c tv
def bCE (b:List Node):=fun a c=>(tT 0 (bEK b)<|gpI 8 112 [(iN b),(.func 46 [] [])]<|fun a=>gE 4 0 (bV (decide (a≥0)))) a c tv
section
variable (mf mc:List (aB×Int)) (ar:List Int) (q:aB) (pl:List aB) (L:List ONode) (o n:Int) (s:aB) (ks:List Term) (ps:List Pat)
abbrev PH0 :List (Nat×AObj×Bool) :=[(0,lQ mf,true),(1,lQ mc,true),(2,MKc 5 (length L),false),(3,.cells (putCells .leaf 0 [.map 0,.map 1,.ilst 1 (map aP ar) false,.ilst 1 (map aA (q::pl)) false]) 4 [] false,false),(4,jB o n s ks ps,false),(5,OL L,true)]
abbrev PH1 (qs:List Pat) :List (Nat×AObj×Bool) :=[(0,lQ mf,true),(1,lQ mc,true),(2,MKc 5 (length L),false),(3,.cells (putCells .leaf 0 [.map 0,.map 1,.ilst 1 (map aP ar) false,.ilst 1 (map aA (q::pl)) false]) 4 [] false,false),(4,jB o n s ks ps,false),(5,OL L,true),(6,.cells (putCells .leaf 0 [.int .i64 o,.int .i64 n,.nils,.ilst 4 (Pats.av qs) false]) 4 [] false,false)]
theorem aJW (hn:∀s n,cQ s mc=some n→0≤n∧n<ar.length)(hb:∀s f,cQ s mf=some f→0≤f∧f≤1000000)(hpl:pl.length≤900000)(hpsl:ps.length≤900)(hps:∀p∈ps,aV p<1000000)(hps2:aM ps<1000000)(hL:L.length≤999999)
  (hk:∀v P,aFY mf mc L (wO mf mc ar (q::pl) L o n s ks ps (L++ [⟨o,v,.nil,P⟩])) ((mTs mf mc ar o s ps ks 0 (q::pl) (L.length+1)).map fun r=> ⟨o,v,r.1,P⟩ ::r.2)) :
  aFY mf mc L (aBV mf mc ar (q::pl) L o n s ks ps) (mT mf mc ar (.mk o n s ks ps) (q::pl) L.length) :=by
 have hm:=aJR mf mc ar ps (by omega) (aBU mf mc ar hn ps hps2);have hm':=frW (lc:=PH0 mf mc ar q pl L o n s ks ps) (n2:=7) hm (aNd _ _);rw [mT];cases hr:wPs mc ar ps with
 | none=>
  rw [hr]at hm';exact bCl mf mc ar (q::pl) L o n s ks ps hm'
 | some qs=>
  rw [hr]at hm'
  have fin:∀v,aFY mf mc L (wO mf mc ar (q::pl) L o n s ks ps (L++ [⟨o,v,.nil,qs⟩])) (match some qs,some v,mTs mf mc ar o s ps ks 0 (q::pl) (L.length+1)with
   |some qs,some N,some r=>some (⟨o,N,r.1,qs⟩ ::r.2)
   |_,_,_=>none) :=fun v=>by
   have h:=hk v qs;cases hT:mTs mf mc ar o s ps ks 0 (q::pl) (L.length+1)with
   |none=>rw [hT]at h;exact h
   |some r=>rw [hT]at h;exact h
  unfold aTS;by_cases h4:o=4
  · rw [if_pos h4];have hc:=aS6 mf mc ar q pl s (hb s) (by simp;omega);have hc':=frW (lc:=PH1 mf mc ar q pl L o n s ks ps qs) (n2:=7) hc (aHS _);cases hw:aFR mf (q::pl) s with
    | none=>
     rw [hw]at hc';exact bCc mf mc ar (q::pl) L o n s ks ps qs hm' (by simp [h4]) hc'
    | some z=>
     rw [hw]at hc';exact LeadsM.ends (bCd mf mc ar (q::pl) L o n s ks ps qs z hm' (by simp [h4]) hc' (by simp;omega)) (fin z)
  · rw [if_neg h4];by_cases h14:o=14
    · rw [if_pos h14];have hc:=aJl mf mc ar s (length ks) (hn s);have hc':=frW (lc:=PH1 mf mc ar q pl L o n s ks ps qs) (n2:=7) hc (aHS _);cases hw:aHA mc ar s (length ks)with
      | none=>
       rw [hw]at hc';exact bCe mf mc ar (q::pl) L o n s ks ps qs hm' (by simp [h4]) (by simp [h14]) hc'
      | some z=>
       rw [hw]at hc';exact LeadsM.ends (bCf mf mc ar (q::pl) L o n s ks ps qs z hm' (by simp [h4]) (by simp [h14]) hc' (by simp;omega)) (fin z)
    · rw [if_neg h14];exact LeadsM.ends (bCg mf mc ar (q::pl) L o n s ks ps qs hm' (by simp [h4]) (by simp [h14]) (by simp;omega)) (fin n)
end
def C0S (mf mc:List (aB×Int))(ar:List Int)(t:Term)(q:aB)(pl:List aB)(L:List ONode) :Prop:=
 ∀o n s ks ps,t= .mk o n s ks ps→aFY mf mc L (aBV mf mc ar (q::pl) L o n s ks ps) (mT mf mc ar t (q::pl) L.length)
theorem bFX {mf mc:List (aB×Int)}{ar:List Int}{t:Term}{q:aB}{pl:List aB}{L:List ONode}(h:C0S mf mc ar t q pl L) :MPS mf mc ar t (q::pl) L (mT mf mc ar t (q::pl) L.length) :=by
 obtain⟨o,n,s,ks,ps⟩ :=t;have h1:=LeadsM.ends (bCb mf mc ar (q::pl) L o n s ks ps) (h o n s ks ps rfl);exact⟨(bEE mf mc ar (q::pl) L o n s ks ps).as.fr,by kernel_rfl,Eq.mp (by kernel_rfl) h1⟩
mutual
theorem aJX (mf mc:List (aB×Int))(ar:List Int)(hn:∀s n,cQ s mc=some n→0≤n∧n<ar.length)(hb:∀s f,cQ s mf=some f→0≤f∧f≤1000000)(q:aB) :∀ (t:Term) (pl:List aB) (L:List ONode),bD t≤900→tsm t=true→fH t=true→pl.length+1000*fK t≤900000→L.length+bD t≤1000000→C0S mf mc ar t q pl L
 | .mk o n s ks ps,pl,L,hz,hs,hF,he,hL=>by
  intro o' n' s' ks' ps' e;cases e;simp only [bD]at hz hL;simp only [fK]at he;have hkl:=pM ks;rw [tsm]at hs;simp only [and_eq_true,decide_eq_true_eq]at hs;obtain⟨⟨⟨_,hpl⟩,hsp⟩,hsk⟩ :=hs;rw [fH]at hF;simp only [and_eq_true]at hF;obtain⟨⟨hH,hpg⟩,hFk⟩ :=hF
  have hps:∀p∈ps,aV p≤1000:=fun p hp=>by
   have:=List.all_eq_true.1 hsp p hp;simp only [nU,and_eq_true,decide_eq_true_eq]at this;omega
  have hsz:=lP ps hsp
  exact aJW mf mc ar q pl L o n s ks ps hn hb (by omega) (by omega) (fun p hp=>by have:=hps p hp;omega) (by omega) (by omega)
   (fun v P=>aTT mf mc ar q pl L o n s ks ps (by omega) (fun h=>by have:=aZ3 hH h;omega) hps (fun p hp=>List.all_eq_true.1 hpg p hp) (by omega) (fun t ht e M h1 h2=>bFX (aNi mf mc ar hn hb q ks (by omega) hsk hFk t ht e M (by omega) h2)) v P (by omega))
theorem aNi (mf mc:List (aB×Int))(ar:List Int)(hn:∀s n,cQ s mc=some n→0≤n∧n<ar.length)(hb:∀s f,cQ s mf=some f→0≤f∧f≤1000000)(q:aB) :∀ (ts:List Term),aY ts≤900→aBL ts=true→jK ts=true→∀t∈ts,∀ (pl:List aB) (L:List ONode),pl.length+1000*fW ts≤900000→L.length+bD t≤1000000→C0S mf mc ar t q pl L
 | [],_,_,_,t,ht=>by cases ht
 | u::ts,hz,hs,hF,t,ht=>by
  simp only [aY]at hz;rw [aBL,and_eq_true]at hs;rw [jK,and_eq_true]at hF;rcases List.mem_cons.1 ht with e|ht
  ·rw [e];exact fun pl L he hL=>aJX mf mc ar hn hb q u pl L (by omega) hs.1 hF.1 (by simp only [fW]at he;omega) hL
  ·exact fun pl L he hL=>aNi mf mc ar hn hb q ts (by omega) hs.2 hF.2 t ht pl L (by simp only [fW]at he;omega) hL
end
section
variable (mf mc:List (aB×Int)) (ar:List Int) (q:aB) (L:List ONode) (o n:Int) (s:aB) (ks:List Term) (ps:List Pat)
def aTX :TS:=bQ PP 44 [.ptr 2 0,.agg [.map 0,.map 1,.ilst 1 (map aP ar) false,.slice 4 0 1 1 1 true],Term.av (.mk o n s ks ps)] [(0,lQ mf,true),(1,lQ mc,true),(2,MKc 3 (length L),false),(3,OL L,true),(4,aJK q,false)] 5
def aEu (x:Bool) :TS:=
 {fr:={fn:=44,nt:=94,sl:=[(0,(.ptr 2 0)),(4,(.ptr 3 0)),(5,(.ptr 4 0)),(6,(.int .i64 0))],todo:=[.code (cd Tryz.f44 [1,0]),.code (cd Tryz.f44 [1,1])]},cs:=[],hp:=[(0,lQ mf,true),(1,lQ mc,true),(2,MKc 5 (length L),false),(3,.cells (putCells .leaf 0 [.map 0,.map 1,.ilst 1 (map aP ar) false,.gl 6 1 0 1 x]) 4 [] false,false),(4,jB o n s ks ps,false),(5,OL L,true),(6,.lst 1 (map aA [q]),true)],nb:=7}
theorem klR :fG [(0,lQ mf,true),(1,lQ mc,true),(5,OL L,true),(6,.lst 1 (map aA [q]),true)] := ⟨aI (fun _=>rfl) (fun _=>rfl) _ _ _,aI (fun _=>rfl) (fun _=>rfl) _ _ _,aMl L,klS [q],trivial⟩
theorem bFY :LeadsM PP 3 (aTX mf mc ar q L o n s ks ps).as (aEu mf mc ar q L o n s ks ps true).as:=
 aFC (n1:=7) (ks:=[5,6,3,4]) (ps:=[getCells (putCells .leaf 0 [aA q]) 0 (1*1) =some [aA q],dC [aA q] =true,[aA q] =map aA [q]])
  (is:=[.run 7,.ctoL 5 3 false [aA q],.lset 4 (map aA [q])]) (by kernel_rfl) (by kernel_rfl) (klR mf mc q L) ⟨rfl,rfl,rfl⟩
theorem bFZ :LeadsM PP 3 (aEu mf mc ar q L o n s ks ps true).as (aEu mf mc ar q L o n s ks ps false).as:=
 Eq.mp (by kernel_rfl) (mD (P:=PP) (m:=3) (fr:= (aEu mf mc ar q L o n s ks ps true).as.fr) (cs:=[]) (h:= (aEu mf mc ar q L o n s ks ps true).as.h) (h1:= (aEu mf mc ar q L o n s ks ps true).as.h) (k:=3) (o:=3) (n:=4) (t:=putCells .leaf 0 [.map 0,.map 1,.ilst 1 (map aP ar) false,.gl 6 1 0 1 true]) (ol:=[]) (sup:=false) (v:=.gl 6 1 0 1 true) (v':=.gl 6 1 0 1 false) (by kernel_rfl) (by kernel_rfl) (by kernel_rfl) aDD)
theorem bF0 :LeadsM PP 3 (aEu mf mc ar q L o n s ks ps false).as (aBV mf mc ar [q] L o n s ks ps).as:=
 aFC (n1:=7) (ks:=[3,4,5]) (ps:=[keylessL (map aA [q]) =true,AV.frzOk 6 1 (map aA [q]) (map aA [q]) (.gl 6 1 0 (length [q]) false)])
  (is:=[.cfrz 3 3 6 (map aA [q])]) (by kernel_rfl) (by kernel_rfl) ⟨aI (fun _=>rfl) (fun _=>rfl) _ _ _,aI (fun _=>rfl) (fun _=>rfl) _ _ _,aMl L,trivial⟩ ⟨rfl,aBG _ _⟩
end
def MPR (mf mc:List (aB×Int))(ar:List Int)(t:Term)(q:aB)(L:List ONode)(r:Option (List Node)) :Prop:=
 rW PP 3 (.enter 44 [.ptr 2 0,.agg [.map 0,.map 1,.ilst 1 (map aP ar) false,.slice 4 0 1 1 1 true],Term.av t]) (aG [(0,lQ mf,true),(1,lQ mc,true),(2,MKc 3 (length L),false),(3,OL L,true),(4,aJK q,false)] 5) (bFW L r) (hpN mf mc L r)
theorem bF1 {mf mc:List (aB×Int)}{ar:List Int}{t:Term}{q:aB}{L:List ONode}(h:C0S mf mc ar t q [] L) :MPR mf mc ar t q L (mT mf mc ar t [q] L.length) :=by
 obtain⟨o,n,s,ks,ps⟩ :=t;have h1:=LeadsM.ends (((bFY mf mc ar q L o n s ks ps).trans (bFZ mf mc ar q L o n s ks ps)).trans (bF0 mf mc ar q L o n s ks ps)) (h o n s ks ps rfl);exact⟨(aTX mf mc ar q L o n s ks ps).as.fr,by kernel_rfl,Eq.mp (by kernel_rfl) h1⟩
def aFZ (x:Node) :Bool:=decide (x.op=4) &&decide (30≤x.n)
theorem aTY (x:Node) :Pure PP 46 [Node.av x] (.bool (aFZ x)) :=by
 refine cB (s:=bEI x) (by kernel_rfl) (by kernel_rfl) (by simp [keylessL,keyless,Node.av]) rfl ?_;unfold aFZ;by_cases h:x.op=4
 · have:=bCy x (by simp [h]);rw [show(decide (x.op=4) &&decide (30≤x.n)) =decide (x.n≥ (30:Int))by simp [h]];exact this
 · have:=bCz x (by simp [h]);rw [show(decide (x.op=4) &&decide (30≤x.n)) =false by simp [h]];exact this
def ixN :List Node→Nat→Int
 | [],_=> -1
 |x::t,i=>if aFZ x=true then(i:Int)else ixN t (i+1)
theorem aJY (l:List Node)(hl:l.length≤1000000) :∀ (t:List Node) (i:Nat),l.drop i=t→Ends PP 0 (aHV l (i:Int)).as (.ret (.int .i64 (ixN t i))) (aG [] 0)
 | [],i,h=>by
  have:=bL h;exact bCD l i sd
 | x::t,i,h=>by
  obtain⟨g1,g2,g3⟩ :=bH h;have hb:=aTY x;rw [ixN];cases hx:aFZ x with
  | true=>
   rw [hx]at hb;rw [if_pos rfl];exact bCB l i x true sd sd sd hb rfl
  | false=>
   rw [hx]at hb;rw [if_neg (by simp)];exact LeadsM.ends (bCC l i x false sd sd sd hb rfl sd) (aJY l hl t (i+1) g2)
theorem aNj :∀ (t:List Node) (i:Nat),decide (ixN t i≥0) =aCw t
 | [],_=>rfl
 | x::t,i=>by
  rw [ixN];have ih:=aNj t (i+1);have e:aCw (x::t) = (aFZ x||aCw t) :=rfl;rw [e,←ih];cases aFZ x with
  |true=>simp
  |false=>simp
theorem aTZ (l:List Node)(hl:l.length≤1000000) :Pure PP 45 [.ilst 4 (map Node.av l) false,.func 46 [] []] (.bool (aCw l)) :=by
 have h1:Pure PP 112 [.ilst 4 (map Node.av l) false,.func 46 [] []] (.int .i64 (ixN l 0)) :=
  cB (s:=bEJ l) (by kernel_rfl) (by kernel_rfl) (by simp [keylessL,keyless]) rfl (LeadsM.ends (bCA l) (aJY l hl l 0 rfl))
 rw [←aNj l 0];exact cB (s:=bEK l) (by kernel_rfl) (by kernel_rfl) (by simp [keylessL,keyless]) rfl (bCE l _ h1)
def mM (mf mc:List (aB×Int))(ar:List Int) :List FunD→Nat→Option (List Int×List Node)
 | [],_=>some ([],[])
 | f::t,a=>match mT mf mc ar f.bod [f.par] a with
  |none=>none
  | some ns=>match mM mf mc ar t (a+ns.length)with
   |none=>none
   |some r=>some (((a:Nat) :Int) ::r.1,ns++r.2)
def aT0 (cl:List Con)(mf mc:List (aB×Int))(ar:List Int)(main:Int)(r:Option (List Int×List Node)) :Prog×Int:=
 match r with
 |none=> (ZPr,7)
 |some r=>if aCw r.2=true then(ZPr,3)else(⟨r.2,r.1,main,cl⟩,0)
def aF0 (m:Mod) :Prog×Int:=
 if pO m=true then(match rD m with
  |none=> (ZPr,7)
  |some (mf,w) =>aT0 w.l mf w.mc w.ar ((cQ nL mf).getD 0) (mM mf w.mc w.ar m.funs 0))else(ZPr,2)
section
variable (m :Mod) (cl:List Con) (ar:List Int) (mf mc:List (aB×Int))
abbrev aNk (nm par:aB)(f0 f1:Int)(f2:aB)(f3:List Typ)(k0 k1:Int)(k2:aB)(k3:List Typ)(b0 b1:Int)(b2:aB)(b3:List Term)(b4:List Pat) :AObj:=
 .cells (putCells .leaf 0 [aA nm,aA par,.int .i64 f0,.int .i64 f1,aA f2,.ilst 4 (Typs.av f3) false,.int .i64 k0,.int .i64 k1,aA k2,.ilst 4 (Typs.av k3) false,.int .i64 b0,.int .i64 b1,aA b2,.ilst 5 (av b3) false,.ilst 4 (Pats.av b4) false]) 15 [] false
abbrev aHW :AObj:=.cells (putCells .leaf 0 [.map 5,.map 6,.ilst 1 (map aP ar) false]) 3 [] false
theorem bEM (L:List ONode)(q:aB) :fG [(0,lQ mf,true),(1,lQ mc,true),(2,MKc 3 (length L),false),(3,OL L,true),(4,aJK q,false)] := ⟨aI (fun _=>rfl) (fun _=>rfl) _ _ _,aI (fun _=>rfl) (fun _=>rfl) _ _ _,aMl L,trivial⟩
theorem aJZ (hf:m.funs.length≤1000)(hz:∀f∈m.funs,bD f.bod≤900)(hp:∀f∈m.funs,∀L:List ONode,L.length≤900000→MPR mf mc ar f.bod f.par L (mT mf mc ar f.bod [f.par] L.length))(y:Int)(hy:cQ nL mf=some y) :∀ (t:List FunD) (i:Nat) (l4:List Int) (L:List Node),m.funs.drop i=t→l4.length=i→i≤m.funs.length→L.length≤900*i →
  aTE (aHU m cl ar mf mc (i:Int) l4 (map Node.o L)) (aT0 cl mf mc ar y ((mM mf mc ar t L.length).map fun r=> (l4++r.1,L++r.2)))
 | [],i,l4,L,h,ha,hil,hL=>by
  have:=bL h;have hc:=aTZ L (by omega);rw [mM];simp only [map_some,append_nil,aT0];cases hl:aCw L with
  | true=>
   rw [hl]at hc;rw [if_pos rfl];exact aM8 (bCw m cl ar mf mc i l4 (map Node.o L) L y true sd rfl (by simp) hy hc rfl)
  | false=>
   rw [hl]at hc;rw [if_neg (by simp)];exact bCx m cl ar mf mc i l4 (map Node.o L) L y false sd rfl (by simp) hy hc rfl
 | f ::t,i,l4,L,h,ha,hil,hL=>by
  obtain⟨g1,g2,g3⟩ :=bH h;have hi:= (List.getElem?_eq_some_iff.1 g1).1;have hm:=mem_of_getElem? g1;have hps:=hp f hm (map Node.o L) (by simp;omega);have hzz:=hz f hm;have hln:∀ns,mT mf mc ar f.bod [f.par] L.length=some ns→ns.length=bD f.bod:=fun ns h=>aHT mf mc ar _ _ _ ns h;obtain⟨nm,par,⟨f0,f1,f2,f3⟩,⟨k0,k1,k2,k3⟩,⟨b0,b1,b2,b3,b4⟩⟩ :=f;simp only [FunD.bod,FunD.par,length_map]at hps hzz hln;rw [mM];simp only [FunD.bod,FunD.par];unfold MPR at hps;cases hT:mT mf mc ar (.mk b0 b1 b2 b3 b4) [par] L.length with
  | none=>
   rw [hT]at hps
   have hs':=tU (m:=3) (ks:=[5,6,3,7,9]) (n2:=10) (n3:=10) (args':=[.ptr 3 0,.agg [.map 5,.map 6,.ilst 1 (map aP ar) false,.slice 9 0 1 1 1 true],Term.av (.mk b0 b1 b2 b3 b4)])
    (lc:=[(0,aCx,false),(1,.cells (putCells .leaf 0 [.int .i64 0]) 1 [] false,false),(2,aHW ar,false),(3,MKc 7 (length (map Node.o L)),false),(4,.lst 1 (map aP l4),true),(5,lQ mf,true),(6,lQ mc,true),(7,OL (map Node.o L),true),(8,aNk nm par f0 f1 f2 f3 k0 k1 k2 k3 b0 b1 b2 b3 b4,false),(9,aJK par,false)])
    (lc':=[(0,aCx,false),(1,.cells (putCells .leaf 0 [.int .i64 0]) 1 [] false,false),(2,aHW ar,false),(4,.lst 1 (map aP l4),true),(5,lQ mf,true),(6,lQ mc,true),(8,aNk nm par f0 f1 f2 f3 k0 k1 k2 k3 b0 b1 b2 b3 b4,false)])
    hps (by rfl) aLM (by kernel_rfl) (by rfl) (by rfl) (by kernel_rfl) (by kernel_rfl) (bEM mf mc _ _) (by kernel_rfl) (aJP _ _)
   exact aM8 (bCu m cl ar mf mc i l4 (map Node.o L) nm par f0 f1 f2 f3 k0 k1 k2 k3 b0 b1 b2 b3 b4 sd sd sd hs')
  | some ns=>
   have hnl:=hln ns hT;rw [hT]at hps
   have hs':=kS (m:=3) (ks:=[5,6,3,7,9]) (n2:=10) (n3:=11) (v':=.int .i64 ((length (map Node.o L) :Nat) :Int)) (args':=[.ptr 3 0,.agg [.map 5,.map 6,.ilst 1 (map aP ar) false,.slice 9 0 1 1 1 true],Term.av (.mk b0 b1 b2 b3 b4)])
    (lc:=[(0,aCx,false),(1,.cells (putCells .leaf 0 [.int .i64 0]) 1 [] false,false),(2,aHW ar,false),(3,MKc 7 (length (map Node.o L)),false),(4,.lst 1 (map aP l4),true),(5,lQ mf,true),(6,lQ mc,true),(7,OL (map Node.o L),true),(8,aNk nm par f0 f1 f2 f3 k0 k1 k2 k3 b0 b1 b2 b3 b4,false),(9,aJK par,false)])
    (lc':=[(0,aCx,false),(1,.cells (putCells .leaf 0 [.int .i64 0]) 1 [] false,false),(2,aHW ar,false),(3,MKc 10 (length (map Node.o L++map Node.o ns)),false),(4,.lst 1 (map aP l4),true),(5,lQ mf,true),(6,lQ mc,true),(8,aNk nm par f0 f1 f2 f3 k0 k1 k2 k3 b0 b1 b2 b3 b4,false),(10,OL (map Node.o L++map Node.o ns),true)])
    hps (by rfl) (by rfl) (by kernel_rfl) (by rfl) (by rfl) (by kernel_rfl) (by kernel_rfl) (bEM mf mc _ _) (by kernel_rfl) (aLN _ _ _)
   have h0:=bCv m cl ar mf mc i l4 (map Node.o L) nm par f0 f1 f2 f3 k0 k1 k2 k3 b0 b1 b2 b3 b4 ns sd sd sd hs' (by simp;omega) sd;rw [←map_append,length_map]at h0;have ih:=aJZ hf hz hp y hy t (i+1) (l4++ [((L.length:Nat) :Int)]) (L++ns) g2 (by simp [ha]) (by omega) (by simp;omega);rw [length_append]at ih;refine LeadsM.ends h0 ?_;simp only;cases hM:mM mf mc ar t (L.length+ns.length)with
   |none=>rw [hM]at ih;exact ih
   | some r=>
    rw [hM]at ih;simp only [map_some,append_assoc,singleton_append]at ih ⊢;exact ih
end
theorem aT1 (m:Mod)(hf:m.funs.length≤1000)(hd:∀d∈m.datas,d.cons.length≤1000)(hl:m.datas.length≤100) :
  match rD m with
  |none=>rW PP 0 (.enter 43 [Mod.av m]) (aG [] 0) (.pan UB) (aG [] 0)
  |some (mf,w) =>rW PP 0 (.enter 43 [Mod.av m]) (aG [] 0) (.ret (.tup [.agg [.map 0,.map 1,.ilst 1 (map aP w.ar) false],.ilst 2 (map Con.av w.l) false])) (aG (WL mf w.mc) 2) :=by
 have h:=aS5 m hf hd hl;cases e:rD m with
 |none=>rw [e]at h;exact⟨(aJj m).as.fr,by kernel_rfl,Eq.mp (by kernel_rfl) h⟩
 |some x=>obtain⟨mf,w⟩ :=x;rw [e]at h;exact⟨(aJj m).as.fr,by kernel_rfl,Eq.mp (by kernel_rfl) h⟩
theorem aLO (m:Mod)(hs:iL m=true)(hw:∀mf w,rD m=some (mf,w) → (∀s n,cQ s w.mc=some n→0≤n∧n<w.ar.length) ∧ (∀s f,cQ s mf=some f→0≤f∧f≤1000000) ∧∃y,cQ nL mf=some y) :Pure PP 10 [Mod.av m] (.tup [Prog.av (aF0 m).1,.int .i64 (aF0 m).2]) :=by
 have h41:=aSP m (aEq hs) (aLL hs);refine cB (s:=aTU m) (by kernel_rfl) (by kernel_rfl) (by simp [keylessL,aHv]) (by simp [Prog.av,keyless,keylessL]) ?_;show aTE (aTU m) (aF0 m);unfold aF0;cases ho:pO m with
 | false=>
  rw [ho]at h41;exact aM8 (bCr m 2 h41 (by decide))
 | true=>
  rw [ho]at h41;rw [if_pos rfl];have F:=aBT hs ho;have hfl:=F.fl;have hdl:=F.dl;have h43:=aT1 m (by omega) (fun d hd=>by have:=F.cl d hd;omega) (by omega);cases e:rD m with
  | none=>
   rw [e]at h43
   have hs':=tU (m:=0) (ks:=[]) (n2:=3) (n3:=3) (args':=[Mod.av m]) (lc:=[(0,aM9 m,false),(1,aCx,false),(2,.cells (putCells .leaf 0 [.int .i64 0]) 1 [] false,false)]) (lc':=[(0,aM9 m,false),(1,aCx,false),(2,.cells (putCells .leaf 0 [.int .i64 0]) 1 [] false,false)])
    h43 (by rfl) aLM (by kernel_rfl) (by rfl) (by rfl) (by kernel_rfl) (by kernel_rfl) trivial (by kernel_rfl) trivial
   exact aM8 (bCs m 0 h41 (by decide) hs')
  | some x=>
   obtain⟨mf,w⟩ :=x;rw [e]at h43;obtain⟨w1,w2,y,hy⟩ :=hw mf w e
   have hs':=kS (m:=0) (ks:=[]) (n2:=3) (n3:=5) (v':=.tup [.agg [.map 3,.map 4,.ilst 1 (map aP w.ar) false],.ilst 2 (map Con.av w.l) false]) (args':=[Mod.av m]) (lc:=[(0,aM9 m,false),(1,aCx,false),(2,.cells (putCells .leaf 0 [.int .i64 0]) 1 [] false,false)]) (lc':=[(0,aM9 m,false),(1,aCx,false),(2,.cells (putCells .leaf 0 [.int .i64 0]) 1 [] false,false),(3,lQ mf,true),(4,lQ w.mc,true)])
    h43 (by rfl) (by rfl) (by kernel_rfl) (by rfl) (by rfl) (by kernel_rfl) (by kernel_rfl) trivial (by kernel_rfl) (aJP _ _)
   have h0:=bCt m 0 mf w.mc w.ar w.l h41 (by decide) hs';have hl:=aJZ m w.l w.ar mf w.mc (by omega) (fun f hf=>by have:=F.sz f hf;omega) (fun f hf L hL=>bF1 (aJX mf w.mc w.ar w1 w2 f.par f.bod [] L (by have:=F.sz f hf;omega) (F.sm f hf) (F.tf f hf) (by have:=F.dp f hf;simp;omega) (by have:=F.sz f hf;omega))) y hy m.funs 0 [] [] rfl rfl (Nat.zero_le _) (by simp);simp only;rw [hy,getD_some];refine LeadsM.ends h0 ?_;cases hM:mM mf w.mc w.ar m.funs 0 with
   |none=>rw [show([] :List Node).length=0 from rfl,hM]at hl;exact hl
   |some r=>rw [show([] :List Node).length=0 from rfl,hM]at hl;exact hl
def aT2 (l:List Con)(mc:List (aB×Int)) :Prop:=∀s,cQ s mc=if s∈l.map Con.name then some (eB s l 0)else none
theorem bF2 {l:List Con}{mc:List (aB×Int)}(h:aT2 l mc){c:Con}(hn:c.name∉l.map Con.name) :aT2 (l++ [c]) (eJ c.name (length l:Int) mc) :=fun s=>by
 rw [aAU];by_cases e:s=c.name
 · subst e;rw [if_pos rfl,if_pos (by simp),aCu _ _ _ _ hn];simp [eB]
 · rw [if_neg e,h s];by_cases hs:s∈l.map Con.name
   ·rw [if_pos hs,if_pos (by simp at hs ⊢;exact .inl hs),aEn _ _ _ _ hs]
   ·rw [if_neg hs,if_neg (by simp at hs ⊢;exact⟨hs,e⟩)]
def WOk (w:WS) :Prop:=aT2 w.l w.mc∧w.ar=w.l.map Con.args
theorem aNl :∀ (t:List ConD) (w:WS),WOk w→ (bI (w.l.map Con.name) (t.map ConD.name) =true→∃w',aCM t w=some w'∧WOk w'∧w'.l=w.l++t.map sE) ∧ (bI (w.l.map Con.name) (t.map ConD.name) =false→aCM t w=none)
 | [],w,h=> ⟨fun _=> ⟨w,rfl,h,by simp⟩,fun h=>by cases h⟩
 | c ::t,w,h=>by
  rw [aCM,map_cons,bI,h.1 c.name];by_cases hn:c.name∈w.l.map Con.name
  · rw [if_pos hn];have:dA (w.l.map Con.name) c.name=true:=hasS_mem.2 hn;rw [this];exact⟨fun g=>by simp at g,fun _=>rfl⟩
  · rw [if_neg hn];have:dA (w.l.map Con.name) c.name=false:=by
     cases e:dA (w.l.map Con.name) c.name with
     |false=>rfl
     |true=>exact absurd (hasS_mem.1 e) hn
    rw [this];have ih:=aNl t ⟨w.l++ [sE c],eJ c.name (length w.l:Int) w.mc,w.ar++ [(length c.args:Int)]⟩ ⟨bF2 h.1 hn,by rw [h.2];simp [sE]⟩;simp only [map_append,map_cons,map_nil,Bool.not_false,Bool.true_and]at ih ⊢;refine⟨fun g=>?_,fun g=>ih.2 g⟩;obtain⟨w',e1,e2,e3⟩ :=ih.1 g;exact⟨w',e1,e2,by rw [e3];simp⟩
theorem wQ :∀ (a b pre:List aB),bI pre (a++b) = (bI pre a&&bI (pre++a) b)
 | [],b,pre=>by simp [bI]
 | x::a,b,pre=>by
  rw [List.cons_append,bI,bI,wQ a b,Bool.and_assoc,append_assoc];rfl
theorem aNm :∀ (t:List DataD) (w:WS),WOk w→ (bI (w.l.map Con.name) (((t.map fun d=>d.cons.map sE).flatten).map Con.name) =true→∃w',aFe t w=some w'∧WOk w'∧w'.l=w.l++ (t.map fun d=>d.cons.map sE).flatten) ∧ (bI (w.l.map Con.name) (((t.map fun d=>d.cons.map sE).flatten).map Con.name) =false→aFe t w=none)
 | [],w,h=> ⟨fun _=> ⟨w,rfl,h,by simp⟩,fun h=>by cases h⟩
 | d::t,w,h=>by
  have e0: (d.cons.map sE).map Con.name=d.cons.map ConD.name:=by rw [List.map_map];rfl
  rw [aFe,map_cons,List.flatten_cons,map_append,wQ,e0];have hc:=aNl d.cons w h;cases e:bI (w.l.map Con.name) (d.cons.map ConD.name)with
  |false=>rw [hc.2 e];exact⟨fun g=>by simp at g,fun _=>rfl⟩
  | true=>
   obtain⟨w',e1,e2,e3⟩ :=hc.1 e;rw [e1];have ih:=aNm t w' e2;rw [e3,map_append,e0]at ih;simp only [Bool.true_and];refine⟨fun g=>?_,fun g=>ih.2 g⟩;obtain⟨w2,f1,f2,f3⟩ :=ih.1 g;exact⟨w2,f1,f2,by rw [f3,append_assoc]⟩
theorem aEv (l:List aB)(x s:aB) :∀i,i≤l.length→bW (l++ [x]) s i=bW l s i
 |0,_=>rfl
 | i+1,h=>by
  rw [bW,bW,aEv l x s i (by omega),List.getElem?_append_left (by omega)]
theorem aLP (l:List aB)(x s:aB) :aZ (l++ [x]) s=if x=s then(length l:Int)else aZ l s:=by
 unfold aZ;rw [length_append,List.length_singleton,bW,aEv l x s _ (le_refl _)];simp
theorem oK (l:List aB)(s:aB) :∀i,-1≤bW l s i∧bW l s i<i
 |0=>by simp [bW]
 | i+1=>by
  rw [bW];have:=oK l s i;split<;>omega
theorem aEw (l:List aB)(s:aB) :∀i,i≤l.length→ (0≤bW l s i↔s∈l.take i)
 |0,_=>by simp [bW]
 | i +1,h=>by
  rw [bW];have ih:=aEw l s i (by omega);have hx:l[i]?=some (l[i]'(by omega)) :=List.getElem?_eq_getElem (by omega);rw [List.take_add_one,hx];by_cases e:l[i]'(by omega) =s
  · subst e;refine⟨fun _=>by simp only [toList_some];exact mem_append_right _ (List.mem_singleton_self _),fun _=>by rw [if_pos rfl];omega⟩
  · rw [if_neg (by simpa using e),ih];simp only [toList_some,List.mem_append,List.mem_singleton];exact⟨.inl,fun g=>g.resolve_right (fun q=>e q.symm)⟩
theorem placeL_mem {l:List aB}{s:aB}:0≤aZ l s↔s∈l:=by
 unfold aZ;rw [aEw l s _ (le_refl _),List.take_length]
def aT3 (l:List aB)(mf:List (aB×Int)) :Prop:=∀s,cQ s mf=if s∈l then some (aZ l s)else none
theorem aNn :∀ (t:List FunD) (l:List aB) (mf:List (aB×Int)),aT3 l mf→ (bI l (t.map FunD.nm) =true→∃mf',aFf t l.length mf=some mf'∧aT3 (l++t.map FunD.nm) mf') ∧ (bI l (t.map FunD.nm) =false→aFf t l.length mf=none)
 | [],l,mf,h=> ⟨fun _=> ⟨mf,rfl,by simpa using h⟩,fun h=>by cases h⟩
 | f :: t,l,mf,h=>by
  rw [aFf,map_cons,bI,h f.nm];by_cases hn:f.nm∈l
  · rw [if_pos hn,hasS_mem.2 hn];exact⟨fun g=>by simp at g,fun _=>rfl⟩
  · rw [if_neg hn];have:dA l f.nm=false:=by
     cases e:dA l f.nm with
     |false=>rfl
     |true=>exact absurd (hasS_mem.1 e) hn
    rw [this]
    have ih:=aNn t (l++ [f.nm]) (eJ f.nm (l.length:Int) mf) (fun s=>by
     rw [aAU,aLP];by_cases e:s=f.nm
     ·subst e;simp
     · have e':¬f.nm=s:=fun g=>e g.symm;rw [if_neg e,h s];simp [e,e'])
    rw [length_append,List.length_singleton]at ih;simp only [Bool.not_false,Bool.true_and,append_assoc,singleton_append]at ih ⊢;exact ih
theorem aT4 :aT2 [] [] :=fun s=>by simp [cQ]
theorem aT5 :aT3 [] [] :=fun s=>by simp [cQ]
theorem aF1 (m:Mod) : ((fS (rF m) &&fS ((gP m).map Con.name) &&dA (rF m) nL) =true→∃mf w,rD m=some (mf,w) ∧aT3 (rF m) mf∧WOk w∧w.l=gP m) ∧ ((fS (rF m) &&fS ((gP m).map Con.name) &&dA (rF m) nL) =false→rD m=none) :=by
 have hD:=aNm m.datas ⟨[],[],[]⟩ ⟨aT4,rfl⟩;have hF:=aNn m.funs [] [] aT5;simp only [map_nil,List.nil_append,List.length_nil]at hD hF;have e1: ((m.datas.map fun d=>d.cons.map sE).flatten) =gP m:=rfl;rw [e1]at hD;unfold rD;cases hc:fS ((gP m).map Con.name)with
 | false=>
  rw [hD.2 hc];exact⟨fun g=>by simp at g,fun _=>rfl⟩
 | true=>
  obtain⟨w,w1,w2,w3⟩ :=hD.1 hc;rw [w1];simp only;cases hf:fS (rF m)with
  | false=>
   rw [hF.2 hf];exact⟨fun g=>by simp at g,fun _=>rfl⟩
  | true=>
   obtain⟨mf,f1,f2⟩ :=hF.1 hf;rw [f1];simp only;rw [show cQ (strOf [109,97,105,110]) mf=_ from f2 nL];cases hh:dA (rF m) nL with
   | false=>
    rw [if_neg (fun g=>by rw [hasS_mem.2 g]at hh;cases hh)];exact⟨fun g=>by simp at g,fun _=>rfl⟩
   | true=>
    rw [if_pos (hasS_mem.1 hh)];exact⟨fun _=> ⟨mf,w,rfl,f2,w2,w3⟩,fun g=>by simp at g⟩
abbrev lT (s:aB) :Prop:=s.head?=some 35
theorem oP (n:Nat) :lT (bR n) :=rfl
theorem aF2 {i j:Nat}(h:bR i=bR j) :i=j:=aJF _ _ (List.append_cancel_left h)
inductive NT where
 |nm (p:Int) (s:aB) (n:Int) (ks:List Term) (ps:List Pat)
 |nd (o n:Int) (s:aB) (ks:List NT) (ps:List Pat)
mutual
def erP :Pat→Pat
 | .mk f n s ps=>.mk f n (if f=2 then []else s) (fB ps)
def fB :List Pat→List Pat
 | [] =>[]
 |p::ps=>erP p::fB ps
end
abbrev bnd (o:Int) :Prop:=o=5∨o=27∨o=7
mutual
def jM :List aB→Term→NT
 |e,.mk o n s ks ps=>if o=4 then .nm (aZ e s) (if aZ e s<0 then s else []) n ks ps else .nd o n (if bnd o then []else s) (iV e o s ps 0 ks) (fB ps)
def iV :List aB→Int→aB→List Pat→Nat→List Term→List NT
 |_,_,_,_,_,[] =>[]
 |e,o,s,ps,i,k::ks=>jM (e++aR o s ps i) k::iV e o s ps (i+1) ks
end
mutual
def pOk :Pat→Prop
 | .mk f _ s ps=> (f=2→ps= []) ∧ (f≠2→¬lT s) ∧tV ps
def tV :List Pat→Prop
 | [] =>True
 |p::ps=>pOk p∧tV ps
end
def arO (o:Int)(k m:Nat) :Prop:= (o=5∨o=27→k=1) ∧ (o=7→k=2) ∧ (o=15→k=m+1) ∧ (o≠15→m=0) ∧ (o=4→k=0)
mutual
def nN :Term→Prop
 | .mk o _ s ks ps=>arO o ks.length ps.length∧ (o≠4→¬lT s) ∧ (∀p∈ps,pOk p∧ (aO p).Nodup∧∀y∈aO p,¬lT y) ∧gB ks
def gB :List Term→Prop
 | [] =>True
 |k::ks=>nN k∧gB ks
end
mutual
def nO :Term→List aB
 | .mk o _ s ks _=>if o=4 then [s]else dM ks
def dM :List Term→List aB
 | [] =>[]
 |k::ks=>nO k++dM ks
end
def oM (j:Nat)(l:List aB) :Prop:=∀s∈l,∀i,j≤i→s≠bR i
theorem iG {j j':Nat}{l:List aB}(h:oM j l)(hj:j≤j') :oM j' l:=fun s hs i hi=>h s hs i (by omega)
theorem aCA (a b:List aB)(s:aB) :∀i,i≤a.length→bW (a++b) s i=bW a s i
 |0,_=>rfl
 |i+1,h=>by rw [bW,bW,List.getElem?_append_left (by omega),aCA a b s i (by omega)]
theorem gC (a b:List aB)(s:aB) :aZ (a++b) s=if s∈b then(a.length:Int) +aZ b s else aZ a s:=by
 have H:∀i,i≤b.length→bW (a++b) s (a.length+i) =if s∈b.take i then(a.length:Int) +bW b s i else bW a s a.length:=by
  intro i
  induction i with
  |zero=>intro _;rw [List.take_zero,if_neg (by simp)];exact aCA a b s _ (le_refl _)
  | succ i ih=>
   intro hi;have e: (a++b)[a.length+i]?=b[i]?:=by rw [List.getElem?_append_right (by omega),Nat.add_sub_cancel_left]
   rw [←Nat.add_assoc,bW,bW,e,List.take_add_one];obtain⟨y,hy⟩ :∃y,b[i]?=some y:= ⟨_,List.getElem?_eq_getElem (by omega)⟩;rw [hy];by_cases h:y=s
   · subst h;rw [if_pos rfl,if_pos rfl,if_pos (by simp)];omega
   · have h2:¬ (some y=some s) :=by simp [h]
     rw [if_neg h2,if_neg h2,ih (by omega)];have:s∈b.take i++ (some y).toList↔s∈b.take i:=by simp [Ne.symm h]
     by_cases g:s∈b.take i
     ·rw [if_pos g,if_pos (this.2 g)]
     ·rw [if_neg g,if_neg (fun k=>g (this.1 k))]
 have:=H b.length (le_refl _);rw [List.take_length]at this;unfold aZ;rw [length_append];exact this
theorem aEx (x s:aB) :aZ [x] s=if x=s then 0 else -1:=by
 unfold aZ;simp only [length_cons,List.length_nil,bW];by_cases h:x=s
 ·simp [h]
 ·simp [h]
theorem aEy {l:List aB}{s:aB}:∀ {i:Nat},0≤bW l s i→l[(bW l s i).toNat]?=some s
 |0,h=>by rw [bW]at h;omega
 | i +1,h=>by
  rw [bW]at h ⊢;by_cases g:l[i]?=some s
  ·rw [if_pos g,Int.toNat_natCast];exact g
  · rw [if_neg g]at h ⊢;exact aEy h
theorem tW {l:List aB}{s:aB}(h:s∈l) :l[(aZ l s).toNat]?=some s:=aEy (placeL_mem.2 h)
theorem bHn {e1 e2:List aB}{x:aB}(h:x∉e2) :aZ (e1++ [x] ++e2) x=e1.length:=by
 rw [gC,if_neg h,gC,if_pos (by simp),aEx,if_pos rfl];omega
theorem bHo {e1 e2:List aB}{x y s:aB}(hx:s≠x)(hy:s≠y) :aZ (e1++ [x] ++e2) s=aZ (e1++ [y] ++e2) s:=by
 rw [gC,gC (e1++ [y]),gC e1,gC e1,if_neg (show s∉ [x]by simp [hx]),if_neg (show s∉ [y]by simp [hy])];simp
theorem bH1 {e1 e2:List aB}{x y s:aB}(h:s∈e2) :aZ (e1++ [x] ++e2) s=aZ (e1++ [y] ++e2) s:=by
 rw [gC,gC (e1++ [y]),if_pos h,if_pos h];simp
theorem aT6 {o n:Int}{s:aB}{ks:List Term}{ps:List Pat}(h:nN (.mk o n s ks ps))(h4:o≠4)(i:Nat) :∀y∈aR o s ps i,¬lT y:=by
 rw [nN]at h;obtain⟨_,h2,h3,_⟩ :=h;intro y hy;unfold aR at hy;split at hy
 ·rw [List.mem_singleton.1 hy];exact h2 h4
 · split at hy
   · split at hy
     ·rw [List.mem_singleton.1 hy];exact h2 h4
     ·cases hy
   · split at hy
     · split at hy
       ·cases hy
       · split at hy
         · rename_i p hp;exact(h3 p (mem_of_getElem? hp)).2.2 y hy
         ·cases hy
     ·cases hy
theorem aEz {o n:Int}{s:aB}{ks:List Term}{ps:List Pat}(h:nN (.mk o n s ks ps))(h4:o≠4)(i j:Nat) :bR j∉aR o s ps i:=fun g=>aT6 h h4 i _ g (oP j)
mutual
theorem aT7 (x y:aB) :∀ (k:Term) (e1 e2:List aB),y∉nO k→x∈e2→jM (e1++ [y] ++e2) k=jM (e1++ [x] ++e2) k
 | .mk o n s ks ps,e1,e2,hn,hx=>by
  rw [nO]at hn;rw [jM,jM];by_cases h4:o=4
  · rw [if_pos h4]at hn;have hy:s≠y:=fun e=>hn (by simp [e]);have e:aZ (e1++ [y] ++e2) s=aZ (e1++ [x] ++e2) s:=by
     by_cases h:s=x
     ·subst h;exact bH1 hx
     ·exact bHo hy h
    rw [if_pos h4,if_pos h4,e]
  · rw [if_neg h4]at hn;rw [if_neg h4,if_neg h4,aNo x y o s ps ks 0 e1 e2 hn hx]
theorem aNo (x y:aB)(o:Int)(s:aB)(ps:List Pat) :∀ (ks:List Term) (i:Nat) (e1 e2:List aB),y∉dM ks→x∈e2→iV (e1++ [y] ++e2) o s ps i ks=iV (e1++ [x] ++e2) o s ps i ks
 | [],i,e1,e2,hn,hx=>by rw [iV,iV]
 | k::ks,i,e1,e2,hn,hx=>by
  rw [dM]at hn;have h1:=aT7 x y k e1 (e2++aR o s ps i) (fun g=>hn (mem_append_left _ g)) (mem_append_left _ hx);rw [←append_assoc,←append_assoc]at h1;rw [iV,iV,h1,aNo x y o s ps ks (i+1) e1 e2 (fun g=>hn (mem_append_right _ g)) hx]
end
theorem bF3 {j:Nat}{l:List aB}(h:oM j l) :bR j∉l:=fun g=>h _ g j (le_refl _) rfl
mutual
theorem aHX (x:aB)(j:Nat) :∀ (k:Term) (e1 e2:List aB),nN k→oM j (nO k) →x∉e2→bR j∉e2→jM (e1++ [bR j] ++e2) (kW x (bR j) k) =jM (e1++ [x] ++e2) k
 | .mk o n s ks ps,e1,e2,hk,hn,hx,hm=>by
  rw [nO]at hn;rw [kW];by_cases h4:o=4
  · rw [if_pos h4]at hn;rw [if_pos h4,jM,jM,if_pos h4,if_pos h4];by_cases hs:s=x
    · subst hs;rw [if_pos rfl,bHn hx,bHn hm,if_neg (by omega),if_neg (by omega)]
    · have hsm:s≠bR j:=hn s (by simp) j (le_refl _);rw [if_neg hs,bHo hsm hs]
  · rw [if_neg h4]at hn;have hb:=aEz hk h4;rw [nN]at hk;rw [if_neg h4,jM,jM,if_neg h4,if_neg h4,aNp x j o s ps ks 0 e1 e2 hk.2.2.2 hn hx hm (fun i=>hb i j)]
theorem aNp (x:aB)(j:Nat)(o:Int)(s:aB)(ps:List Pat) :∀ (ks:List Term) (i:Nat) (e1 e2:List aB),gB ks→oM j (dM ks) →x∉e2→bR j∉e2→ (∀i,bR j∉aR o s ps i) →
  iV (e1++ [bR j] ++e2) o s ps i (iT x (bR j) o s ps i ks) =iV (e1++ [x] ++e2) o s ps i ks
 | [],i,e1,e2,_,_,_,_,_=>by rw [iT,iV,iV]
 | k ::ks,i,e1,e2,hk,hn,hx,hm,hb=>by
  rw [gB]at hk;rw [dM]at hn;have hn1:oM j (nO k) :=fun s hs=>hn s (mem_append_left _ hs);have hn2:oM j (dM ks) :=fun s hs=>hn s (mem_append_right _ hs);rw [iT,iV,iV,aNp x j o s ps ks (i+1) e1 e2 hk.2 hn2 hx hm hb];congr 1;by_cases hh:dA (aR o s ps i) x=true
  · have h1:=aT7 x (bR j) k e1 (e2++aR o s ps i) (bF3 hn1) (mem_append_right _ (hasS_mem.1 hh));rw [←append_assoc,←append_assoc]at h1;rw [if_pos hh,h1]
  · have hxb:x∉aR o s ps i:=fun g=>hh (hasS_mem.2 g);have h1:=aHX x j k e1 (e2++aR o s ps i) hk.1 hn1 (by simp [hx,hxb]) (by simp [hm,hb i]);rw [←append_assoc,←append_assoc]at h1;rw [if_neg hh,h1]
end
theorem aBW (x y:aB)(o:Int)(s:aB)(ps:List Pat) :∀ (ks:List Term) (i:Nat),(iT x y o s ps i ks).length=ks.length
 | [],i=>by rw [iT]
 |k::ks,i=>by rw [iT,length_cons,aBW x y o s ps ks,length_cons]
mutual
theorem aA7 (x y:aB) :∀k:Term,nN k→nN (kW x y k)
 | .mk o n s ks ps,h=>by
  rw [nN]at h;obtain⟨h1,h2,h3,h4⟩ :=h;rw [kW];by_cases e:o=4
  ·rw [if_pos e,nN];exact⟨h1,fun g=>absurd e g,h3,h4⟩
  ·rw [if_neg e,nN,aBW];exact⟨h1,h2,h3,aJ0 x y o s ps ks 0 h4⟩
theorem aJ0 (x y:aB)(o:Int)(s:aB)(ps:List Pat) :∀ (ks:List Term) (i:Nat),gB ks→gB (iT x y o s ps i ks)
 | [],i,_=>by rw [iT,gB];trivial
 | k::ks,i,h=>by
  rw [gB]at h;rw [iT,gB];refine⟨?_,aJ0 x y o s ps ks (i+1) h.2⟩;split
  ·exact h.1
  ·exact aA7 x y k h.1
end
mutual
theorem aA8 (x y:aB) :∀ (k:Term) (s:aB),s∈nO (kW x y k) →s∈nO k∨s=y
 | .mk o n t ks ps,s,h=>by
  rw [kW]at h;by_cases e:o=4
  · rw [if_pos e,nO,if_pos e]at h;rw [nO,if_pos e];have h:=List.mem_singleton.1 h;split at h
    ·exact .inr h
    ·exact .inl (by simp [h])
  · rw [if_neg e,nO,if_neg e]at h;rw [nO,if_neg e];exact aJ1 x y o t ps ks 0 s h
theorem aJ1 (x y:aB)(o:Int)(t:aB)(ps:List Pat) :∀ (ks:List Term) (i:Nat) (s:aB),s∈dM (iT x y o t ps i ks) →s∈dM ks∨s=y
 | [],i,s,h=>by rw [iT,dM]at h;cases h
 | k ::ks,i,s,h=>by
  rw [iT,dM]at h;rw [dM];rcases List.mem_append.1 h with h|h
  · split at h
    ·exact .inl (mem_append_left _ h)
    · rcases aA8 x y k s h with g|g
      ·exact .inl (mem_append_left _ g)
      ·exact .inr g
  · rcases aJ1 x y o t ps ks (i+1) s h with g|g
    ·exact .inl (mem_append_right _ g)
    ·exact .inr g
end
mutual
theorem aA9 (x y:aB) :∀k:Term,fA (kW x y k) =fA k∧bD (kW x y k) =bD k
 | .mk o n s ks ps=>by
  rw [kW];by_cases e:o=4
  ·rw [if_pos e];exact⟨by simp only [fA],by simp only [bD]⟩
  · obtain⟨h1,h2⟩ :=aF3 x y o s ps ks 0;rw [if_neg e];exact⟨by simp only [fA,h1],by simp only [bD,h2]⟩
theorem aF3 (x y:aB)(o:Int)(s:aB)(ps:List Pat) :∀ (ks:List Term) (i:Nat),cZ (iT x y o s ps i ks) =cZ ks∧aY (iT x y o s ps i ks) =aY ks
 | [],i=>by rw [iT];exact⟨rfl,rfl⟩
 | k::ks,i=>by
  obtain⟨h1,h2⟩ :=aF3 x y o s ps ks (i+1);obtain⟨h3,h4⟩ :=aA9 x y k;rw [iT,cZ,cZ,aY,aY,h1,h2];split
  ·exact⟨rfl,rfl⟩
  ·exact⟨by rw [h3],by rw [h4]⟩
end
theorem aC4 {x:aB}{j:Nat}{k:Term}(h:oM j (nO k)) :oM (j+1) (nO (kW x (bR j) k)) :=fun s hs i hi=>by
 rcases aA8 _ _ k s hs with g|g
 ·exact h s g i (by omega)
 ·intro e;rw [g]at e;have:=aF2 e;omega
def renL :List aB→Nat→Term→Term
 | [],_,k=>k
 |x::b,j,k=>renL b (j+1) (kW x (bR j) k)
def mks :Nat→Nat→List aB
 |_,0=>[]
 |j,n+1=>bR j::mks (j+1) n
theorem aNq :∀ (b:List aB) (j:Nat) (k:Term) (e:List aB),nN k→oM j (nO k) →b.Nodup→ (∀x∈b,¬lT x) →jM (e++mks j b.length) (renL b j k) =jM (e++b) k
 | [],j,k,e,_,_,_,_=>rfl
 | x::b,j,k,e,hk,hn,hd,hm=>by
  rw [List.nodup_cons]at hd;have h1:=aNq b (j+1) (kW x (bR j) k) (e++ [bR j]) (aA7 _ _ _ hk) (aC4 hn) hd.2 (fun y hy=>hm y (List.mem_cons_of_mem _ hy));have h2:=aHX x j k e b hk hn hd.1 (fun g=>hm _ (List.mem_cons_of_mem _ g) (oP j));rw [renL,length_cons,mks];rw [h2,append_assoc,append_assoc]at h1;exact h1
theorem aF4 :∀ (b:List aB) (j:Nat) (k:Term),nN k→oM j (nO k) →nN (renL b j k) ∧oM (j+b.length) (nO (renL b j k)) ∧fA (renL b j k) =fA k∧bD (renL b j k) =bD k
 | [],j,k,h,hn=> ⟨h,hn,rfl,rfl⟩
 | x::b,j,k,h,hn=>by
  obtain⟨h1,h2,h3,h4⟩ :=aF4 b (j+1) (kW x (bR j) k) (aA7 _ _ _ h) (aC4 hn);obtain⟨g1,g2⟩ :=aA9 x (bR j) k;rw [renL,length_cons];exact⟨h1,iG h2 (by omega),by rw [h3,g1],by rw [h4,g2]⟩
theorem aJ2 :∀ (b:List aB) (j:Nat) (k:Term) (s:aB),s∈nO (renL b j k) →s∈nO k∨∃i,j≤i∧i<j+b.length∧s=bR i
 | [],j,k,s,h=>.inl h
 | x ::b,j,k,s,h=>by
  rw [renL]at h;rcases aJ2 b (j+1) _ s h with g| ⟨i,h1,h2,h3⟩
  · rcases aA8 _ _ k s g with g|g
    ·exact .inl g
    ·exact .inr ⟨j,le_refl _,by simp,g⟩
  ·exact .inr ⟨i,by omega,by rw [length_cons];omega,h3⟩
def lW :List aB→Nat→Pat→Pat
 | [],_,p=>p
 |x::b,j,p=>lW b (j+1) (tL x (bR j) p)
mutual
theorem aEA (x y:aB) :∀p:Pat,aO (tL x y p) = (aO p).map fun s=>if s=x then y else s
 | .mk f n s ps=>by
  rw [tL,aO,aO];by_cases h:f=2
  ·simp [h]
  ·simp only [h,false_and,if_false];exact aCB x y ps
theorem aCB (x y:aB) :∀ps:List Pat,bY (lO x y ps) = (bY ps).map fun s=>if s=x then y else s
 | [] =>by rw [lO,bY];rfl
 |p::ps=>by rw [lO,bY,bY,aEA x y p,aCB x y ps,map_append]
end
mutual
theorem aNr (x y:aB) :∀p:Pat,erP (tL x y p) =erP p
 | .mk f n s ps=>by
  rw [tL,erP,erP,aJ3 x y ps];by_cases h:f=2<;>simp [h]
theorem aJ3 (x y:aB) :∀ps:List Pat,fB (lO x y ps) =fB ps
 | [] =>by rw [lO]
 |p::ps=>by rw [lO,fB,fB,aNr x y p,aJ3 x y ps]
end
mutual
theorem aNs (x y:aB) :∀p:Pat,pOk p→pOk (tL x y p)
 | .mk f n s ps,h=>by
  rw [pOk]at h;rw [tL,pOk];refine⟨fun g=>by rw [h.1 g,lO],fun g=>?_,aJ4 x y ps h.2.2⟩;rw [if_neg (fun k=>g k.1)];exact h.2.1 g
theorem aJ4 (x y:aB) :∀ps:List Pat,tV ps→tV (lO x y ps)
 | [],_=>by rw [lO,tV];trivial
 |p::ps,h=>by rw [tV]at h;rw [lO,tV];exact⟨aNs x y p h.1,aJ4 x y ps h.2⟩
end
theorem nM :∀ (b pre:List aB) (p:Pat) (j:Nat),aO p=pre++b→b.Nodup→ (∀x∈b,¬lT x) → (∀x∈pre,lT x) →aO (lW b j p) =pre++mks j b.length
 | [],pre,p,j,h,_,_,_=>h
 | x ::b,pre,p,j,h,hd,hm,hp=>by
  rw [List.nodup_cons]at hd;have hx:=hm x (List.mem_cons_self ..);have e:aO (tL x (bR j) p) = (pre++ [bR j]) ++b:=by
   have K:∀l:List aB,x∉l→ (l.map fun s=>if s=x then bR j else s) =l:=fun l hl=>by
    conv=>rhs;rw [←List.map_id l]
    exact List.map_congr_left fun s hs=>if_neg (fun g:s=x=>by rw [g]at hs;exact hl hs)
   rw [aEA,h,map_append,map_cons,if_pos rfl,K pre (fun g=>hx (hp x g)),K b hd.1];simp
  have:=nM b (pre++ [bR j]) _ (j+1) e hd.2 (fun y hy=>hm y (List.mem_cons_of_mem _ hy)) (fun y hy=>by
   rcases List.mem_append.1 hy with g|g
   ·exact hp y g
   ·rw [List.mem_singleton.1 g];exact oP j)
  rw [lW,this,length_cons,mks,append_assoc];rfl
theorem wR :∀ (b:List aB) (j:Nat) (p:Pat),erP (lW b j p) =erP p∧ (pOk p→pOk (lW b j p))
 | [],j,p=> ⟨rfl,id⟩
 | x::b,j,p=>by
  obtain⟨h1,h2⟩ :=wR b (j+1) (tL x (bR j) p);rw [lW];exact⟨by rw [h1,aNr],fun h=>h2 (aNs _ _ _ h)⟩
mutual
theorem aHY :∀ (p q:Pat),erP p=erP q→pOk p→pOk q→ (aO p).length= (aO q).length∧ (aO p=aO q→p=q)
 | .mk f n s ps,.mk f' n' s' ps',h,hp,hq=>by
  rw [pOk]at hp hq;rw [erP,erP,Pat.mk.injEq]at h;obtain⟨rfl,rfl,h1,h2⟩ :=h;obtain⟨g1,g2⟩ :=aNt ps ps' h2 hp.2.2 hq.2.2;rw [aO,aO];by_cases hf:f=2
  · rw [if_pos hf,if_pos hf,hp.1 hf,hq.1 hf];exact⟨rfl,fun e=>by rw [List.cons.injEq]at e;rw [e.1]⟩
  · rw [if_neg hf,if_neg hf]at h1 ⊢;exact⟨g1,fun e=>by rw [h1,g2 e]⟩
theorem aNt :∀ (ps qs:List Pat),fB ps=fB qs→tV ps→tV qs→ (bY ps).length= (bY qs).length∧ (bY ps=bY qs→ps=qs)
 | [],[],_,_,_=> ⟨rfl,fun _=>rfl⟩
 | [],q::qs,h,_,_=>by rw [fB,fB]at h;cases h
 |p::ps,[],h,_,_=>by rw [fB,fB]at h;cases h
 | p::ps,q::qs,h,hp,hq=>by
  rw [tV]at hp hq;rw [fB,fB,List.cons.injEq]at h;obtain⟨a1,a2⟩ :=aHY p q h.1 hp.1 hq.1;obtain⟨b1,b2⟩ :=aNt ps qs h.2 hp.2 hq.2;rw [bY,bY];refine⟨by simp [a1,b1],fun e=>?_⟩;obtain⟨e1,e2⟩ :=List.append_inj e a1;rw [a2 e1,b2 e2]
end
theorem aOq {p q:Pat}(h:erP p=erP q)(hp:pOk p)(hq:pOk q)(dp: (aO p).Nodup)(dq: (aO q).Nodup)(mp:∀y∈aO p,¬lT y)(mq:∀y∈aO q,¬lT y)(j:Nat) :
  lW (aO p) j p=lW (aO q) j q:=by
 obtain⟨a1,a2⟩ :=wR (aO p) j p;obtain⟨b1,b2⟩ :=wR (aO q) j q;refine(aHY _ _ (by rw [a1,b1,h]) (a2 hp) (b2 hq)).2 ?_;rw [nM _ [] p j rfl dp mp (by simp),nM _ [] q j rfl dq mq (by simp),(aHY p q h hp hq).1]
end
end Go.Hb
