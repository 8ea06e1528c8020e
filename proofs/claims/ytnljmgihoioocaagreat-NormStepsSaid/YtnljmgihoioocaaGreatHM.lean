/- A machine on abstract values, its soundness, ways, plain laws. -/
import Derived.Test.YtnljmgihoioocaaGreatHF
import Derived.Test.YtnljmgihoioocaaGreatHG
import Derived.Test.YtnljmgihoioocaaGreatHI
import Derived.Test.YtnljmgihoioocaaGreatHK
import Derived.Test.YtnljmgihoioocaaGreatHL
set_option linter.defProp false
set_option linter.unusedVariables false
set_option linter.unusedSimpArgs false
set_option linter.unusedSectionVars false
set_option maxRecDepth 100000
set_option maxHeartbeats 4000000
namespace Go.Hb
open List (append_assoc append_nil drop getElem?_map length length_append length_cons length_map length_set map mem_of_getElem? replicate set take)
open Go.Proofs Tryz
noncomputable section
theorem aFs (s:cA) :iZ (length s) (aC s) (length s) (aC s) =true:=by rw [vV];simp
theorem aLX (a:List Int)(ha:a.length<1000000) :∀ (t:List Int) (i:Nat),a.drop i=t→Ends PP 0 (aJi a (i:Int)).as (.ret (.bool true)) (aA [] 0)
 | [],i,h=>by
  have:=bE h;exact bBu a i sd
 | y::t,i,h=>by
  obtain⟨g1,g2,g3⟩ :=bB h;have h1:=bBt a i y sd sd sd (by simp) sd;exact h1.ends (aLX a ha t (i+1) g2)
theorem aLY (a:List Int)(ha:a.length<1000000) :aJ PP 50 [.ilst 1 (map bU a) false,.ilst 1 (map bU a) false] (.bool true) :=
 aF (by kernel_rfl) rfl rfl ((bBs a (by simp)).ends (aLX a ha a 0 rfl))
theorem aLZ (f n:Int)(s:cA)(ps:List Pat)(hl:ps.length<1000000)(ih:∀p∈ps,aJ PP 92 [Pat.av p,Pat.av p] (.bool true)) :∀ (t:List Pat) (i:Nat),ps.drop i=t→Ends PP 0 (aJj f n s ps (i:Int)).as (.ret (.bool true)) (aA [] 0)
 | [],i,h=>by
  have:=bE h;exact bBx f n s ps i sd
 | .mk f1 n1 s1 ps1::t,i,h=>by
  obtain⟨g1,g2,g3⟩ :=bB h;have h1:=bBw f n s ps i f1 n1 s1 ps1 true sd sd sd (ih (.mk f1 n1 s1 ps1) (mem_of_getElem? g1)) rfl sd;exact h1.ends (aLZ f n s ps hl ih t (i+1) g2)
mutual
theorem aWr :∀ (q:Pat),bW q<1000000→aJ PP 92 [Pat.av q,Pat.av q] (.bool true)
 | .mk f n s ps,h=>by
  simp only [bW]at h;have:=eP ps;exact aF (by kernel_rfl) (by simp [AV.keylessL,lV]) rfl ((bBv f n s ps (by simp) (by simp) (by rw [aFs];rfl) (by simp)).ends (aLZ f n s ps (by omega) (aJn ps (by omega)) ps 0 rfl))
theorem aJn :∀ (ps:List Pat),bF ps<1000000→∀p∈ps,aJ PP 92 [Pat.av p,Pat.av p] (.bool true)
 | [],_,p,hp=>by cases hp
 | q::ps,h,p,hp=>by
  simp only [bF]at h;rcases List.mem_cons.1 hp with e|hp
  ·rw [e];exact aWr q (by omega)
  ·exact aJn ps (by omega) p hp
end
theorem aL0 (x:Node)(hl:x.pats.length<1000000)(ih:∀p∈x.pats,aJ PP 92 [Pat.av p,Pat.av p] (.bool true)) :∀ (t:List Pat) (i:Nat),x.pats.drop i=t→Ends PP 0 (aJk x (i:Int)).as (.ret (.bool true)) (aA [] 0)
 | [],i,h=>by
  have:=bE h;exact bBA x i sd
 | .mk f1 n1 s1 ps1::t,i,h=>by
  obtain⟨g1,g2,g3⟩ :=bB h;have h1:=bBz x i f1 n1 s1 ps1 true sd sd sd (ih (.mk f1 n1 s1 ps1) (mem_of_getElem? g1)) rfl sd;exact h1.ends (aL0 x hl ih t (i+1) g2)
def bDW (x:Node) :Prop:=x.kids.length<1000000∧bF x.pats<1000000
structure FitP (q:Prog) :Prop where
 nodes:q.nodes.length≤1000000
 funs:q.funs.length<1000000
 cons:q.cons.length<1000000
 node:∀x∈q.nodes,bDW x
theorem aWs (x:Node)(h:bDW x) :aJ PP 51 [Node.av x,Node.av x] (.bool true) :=by
 have:=eP x.pats;have h1:=h.1;have h2:=h.2;exact aF (by kernel_rfl) (by simp [AV.keylessL,Node.av,AV.keyless]) rfl ((bBy x true (by simp) (by simp) (aLY x.kids h.1) rfl (by simp)).ends (aL0 x (by omega) (aJn x.pats h.2) x.pats 0 rfl))
theorem bCH (p:Prog)(hp:FitP p) :∀ (t:List Node) (i:Nat),p.nodes.drop i=t→Ends PP 0 (aJm p (i:Int)).as (.ret (.bool true)) (aA [] 0)
 | [],i,h=>by
  have:=bE h;exact bBF p i sd
 | x::t,i,h=>by
  obtain⟨g1,g2,g3⟩ :=bB h;have hn:=hp.nodes;have h1:=bBE p i x true sd sd sd (aWs x (hp.node x (mem_of_getElem? g1))) rfl sd;exact h1.ends (bCH p hp t (i+1) g2)
theorem bCI (p:Prog)(hp:FitP p) :∀ (t:List Con) (i:Nat),p.cons.drop i=t→Ends PP 0 (aJl p (i:Int)).as (.ret (.bool true)) (aA [] 0)
 | [],i,h=>by
  have:=bE h;exact(bBD p i sd).ends (bCH p hp p.nodes 0 rfl)
 | c::t,i,h=>by
  obtain⟨g1,g2,g3⟩ :=bB h;have hn:=hp.cons;have h1:=bBC p i c sd sd sd (by rw [aFs];simp) sd;exact h1.ends (bCI p hp t (i+1) g2)
theorem aPf (p:Prog)(hp:FitP p) :aJ PP 16 [Prog.av p,Prog.av p] (.bool true) :=
 aF (by kernel_rfl) (by simp [AV.keylessL,Prog.av,AV.keyless]) rfl ((bBB p true (by simp) (aLY p.funs hp.funs) rfl (by simp) (by simp)).ends (bCI p hp p.cons 0 rfl))
structure LFun where
 name:cA
 body:Int
def LFun.av (f:LFun) :AV:=.agg [dD f.name,.int .i64 f.body]
structure LUnit where
 name:cA
 cons:List Con
 funs:List LFun
 needs:List cA
 nodes:List Node
def LUnit.av (u:LUnit) :AV:=.agg [dD u.name,.ilst 2 (map Con.av u.cons) false,.ilst 2 (map LFun.av u.funs) false,.ilst 1 (map dD u.needs) false,.ilst 4 (map Node.av u.nodes) false]
structure LPlace where
 nodes:Int
 funs:Int
def LPlace.av (p:LPlace) :AV:=.agg [.int .i64 p.nodes,.int .i64 p.funs]
theorem aFt {l:List ONode}{nn:List Node}(h:l=map Node.o nn) :map ONode.av l=map Node.av nn:=by rw [h,aZw]
theorem aG6 {f:Nat}{args args':List AV}{v:AV}(h:aJ PP f args v)(hl:args'.length=args.length)(ha:∀ (E:Emb) (i:Nat) (a a':AV) (c:Value),args[i]?=some a→args'[i]?=some a'→VR E a' c→VR E a c) :aJ PP f args' v:=fun hh=>by
 obtain⟨g,hg,he⟩ :=h hh;simp only [dB,cL]at hg;split at hg
 · rename_i fn hfn;split at hg
   · rename_i c hc;cases hg;refine⟨_,by simp only [dB,cL,hfn,hc];rfl,?_⟩;intro hm E fr ccs w hfr fs r cl base;refine he hm E fr ccs w ?_ fs r cl base;refine⟨hfr.fn,⟨by have:=hfr.tm.1;rw [hl]at this;exact this,fun t a e=>?_⟩,hfr.todo,hfr.defers,hfr.mode,hfr.kind,hfr.round⟩;have ht:t<args.length∧args[t]?=some a:=by
      have e': (dA .leaf 0 args).at t=some a:=e;unfold dA at e';rw [aY]at e';split at e'
      ·rename_i hlt;exact⟨hlt,e'⟩
      ·cases e'
     have ht':args'[t]?=some args'[t] :=List.getElem?_eq_getElem (by omega)
     obtain⟨cv,g1,g2⟩ :=hfr.tm.2 t args'[t] (by
      show(dA .leaf 0 args').at t=_;unfold dA;rw [aY,if_pos (by omega)];exact ht')
     exact⟨cv,g1,ha E t _ _ cv ht.2 ht' g2⟩
   ·cases hg
 ·cases hg
abbrev aBz (a:List Int):AV:=.gl 2 1 0 a.length false
abbrev aCi (a b c:Int)(d:List Pat):AV:=.agg [(nI a),(nI b),(.gl 6 1 0 (([] :List Int) ++ [c]).length false),(iP d)]
abbrev tZ (a:Nat)(b:List ONode)(c:List Int)(d:Int)(e:List Con):=oC a [(.gl 3 4 0 b.length false),(aBz c),(nI d),(iC e)]
abbrev uA (a b:Int)(c:List Pat):AV:=.agg [(nI a),(nI b),(.gl 4 1 0 ([] :List Int).length false),(iP c)]
abbrev aCj (a b:Int)(c:List Int)(d:Int)(e:List Pat):AV:=.agg [(nI a),(nI b),(.gl 6 1 0 (c++ [d]).length false),(iP e)]
abbrev uB (a b:Int)(c:List Int)(d:List Pat):AV:=.agg [(nI a),(nI b),(.gl 4 1 0 c.length false),(iP d)]
abbrev mC (a:Nat):=oC a [(.func 119 [] [(.ptr 0 0),(.ptr 1 0)])]
abbrev aPg (a:Nat):=oC a [(.func 119 [] [(.ptr 1 0),(.ptr 2 0)])]
abbrev aPh (a:Nat):=oC a [.nils,.nils,(nI 0),.nils]
abbrev uC (a:Nat)(b:List ONode):=oL a 4 (map ONode.av b)
abbrev jV (a:List XT):AV:=.ilst 1 (XTs.av a) false
def bCJ(a:List ONode)(b:List Int)(c:Int)(d:List Con)(e f:Int)(g:List XT)(i:List Pat):TS:=bC PP 119 [(.iptr [(nI e),(nI f),(jV g),(iP i)]),(.ptr 0 0),(.ptr 1 0)] [tZ 0 a b c d,mC 1,oL 2 1 (jI b),uC 3 a] 4
def aPi(d:List ONode)(a:List Int)(e:Int)(f:List Con)(g i:Int)(b:List XT)(j:List Pat)(c:List ONode):TS:=⟨(tf 119 59 [kp 1 0,kp 2 1,(4,(nI 0)),(5,(nI (d.length:Int))),(34,(jV b)),(35,(nI (b.length:Int))),(36,(nI 0))] [kc f119 244,kl f119 244,.inBlock 0,kc f119 31]),[],[tZ 0 c a e f,mC 1,oL 2 1 (jI a),uC 3 c],4⟩
def aWt(d:List ONode)(a:List Int)(e:Int)(f:List Con)(i j:Int)(b:List XT)(k:List Pat)(g:Int)(c:List ONode):TS:=⟨(tf 119 59 [kp 1 0,kp 2 1,(4,(nI 0)),(5,(nI (d.length:Int))),(8,(nI g)),(34,(jV b)),(35,(nI (b.length:Int))),(36,(nI 0))] [kc f119 15667,.inBlock 1,kc f119 1959,kl f119 244,.inBlock 0,kc f119 31]),[],[tZ 0 c a e f,mC 1,oL 2 1 (jI a),uC 3 c],4⟩
def aQy(d:List ONode)(a:List Int)(e:Int)(f:List Con)(m n:Int)(b:List XT)(o:List Pat)(g:Int)(c:List ONode)(i:Nat)(j k:Int)(l:List Pat):TS:=⟨(tf 119 59 [kp 1 0,kp 2 1,(4,(nI 0)),(5,(nI (d.length:Int))),(8,(nI g)),(34,(jV b)),(35,(nI (b.length:Int))),(36,(nI 0))] [kc f119 15667,.inBlock 1,kc f119 1959,kl f119 244,.inBlock 0,kc f119 31]),[],[tZ 0 c a e f,mC 1,oL 2 1 (jI a),(3,(.lst 4 (set (map ONode.av c) i (uA j k l))),false),oL 4 1 (jI ([] :List Int))],5⟩
def aCk(d:List ONode)(a:List Int)(e:Int)(f:List Con)(k l:Int)(b:List XT)(m:List Pat)(c:List ONode)(g:List Int)(i:Value)(j:Int):TS:=⟨(tf 119 59 [kp 1 0,kp 2 1,(4,(nI 0)),(5,(nI (d.length:Int))),(34,(jV b)),(35,(nI (b.length:Int))),(36,(nI j))] [kc f119 244,kl f119 244,.inBlock 0,kc f119 31]),[],[tZ 0 c a e f,mC 1,oL 2 1 (jI a),uC 3 c,(4,(.lstv i 1 (jI g)),true)],5⟩
def aWu(d:List ONode)(a:List Int)(e:Int)(f:List Con)(l m:Int)(b:List XT)(n:List Pat)(g:Int)(c:List ONode)(i:List Int)(j:Value)(k:Int):TS:=⟨(tf 119 59 [kp 1 0,kp 2 1,(4,(nI 0)),(5,(nI (d.length:Int))),(8,(nI g)),(34,(jV b)),(35,(nI (b.length:Int))),(36,(nI k))] [kc f119 15667,.inBlock 1,kc f119 1959,kl f119 244,.inBlock 0,kc f119 31]),[],[tZ 0 c a e f,mC 1,oL 2 1 (jI a),uC 3 c,(4,(.lstv j 1 (jI i)),true)],5⟩
def aQz(e:List ONode)(a:List Int)(f:Int)(g:List Con)(o p:Int)(b:List XT)(q:List Pat)(i:Int)(c:List ONode)(d:List Int)(j:Int)(k:Nat)(l m:Int)(n:List Pat):TS:=⟨(tf 119 59 [kp 1 0,kp 2 1,(4,(nI 0)),(5,(nI (e.length:Int))),(8,(nI i)),(34,(jV b)),(35,(nI (b.length:Int))),(36,(nI j))] [kc f119 15667,.inBlock 1,kc f119 1959,kl f119 244,.inBlock 0,kc f119 31]),[],[tZ 0 c a f g,mC 1,oL 2 1 (jI a),(3,(.lst 4 (set (map ONode.av c) k (uB l m d n))),false),oL 4 1 (jI d)],5⟩
theorem bBG (L:List ONode)(fs:List Int)(mn:Int)(cs:List Con)(t_op t_n:Int)(t_kids:List XT)(t_pats:List Pat)(kid8:Int)(l3:List ONode)(ix:Nat)(w_op w_n:Int)(w_pats:List Pat)(h0:0≤ ((L.length:Nat) :Int))(h1: ((L.length:Nat) :Int) < ((l3.length:Nat) :Int))(h2: ((L.length:Nat) :Int).toNat=ix)(h3:ix<length l3)(h4:length (([] :List Int) ++ [kid8]) ≤1000000){res:Res}{h':Hp}(hk:∀ua un uc,Ends PP 3 (let u:=Value.slice ua un uc; (aCk L fs mn cs t_op t_n t_kids t_pats (set l3 ix (ONode.mk w_op w_n (KV.val u) w_pats)) (([] :List Int) ++ [kid8]) u 1)).as res h') :
  Ends PP 3 (aQy L fs mn cs t_op t_n t_kids t_pats kid8 l3 ix w_op w_n w_pats).as res h':=
 aFq (n1:=7) (t:=fun u=> (aCk L fs mn cs t_op t_n t_kids t_pats (set l3 ix (ONode.mk w_op w_n (KV.val u) w_pats)) (([] :List Int) ++ [kid8]) u 1)) (k:=3) (b:=6) (i:=ix) (o:=2) (ys:=fun u=> (map ONode.av (set l3 ix (ONode.mk w_op w_n (KV.val u) w_pats)))) (ks:=[3,6]) (ps:=fun u=>[NQ (set (map ONode.av l3) ix (aCi w_op w_n kid8 w_pats)) ix 2 6 1 (jI (([] :List Int) ++ [kid8])).length u (map ONode.av (set l3 ix (ONode.mk w_op w_n (KV.val u) w_pats))),0≤ ((L.length:Nat) :Int),((L.length:Nat) :Int) < ((l3.length:Nat) :Int),(set (map ONode.av l3) ix (uA w_op w_n w_pats))[(0+ ((L.length:Nat) :Int).toNat)]?=some (uA w_op w_n w_pats),0+ ([] :List Int).length≤length (jI ([] :List Int)),length (([] :List Int) ++ [kid8]) ≤1000000,take ([] :List Int).length (drop 0 (jI ([] :List Int))) ++ (jI [kid8]) = (jI (([] :List Int) ++ [kid8])),([] :List Int).length+length (jI [kid8]) =length (([] :List Int) ++ [kid8]),0≤ ((L.length:Nat) :Int),((L.length:Nat) :Int) < ((l3.length:Nat) :Int),(set (map ONode.av l3) ix (uA w_op w_n w_pats))[(0+ ((L.length:Nat) :Int).toNat)]?=some (uA w_op w_n w_pats),jM (uA w_op w_n w_pats) 2 [(.gl 6 1 0 (([] :List Int) ++ [kid8]).length false)] =some (aCi w_op w_n kid8 w_pats),(AV.gl 3 4 0 l3.length false) = (AV.gl 3 4 0 l3.length false),(AV.gl 3 4 0 l3.length false) = (AV.gl 3 4 0 l3.length false),(set (map ONode.av l3) ix (uA w_op w_n w_pats)).set (0+ ((L.length:Nat) :Int).toNat) (aCi w_op w_n kid8 w_pats) = (set (map ONode.av l3) ix (aCi w_op w_n kid8 w_pats)),(AV.gl 3 4 0 l3.length false) = (.gl 3 4 0 (set l3 ix (ONode.mk w_op w_n (KV.val u) w_pats)).length false),(AV.gl 3 4 0 l3.length false) = (.gl 3 4 0 (set l3 ix (ONode.mk w_op w_n (KV.val u) w_pats)).length false),(AV.gl 3 4 0 l3.length false) = (.gl 3 4 0 (set l3 ix (ONode.mk w_op w_n (KV.val u) w_pats)).length false)]) (is:=[.reg [.d,.d,.d,.d,.d,.d,.ans (.ix),.d,.ans (.idx (uA w_op w_n w_pats)),.d,.d,.app (jI (([] :List Int) ++ [kid8])) (([] :List Int) ++ [kid8]).length,.ans (.ix),.d,.st (uA w_op w_n w_pats) (aCi w_op w_n kid8 w_pats)],.lset 3 (set (map ONode.av l3) ix (aCi w_op w_n kid8 w_pats)),.run 1]) (is2:=fun u=>[.set 44 (.gl 3 4 0 (set l3 ix (ONode.mk w_op w_n (KV.val u) w_pats)).length false),.set 47 (.gl 3 4 0 (set l3 ix (ONode.mk w_op w_n (KV.val u) w_pats)).length false),.cset 0 0 (.gl 3 4 0 (set l3 ix (ONode.mk w_op w_n (KV.val u) w_pats)).length false),.run 5]) (fun u=>by kernel_rfl) (fun u=>by kernel_rfl) (fun u=> ⟨(aG _ (fun _=>rfl) _),⟨(aG _ (fun _=>dK _) _),⟨(aG _ (fun _=>rfl) _),trivial⟩⟩⟩) (fun u=> ⟨(bCA [(nI w_op),(nI w_n)] [(iP w_pats)] h3 (length_map ..) (by simp) rfl),h0,h1,(aJh h2 h3),(aHZ _ _),h4,(aH0 _ _ _),(aH1 _ _ _),h0,h1,(aJh h2 h3),rfl,rfl,rfl,(aWp h2),(bG (length_set ..).symm),(bG (length_set ..).symm),(bG (length_set ..).symm)⟩) hk
theorem bBH (L:List ONode)(fs:List Int)(mn:Int)(cs:List Con)(t_op t_n:Int)(t_kids:List XT)(t_pats:List Pat)(kid8:Int)(l3:List ONode)(k4:List Int)(t36:Int)(ix:Nat)(w_op w_n:Int)(w_pats:List Pat)(h0:0≤ ((L.length:Nat) :Int))(h1: ((L.length:Nat) :Int) < ((l3.length:Nat) :Int))(h2: ((L.length:Nat) :Int).toNat=ix)(h3:ix<length l3)(h4:length (k4++ [kid8]) ≤1000000)(h5: (IntKind.i64.wrap (t36+ (1:Int))) = (t36+ (1:Int))){res:Res}{h':Hp}(hk:∀ua un uc,Ends PP 3 (let u:=Value.slice ua un uc; (aCk L fs mn cs t_op t_n t_kids t_pats (set l3 ix (ONode.mk w_op w_n (KV.val u) w_pats)) (k4++ [kid8]) u (t36+ (1:Int)))).as res h') :
  Ends PP 3 (aQz L fs mn cs t_op t_n t_kids t_pats kid8 l3 k4 t36 ix w_op w_n w_pats).as res h':=
 aFq (n1:=7) (t:=fun u=> (aCk L fs mn cs t_op t_n t_kids t_pats (set l3 ix (ONode.mk w_op w_n (KV.val u) w_pats)) (k4++ [kid8]) u (t36+ (1:Int)))) (k:=3) (b:=6) (i:=ix) (o:=2) (ys:=fun u=> (map ONode.av (set l3 ix (ONode.mk w_op w_n (KV.val u) w_pats)))) (ks:=[3,6]) (ps:=fun u=>[NQ (set (map ONode.av l3) ix (aCj w_op w_n k4 kid8 w_pats)) ix 2 6 1 (jI (k4++ [kid8])).length u (map ONode.av (set l3 ix (ONode.mk w_op w_n (KV.val u) w_pats))),0≤ ((L.length:Nat) :Int),((L.length:Nat) :Int) < ((l3.length:Nat) :Int),(set (map ONode.av l3) ix (uB w_op w_n k4 w_pats))[(0+ ((L.length:Nat) :Int).toNat)]?=some (uB w_op w_n k4 w_pats),0+k4.length≤length (jI k4),length (k4++ [kid8]) ≤1000000,take k4.length (drop 0 (jI k4)) ++ (jI [kid8]) = (jI (k4++ [kid8])),k4.length+length (jI [kid8]) =length (k4++ [kid8]),0≤ ((L.length:Nat) :Int),((L.length:Nat) :Int) < ((l3.length:Nat) :Int),(set (map ONode.av l3) ix (uB w_op w_n k4 w_pats))[(0+ ((L.length:Nat) :Int).toNat)]?=some (uB w_op w_n k4 w_pats),jM (uB w_op w_n k4 w_pats) 2 [(.gl 6 1 0 (k4++ [kid8]).length false)] =some (aCj w_op w_n k4 kid8 w_pats),(AV.gl 3 4 0 l3.length false) = (AV.gl 3 4 0 l3.length false),(AV.gl 3 4 0 l3.length false) = (AV.gl 3 4 0 l3.length false),(set (map ONode.av l3) ix (uB w_op w_n k4 w_pats)).set (0+ ((L.length:Nat) :Int).toNat) (aCj w_op w_n k4 kid8 w_pats) = (set (map ONode.av l3) ix (aCj w_op w_n k4 kid8 w_pats)),(AV.gl 3 4 0 l3.length false) = (.gl 3 4 0 (set l3 ix (ONode.mk w_op w_n (KV.val u) w_pats)).length false),(AV.gl 3 4 0 l3.length false) = (.gl 3 4 0 (set l3 ix (ONode.mk w_op w_n (KV.val u) w_pats)).length false),(AV.gl 3 4 0 l3.length false) = (.gl 3 4 0 (set l3 ix (ONode.mk w_op w_n (KV.val u) w_pats)).length false),(nI (IntKind.i64.wrap (t36+ (1:Int)))) = (nI (t36+ (1:Int)))]) (is:=[.reg [.d,.d,.d,.d,.d,.d,.ans (.ix),.d,.ans (.idx (uB w_op w_n k4 w_pats)),.d,.d,.app (jI (k4++ [kid8])) (k4++ [kid8]).length,.ans (.ix),.d,.st (uB w_op w_n k4 w_pats) (aCj w_op w_n k4 kid8 w_pats)],.lset 3 (set (map ONode.av l3) ix (aCj w_op w_n k4 kid8 w_pats)),.run 1]) (is2:=fun u=>[.set 44 (.gl 3 4 0 (set l3 ix (ONode.mk w_op w_n (KV.val u) w_pats)).length false),.set 47 (.gl 3 4 0 (set l3 ix (ONode.mk w_op w_n (KV.val u) w_pats)).length false),.cset 0 0 (.gl 3 4 0 (set l3 ix (ONode.mk w_op w_n (KV.val u) w_pats)).length false),.run 2,.set 57 (nI (t36+ (1:Int))),.run 3]) (fun u=>by kernel_rfl) (fun u=>by kernel_rfl) (fun u=> ⟨(aG _ (fun _=>rfl) _),⟨(aG _ (fun _=>dK _) _),⟨(aG _ (fun _=>rfl) _),trivial⟩⟩⟩) (fun u=> ⟨(bCA [(nI w_op),(nI w_n)] [(iP w_pats)] h3 (length_map ..) (by simp) rfl),h0,h1,(aJh h2 h3),(aHZ _ _),h4,(aH0 _ _ _),(aH1 _ _ _),h0,h1,(aJh h2 h3),rfl,rfl,rfl,(aWp h2),(bG (length_set ..).symm),(bG (length_set ..).symm),(bG (length_set ..).symm),(congrArg (AV.int .i64) h5)⟩) hk
def bFq(a:List XT)(b:Int)(c:List Con):TS:=bC PP 76 [(.iptr [(jV a),(nI b),(iC c)])] [] 0
def aJo(a:List XT)(d:Int)(g e:List Con)(f:Int)(b:List ONode)(c:List Int):TS:=⟨(tf 76 39 [kp 2 0,kp 3 1,kp 4 2,(22,(jV a)),(23,(nI (a.length:Int))),(24,(nI f))] [kc f76 500,kl f76 500,.inBlock 0,kc f76 63]),[],[aPh 0,oC 1 [(.gl 3 4 0 b.length false),(.gl 4 1 0 c.length false),(nI d),(iC e)],aPg 2,uC 3 b,oL 4 1 (jI c)],5⟩
def bBI (a:List ONode)(g:List Int)(i:Int)(j:List Con)(b c:Int)(e:List XT)(f:List Pat):=fun d k l=>(tT 3 (bCJ a g i j b c e f)<|.y fun d:List Pat=>.i [rn 12,.reg (rd 14 [.pure (iP d),.d,.d,.app (map ONode.av (a++ [(ONode.mk b c KV.nil d)])) (a++ [(ONode.mk b c KV.nil d)]).length,.d,.d])] [hA (aJ PP 120 [(iP f)] (iP d)),hb ONode.av a,hA (length (a++ [(ONode.mk b c KV.nil d)]) ≤1000000),hc ONode.av a [(ONode.mk b c KV.nil d)],he ONode.av a [(ONode.mk b c KV.nil d)],hr (nI c),hr (nI c),hr (nI b),hr (nI b),hr (AV.gl 3 4 0 a.length false),hr (AV.gl 3 4 0 a.length false)]<|.i [rn 7,aL e] [.q (p:=((XTs.av e).length:Int) = (e.length:Int)) (fD dJ _)]<|.W 4 6 [5] (aPi a g i j b c e f (a++ [(ONode.mk b c KV.nil d)]))) d k l ⟨kk,⟨(aG _ (fun _=>dK _) _),trivial⟩⟩
def aWv(c:List ONode)(d:List Int)(e:Int)(f:List Con)(j k:Int)(g:List XT)(l:List Pat)(b:List ONode):=tT 3 (aPi c d e f j k g l b)<|gd 5 37 (0< (g.length:Int)) (.y fun m:Int=>.y fun n:Int=>.y fun o:List XT=>.y fun p:List Pat=>giF dJ 6 g 0 (XT.mk m n o p)<|.y fun i:List Node=>gk 7 (.enter 119 [(.iptr [(nI m),(nI n),(jV o),(iP p)]),(.ptr 0 0),(.ptr 1 0)]) [tZ 0 b d e f,mC 1,oL 2 1 (jI d),uC 3 b] 4 (nI (b.length:Int)) [oC 0 [(.gl 4 4 0 (b++map Node.o i).length false),(aBz d),(nI e),(iC f)],mC 1,oL 2 1 (jI d),oL 4 4 (map ONode.av (b++map Node.o i))] 5<|.W 2 5 [4] (aWt c d e f j k g l (b.length:Int) (b++map Node.o i)))<|.y fun a:ONode=>.i [rn 8,.lw 3 (map ONode.av (set b c.length (ONode.mk a.op a.n (KV.row []) a.pats)))] [.a (b[c.length]?=some a) (p':=(map ONode.av b) ≠ []) aIF,.a (b[c.length]?=some a∧a.kv=KV.nil) (p':=VW (map ONode.av b) (map ONode.av (set b c.length (ONode.mk a.op a.n (KV.row []) a.pats)))) fun⟨ha,hb⟩=>(aU3 ha hb)]<|.i [.cset 0 0 (.gl 3 4 0 (set b c.length (ONode.mk a.op a.n (KV.row []) a.pats)).length false)] [.q (p:=(AV.gl 3 4 0 b.length false) = (.gl 3 4 0 (set b c.length (ONode.mk a.op a.n (KV.row []) a.pats)).length false)) (bG (length_set ..).symm)]<|.E 0 4 [3] (nI (c.length:Int)) [oC 0 [(.gl 3 4 0 (set b c.length (ONode.mk a.op a.n (KV.row []) a.pats)).length false),(aBz d),(nI e),(iC f)],mC 1,oL 2 1 (jI d),oL 3 4 (map ONode.av (set b c.length (ONode.mk a.op a.n (KV.row []) a.pats)))] 4
def bBJ:=fun a b c d e f g i j k l m n o p q r s=>aWv a b c d e f g i j|>.t p k l m n q r o s ⟨kk,⟨(aG _ (fun _=>dK _) _),trivial⟩⟩
def bBK:=fun b c d e f g i j k l m a n=>aWv b c d e f g i j k|>.f m l a ⟨a,n⟩ ⟨kk,⟨(aG _ (fun _=>dK _) _),trivial⟩⟩
def aWw(d:List ONode)(e:List Int)(g:Int)(i:List Con)(m n:Int)(j:List XT)(o:List Pat)(b:List ONode)(c:List Int)(f:Value)(k:Int):=tT 3 (aCk d e g i m n j o b c f k)<|gd 5 37 (k< (j.length:Int)) (.y fun p:Int=>.y fun q:Int=>.y fun r:List XT=>.y fun s:List Pat=>giF dJ 6 j k (XT.mk p q r s)<|.y fun l:List Node=>gk 7 (.enter 119 [(.iptr [(nI p),(nI q),(jV r),(iP s)]),(.ptr 0 0),(.ptr 1 0)]) [tZ 0 b e g i,mC 1,oL 2 1 (jI e),uC 3 b,(4,(.lstv f 1 (jI c)),true)] 5 (nI (b.length:Int)) [oC 0 [(.gl 5 4 0 (b++map Node.o l).length false),(aBz e),(nI g),(iC i)],mC 1,oL 2 1 (jI e),(4,(.lstv f 1 (jI c)),true),oL 5 4 (map ONode.av (b++map Node.o l))] 6<|.W 2 6 [5,4] (aWu d e g i m n j o (b.length:Int) (b++map Node.o l) c f k))<|.y fun a:ONode=>.i [rn 8,.vfrz 4 3 (map ONode.av (set b d.length (ONode.mk a.op a.n (KV.row c) a.pats)))] [.a (b[d.length]?=some a) (p':=(map ONode.av b) ≠ []) aIF,hk bU c,.a (b[d.length]?=some a∧a.kv=KV.val f) (p':=VQ f 1 (jI c) (map ONode.av b) (map ONode.av (set b d.length (ONode.mk a.op a.n (KV.row c) a.pats)))) fun⟨ha,hb⟩=>(aU4 ha hb)]<|.i [.cset 0 0 (.gl 3 4 0 (set b d.length (ONode.mk a.op a.n (KV.row c) a.pats)).length false)] [.q (p:=(AV.gl 3 4 0 b.length false) = (.gl 3 4 0 (set b d.length (ONode.mk a.op a.n (KV.row c) a.pats)).length false)) (bG (length_set ..).symm)]<|.E 0 5 [3] (nI (d.length:Int)) [oC 0 [(.gl 3 4 0 (set b d.length (ONode.mk a.op a.n (KV.row c) a.pats)).length false),(aBz e),(nI g),(iC i)],mC 1,oL 2 1 (jI e),oL 3 4 (map ONode.av (set b d.length (ONode.mk a.op a.n (KV.row c) a.pats)))] 4
def bBL:=fun a b c d e f g i j k l m n o p q r s t u v=>aWw a b c d e f g i j k l m|>.t s n o p q t u r v ⟨kk,⟨(aG _ (fun _=>dK _) _),⟨kk,trivial⟩⟩⟩
def bBM:=fun b c d e f g i j k l m n o p a q=>aWw b c d e f g i j k l m n|>.f p o a ⟨a,q⟩ ⟨kk,⟨(aG _ (fun _=>dK _) _),trivial⟩⟩
def bBN (a:List XT)(c:Int)(d:List Con):=fun b e=>(tT 0 (bFq a c d)<|.y fun b:List Con=>.i [rn 5,.reg (rd 8 (.pure (iC b)::rd 3 []))] [hA (aJ PP 90 [(iC d)] (iC b)),hr (nI c),hr (nI c)]<|.i [rn 16,aL a] [.q (p:=((XTs.av a).length:Int) = (a.length:Int)) (fD dJ _)]<|.i [rn 4,.cnil 1 0 4] []<|gu 0 3 (map ONode.av ([] :List ONode))<|gv 0 1 0 (.gl 3 4 0 ([] :List ONode).length false)<|.i [.cnil 1 1 1] []<|gu 0 4 (jI ([] :List Int))<|gv 0 1 1 (.gl 4 1 0 ([] :List Int).length false)<|.W 0 5 [0,1,2,3,4] (aJo a c d b 0 ([] :List ONode) ([] :List Int))) b e ⟨(aG _ (fun _=>dK _) _),⟨kk,trivial⟩⟩
def aWx(g:List XT)(d:Int)(j e:List Con)(f:Int)(a:List ONode)(b:List Int):=tT 0 (aJo g d j e f a b)<|gd 5 25 (f< (g.length:Int)) (.y fun k:Int=>.y fun l:Int=>.y fun m:List XT=>.y fun n:List Pat=>giF dJ 6 g f (XT.mk k l m n)<|.y fun i:List Node=>gk 7 (.enter 119 [(.iptr [(nI k),(nI l),(jV m),(iP n)]),(.ptr 1 0),(.ptr 2 0)]) [aPh 0,oC 1 [(.gl 3 4 0 a.length false),(.gl 4 1 0 b.length false),(nI d),(iC e)],aPg 2,uC 3 a,oL 4 1 (jI b)] 5 (nI (a.length:Int)) [aPh 0,oC 1 [(.gl 5 4 0 (a++map Node.o i).length false),(.gl 4 1 0 b.length false),(nI d),(iC e)],aPg 2,oL 4 1 (jI b),oL 5 4 (map ONode.av (a++map Node.o i))] 6<|ga 7 bU b [(a.length:Int)]<|gw 6 37 (f+1)<|.W 3 8 [0,1,2,5,7] (aJo g d j e (f+1) (a++map Node.o i) (b++ [(a.length:Int)])))<|.y fun c:List Node=>.i [rn 3,.lset 3 (jN c)] [.a (a=map Node.o c) (p':=(map ONode.av a) = (jN c)) aFt]<|.i [.cset 1 0 (.gl 3 4 0 c.length false)] [.a (c.length=a.length) (p':=(AV.gl 3 4 0 a.length false) = (.gl 3 4 0 c.length false)) (fun h=>(bG h.symm))]<|gy 0 1 0 3 4 Node.av c false<|gy 0 1 1 4 1 bU b false<|gE 5 5 (.agg [(iN c),(iI b),(nI d),(iC e)])
def bBO:=fun a b c d e f g i j k l m n o p q r s=>aWx a b c d e f g|>.t n i j k l o p m q r s ⟨(aG _ (fun _=>dK _) _),⟨kk,trivial⟩⟩
def bBP:=fun a b c d e f g i j k l=>aWx a b c d e f g|>.f j i k l tv
mutual
def dS :XT→Nat→List Node
 | .mk o n ks ps,a=> ⟨o,n,(bL ks (a+1)).1,ps⟩ :: (bL ks (a+1)).2
def bL :List XT→Nat→List Int×List Node
 | [],_=> ([],[])
 |t::ts,a=> (((a:Nat) :Int) :: (bL ts (a+ (dS t a).length)).1,dS t a++ (bL ts (a+ (dS t a).length)).2)
end
mutual
theorem fB :∀ (t:XT) (a:Nat),(dS t a).length=eA t
 | .mk o n ks ps,a=>by rw [dS,eA,length_cons,mD ks (a+1)]
theorem mD :∀ (ts:List XT) (a:Nat),(bL ts a).2.length=aK ts
 | [],a=>by rw [bL,aK];rfl
 |t::ts,a=>by rw [bL,aK,length_append,fB t _,mD ts _]
end
abbrev PHc (b n:Nat)(r k:Nat)(mn:Int)(cs:List Con) :AObj:=.cells (putCells .leaf 0 [.gl b 4 0 n false,.gl r 1 0 k false,.int .i64 mn,.ilst 2 (map Con.av cs) false]) 4 [] false
abbrev PBl (fs:List Int)(mn:Int)(cs:List Con)(L:List ONode) :HL:=[(0,PHc 3 (length L) 2 (length fs) mn cs,false),(1,.cells (putCells .leaf 0 [.func 119 [] [.ptr 0 0,.ptr 1 0]]) 1 [] false,false),(2,.lst 1 (map bU fs),true),(3,OL L,true)]
def FPS (fs:List Int)(mn:Int)(cs:List Con)(t:XT)(L:List ONode)(ns:List Node) :Prop:=
 eK PP 3 (.enter 119 [XT.av t,.ptr 0 0,.ptr 1 0]) (aA (PBl fs mn cs L) 4) (.ret (.int .i64 ((length L:Nat) :Int))) (aA (PBl fs mn cs (L++map Node.o ns)) 4)
def bCK (fs:List Int)(mn:Int)(cs:List Con)(L:List ONode)(s:TS)(ns:List Node) :Prop:=Ends PP 3 s.as (.ret (.int .i64 ((length L:Nat) :Int))) (aA (PBl fs mn cs (L++map Node.o ns)) 4)
theorem aCl (fs:List Int)(mn:Int)(cs:List Con)(L:List ONode) :eF (PBl fs mn cs L) := ⟨aG _ (fun _=>rfl) _,bCv L,trivial⟩
section
variable (fs :List Int) (mn:Int) (cs:List Con) (L:List ONode) (o n:Int) (ks:List XT) (ps:List Pat)
theorem aSL (kid:Int)(l:List ONode){ix:Nat}{a b:Int}{Q:List Pat}(h:l[ix]?=some ⟨a,b,.nil,Q⟩) :LeadsM PP 3 (aWt L fs mn cs o n ks ps kid l).as (aQy L fs mn cs o n ks ps kid l ix a b Q).as:=
 bDU (k:=3) (e0:=4) (e:=1) (by kernel_rfl) (by kernel_rfl) (bCB (f:=ONode.av) [.int .i64 a,.int .i64 b] [.ilst 4 (Pats.av Q) false] h rfl) (by kernel_rfl)
theorem aSM (kid:Int)(l:List ONode)(k4:List Int)(u:Value)(i:Int){ix:Nat}{a b:Int}{Q:List Pat}(h:l[ix]?=some ⟨a,b,.val u,Q⟩) :LeadsM PP 3 (aWu L fs mn cs o n ks ps kid l k4 u i).as (aQz L fs mn cs o n ks ps kid l k4 i ix a b Q).as:=
 bBr (k:=3) (b:=4) (e0:=4) (e:=1) (u:=u) (xs:=map bU k4) (n:=length k4) (by kernel_rfl) (by kernel_rfl) (by decide) (length_map ..) (bCB (f:=ONode.av) [.int .i64 a,.int .i64 b] [.ilst 4 (Pats.av Q) false] h rfl) (by kernel_rfl)
variable (hkl :ks.length≤1000) (ih:∀t∈ks,∀ (M:List ONode),M.length+eA t≤1000000→FPS fs mn cs t M (dS t M.length))
include hkl ih
theorem aL1 (P:List Pat) :∀ (ts:List XT) (i:Nat) (u:Value) (r0:List Node) (k3:List Int),ks.drop i=ts→k3.length=i→L.length+1+r0.length+aK ts≤1000000 →
  bCK fs mn cs L (aCk L fs mn cs o n ks ps (L++ ⟨o,n,.val u,P⟩ ::map Node.o r0) k3 u (i:Int)) (⟨o,n,k3++ (bL ts (L.length+1+r0.length)).1,P⟩ :: (r0++ (bL ts (L.length+1+r0.length)).2))
 | [],i,u,r0,k3,h,hk,_=>by
  have:=bE h;have h1:=bBM L fs mn cs o n ks ps (L++ ⟨o,n,.val u,P⟩ ::map Node.o r0) k3 u i ⟨o,n,.val u,P⟩ sd (rT ..) rfl;rw [rU]at h1;rw [bL];simp only [append_nil];exact h1
 | .mk o' n' k' p'::ts,i,u,r0,k3,h,hk,hb=>by
  obtain⟨g1,g2,g3⟩ :=bB h;simp only [aK]at hb;have hlen: (L++ (⟨o,n,.val u,P⟩ :ONode) ::map Node.o r0).length=L.length+1+r0.length:=by simp;omega
  have hs:=ih _ (mem_of_getElem? g1) (L++ ⟨o,n,.val u,P⟩ ::map Node.o r0) (by rw [hlen];omega);rw [hlen]at hs;rw [bL];have hns:=fB (.mk o' n' k' p') (L.length+1+r0.length);generalize dS (.mk o' n' k' p') (L.length+1+r0.length) =ns at hs hns ⊢;unfold FPS at hs;have h0:=bBL L fs mn cs o n ks ps (L++ ⟨o,n,.val u,P⟩ ::map Node.o r0) k3 u i o' n' k' p' ns sd sd sd (nH (m:=3) (ks:=[0,1,2,3]) hs (by kernel_rfl) (by kernel_rfl) (aCl ..) (aCl ..));have e2: (L++ (⟨o,n,.val u,P⟩ :ONode) ::map Node.o r0) ++map Node.o ns=L++ ⟨o,n,.val u,P⟩ ::map Node.o (r0++ns) :=by simp
  rw [e2,hlen]at h0;refine(h0.trans (aSM fs mn cs L o n ks ps _ _ k3 u i (rT L _ _))).ends ?_;refine bBH L fs mn cs o n ks ps _ _ k3 i (length L) o n P (by omega) (by simp;omega) (by omega) (by simp) (by simp;omega) sd (fun ua un uc=>?_);have:=aL1 P ts (i+1) (.slice ua un uc) (r0++ns) (k3++ [((L.length+1+r0.length:Nat) :Int)]) g2 (by simp [hk]) (by simp;omega);dsimp only;rw [rU];rw [length_append,←Nat.add_assoc]at this;simp only [append_assoc,List.singleton_append]at this ⊢;exact this
theorem aWy (P:List Pat)(hb:L.length+1+aK ks≤1000000) :
  bCK fs mn cs L (aPi L fs mn cs o n ks ps (L++ [⟨o,n,.nil,P⟩])) (⟨o,n,(bL ks (L.length+1)).1,P⟩ :: (bL ks (L.length+1)).2) :=by
 cases hks:ks with
 | nil=>
  subst hks;have h1:=bBK L fs mn cs o n [] ps (L++ [⟨o,n,.nil,P⟩]) ⟨o,n,.nil,P⟩ (by simp) (rT ..) rfl;rw [rU]at h1;rw [bL];exact h1
 | cons t ts=>
  obtain⟨o',n',k',p'⟩ :=t;have g1:ks[0]?=some (.mk o' n' k' p') :=by rw [hks];rfl
  rw [←hks];have hlen: (L++ [(⟨o,n,.nil,P⟩ :ONode)]).length=L.length+1:=by simp
  have hb0:eA (.mk o' n' k' p') +aK ts=aK ks:=by rw [hks,aK]
  have hs:=ih _ (mem_of_getElem? g1) (L++ [⟨o,n,.nil,P⟩]) (by rw [hlen];omega);rw [hlen]at hs;have ep:bL ks (L.length+1) =bL (.mk o' n' k' p'::ts) (L.length+1) :=by rw [hks]
  rw [ep,bL];have hns:=fB (.mk o' n' k' p') (L.length+1);generalize dS (.mk o' n' k' p') (L.length+1) =ns at hs hns ⊢;unfold FPS at hs;have h0:=bBJ L fs mn cs o n ks ps (L++ [(⟨o,n,.nil,P⟩ :ONode)]) o' n' k' p' ns (by rw [hks];simp) (by omega) (by simpa using g1) (nH (m:=3) (ks:=[0,1,2,3]) hs (by kernel_rfl) (by kernel_rfl) (aCl ..) (aCl ..));have e2: (L++ [(⟨o,n,.nil,P⟩ :ONode)]) ++map Node.o ns=L++ ⟨o,n,.nil,P⟩ ::map Node.o ns:=by simp
  rw [e2,hlen]at h0;refine(h0.trans (aSL fs mn cs L o n ks ps _ _ (rT L _ _))).ends ?_;refine bBG L fs mn cs o n ks ps _ _ (length L) o n P (by omega) (by simp;omega) (by omega) (by simp) (by simp) (fun ua un uc=>?_);have:=aL1 fs mn cs L o n ks ps hkl ih P ts 1 (.slice ua un uc) ns [((L.length+1:Nat) :Int)] (by rw [hks];rfl) rfl (by omega);dsimp only;rw [rU];exact this
end
theorem aAs :∀ (ps:List Pat),(∀q∈ps,bW q≤1000) →bF ps≤1000*ps.length
 | [],_=>by simp [bF]
 | q::ps,h=>by
  have:=aAs ps (fun x hx=>h x (List.mem_cons_of_mem _ hx));have:=h q (List.mem_cons_self ..);simp only [bF,length_cons];omega
mutual
theorem aL2 (fs:List Int)(mn:Int)(cs:List Con){B:Int}:∀ (t:XT),FineX B t→ (∀L:List ONode,L.length+eA t≤1000000→FPS fs mn cs t L (dS t L.length))
 | .mk o n ks ps,hf=>fun L hb=>by
  simp only [FineX]at hf;obtain⟨_,f2,f3,_,_,f6,f7⟩ :=hf;simp only [eA]at hb;have f6:=f6.2.1;have hps:=aAs ps f3;have hps:bF ps<1000000:=by omega
  rw [dS];refine⟨(bCJ L fs mn cs o n ks ps).as.fr,by kernel_rfl,?_⟩;refine(bBI L fs mn cs o n ks ps ps (aLG ps hps) (by simp;omega)).ends ?_;exact aWy fs mn cs L o n ks ps f2 (aQA fs mn cs ks f7) ps (by omega)
theorem aQA (fs:List Int)(mn:Int)(cs:List Con){B:Int}:∀ (ks:List XT),FineXs B ks→∀t∈ks,∀ (M:List ONode),M.length+eA t≤1000000→FPS fs mn cs t M (dS t M.length)
 | [],_,t,ht=>by cases ht
 | k::ks,hf,t,ht=>by
  simp only [FineXs]at hf;rcases List.mem_cons.1 ht with e|ht
  ·rw [e];exact aL2 fs mn cs k hf.1
  ·exact aQA fs mn cs ks hf.2 t ht
end
def aFu :List XT→Nat→List Int×List Node:=bL
def fP (ts:List XT)(mn:Int)(cs:List Con) :Prog:= ⟨(aFu ts 0).2,(aFu ts 0).1,mn,cs⟩
theorem aL3 (ts:List XT)(mn:Int)(cs:List Con){B:Int}(hl:ts.length≤1000) :∀ (tl:List XT) (i:Nat) (l3:List Node) (l4:List Int),ts.drop i=tl→FineXs B tl→l3.length+aK tl≤100000→l4.length=i →
  Ends PP 0 (aJo ts mn cs cs (i:Int) (map Node.o l3) l4).as (.ret (Prog.av ⟨l3++ (bL tl l3.length).2,l4++ (bL tl l3.length).1,mn,cs⟩)) (aA [] 0)
 | [],i,l3,l4,h,_,_,_=>by
  have:=bE h;have e:=bBP ts mn cs cs (i:Int) (map Node.o l3) l4 l3 sd rfl (by simp);simp only [bL,append_nil];exact e
 | .mk o' n' k' p'::tl,i,l3,l4,h,hf,hb,hi=>by
  obtain⟨g1,g2,g3⟩ :=bB h;simp only [FineXs]at hf;simp only [aK]at hb;have hlen: (map Node.o l3).length=l3.length:=by simp
  have hs:=aL2 l4 mn cs _ hf.1 (map Node.o l3) (by rw [hlen];omega);rw [hlen]at hs;rw [bL];have hns:=fB (.mk o' n' k' p') l3.length;generalize dS (.mk o' n' k' p') l3.length=ns at hs hns ⊢;unfold FPS at hs;have st:=bBO ts mn cs cs (i:Int) (map Node.o l3) l4 o' n' k' p' ns sd sd sd (nH (m:=3) (ks:=[1,2,4,3]) hs (by kernel_rfl) (by kernel_rfl) (aCl ..) (aCl ..)) (by simp;omega) sd;refine st.ends ?_;rw [hlen,←List.map_append];have e:=aL3 ts mn cs hl tl (i+1) (l3++ns) (l4++ [((l3.length:Nat) :Int)]) g2 hf.2 (by rw [length_append];omega) (by simp [hi]);rw [length_append]at e;simp only [append_assoc,List.singleton_append]at e ⊢;exact e
theorem aSN (ts:List XT)(mn:Int)(cs:List Con){B:Int}(hl:ts.length≤1000)(hc:cs.length≤1000000)(hf:FineXs B ts)(hs:aK ts≤100000) :aJ PP 76 [fvA ts mn cs] (Prog.av (fP ts mn cs)) :=by
 refine aF (by kernel_rfl) (by simp [AV.keylessL,AV.keyless,fvA]) rfl ((bBN ts mn cs cs (aFp cs hc)).ends ?_);have e:=aL3 ts mn cs hl ts 0 [] [] rfl hf (by simpa using hs) rfl;exact e
mutual
theorem nX {B C:Int}(h:B≤C) :∀ {t:XT},FineX B t→FineX C t
 | .mk o n ks ps,hf=>by
  simp only [FineX]at hf ⊢;exact⟨fun e=>Int.le_trans (hf.1 e) h,hf.2.1,hf.2.2.1,hf.2.2.2.1,hf.2.2.2.2.1,hf.2.2.2.2.2.1,kC h hf.2.2.2.2.2.2⟩
theorem kC {B C:Int}(h:B≤C) :∀ {ts:List XT},FineXs B ts→FineXs C ts
 | [],_=>trivial
 |t::ts,hf=> ⟨nX h hf.1,kC h hf.2⟩
end
theorem aL4 (fr:Int)(ts:List XT) : (rP fr 1 ts).length=ts.length:=by rw [rQ];simp
mutual
theorem aQB {B fr:Int}:∀ {t:XT},FineX B t→FineX (B+1) (pJ fr 1 t)
 | .mk o n ks ps,hf=>by
  simp only [pJ,FineX]at hf ⊢;rw [aL4];refine⟨fun e=>?_,hf.2.1,hf.2.2.1,hf.2.2.2.1,hf.2.2.2.2.1,hf.2.2.2.2.2.1,aFv hf.2.2.2.2.2.2⟩;have:=hf.1 e;unfold mvN;split<;>omega
theorem aFv {B fr:Int}:∀ {ts:List XT},FineXs B ts→FineXs (B+1) (rP fr 1 ts)
 | [],_=>trivial
 |t::ts,hf=> ⟨aQB hf.1,aFv hf.2⟩
end
mutual
theorem aPj (fr:Int) :∀ (t:XT),eA (pJ fr 1 t) =eA t
 | .mk o n ks ps=>by simp only [pJ,eA];rw [aJp fr ks]
theorem aJp (fr:Int) :∀ (ts:List XT),aK (rP fr 1 ts) =aK ts
 | [] =>rfl
 |t::ts=>by simp only [rP,aK];rw [aPj fr t,aJp fr ts]
end
theorem aSO {B:Int}{ts:List XT}{i:Nat}{t:XT}(h:FineXs B ts)(ht:FineX B t) :FineXs B (ts.set i t) :=fineXs_iff.2 fun x hx=>by
 rcases List.mem_or_eq_of_mem_set hx with g|g
 ·exact fineXs_iff.1 h x g
 ·rw [g];exact ht
theorem aL5 :∀ {ts:List XT} {i:Nat} {t x:XT},ts[i]?=some x→aK (ts.set i t) +eA x=aK ts+eA t
 | [],i,t,x,h=>by simp at h
 |y::ts,0,t,x,h=>by simp at h;subst h;simp only [List.set_cons_zero,aK];omega
 | y::ts,i+1,t,x,h=>by
  have:=aL5 (ts:=ts) (i:=i) (t:=t) (x:=x) (by simpa using h);simp only [List.set_cons_succ,aK];omega
theorem bBQ :dL 7 2≤2:=by decide
theorem aWz :dL 4 0≤0:=by decide
theorem aFw {B:Int}{a b:XT}(ha:FineX B a)(hb:FineX B b) :FineX B (.mk 7 0 [a,b] []) :=by
 simp only [FineX];exact⟨fun e=> (by cases e),by simp,fun q hq=> (by cases hq),fun e=> (by cases e),fun _=>rfl,⟨bBQ,by simp,fun h=>absurd h (by decide),fun q hq=> (by cases hq)⟩,ha,hb,trivial⟩
theorem bBR {B sz:Int}{k:Nat}{o n:Int}{ks:List XT}{ps:List Pat}{x:XT}(hf:FineX B (.mk o n ks ps))(hx:ks[k]?=some x)(hs:sz≤B+1) :FineX (B+1) (dnT sz k o n ks ps x) ∧eA (dnT sz k o n ks ps x) =eA (.mk o n ks ps) +2:=by
 simp only [FineX]at hf;have hmv:FineXs (B+1) (ks.map (pJ sz 1)) :=by rw [←rQ];exact aFv hf.2.2.2.2.2.2
 have hnm:FineX (B+1) (.mk 4 sz [] []) :=by
  simp only [FineX];exact⟨fun _=>hs,by simp,fun q hq=> (by cases hq),fun e=> (by cases e),fun e=> (by cases e),⟨aWz,by simp,fun h=>absurd h (by decide),fun q hq=> (by cases hq)⟩,trivial⟩
 constructor
 · refine aFw (nX (by omega) (fineXs_iff.1 hf.2.2.2.2.2.2 x (mem_of_getElem? hx))) ?_;simp only [FineX,length_set,length_map];exact⟨fun e=>by have:=hf.1 e;omega,hf.2.1,hf.2.2.1,hf.2.2.2.1,hf.2.2.2.2.1,hf.2.2.2.2.2.1,aSO hmv hnm⟩
 · have hg: (ks.map (pJ sz 1))[k]?=some (pJ sz 1 x) :=by rw [getElem?_map,hx];rfl
   have:=aL5 (t:=.mk 4 sz [] []) hg;rw [aPj,←rQ,aJp,rQ]at this;simp only [dnT,eA,aK]at this ⊢;omega
theorem aSP {B sz:Int}:∀ {t:XT} {s:Option Nat},FineX B t→dM t=some s→sz≤B+1→FineX (B+1) (kN sz s t) ∧eA (kN sz s t) ≤eA t+2
 | .mk o n ks ps,some k,hf,hs,hz=>by
  obtain⟨x,hx⟩ :∃x,ks[k]?=some x:=by
   simp only [dM]at hs;by_cases g:o=7
   · rw [if_pos g]at hs;split at hs
     ·split at hs<;>cases hs
     ·cases hs
   · rw [if_neg g]at hs;cases hfx:dI ks 0 (dL o ks.length)with
     |none=>rw [hfx]at hs;cases hs
     | some k'=>
      rw [hfx]at hs;cases hs;obtain⟨x,hx,_⟩ :=tW hfx (rfl:ks.drop 0=ks);exact⟨x,hx⟩
  have:=bBR hf hx hz;simp only [kN,lG hx];exact⟨this.1,by rw [this.2];exact Nat.le_refl _⟩
 | .mk o n ks ps,none,hf,hs,hz=>by
  have hf':=hf;simp only [FineX]at hf;have h7:o=7:=by
   simp only [dM]at hs;by_cases g:o=7
   ·exact g
   · rw [if_neg g]at hs;cases hfx:dI ks 0 (dL o ks.length)with
     |none=>rw [hfx]at hs;cases hs
     |some k=>rw [hfx]at hs;cases hs
  have hl:=hf.2.2.2.2.1 h7
  match ks,hl,hf,hs with
  | [.mk o2 n2 k2 p2,c],_,hf,hs=>
   have ho2:o2=7:=by
    simp only [dM,if_pos h7,List.getElem?_cons_zero,XT.op]at hs;by_cases g:o2=7
    ·exact g
    ·simp [g]at hs
   have hfs:=hf.2.2.2.2.2.2;simp only [FineXs,FineX]at hfs;have hl2:=hfs.1.2.2.2.2.1 ho2
   match k2,hl2,hfs with
   | [a,b],_,hfs=>
    simp only [FineXs]at hfs;simp only [kN,List.getD_cons_zero,List.getD_cons_succ,XT.kids,neT];refine⟨aFw (nX (by omega) hfs.1.2.2.2.2.2.2.1) (aFw (nX (by omega) hfs.1.2.2.2.2.2.2.2.1) (aQB hfs.2.1)),?_⟩;simp only [eA,aK,aPj];omega
mutual
theorem aL6 {B node:Int}:∀ {t:XT} {n0 z0:Int} {t':XT},FineX B t→0≤z0→z0+1000* (eA t:Nat) ≤B+1→atT node t n0 z0= .did t'→FineX (B+1) t'∧eA t'≤eA t+2
 | .mk o n ks ps,n0,z0,t',hf,h0,hz,h=>by
  have hf':=hf
  have hkid:∀ks',jE node o ps ks 0 (n0+1) z0= .did ks'→FineX (B+1) (.mk o n ks' ps) ∧eA (.mk o n ks' ps) ≤eA (.mk o n ks ps) +2:=fun ks' e=>by
   simp only [FineX]at hf ⊢;simp only [eA]at hz ⊢;obtain⟨a1,a2,a3⟩ :=aG7 hf.2.2.1 hf.2.2.2.2.2.2 h0 (by omega) e;rw [a3];exact⟨⟨fun e=>by have:=hf.1 e;omega,hf.2.1,hf.2.2.1,hf.2.2.2.1,hf.2.2.2.2.1,hf.2.2.2.2.2.1,a1⟩,by omega⟩
  rw [aV2]at h
  have lift:∀r,wI o n ps [] r= .did t'→∃ks',r= .did ks'∧t'= .mk o n ks' ps:=fun r hr=>by
   cases r with
   |go m=>cases hr
   |past=>cases hr
   |did ks'=>simp only [wI,List.nil_append]at hr;cases hr;exact⟨ks',rfl,rfl⟩
  cases hs:dM (.mk o n ks ps)with
  | none=>
   rw [hs]at h;obtain⟨ks',e,rfl⟩ :=lift _ h;exact hkid ks' e
  | some s=>
   rw [hs]at h;dsimp only at h;split at h
   · cases h;simp only [eA]at hz;exact aSP hf' hs (by omega)
   · split at h
     ·cases h
     · obtain⟨ks',e,rfl⟩ :=lift _ h;exact hkid ks' e
theorem aG7 {B node:Int}{o:Int}{ps:List Pat}(f3:∀q∈ps,bW q≤1000) :∀ {ts:List XT} {i:Nat} {n z:Int} {ts':List XT},FineXs B ts→0≤z→z+1000+1000* (aK ts:Nat) ≤B+1→jE node o ps ts i n z= .did ts'→FineXs (B+1) ts'∧aK ts'≤aK ts+2∧ts'.length=ts.length
 | [],i,n,z,ts',_,_,_,h=>by simp only [jE]at h;cases h
 | t ::ts,i,n,z,ts',hf,h0,hz,h=>by
  have ha:=wH (o:=o) f3 (i:Int);simp only [FineXs]at hf;simp only [aK]at hz ⊢;simp only [jE]at h;split at h
  · rename_i m e;split at h
    ·cases h
    ·cases h
    · rename_i ts2 e2;cases h;obtain⟨a1,a2,a3⟩ :=aG7 f3 hf.2 h0 (by omega) e2;exact⟨⟨nX (by omega) hf.1,a1⟩,by simp only [aK];omega,by simp [a3]⟩
  ·cases h
  · rename_i t2 e;cases h;obtain⟨a1,a2⟩ :=aL6 hf.1 (by omega) (by omega) e;exact⟨⟨a1,kC (by omega) hf.2⟩,by simp only [aK];omega,rfl⟩
end
theorem aBA {B node:Int}:∀ {ts:List XT} {n:Int} {ts':List XT},FineXs B ts→1+1000* (aK ts:Nat) ≤B+1→atF node ts n= .did ts'→FineXs (B+1) ts'∧aK ts'≤aK ts+2
 | [],n,ts',_,_,h=>by simp only [atF]at h;cases h
 | t ::ts,n,ts',hf,hz,h=>by
  simp only [FineXs]at hf;simp only [aK]at hz ⊢;simp only [atF]at h;split at h
  · split at h
    ·cases h
    ·cases h
    · rename_i ts2 e2;cases h;obtain⟨a1,a2⟩ :=aBA hf.2 (by omega) e2;exact⟨⟨nX (by omega) hf.1,a1⟩,by simp only [aK];omega⟩
  ·cases h
  · rename_i t2 e;cases h;obtain⟨a1,a2⟩ :=aL6 hf.1 (by omega) (by omega) e;exact⟨⟨a1,kC (by omega) hf.2⟩,by simp only [aK];omega⟩
def zeroV :AV:=.agg [.ilst 4 (map Node.av ([] :List Node)) true,.ilst 1 (map bU ([] :List Int)) true,.int .i64 0,.ilst 2 (map Con.av ([] :List Con)) true]
def iM :Prog:= ⟨[],[],0,[]⟩
theorem bBS {E:Emb}{v:Value}(h:VR E zeroV v) :VR E (Prog.av iM) v:=by
 simp only [zeroV,VR]at h;obtain⟨us,rfl,h2⟩ :=h;obtain⟨u1,r1,rfl,a1,h2⟩ :=h2.cons_inv;obtain⟨u2,r2,rfl,a2,h2⟩ :=h2.cons_inv;obtain⟨u3,r3,rfl,a3,h2⟩ :=h2.cons_inv;obtain⟨u4,r4,rfl,a4,h2⟩ :=h2.cons_inv;rw [h2.nil_inv];show VR E (.agg [.ilst 4 (map Node.av []) false,.ilst 1 (map bU []) false,.int .i64 0,.ilst 2 (map Con.av []) false]) _;simp only [VR];exact⟨_,rfl,VRs.cons (fX a1) (VRs.cons (fX a2) (VRs.cons a3 (VRs.cons (fX a4) (VRs.nil _))))⟩
theorem eB {E:Emb}{n:Int}{v:Value}(h:VR E (.tup [zeroV,.int .i64 n]) v) :VR E (.tup [Prog.av iM,.int .i64 n]) v:=by
 simp only [VR]at h ⊢;obtain⟨us,rfl,h2⟩ :=h;obtain⟨u1,r1,rfl,a1,h2⟩ :=h2.cons_inv;exact⟨_,rfl,VRs.cons (bBS a1) h2⟩
theorem bDX (ts:List XT)(mn:Int)(cs:List Con)(node:Int)(q0:List XT)(hn:ts.length=q0.length) :LeadsM PP 0 (aFn ts mn cs node q0).as (aQm ts mn cs node q0).as:=by
 have z:=iE (P:=PP) (m:=0) (fr:= (aFn ts mn cs node q0).as.fr) (cs:=[]) (h:= (aFn ts mn cs node q0).as.h)
  (h1:=aA [(0,(.cells (putCells .leaf 0 [(.ptr 2 0)]) 1 [] false),false),(1,(.cells (putCells .leaf 0 [.nils,.nils,(.int .i64 0),.nils]) 4 [] false),false)] 5)
  (k:=0) (o:=0) (n:=1) (t:=putCells .leaf 0 [(.ptr 2 0)]) (ol:=[]) (sup:=false) (v:=.ptr 2 0) (v':=fvA q0 mn cs) (by kernel_rfl) (by kernel_rfl) (by kernel_rfl)
  (fun hm=>aIb (k:=2) (q:=3) (z:=4) (n:=ts.length) (mn:=mn) (cs:=cs) (ts:=q0) (by kernel_rfl) (by kernel_rfl) hn (by kernel_rfl)
   (aT (l:=[(0,(.cells (putCells .leaf 0 [(.ptr 2 0)]) 1 [] false),false),(1,(.cells (putCells .leaf 0 [.nils,.nils,(.int .i64 0),.nils]) 4 [] false),false)]) (nb:=5) (Q:=fun b o=>b∉ [2,4] ∧ (aFn ts mn cs node q0).as.h.look b=some o) ⟨⟨by decide,by kernel_rfl⟩,⟨by decide,by kernel_rfl⟩,trivial⟩) hm)
 exact Eq.mp (by kernel_rfl) z
noncomputable def pL (ts:List XT)(mn:Int)(cs:List Con)(node:Int) :Prog×Int:=
 match atF node ts 0 with
 | .did ts'=>if aBx 30 cs ts' then(fP ts' mn cs,0)else(iM,3)
 |_=> (iM,7)
theorem aJq {ts:List XT}{mn:Int}{cs:List Con}{node m:Int}(h:atF node ts 0= .go m) :pL ts mn cs node= (iM,7) :=by unfold pL;rw [h]
theorem aCm {ts:List XT}{mn:Int}{cs:List Con}{node:Int}(h:atF node ts 0= .past) :pL ts mn cs node= (iM,7) :=by unfold pL;rw [h]
theorem aQC {ts ts':List XT}{mn:Int}{cs:List Con}{node:Int}(h:atF node ts 0= .did ts')(hz:aBx 30 cs ts'=false) :pL ts mn cs node= (iM,3) :=by unfold pL;rw [h];simp [hz]
theorem aL7 {ts ts':List XT}{mn:Int}{cs:List Con}{node:Int}(h:atF node ts 0= .did ts')(hz:aBx 30 cs ts'=true) :pL ts mn cs node= (fP ts' mn cs,0) :=by unfold pL;rw [h];simp [hz]
theorem aSQ {ts:List XT}{mn:Int}{cs:List Con}{node:Int}(hl:ts.length≤1000)(hc:cs.length≤1000000)(hf:FineXs 500000 ts)(hs:aK ts≤400) :
  eK PP 0 (.enter 53 [.ptr 0 0,.int .i64 node]) (aA (FHl ts.length mn cs ts) 3) (.ret (.tup [Prog.av (pL ts mn cs node).1,.int .i64 (pL ts mn cs node).2])) (aA [] 0) :=by
 refine⟨(bCx ts mn cs node).as.fr,by kernel_rfl,?_⟩;have sp:=bA5 node 500000 (by omega) ts mn cs hl hf (by omega);cases hr:atF node ts 0 with
 | go m=>
  rw [hr]at sp;rw [aJq hr];have e:=aQn ts mn cs node (nH (m:=2) (ks:=[0,1,2]) sp (by kernel_rfl) (by kernel_rfl) trivial trivial);exact Ends.val (cN (ks:=[]) (l:=[]) (nb:=0) e (by kernel_rfl) (by kernel_rfl) (by kernel_rfl) trivial) (fun E cv h=>eB h)
 | past=>
  rw [hr]at sp;rw [aCm hr];have e:=aQn ts mn cs node (nH (m:=2) (ks:=[0,1,2]) sp (by kernel_rfl) (by kernel_rfl) trivial trivial);exact Ends.val (cN (ks:=[]) (l:=[]) (nb:=0) e (by kernel_rfl) (by kernel_rfl) (by kernel_rfl) trivial) (fun E cv h=>eB h)
 | did ts'=>
  rw [hr]at sp;have hln:=aQi node ts 0 ts' hr;obtain⟨f1,f2⟩ :=aBA hf (by omega) hr;have st:= (bBh ts mn cs node ts' (nH (m:=2) (ks:=[0,1,2]) sp (by kernel_rfl) (by kernel_rfl) trivial trivial)).trans (bDX ts mn cs node ts' hln.symm);have fp:=aSJ ts' mn cs 30 _ (by omega) f1 (by omega);cases hz:aBx 30 cs ts'
  case false=>
   rw [hz]at fp;rw [aQC hr hz];exact Ends.val (st.ends (bBi ts mn cs node ts' _ fp rfl)) (fun E cv h=>eB h)
  rw [hz]at fp;rw [aL7 hr hz];exact st.ends (bBj ts mn cs node ts' _ (fP ts' mn cs) fp rfl (aSN ts' mn cs (by omega) hc f1 (by omega)))
mutual
theorem bBT {p:Prog}(hp:FineP p) :∀ (t:XT) (a:Int) (f:Nat),IsTree p t a→p.nodes.length-a.toNat≤f→ (pre p f a).length=eA t
 | .mk o n ks ps,a,f,h,hf=>by
  simp only [IsTree]at h;obtain⟨h0,nd,h1,rfl,rfl,rfl,h5⟩ :=h;have hlt:= (List.getElem?_eq_some_iff.1 h1).1;obtain⟨_,_,hk⟩ :=hp.node _ nd h1
  match f,hf with
  |0,hf=>omega
  | g+1,hf=>
   simp only [pre,h1,eA,length_cons];rw [aFx hp ks nd.kids g h5 (fun k hkm=>by have:=hk k hkm;omega)]
theorem aFx {p:Prog}(hp:FineP p) :∀ (ts:List XT) (l:List Int) (g:Nat),aR p ts l→ (∀k∈l,p.nodes.length-k.toNat≤g) → ((l.map (pre p g)).flatten).length=aK ts
 | [],l,g,h,_=>by simp only [aR]at h;subst h;rfl
 | t::ts,l,g,h,hk=>by
  simp only [aR]at h;obtain⟨k,l',rfl,h1,h2⟩ :=h;simp only [List.map_cons,List.flatten_cons,length_append,aK];rw [bBT hp t k g h1 (hk k (List.mem_cons_self ..)),aFx hp ts l' g h2 (fun x hx=>hk x (List.mem_cons_of_mem _ hx))]
end
theorem mE {p:Prog}(hs:aE p=true)(hf:aH p=true){ts:List XT}(ht:aR p ts p.funs) :aK ts=p.nodes.length:=by
 obtain⟨hp,_,_⟩ :=eE hs hf;obtain⟨_,h2,_⟩ :=aPe hs hf;rw [←h2,aFx hp ts p.funs p.nodes.length ht (fun k _=>by omega)]
theorem aCZ {p:Prog}(hf:aH p=true) :p.funs≠ [] :=fun e=>by
 simp only [aH,dZ,Bool.and_eq_true]at hf;have h:=hf.1.1;simp [e,dR]at h
noncomputable def doX (p:Prog)(ts:List XT)(node:Int) :Prog×Int:=
 if node<0∨node≥ (p.nodes.length:Int)then(iM,2)
 else if aH p=false then(iM,2)
 else if(dF p).1=false then(iM,7)
 else pL ts p.main p.cons node
theorem bBU {p:Prog}(hs:aE p=true){ts:List XT}(ht:aH p=true→aR p ts p.funs)(node:Int) :aJ PP 19 [Prog.av p,.int .i64 node] (.tup [Prog.av (doX p ts node).1,.int .i64 (doX p ts node).2]) :=by
 have kl:∀r:Prog×Int,AV.keyless (.tup [Prog.av r.1,.int .i64 r.2]) =true:=fun r=>rfl;refine mZ (s:=bCw p node) (by kernel_rfl) (by kernel_rfl) rfl (kl _) ?_;unfold doX;have hb:=hs;simp only [aE,Bool.and_eq_true,decide_eq_true_eq]at hb;by_cases h1:node<0
 · rw [if_pos (.inl h1)];exact Ends.val (bBc p node sd) (fun E cv h=>eB h)
 · by_cases h2:node≥ (p.nodes.length:Int)
   · rw [if_pos (.inr h2)];exact Ends.val (bBd p node sd sd) (fun E cv h=>eB h)
   · rw [if_neg (by omega)];cases hf:aH p
     case false=>
      rw [if_pos rfl];exact Ends.val (bBf p node sd sd (nH (m:=0) (ks:=[]) (bCz hs hf) (by kernel_rfl) (by kernel_rfl) trivial trivial)) (fun E cv h=>eB h)
     rw [if_neg (by decide)];cases hc: (dF p).1
     case false=>
      rw [if_pos rfl];exact Ends.val (bBe p node sd sd (nH (m:=0) (ks:=[]) (aQq hs hf hc) (by kernel_rfl) (by kernel_rfl) trivial trivial)) (fun E cv h=>eB h)
     rw [if_neg (by decide)];have ht:=ht hf;obtain⟨hp,_,_⟩ :=eE hs hf;have hsz:=mE hs hf ht;have hln:=gC ht
     have hne:ts≠ [] :=fun e=>by
      rw [e]at hln;exact aCZ hf (List.length_eq_zero_iff.1 hln.symm)
     have hfx:=kC (show(400:Int) ≤500000 by decide) (kB hp (gR hf) ts p.funs ht);have sdd:=aSQ (mn:=p.main) (cs:=p.cons) (node:=node) (ts:=ts) (by omega) (by omega) hfx (by omega);generalize pL ts p.main p.cons node=r at sdd ⊢;obtain⟨q,e⟩ :=r;exact bBg p node ts p.main p.cons q e sd sd (nH (m:=0) (ks:=[]) (aWc hs hf hc ht hne) (by kernel_rfl) (by kernel_rfl) trivial trivial) (nH (m:=0) (ks:=[2,3,4]) sdd (by kernel_rfl) (by kernel_rfl) trivial trivial)
abbrev aFy (a:Nat)(b c:Int)(d:List XT)(e:List Pat):=oC a [(nI b),(nI c),(.gl 12 1 0 d.length false),(iP e)]
abbrev aWA (a b:List Int)(c:List (Nat×Nat))(d e:Int)(f:Nat)(g h:Int)(i:List XT)(j:List Pat)(k:List XT):=aA [(0,(.loop .ready none 93 (cP [kp 2 6]) 19 [6] (kd f93 28) (kd f93 29) 2),false),oC 1 [(.ptr 7 0)],(2,(.defd false),false),oC 3 [(.gl 15 1 0 (a++b).length false)],(4,(.loop .ready none 17 (cP [kp 6 3]) 25 [18] (kd f17 500) (kd f17 501) 5),false),(5,(.defd false),false),oC 6 [(.yield 4)],oL 8 1 (map aO c),oC 9 [(nI d),(nI e),(.ep 8 1 f 0)],aFy 10 g h i j,(12,gh,false),(13,(.zone true [10] (cU c (set (map some k) f none) f)),false),oL 15 1 (jI (a++b)),(16,(.zone true [12] (bN i)),false)] 17
abbrev aJr (a:List Int)(b:List (Nat×Nat))(c d:Int)(e:Nat)(f g:Int)(h:List XT)(i:List Pat)(j:List XT):=aA [(0,(.loop .ready none 93 (cP [kp 2 6]) 19 [6] (kd f93 28) (kd f93 29) 2),false),oC 1 [(.ptr 7 0)],(2,(.defd false),false),oC 3 [(.gl 11 1 0 a.length false)],(4,(.loop .ready none 17 (cP [kp 6 3]) 25 [18] (kd f17 500) (kd f17 501) 5),false),(5,(.defd false),false),oC 6 [(.yield 4)],oL 8 1 (map aO b),oC 9 [(nI c),(nI d),(.ep 8 1 e 0)],aFy 10 f g h i,oL 11 1 (jI a),(12,gh,false),(13,(.zone true [10] (cU b (set (map some j) e none) e)),false),(14,(.zone true [12] (bN h)),false)] 15
abbrev aPk (a:List Int)(b:List (Nat×Nat))(c d:Int)(e:Nat)(f:List XT):=aA [(0,(.loop .busy none 93 (cP [kp 2 6]) 19 [6] (kd f93 28) (kd f93 29) 2),false),oC 1 [(.ptr 7 0)],(2,(.defd false),false),oC 3 [(.gl 11 1 0 a.length false)],(4,(.loop .ready none 17 (cP [kp 6 3]) 25 [18] (kd f17 500) (kd f17 501) 5),false),(5,(.defd false),false),oC 6 [(.yield 4)],oL 8 1 (map aO b),oC 9 [(nI c),(nI d),(.ep 8 1 e 0)],oC 10 [(nI c),(nI d),(.ep 8 1 e 0)],oL 11 1 (jI a),(13,(.zone true [] (ZV b (map some f))),false)] 14
abbrev aCn (a:Nat)(b:Prog):=oC a [(iN b.nodes),(iI b.funs),(nI b.main),(iC b.cons)]
abbrev kD (a:Nat)(b c:Int)(d:Nat):=oC a [(nI b),(nI c),(.ep 8 1 d 0)]
abbrev aAt (a:Nat)(b:List Int):=oC a [(.gl 11 1 0 b.length false)]
abbrev qV (a:Nat)(b:List (Nat×Nat)):=oL a 1 (map aO b)
def bCL(a:Prog):TS:=bC PP 17 [(Prog.av a)] [] 0
def aJs(i:Prog)(c d:Int)(e:List Con)(a:List XT)(f g:Int)(b:List Int):TS:=⟨(tf 135 26 [(0,(.yield 0)),kp 1 1,(3,(nI f)),(9,(nI c)),(10,(nI g))] [kc f135 28,kl f135 28,.inBlock 0]),[(tf 93 19 [] [.inRF 0,.inBlock 0] (defers:=[.col 2])),(tf 17 25 [(2,.nils),(3,(nI 0)),kp 6 3] [.inRF 4,.inBlock 0,kc f17 63] (defers:=[.col 5]))],[(0,(.loop .ready none 93 (cP [kp 2 6]) 19 [6] (kd f93 28) (kd f93 29) 2),false),oC 1 [(.ptr 7 0)],(2,(.defd false),false),oC 3 [(.gl 8 1 0 b.length false)],(4,(.loop .ready none 17 (cP [kp 6 3]) 25 [18] (kd f17 500) (kd f17 501) 5),false),(5,(.defd false),false),oC 6 [(.yield 4)],oC 7 [(.gl 9 1 0 a.length false),(nI d),(iC e)],oL 8 1 (jI b),(9,gh,false),(10,(.zone true [9] (bN a)),false)],11⟩
def aWB(a:List Int)(b c:Int)(d:List XT)(e:Nat)(f:List (Nat×Nat))(g i:Int)(j:List XT)(k:List Pat):TS:=bC PP 136 [(.agg [(nI b),(nI c),(.ep 8 1 e 0)]),(.yield 0)] [(0,(.loop .ready none 93 (cP [kp 2 6]) 19 [6] (kd f93 28) (kd f93 29) 2),false),oC 1 [(.ptr 7 0)],(2,(.defd false),false),oC 3 [(.gl 9 1 0 a.length false)],(4,(.loop .ready none 17 (cP [kp 6 3]) 25 [18] (kd f17 500) (kd f17 501) 5),false),(5,(.defd false),false),oC 6 [(.yield 4)],(8,gh,false),oL 9 1 (jI a),(10,(.zone true [8] (bN d)),false)] 11
def aJt(d:List Int)(a b:Int)(e:List XT)(c:Nat)(f:List (Nat×Nat))(g i:Int)(j:List XT)(k:List Pat):TS:=⟨(tf 93 19 [kp 2 6,kp 3 9] [kc f93 116,kc f93 117,.inBlock 1] (roundOf:=some 0)),[(tf 136 48 [(1,(.yield 0)),kp 2 10,(4,(nI 0)),(8,(.yield 0)),(9,(.agg [(nI a),(nI b),(.ep 8 1 c 0)]))] [ko f136 12 2,kc f136 13,kc f136 7])],[(0,(.loop .busy none 93 (cP [kp 2 6]) 19 [6] (kd f93 28) (kd f93 29) 2),false),oC 1 [(.ptr 7 0)],(2,(.defd false),false),aAt 3 d,(4,(.loop .ready none 17 (cP [kp 6 3]) 25 [18] (kd f17 500) (kd f17 501) 5),false),(5,(.defd false),false),oC 6 [(.yield 4)],(8,gh,false),kD 9 a b c,kD 10 a b c,oL 11 1 (jI d),(12,(.zone true [8] (bN e)),false)],13⟩
def aBB(d:List Int)(a b:Int)(f:List XT)(c:Nat)(e:List (Nat×Nat))(g i:Int)(j:List XT)(k:List Pat):TS:=⟨(tf 93 19 [kp 2 6,kp 3 9] [kc f93 116,kc f93 117,.inBlock 1] (roundOf:=some 0)),[(tf 136 48 [(1,(.yield 0)),kp 2 10,(4,(nI 0)),(8,(.yield 0)),(9,(.agg [(nI a),(nI b),(.ep 8 1 c 0)]))] [ko f136 12 2,kc f136 13,kc f136 7])],[(0,(.loop .busy none 93 (cP [kp 2 6]) 19 [6] (kd f93 28) (kd f93 29) 2),false),oC 1 [(.ptr 7 0)],(2,(.defd false),false),aAt 3 d,(4,(.loop .ready none 17 (cP [kp 6 3]) 25 [18] (kd f17 500) (kd f17 501) 5),false),(5,(.defd false),false),oC 6 [(.yield 4)],qV 8 e,kD 9 a b c,kD 10 a b c,oL 11 1 (jI d),(13,(.zone true [] (ZV e (map some f))),false)],14⟩
def aBC(i:List Int)(a d:Int)(e:List XT)(f:Nat)(b:List (Nat×Nat))(j k:Int)(l:List XT)(m:List Pat)(g:Nat×Nat)(c:List Int):TS:=⟨(tf 136 48 [(1,(.yield 0)),kp 2 9,(4,(nI 0)),(5,(nI (a+1))),(6,(aO g))] [kc f136 124,kc f136 125,kc f136 63]),[],[(0,(.loop .ready none 93 (cP [kp 2 6]) 19 [6] (kd f93 28) (kd f93 29) 2),false),oC 1 [(.ptr 7 0)],(2,(.defd false),false),oC 3 [(.gl 10 1 0 c.length false)],(4,(.loop .ready none 17 (cP [kp 6 3]) 25 [18] (kd f17 500) (kd f17 501) 5),false),(5,(.defd false),false),oC 6 [(.yield 4)],qV 8 b,kD 9 a d f,oL 10 1 (jI c),(11,(.zone true [] (ZV b (map some e))),false)],12⟩
def aFz(l:List Int)(b f:Int)(g:List XT)(a:Nat)(c:List (Nat×Nat))(i j:Int)(d:List XT)(k:List Pat)(m:Nat×Nat)(e:List Int):TS:=⟨(tf 136 48 [(1,(.yield 0)),kp 2 9,(4,(nI 0)),(5,(nI (b+1))),kp 6 12] [kc f136 124,kc f136 125,kc f136 63]),[],[(0,(.loop .ready none 93 (cP [kp 2 6]) 19 [6] (kd f93 28) (kd f93 29) 2),false),oC 1 [(.ptr 7 0)],(2,(.defd false),false),oC 3 [(.gl 10 1 0 e.length false)],(4,(.loop .ready none 17 (cP [kp 6 3]) 25 [18] (kd f17 500) (kd f17 501) 5),false),(5,(.defd false),false),oC 6 [(.yield 4)],qV 8 c,kD 9 b f a,oL 10 1 (jI e),oC 12 [(nI i),(nI j),(.gl 13 1 0 d.length false),(iP k)],(13,gh,false),(14,(.zone true [13] (bN d)),false),(15,(.zone true [12] (cU c (set (map some g) a none) a)),false)],16⟩
def aDI(n:List Int)(e f:Int)(g:List XT)(a:Nat)(c:List (Nat×Nat))(i j:Int)(b:List XT)(k:List Pat)(d:List Int)(l m:Int):TS:=⟨(tf 136 48 [(1,(.yield 0)),kp 2 9,(4,(nI 0)),(5,(nI l)),kp 6 10,(23,(nI (b.length:Int))),(24,(nI m))] [kc f136 500,kl f136 500,.inBlock 0,kc f136 63]),[],[(0,(.loop .ready none 93 (cP [kp 2 6]) 19 [6] (kd f93 28) (kd f93 29) 2),false),oC 1 [(.ptr 7 0)],(2,(.defd false),false),aAt 3 d,(4,(.loop .ready none 17 (cP [kp 6 3]) 25 [18] (kd f17 500) (kd f17 501) 5),false),(5,(.defd false),false),oC 6 [(.yield 4)],qV 8 c,kD 9 e f a,aFy 10 i j b k,oL 11 1 (jI d),(12,gh,false),(13,(.zone true [10] (cU c (set (map some g) a none) a)),false),(14,(.zone true [12] (bN b)),false)],15⟩
def aPl(a:Prog):=tT 0 (bCL a)<|.o (gk 9 (.enter 34 [(Prog.av a)]) [aCn 0 a] 1 (.tup [.nilp,(nI 7)]) [aCn 0 a] 1<|.i [rn 20,.nilI 2 1] []<|gE 0 1 (.tup [(.ilst 1 (jI ([] :List Int)) true),(nI 7)]))<|.o (gk 9 (.enter 34 [(Prog.av a)]) [aCn 0 a] 1 (.tup [.nilp,(nI 2)]) [aCn 0 a] 1<|.i [rn 20,.nilI 2 1] []<|gE 0 1 (.tup [(.ilst 1 (jI ([] :List Int)) true),(nI 2)]))<|.y fun b:List XT=>.y fun c:Int=>.y fun d:List Con=>gk 9 (.enter 34 [(Prog.av a)]) [aCn 0 a] 1 (.tup [(.ptr 1 0),(nI 0)]) [aCn 0 a,oC 1 [(.gl 2 1 0 b.length false),(nI c),(iC d)],(2,gh,false),(3,(.zone true [2] (bN b)),false)] 4<|.i [rn 38,.lkeep 7 [6]] []<|.i [rn 23,.lkeep 11 [2]] []<|.i [rn 15,.cnil 4 0 1] []<|gu 0 12 (jI ([] :List Int))<|gv 0 4 0 (.gl 12 1 0 ([] :List Int).length false)<|.W 0 13 [11,9,10,4,7,6,8,1,12,2,3] (aJs a (b.length:Int) c d b 0 0 ([] :List Int))
def bBV:=fun a b=>aPl a|>.1 b tv
def bBW:=fun a b=>aPl a|>.2|>.1 b tv
def bBX:=fun a b c d e=>aPl a|>.2|>.2 b c d e ⟨kk,trivial⟩
def aWC(j:Prog)(g e:Int)(f:List Con)(b:List XT)(k c:Int)(a:List Int):=tT 0 (aJs j g e f b k c a)<|gd 5 11 (c<g) (.i [rn 17,.ans (.ix)] [hA (0≤c),hA (c< (b.length:Int))]<|.y fun d:List Int=>.y fun i:Int=>gk 2 (.enter 136 [(.agg [(nI k),(nI 1),(.ep 9 1 (0+c.toNat) 0)]),(.yield 0)]) [(0,(.loop .ready none 93 (cP [kp 2 6]) 19 [6] (kd f93 28) (kd f93 29) 2),false),oC 1 [(.ptr 7 0)],(2,(.defd false),false),oC 3 [(.gl 8 1 0 a.length false)],(4,(.loop .ready none 17 (cP [kp 6 3]) 25 [18] (kd f17 500) (kd f17 501) 5),false),(5,(.defd false),false),oC 6 [(.yield 4)],oC 7 [(.gl 9 1 0 b.length false),(nI e),(iC f)],oL 8 1 (jI a),(9,gh,false),(10,(.zone true [9] (bN b)),false)] 11 (nI i) [(0,(.loop .ready none 93 (cP [kp 2 6]) 19 [6] (kd f93 28) (kd f93 29) 2),false),oC 1 [(.ptr 7 0)],(2,(.defd false),false),oC 3 [(.gl 11 1 0 (a++d).length false)],(4,(.loop .ready none 17 (cP [kp 6 3]) 25 [18] (kd f17 500) (kd f17 501) 5),false),(5,(.defd false),false),oC 6 [(.yield 4)],oC 7 [(.gl 9 1 0 b.length false),(nI e),(iC f)],(9,gh,false),oL 11 1 (jI (a++d)),(12,(.zone true [9] (bN b)),false)] 13<|gd 7 24 (i<0) (gz 18 2 11 1 bU (a++d) false<|.E 0 13 [12,9] (.tup [(iI (a++d)),(nI 0)]) [(0,(.zone true [1] (bN b)),false),(1,gh,false)] 2)<|gw 5 25 (c+1)<|.W 3 13 [0,1,2,3,4,5,6,7,11,9,12] (aJs j g e f b i (c+1) (a++d)))<|gz 19 2 8 1 bU a false<|.E 0 11 [10,9] (.tup [(iI a),(nI 0)]) [(0,(.zone true [1] (bN b)),false),(1,gh,false)] 2
def bBY:=fun a b c d e f g i j k l m n o p q=>aWC a b c d e f g i|>.t l m n j k o|>.f p q ⟨kk,trivial⟩
def bBZ:=fun a b c d e f g i j=>aWC a b c d e f g i|>.f j tv
def aWD (a:List Int)(b c:Int)(d:List XT)(e:Nat)(f:List (Nat×Nat))(g i:Int)(j:List XT)(k:List Pat):=(tT 9 (aWB a b c d e f g i j k)<|.W 18 13 [12,11,9,10] (aJt a b c d e f g i j k)) ⟨kk,trivial⟩
def aPm(b:List Int)(a e:Int)(g:List XT)(c:Nat)(d:List (Nat×Nat))(i j:Int)(k:List XT)(l:List Pat):=tT 9 (aBB b a e g c d i j k l)<|.y fun f:Nat×Nat=>.i [rn 4,aI (aO f)] [.a (((d)[c]?) =some f) (aZ (f:=aO))]<|.o (.y fun m:Int=>gk 0 (.enter 95 [(aO f)]) [(0,(.loop .busy none 93 (cP [kp 2 6]) 19 [6] (kd f93 28) (kd f93 29) 2),false),oC 1 [(.ptr 7 0)],(2,(.defd false),false),aAt 3 b,(4,(.loop .ready none 17 (cP [kp 6 3]) 25 [18] (kd f17 500) (kd f17 501) 5),false),(5,(.defd false),false),oC 6 [(.yield 4)],qV 8 d,kD 9 a e c,kD 10 a e c,oL 11 1 (jI b),(13,(.zone true [] (ZV d (map some g))),false)] 14 (.iface 193 (nI m)) [(0,(.loop .busy none 93 (cP [kp 2 6]) 19 [6] (kd f93 28) (kd f93 29) 2),false),oC 1 [(.ptr 7 0)],(2,(.defd false),false),aAt 3 b,(4,(.loop .ready none 17 (cP [kp 6 3]) 25 [18] (kd f17 500) (kd f17 501) 5),false),(5,(.defd false),false),oC 6 [(.yield 4)],qV 8 d,kD 9 a e c,kD 10 a e c,oL 11 1 (jI b),(13,(.zone true [] (ZV d (map some g))),false)] 14<|ga 16 bU b [a]<|gw 20 14 (a+1)<|.i [rn 7,aI (aO f)] [.a (((d)[c]?) =some f) (aZ (f:=aO))]<|.W 4 17 [10,16,13] (aBC b a e g c d i j k l f (b++ [a])))<|.o (gk 0 (.enter 95 [(aO f)]) [(0,(.loop .busy none 93 (cP [kp 2 6]) 19 [6] (kd f93 28) (kd f93 29) 2),false),oC 1 [(.ptr 7 0)],(2,(.defd false),false),aAt 3 b,(4,(.loop .ready none 17 (cP [kp 6 3]) 25 [18] (kd f17 500) (kd f17 501) 5),false),(5,(.defd false),false),oC 6 [(.yield 4)],qV 8 d,kD 9 a e c,kD 10 a e c,oL 11 1 (jI b),(13,(.zone true [] (ZV d (map some g))),false)] 14 (.iface 191 (.agg [])) [(0,(.loop .busy none 93 (cP [kp 2 6]) 19 [6] (kd f93 28) (kd f93 29) 2),false),oC 1 [(.ptr 7 0)],(2,(.defd false),false),aAt 3 b,(4,(.loop .ready none 17 (cP [kp 6 3]) 25 [18] (kd f17 500) (kd f17 501) 5),false),(5,(.defd false),false),oC 6 [(.yield 4)],qV 8 d,kD 9 a e c,kD 10 a e c,oL 11 1 (jI b),(13,(.zone true [] (ZV d (map some g))),false)] 14<|ga 16 bU b [a]<|gw 20 14 (a+1)<|.i [rn 7,aI (aO f)] [.a (((d)[c]?) =some f) (aZ (f:=aO))]<|.W 4 17 [10,16,13] (aBC b a e g c d i j k l f (b++ [a])))<|.i [.call .nili (aPk b d a e c g)] [hA (Spec PP (.enter 95 [(aO f)]) (aPk b d a e c g) (.ret .nili) (aPk b d a e c g))]<|gw 21 14 (a+1)<|.i [rn 7,aI (aO f)] [.a (((d)[c]?) =some f) (aZ (f:=aO))]<|.W 4 14 [10,11,13] (aBC b a e g c d i j k l f b)
def aWE:=fun b c d e f g i j k l m n a o p q=>aPm b c d e f g i j k l m a|>.1 n o p q a ⟨kk,⟨kk,trivial⟩⟩
def aWF:=fun b c d e f g i j k l m a n o p=>aPm b c d e f g i j k l m a|>.2|>.1 n o p a ⟨kk,⟨kk,trivial⟩⟩
def aWG:=fun b c d e f g i j k l m a n o=>aPm b c d e f g i j k l m a|>.2|>.2 n o a ⟨kk,⟨kk,trivial⟩⟩
def aWH (b:List Int)(a c:Int)(d:List XT)(e:Nat)(f:List (Nat×Nat))(g i:Int)(j:List XT)(k:List Pat)(m:Nat×Nat)(l:List Int):=(tT 9 (aFz b a c d e f g i j k m l)<|.W 10 16 [9,12,10,13,15,14] (aDI b a c d e f g i j k l (a+1) 0)) ⟨kk,⟨kk,trivial⟩⟩
def aWI(q:List Int)(k e:Int)(f:List XT)(a:Nat)(c:List (Nat×Nat))(g i:Int)(b:List XT)(j:List Pat)(d:List Int)(o l:Int):=tT 9 (aDI q k e f a c g i b j d o l)<|gd 5 25 (l< (b.length:Int)) (.y fun p:Int=>.y fun m:List Int=>.y fun n:Int=>.i [rn 10,.reg (rd 5 (.call (nI p) (aJr d c k e a g i b j f)::rd 6 [.ans (.ix),.d,.d,.call (nI n) (aWA d m c k e a g i b j f),.d]))] [hA (Spec PP (.enter 178 [(.ptr 10 0),(nI l)]) (aJr d c k e a g i b j f) (.ret (nI p)) (aJr d c k e a g i b j f)),hA (0≤l),hA (l< (b.length:Int)),hA (Spec PP (.enter 136 [(.agg [(nI o),(nI (IntKind.i64.wrap (e+p))),(.ep 12 1 (0+l.toNat) 0)]),(.yield 0)]) (aJr d c k e a g i b j f) (.ret (nI n)) (aWA d m c k e a g i b j f)),hr (AV.gl 12 1 0 b.length false),hr (AV.gl 12 1 0 b.length false),hr (nI e),hr (nI e)]<|gd 5 44 (n<0) (.E 7 17 [15,13,10,12,16] (nI n) [(0,(.loop .ready none 93 (cP [kp 2 6]) 19 [6] (kd f93 28) (kd f93 29) 2),false),oC 1 [(.ptr 7 0)],(2,(.defd false),false),oC 3 [(.gl 9 1 0 (d++m).length false)],(4,(.loop .ready none 17 (cP [kp 6 3]) 25 [18] (kd f17 500) (kd f17 501) 5),false),(5,(.defd false),false),oC 6 [(.yield 4)],qV 8 c,oL 9 1 (jI (d++m)),(10,(.zone true [11] (cU c (set (map some f) a none) a)),false),aFy 11 g i b j,(12,gh,false),(13,(.zone true [12] (bN b)),false)] 14)<|gw 5 46 (l+1)<|.W 3 17 [9,10,15,12,13,16] (aDI q k e f a c g i b j (d++m) n (l+1)))<|.E 8 15 [11,13,10,12,14] (nI o) [(0,(.loop .ready none 93 (cP [kp 2 6]) 19 [6] (kd f93 28) (kd f93 29) 2),false),oC 1 [(.ptr 7 0)],(2,(.defd false),false),oC 3 [(.gl 9 1 0 d.length false)],(4,(.loop .ready none 17 (cP [kp 6 3]) 25 [18] (kd f17 500) (kd f17 501) 5),false),(5,(.defd false),false),oC 6 [(.yield 4)],qV 8 c,oL 9 1 (jI d),(10,(.zone true [11] (cU c (set (map some f) a none) a)),false),aFy 11 g i b j,(12,gh,false),(13,(.zone true [12] (bN b)),false)] 14
def aWJ:=fun a b c d e f g i j k l m n o p q r s t u v w x=>aWI a b c d e f g i j k l m n|>.t r o p q s t u v|>.f w x ⟨kk,⟨kk,trivial⟩⟩
def aWK:=fun a b c d e f g i j k l m n o=>aWI a b c d e f g i j k l m n|>.f o ⟨kk,⟨kk,trivial⟩⟩
theorem bB0 (l0:List Int)(n0 z0:Int)(xs:List XT)(ix:Nat)(u50: (List (Nat×Nat)))(op nn:Int)(ks:List XT)(ps:List Pat){res:Res}{hf:Hp}(hne:xs≠ [])(k:∀u5,u5.length=xs.length→Ends PP 9 (aBB l0 n0 z0 xs ix u5 op nn ks ps).as res hf) :Ends PP 9 (aJt l0 n0 z0 xs ix u50 op nn ks ps).as res hf:=
 jT (t:=fun u5=> (aBB l0 n0 z0 xs ix u5 op nn ks ps).as) (ok:=fun us=>us.length=xs.length) (rK (h:= (aJt l0 n0 z0 xs ix u50 op nn ks ps).as.h) (h':=fun u5=> (aBB l0 n0 z0 xs ix u5 op nn ks ps).as.h) (k:=8) (g:=12) (o:=gh) (ts:=xs) (by kernel_rfl) rfl (by kernel_rfl) hne (fun _=>Nat.le_refl _) (fun u5=> (aT ⟨.inr (.inr ⟨by decide,by kernel_rfl⟩),.inr (.inr ⟨by decide,by kernel_rfl⟩),.inr (.inr ⟨by decide,by kernel_rfl⟩),.inr (.inr ⟨by decide,by kernel_rfl⟩),.inr (.inr ⟨by decide,by kernel_rfl⟩),.inr (.inr ⟨by decide,by kernel_rfl⟩),.inr (.inr ⟨by decide,by kernel_rfl⟩),.inr (.inl ⟨rfl,rfl⟩),.inr (.inr ⟨by decide,by kernel_rfl⟩),.inr (.inr ⟨by decide,by kernel_rfl⟩),.inr (.inr ⟨by decide,by kernel_rfl⟩),.inl ⟨rfl,rfl⟩,trivial⟩))) (fun u5=> ⟨by kernel_rfl,by kernel_rfl⟩) k
theorem bB1 (l0:List Int)(n0 z0:Int)(xs:List XT)(ix:Nat)(u5: (List (Nat×Nat)))(op nn:Int)(ks:List XT)(ps:List Pat)(ad: (Nat×Nat))(l10:List Int)(hu:u5[ix]?=some ad)(ht: ((map some xs))[ix]?=some (some (.mk op nn ks ps))) :LeadsM PP 9 (aBC l0 n0 z0 xs ix u5 op nn ks ps ad l10).as (aFz l0 n0 z0 xs ix u5 op nn ks ps ad l10).as:=
 rO (j:=6) (v:=aO ad) (v':=.ptr 12 0) (by kernel_rfl) (fun hm=>nV (h:= (aBC l0 n0 z0 xs ix u5 op nn ks ps ad l10).as.h) (h':= (aFz l0 n0 z0 xs ix u5 op nn ks ps ad l10).as.h) (g:=11) (us:=u5) (ts:= (map some xs)) (i:=ix) (u:=ad) (op:=op) (n:=nn) (ks:=ks) (ps:=ps) (by kernel_rfl) hu ht rfl (aT ⟨.inr (.inr (.inr (.inr ⟨by decide,by kernel_rfl⟩))),.inr (.inr (.inr (.inr ⟨by decide,by kernel_rfl⟩))),.inr (.inr (.inr (.inr ⟨by decide,by kernel_rfl⟩))),.inr (.inr (.inr (.inr ⟨by decide,by kernel_rfl⟩))),.inr (.inr (.inr (.inr ⟨by decide,by kernel_rfl⟩))),.inr (.inr (.inr (.inr ⟨by decide,by kernel_rfl⟩))),.inr (.inr (.inr (.inr ⟨by decide,by kernel_rfl⟩))),.inr (.inr (.inr (.inr ⟨by decide,by kernel_rfl⟩))),.inr (.inr (.inr (.inr ⟨by decide,by kernel_rfl⟩))),.inr (.inr (.inr (.inr ⟨by decide,by kernel_rfl⟩))),.inl ⟨rfl,rfl⟩,.inr (.inl ⟨rfl,rfl⟩),.inr (.inr (.inl ⟨rfl,rfl⟩)),.inr (.inr (.inr (.inl ⟨rfl,rfl⟩))),trivial⟩) hm) (by kernel_rfl) (by kernel_rfl)
mutual
def stT :XT→Int→List Int
 | .mk o n ks ps,a=> (if(dM (.mk o n ks ps)).isSome then [a]else []) ++pH ks (a+1)
def pH :List XT→Int→List Int
 | [],_=>[]
 |t::ts,a=>stT t a++pH ts (a+ (eA t:Nat))
end
mutual
theorem yG :∀ (t:XT) (a:Int),(stT t a).length≤eA t
 | .mk o n ks ps,a=>by
  have:=aFA ks (a+1);simp only [stT,eA,length_append];split<;>simp<;>omega
theorem aFA :∀ (ts:List XT) (a:Int),(pH ts a).length≤aK ts
 | [],a=>by simp [pH]
 | t::ts,a=>by
  have:=yG t a;have:=aFA ts (a+ (eA t:Nat));simp only [pH,aK,length_append];omega
end
abbrev STl (l:List Int)(o8:AObj)(f8:Bool)(tl:HL) :HL:= (0,(.loop .ready none 93 (cP [(2,(.ptr 6 0))]) 19 [6] (cd Tryz.f93 [1,1,0,0]) (cd Tryz.f93 [1,1,0,1]) 2),false) :: (1,(.cells (putCells .leaf 0 [(.ptr 7 0)]) 1 [] false),false) :: (2,(.defd false),false) :: (3,(.cells (putCells .leaf 0 [(.gl 9 1 0 (length l) false)]) 1 [] false),false) :: (4,(.loop .ready none 17 (cP [(6,(.ptr 3 0))]) 25 [18] (cd Tryz.f17 [1,1,1,1,0,1,0,0]) (cd Tryz.f17 [1,1,1,1,0,1,0,1]) 5),false) :: (5,(.defd false),false) :: (6,(.cells (putCells .leaf 0 [(.yield 4)]) 1 [] false),false) :: (8,o8,f8) :: (9,(.lst 1 (map bU l)),true) ::tl
abbrev STr (l:List Int)(xs:List XT) :HL:=STl l gh false [(10,(.zone true [8] (bN xs)),false)]
theorem aFB (l:List Int)(xs:List XT) :eF (STr l xs) := ⟨aG _ (fun _=>rfl) _,trivial⟩
theorem aWL {s:AS}{n:Int}{l:List Int}{u5:List (Nat×Nat)}{xs:List XT}{ix:Nat}{op nn:Int}{ks:List XT}{ps:List Pat}(hx:xs[ix]?=some (.mk op nn ks ps))
  (e:Ends PP 9 s (.ret (.int .i64 n)) (aA (STl l (.lst 1 (map aO u5)) true [(10,(.zone true [11] (cU u5 (set (map some xs) ix none) ix)),false),(11,(.cells (putCells .leaf 0 [(.int .i64 op),(.int .i64 nn),(.gl 12 1 0 (length ks) false),(.ilst 4 (Pats.av ps) false)]) 4 [] false),false),(12,gh,false),(13,(.zone true [12] (bN ks)),false)]) 14)) :
  Ends PP 9 s (.ret (.int .i64 n)) (aA (STr l xs) 11) :=by
 have hxm: (map some xs)[ix]?=some (some (.mk op nn ks ps)) :=by rw [getElem?_map,hx];rfl
 have z1:iG (aA (STl l (.lst 1 (map aO u5)) true [(10,(.zone true [11] (cU u5 (set (map some xs) ix none) ix)),false),(11,(.cells (putCells .leaf 0 [(.int .i64 op),(.int .i64 nn),(.gl 12 1 0 (length ks) false),(.ilst 4 (Pats.av ps) false)]) 4 [] false),false),(12,gh,false),(13,(.zone true [12] (bN ks)),false)]) 14) (aA (STl l (.lst 1 (map aO u5)) true [(14,(.zone true [] (ZV u5 (map some xs))),false)]) 15) :=by
  refine aAb (h:=aA (STl l (.lst 1 (map aO u5)) true [(10,(.zone true [11] (cU u5 (set (map some xs) ix none) ix)),false),(11,(.cells (putCells .leaf 0 [(.int .i64 op),(.int .i64 nn),(.gl 12 1 0 (length ks) false),(.ilst 4 (Pats.av ps) false)]) 4 [] false),false),(12,gh,false),(13,(.zone true [12] (bN ks)),false)]) 14) (h':=aA (STl l (.lst 1 (map aO u5)) true [(14,(.zone true [] (ZV u5 (map some xs))),false)]) 15)
   (b:=11) (k:=12) (gk:=13) (g:=10) (us:=u5) (ts:=set (map some xs) ix none) (i:=ix) (op:=op) (n:=nn) (ks:=ks) (ps:=ps) (len:=ks.length) (ex:=false) (pv:=.ilst 4 (Pats.av ps) false) (by kernel_rfl) rfl (fun _ _ h=>h) (by kernel_rfl) (by kernel_rfl) (by decide) (Nat.le_refl _) ?_
  rw [aLI hxm];exact aT ⟨.inr ⟨by decide,by kernel_rfl⟩,.inr ⟨by decide,by kernel_rfl⟩,.inr ⟨by decide,by kernel_rfl⟩,.inr ⟨by decide,by kernel_rfl⟩,.inr ⟨by decide,by kernel_rfl⟩,.inr ⟨by decide,by kernel_rfl⟩,.inr ⟨by decide,by kernel_rfl⟩,.inr ⟨by decide,by kernel_rfl⟩,.inr ⟨by decide,by kernel_rfl⟩,.inl ⟨rfl,rfl⟩,trivial⟩
 have z2:iG (aA (STl l (.lst 1 (map aO u5)) true [(14,(.zone true [] (ZV u5 (map some xs))),false)]) 15) (aA (STl l gh false [(15,(.zone true [8] (bN xs)),false)]) 16) :=
  xG (h:=aA (STl l (.lst 1 (map aO u5)) true [(14,(.zone true [] (ZV u5 (map some xs))),false)]) 15) (h':=aA (STl l gh false [(15,(.zone true [8] (bN xs)),false)]) 16) (k:=8) (g:=14) (us:=u5) (ts:=xs) (by kernel_rfl) (by kernel_rfl) (yB hx) (Nat.le_refl _)
   (aT ⟨.inr (.inr ⟨by decide,by decide,by kernel_rfl⟩),.inr (.inr ⟨by decide,by decide,by kernel_rfl⟩),.inr (.inr ⟨by decide,by decide,by kernel_rfl⟩),.inr (.inr ⟨by decide,by decide,by kernel_rfl⟩),.inr (.inr ⟨by decide,by decide,by kernel_rfl⟩),.inr (.inr ⟨by decide,by decide,by kernel_rfl⟩),.inr (.inr ⟨by decide,by decide,by kernel_rfl⟩),.inl ⟨rfl,rfl⟩,.inr (.inr ⟨by decide,by decide,by kernel_rfl⟩),.inr (.inl ⟨rfl,rfl⟩),trivial⟩)
 exact cN (ks:=[9,15]) (mR (mR e z1 (show 9≤14 by decide)) z2 (show 9≤15 by decide)) (by kernel_rfl) (by kernel_rfl) (by kernel_rfl) (aFB _ _)
section
variable (B :Int)
mutual
theorem aL8 :∀ (t:XT),FineX B t→∀ (xs:List XT) (ix:Nat) (l:List Int) (n0 z0:Int),xs[ix]?=some t→l.length+eA t≤100000→0≤n0→n0+ (eA t:Nat) ≤1000000→0≤z0→z0+1000* (eA t:Nat) ≤1000000000 →
  eK PP 9 (.enter 136 [.agg [.int .i64 n0,.int .i64 z0,.ep 8 1 ix 0],.yield 0]) (aA (STr l xs) 11) (.ret (.int .i64 (n0+ (eA t:Nat)))) (aA (STr (l++stT t n0) xs) 11)
 | .mk o n ks ps,hf,xs,ix,l,n0,z0,hx,hl,h0,h1,h2,h3=>by
  have hf':=hf;simp only [FineX]at hf;obtain⟨_,f2,f3,f4,f5,f6,f7⟩ :=hf;simp only [eA]at h1 h3 hl;have hxm: (map some xs)[ix]?=some (some (.mk o n ks ps)) :=by rw [getElem?_map,hx];rfl
  refine⟨(aWB l n0 z0 xs ix [] o n ks ps).as.fr,by kernel_rfl,?_⟩;refine(aWD l n0 z0 xs ix [] o n ks ps).ends (bB0 l n0 z0 xs ix [] o n ks ps (yB hx) fun u5 hu5=>?_);obtain⟨y0,hy0⟩ :=dG hu5 (List.getElem?_eq_some_iff.1 hx).1;have so:∀ {l nb g},(aA l nb).look g=some (.zone true [] (ZV u5 (xs.map some))) →Spec PP (.enter 95 [aO y0]) (aA l nb) (.ret (aLN (dM (.mk o n ks ps)))) (aA l nb) :=fun hg=>yA hg hy0 hxm hf';have lp:=fun l' (hl':l'.length+aK ks≤100000) =>aL9 xs ix l n0 z0 o n ks ps u5 hx f2 f3 f4 h2 ks 0 (n0+1) l' rfl f7 hl' (by omega) (by omega) (by omega);have tr:=fun l'=> (bB1 l n0 z0 xs ix u5 o n ks ps y0 l' hy0 hxm).trans (aWH l n0 z0 xs ix u5 o n ks ps y0 l');rw [show n0+ ((eA (.mk o n ks ps) :Nat) :Int) =n0+1+ ((aK ks:Nat) :Int)by simp only [eA];omega];simp only [stT];rw [←append_assoc];cases hs:dM (.mk o n ks ps)with
  | none=>
   rw [hs]at so;have e:= ((aWG l n0 z0 xs ix u5 o n ks ps y0 hy0 (so (g:=13) (by kernel_rfl)) sd).trans (tr l)).ends (lp l (by omega));simpa using e
  | some s=>
   rw [hs]at so;have hll: (l++ [n0]).length≤1000000:=by simp;omega
   have hl2: (l++ [n0]).length+aK ks≤100000:=by simp;omega
   cases s with
   | none=>
    have e:= ((aWF l n0 z0 xs ix u5 o n ks ps y0 hy0 (so (g:=13) (by kernel_rfl)) hll sd).trans (tr (l++ [n0]))).ends (lp (l++ [n0]) hl2);simpa using e
   | some k=>
    have e:= ((aWE l n0 z0 xs ix u5 o n ks ps y0 (k:Int) hy0 (so (g:=13) (by kernel_rfl)) hll sd).trans (tr (l++ [n0]))).ends (lp (l++ [n0]) hl2);simpa using e
theorem aL9 (xs:List XT)(ix:Nat)(l0:List Int)(n0 z0:Int)(o n:Int)(ks:List XT)(ps:List Pat)(u5:List (Nat×Nat))(hx:xs[ix]?=some (.mk o n ks ps))(f2:ks.length≤1000)(f3:∀q∈ps,bW q≤1000)(f4:o=15→ks.length=1+ps.length)(h2:0≤z0) :
  ∀ (tl:List XT) (i:Nat) (n5:Int) (l:List Int),ks.drop i=tl→FineXs B tl→l.length+aK tl≤100000→0≤n5→n5+ (aK tl:Nat) ≤1000000→z0+1000+1000* (aK tl:Nat) ≤1000000000 →
  Ends PP 9 (aDI l0 n0 z0 xs ix u5 o n ks ps l n5 (i:Int)).as (.ret (.int .i64 (n5+ (aK tl:Nat)))) (aA (STr (l++pH tl n5) xs) 11)
 | [],i,n5,l,h,_,_,_,_,_=>by
  have:=bE h;have e:=aWL hx (aWK l0 n0 z0 xs ix u5 o n ks ps l n5 (i:Int) sd);simp only [pH,aK,append_nil];rw [show n5+ ((0:Nat) :Int) =n5 by omega];exact e
 | t::tl,i,n5,l,h,hf,hl,h5,h6,h7=>by
  obtain⟨g1,g2,g3⟩ :=bB h;simp only [FineXs]at hf;simp only [aK]at hl h6 h7 ⊢;have ha:=wH (o:=o) f3 (i:Int);have hw:IntKind.i64.wrap (z0+cI o ps (i:Int)) =z0+cI o ps (i:Int) :=wrap64 (by omega) (by omega);have hix:0+ ((i:Nat) :Int).toNat=i:=by rw [Int.toNat_natCast];omega
  have hq:o=15→0< (i:Int) →∃q,ps[((i:Int) -1).toNat]?=some q:=fun e15 hi=>by
   have:=f4 e15;exact⟨_,List.getElem?_eq_getElem (by omega)⟩
  have aps:=aQe o n ks ps f3 (i:Int) ⟨by omega,by omega⟩ hq;have hb:=aL8 t hf.1 ks i l n5 (z0+cI o ps (i:Int)) g1 (by omega) h5 (by omega) (by omega) (by omega);have hln:=yG t n5
  refine(aWJ l0 n0 z0 xs ix u5 o n ks ps l n5 (i:Int) (cI o ps (i:Int)) (stT t n5) (n5+ (eA t:Nat)) sd (nH (m:=2) (ks:=[10,12]) aps (by kernel_rfl) (by kernel_rfl) trivial trivial) sd sd
   (aLH hw hix (nH (m:=9) (ks:=[0,1,2,3,4,5,6,7,12,11,14]) hb (by kernel_rfl) (by kernel_rfl) (aFB _ _) (aFB _ _))) (by simp;omega) sd).ends ?_
  have e:=aL9 xs ix l0 n0 z0 o n ks ps u5 hx f2 f3 f4 h2 tl (i+1) (n5+ (eA t:Nat)) (l++stT t n5) g2 hf.2 (by rw [length_append];omega) (by omega) (by omega) (by omega);simp only [pH];rw [←append_assoc,show n5+ ((eA t+aK tl:Nat) :Int) =n5+ (eA t:Nat) + ((aK tl:Nat) :Int)by omega];exact e
end
theorem aFC (p:Prog)(mn:Int)(cs:List Con)(ts:List XT)(hl:ts.length≤1000) :∀ (tl:List XT) (i:Nat) (n:Int) (l:List Int),ts.drop i=tl→FineXs B tl→l.length+aK tl≤100000→0≤n→n+ (aK tl:Nat) ≤100000 →
  Ends PP 0 (aJs p ((ts.length:Nat) :Int) mn cs ts n (i:Int) l).as (.ret (.tup [.ilst 1 (map bU (l++pH tl n)) false,.int .i64 0])) (aA [] 0)
 | [],i,n,l,h,_,_,_,_=>by
  have:=bE h;simp only [pH,append_nil];have e:=bBZ p ((ts.length:Nat) :Int) mn cs ts n (i:Int) l sd;exact cN (ks:=[]) (l:=[]) (nb:=0) e (by kernel_rfl) (by kernel_rfl) (by kernel_rfl) trivial
 | t::tl,i,n,l,h,hf,hll,h0,h1=>by
  obtain⟨g1,g2,g3⟩ :=bB h;simp only [FineXs]at hf;simp only [aK]at hll h1;have hix:0+ ((i:Nat) :Int).toNat=i:=by rw [Int.toNat_natCast];omega
  have hb:=aL8 B t hf.1 ts i l n 1 g1 (by omega) h0 (by omega) (by omega) (by omega);have hln:=yG t n
  refine(bBY p _ mn cs ts n (i:Int) l (stT t n) (n+ (eA t:Nat)) sd sd sd
   (aLH rfl hix (nH (m:=9) (ks:=[0,1,2,3,4,5,6,7,9,8,10]) hb (by kernel_rfl) (by kernel_rfl) (aFB _ _) (aFB _ _))) (by simp;omega) sd).ends ?_
  have e:=aFC p mn cs ts hl tl (i+1) (n+ (eA t:Nat)) (l++stT t n) g2 hf.2 (by rw [length_append];omega) (by omega) (by omega);simp only [pH];rw [←append_assoc];exact e
end
noncomputable def mF (p:Prog)(ts:List XT) :List Int×Int:=
 if aH p=false then([],2)else if(dF p).1=false then([],7)else(pH ts 0,0)
theorem qG {E:Emb}{e:Nat}{xs:List AV}{n:AV}{v:Value}(h:VR E (.tup [.ilst e xs true,n]) v) :VR E (.tup [.ilst e xs false,n]) v:=bDP h
theorem aPn {p:Prog}(hs:aE p=true){ts:List XT}(ht:aH p=true→aR p ts p.funs) :aJ PP 17 [Prog.av p] (.tup [.ilst 1 (map bU (mF p ts).1) false,.int .i64 (mF p ts).2]) :=by
 refine mZ (s:=bCL p) (by kernel_rfl) (by kernel_rfl) rfl (by rfl) ?_;unfold mF;have hb:=hs;simp only [aE,Bool.and_eq_true,decide_eq_true_eq]at hb;cases hf:aH p
 case false=>
  rw [if_pos rfl];exact Ends.val (bBW p (nH (m:=0) (ks:=[]) (bCz hs hf) (by kernel_rfl) (by kernel_rfl) trivial trivial)) (fun E cv h=>qG h)
 rw [if_neg (by decide)];cases hc: (dF p).1
 case false=>
  rw [if_pos rfl];exact Ends.val (bBV p (nH (m:=0) (ks:=[]) (aQq hs hf hc) (by kernel_rfl) (by kernel_rfl) trivial trivial)) (fun E cv h=>qG h)
 rw [if_neg (by decide)];have ht:=ht hf;obtain⟨hp,_,_⟩ :=eE hs hf;have hsz:=mE hs hf ht;have hln:=gC ht
 have hne:ts≠ [] :=fun e=>by
  rw [e]at hln;exact aCZ hf (List.length_eq_zero_iff.1 hln.symm)
 have hfx:=kB hp (gR hf) ts p.funs ht;refine(bBX p ts p.main p.cons (nH (m:=0) (ks:=[]) (aWc hs hf hc ht hne) (by kernel_rfl) (by kernel_rfl) trivial trivial)).ends ?_;exact aFC 400 p p.main p.cons ts (by omega) ts 0 0 [] rfl hfx (by simp;omega) (by omega) (by omega)
abbrev pI (a b:Int)(c:List Pat)(d:List RT):AV:=.agg [(nI a),(nI b),(iP c),(.ilst 4 (RTs.av d) false)]
abbrev aPo (a:List RT):AV:=.gl 2 1 0 (replicate a.length 0).length true
def bDY(a b:Int)(c:List Pat)(d:List RT):TS:=bC PP 78 [(pI a b c d)] [] 0
def bDZ(a b:Int)(c:List Pat)(d:List RT):TS:=bC PP 82 [(pI a b c d)] [] 0
def bD0(a:Node):TS:=bC PP 106 [(Node.av a)] [] 0
def bD1(a:Int):TS:=bC PP 83 [(nI a)] [] 0
def aPp(a b:Int)(c:List Pat)(d:List RT)(e f:Int)(g:List Pat)(i:List RT):TS:=bC PP 85 [(pI a b c d),(pI e f g i)] [] 0
def bD2(a b:Int)(c:List Pat)(d:List RT)(e:Int):TS:=bC PP 84 [(pI a b c d),(nI e)] [] 0
def bD3(a b:Int)(c:List Pat)(d:List RT):TS:=bC PP 179 [(pI a b c d)] [] 0
def aDJ(a b:Int)(c:List Pat)(d:List RT)(e:Int):TS:=⟨(tf 179 26 [kp 1 0,(2,(nI 0)),(3,(nI e))] [kc f179 116,kl f179 116,.inBlock 0,kc f179 15]),[],[oC 0 [(nI a),(nI b),(iP c),(.ilst 4 (RTs.av d) false)]],1⟩
def bD4(a b:Int)(c:List Pat)(d:List RT):TS:=bC PP 139 [(pI a b c d)] [] 0
def bD5(a b:Int)(c:List Pat)(d:List RT):TS:=bC PP 140 [(pI a b c d)] [] 0
def aJu(a b:Int)(c:List Pat)(d:List RT):=tT 0 (bDY a b c d)<|.b 11 6 (a==1) (gE 17 1 (bV true))<|.b 5 11 (a==2) (gE 12 1 (bV true))<|.b 5 16 (a==3) (gE 7 1 (bV true))<|gE 7 1 (bV (a==4))
def aWM:=fun a b c d e=>aJu a b c d|>.t e tv
def aWN:=fun a b c d e f=>aJu a b c d|>.f e|>.t f tv
def aWO:=fun a b c d e f g=>aJu a b c d|>.f e|>.f f|>.t g tv
def aWP:=fun a b c d e f g=>aJu a b c d|>.f e|>.f f|>.f g tv
def aWQ (b e:Int)(c:List Pat)(a:List RT):=fun d f g i=>(tT 0 (bDZ b e c a)<|.i [rn 19,aL a] [.q (p:=((RTs.av a).length:Int) = (a.length:Int)) (fD aQ _)]<|.i [.mk a.length] [hr (a.length:Int),hr (a.length:Int),hA (a.length<100000)]<|.i [.lset 2 (jI (replicate a.length 0))] [.q (p:=replicate a.length (bU 0) = (jI (replicate a.length 0))) (aDi _ _ _)]<|.i [rn 5,.cset 1 2 (aPo a)] [.a ((replicate a.length 0).length=a.length) (p':=(AV.gl 2 1 0 a.length true) = (aPo a)) (fun h=>(bG h.symm))]<|.i [rn 1,.frz 14 2 (jI (replicate a.length 0))] [hk bU (replicate a.length 0),.q (p:=AV.frzOk 2 1 (jI (replicate a.length 0)) (jI (replicate a.length 0)) (.agg [(nI b),(nI 0),(aPo a),(iP c)])) (by simp [AV.frzOk,AV.frzOkL,List.take_of_length_le])]<|gpI 0 106 [(.agg [(nI b),(nI 0),(.ilst 1 (jI (replicate a.length 0)) true),(iP c)])]<|fun d=>gE 3 3 (nI d)) f g d i tv
def fQ(a:Node):=tT 0 (bD0 a)<|.b 18 5 (a.op==6) (gE 8 1 (nI 2))<|.b 6 5 (a.op==9) (gE 8 1 (nI 2))<|.b 6 5 (a.op==10) (gE 8 1 (nI 2))<|.b 6 5 (a.op==11) (gE 8 1 (nI 2))<|.b 6 5 (a.op==12) (gE 8 1 (nI 2))<|.b 6 5 (a.op==13) (gE 8 1 (nI 2))<|.b 6 5 (a.op==18) (gE 8 1 (nI 2))<|.b 5 5 (a.op==22) (gE 6 1 (nI 2))<|.b 6 14 (a.op==14) (gl 5 bU a.kids<|gE 3 1 (nI (a.kids.length:Int)))<|.b 7 19 (a.op==7) (gE 8 1 (nI 1))<|.b 6 19 (a.op==8) (gE 8 1 (nI 1))<|.b 6 19 (a.op==15) (gE 8 1 (nI 1))<|.b 6 19 (a.op==16) (gE 8 1 (nI 1))<|.b 6 19 (a.op==17) (gE 8 1 (nI 1))<|.b 6 19 (a.op==19) (gE 8 1 (nI 1))<|.b 6 19 (a.op==20) (gE 8 1 (nI 1))<|.b 6 19 (a.op==23) (gE 8 1 (nI 1))<|.b 6 19 (a.op==24) (gE 8 1 (nI 1))<|.b 5 19 (a.op==26) (gE 6 1 (nI 1))<|gE 8 1 (nI 0)
def aWR:=fun a b=>fQ a|>.t b tv
def aWS:=fun a b c=>fQ a|>.f b|>.t c tv
def aWT:=fun a b c d=>fQ a|>.f b|>.f c|>.t d tv
def aWU:=fun a b c d e=>fQ a|>.f b|>.f c|>.f d|>.t e tv
def aWV:=fun a b c d e f=>fQ a|>.f b|>.f c|>.f d|>.f e|>.t f tv
def aWW:=fun a b c d e f g=>fQ a|>.f b|>.f c|>.f d|>.f e|>.f f|>.t g tv
def aWX:=fun a b c d e f g i=>fQ a|>.f b|>.f c|>.f d|>.f e|>.f f|>.f g|>.t i tv
def aWY:=fun a b c d e f g i j=>fQ a|>.f b|>.f c|>.f d|>.f e|>.f f|>.f g|>.f i|>.t j tv
def aWZ:=fun a b c d e f g i j k=>fQ a|>.f b|>.f c|>.f d|>.f e|>.f f|>.f g|>.f i|>.f j|>.t k tv
def aW0:=fun a b c d e f g i j k l=>fQ a|>.f b|>.f c|>.f d|>.f e|>.f f|>.f g|>.f i|>.f j|>.f k|>.t l tv
def aSS:=fun a b c d e f g i j k l m=>fQ a|>.f b|>.f c|>.f d|>.f e|>.f f|>.f g|>.f i|>.f j|>.f k|>.f l|>.t m tv
def aST:=fun a b c d e f g i j k l m n=>fQ a|>.f b|>.f c|>.f d|>.f e|>.f f|>.f g|>.f i|>.f j|>.f k|>.f l|>.f m|>.t n tv
def aSU:=fun a b c d e f g i j k l m n o=>fQ a|>.f b|>.f c|>.f d|>.f e|>.f f|>.f g|>.f i|>.f j|>.f k|>.f l|>.f m|>.f n|>.t o tv
def aSV:=fun a b c d e f g i j k l m n o p=>fQ a|>.f b|>.f c|>.f d|>.f e|>.f f|>.f g|>.f i|>.f j|>.f k|>.f l|>.f m|>.f n|>.f o|>.t p tv
def aSW:=fun a b c d e f g i j k l m n o p q=>fQ a|>.f b|>.f c|>.f d|>.f e|>.f f|>.f g|>.f i|>.f j|>.f k|>.f l|>.f m|>.f n|>.f o|>.f p|>.t q tv
def aSX:=fun a b c d e f g i j k l m n o p q r=>fQ a|>.f b|>.f c|>.f d|>.f e|>.f f|>.f g|>.f i|>.f j|>.f k|>.f l|>.f m|>.f n|>.f o|>.f p|>.f q|>.t r tv
def aSY:=fun a b c d e f g i j k l m n o p q r s=>fQ a|>.f b|>.f c|>.f d|>.f e|>.f f|>.f g|>.f i|>.f j|>.f k|>.f l|>.f m|>.f n|>.f o|>.f p|>.f q|>.f r|>.t s tv
def aSZ:=fun a b c d e f g i j k l m n o p q r s t=>fQ a|>.f b|>.f c|>.f d|>.f e|>.f f|>.f g|>.f i|>.f j|>.f k|>.f l|>.f m|>.f n|>.f o|>.f p|>.f q|>.f r|>.f s|>.t t tv
def aS0:=fun a b c d e f g i j k l m n o p q r s t u=>fQ a|>.f b|>.f c|>.f d|>.f e|>.f f|>.f g|>.f i|>.f j|>.f k|>.f l|>.f m|>.f n|>.f o|>.f p|>.f q|>.f r|>.f s|>.f t|>.t u tv
def aS1:=fun a b c d e f g i j k l m n o p q r s t u=>fQ a|>.f b|>.f c|>.f d|>.f e|>.f f|>.f g|>.f i|>.f j|>.f k|>.f l|>.f m|>.f n|>.f o|>.f p|>.f q|>.f r|>.f s|>.f t|>.f u tv
def aW1 (a:Int):=(tT 0 (bD1 a)<|.i [rn 11,.cnilI 0 2 4] []<|.i [.cnilI 0 3 4] []<|gE 0 1 (.agg [(nI 4),(nI a),(.ilst 4 (Pats.av ([] :List Pat)) true),(.ilst 4 (RTs.av ([] :List RT)) true)])) tv
def aW2 (a b:Int)(c:List Pat)(d:List RT)(e f:Int)(g:List Pat)(i:List RT):=(tT 0 (aPp a b c d e f g i)<|.i [rn 15,.cnilI 2 2 4] []<|.E 0 4 [3] (.agg [(nI 7),(nI 0),(.ilst 4 (Pats.av ([] :List Pat)) true),(.slice 0 0 2 2 4 true)]) [oC 0 [(nI a),(nI b),(iP c),(.ilst 4 (RTs.av d) false),(nI e),(nI f),(iP g),(.ilst 4 (RTs.av i) false)]] 1) tv
def aW3 (b e:Int)(c:List Pat)(f:List RT)(d:Int):=fun a g=>(tT 0 (bD2 b e c f d)<|gpI 13 121 [(.agg [(nI b),(nI 0),.nils,(iP c)]),(nI d)]<|fun a=>gE 3 1 (nI a)) a g tv
def aPq(a b:Int)(c:List Pat)(d:List RT):=tT 0 (bD3 a b c d)<|.b 12 7 (a==7) (gE 11 1 (nI (-1)))<|.b 5 11 (a==26) (gE 6 1 (nI (-1)))<|.W 9 1 [0] (aDJ a b c d 0)
def aW4:=fun a b c d e=>aPq a b c d|>.t e tv
def aW5:=fun a b c d e f=>aPq a b c d|>.f e|>.t f tv
def aW6:=fun a b c d e f=>aPq a b c d|>.f e|>.f f tv
def aPr(c d:Int)(e:List Pat)(b:List RT)(a:Int):=tT 0 (aDJ c d e b a)<|gpI 5 82 [(pI c d e b)]<|fun k=>gd 2 15 (a<k) (.y fun f:Int=>.y fun g:Int=>.y fun i:List Pat=>.y fun j:List RT=>giF aQ 9 b a (RT.mk f g i j)<|jR 1 78 [(pI f g i j)]<|fun l=>.b 2 24 (!l) (gE 7 1 (nI a))<|gw 6 17 (a+1)<|.W 3 1 [0] (aDJ c d e b (a+1)))<|gE 7 1 (nI (-1))
def aW7:=fun a b c d e f g i j k l m n o p q r=>aPr a b c d e f m|>.t n g i j k o p l q|>.t r tv
def aW8:=fun a b c d e f g i j k l m n o p q r s=>aPr a b c d e f m|>.t n g i j k o p l q|>.f r s tv
def aW9:=fun a b c d e f g i=>aPr a b c d e f g|>.f i tv
def aXa (b c:Int)(d:List Pat)(e:List RT):=fun a f=>(tT 0 (bD4 b c d e)<|gpI 8 179 [(pI b c d e)]<|fun a=>gE 4 1 (bV (decide (a≥0)))) a f tv
def aXb(a d:Int)(e:List Pat)(b:List RT):=tT 0 (bD5 a d e b)<|.b 11 6 (a==7) (.y fun c:Int=>.y fun f:Int=>.y fun g:List Pat=>.y fun i:List RT=>giF aQ 2 b 0 (RT.mk c f g i)<|gE 7 1 (bV (c==7)))<|gE 10 1 (bV false)
def aXc:=fun a b c d e f g i j k l=>aXb a b c d|>.t j e f g i k l tv
def aXd:=fun a b c d e=>aXb a b c d|>.f e tv
end
end Go.Hb
