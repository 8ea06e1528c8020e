/- A machine on abstract values, its soundness, ways, plain laws. -/
import Derived.Test.YtlgoblkihmkmcaaGreatHF
import Derived.Test.YtlgoblkihmkmcaaGreatHG
import Derived.Test.YtlgoblkihmkmcaaGreatHH
import Derived.Test.YtlgoblkihmkmcaaGreatHJ
set_option linter.defProp false
set_option linter.unusedVariables false
set_option linter.unusedSimpArgs false
set_option linter.unusedSectionVars false
set_option maxRecDepth 100000
set_option maxHeartbeats 4000000
namespace Go.Hb
open AV (frzOk ilst keyless keylessL nils)
open Bool (and_eq_true)
open List (all_cons all_nil count_append flatten_cons getElem?_eq_getElem length length_append length_cons length_map length_nil length_set map map_congr_left map_cons map_flatten map_map map_nil mem_cons_of_mem mem_cons_self replicate set take_of_length_le)
open Go.Proofs Tryz
noncomputable section
def FunD.nm :FunD→aB
 | .mk n _ _ _ _=>n
def aW5 (l:List aB)(s:aB) :Nat→Int
 |0=> -1
 |i+1=>if l[i]?=some s then(i:Int)else aW5 l s i
def aQF (l:List aB)(s:aB) :Int:=aW5 l s l.length
def aQG (op:Int)(s:aB)(ps:List Pat)(k:Nat) :List aB:=
 if op=5∨op=27 then [s]else if op=7 then(if k=1 then [s]else [])else if op=15 then(match k with|0=>[] |j+1=>match ps[j]? with|some p=>aWZ p|none=>[])else []
structure LFun where
 name:aB
 body:Int
def LFun.av (f:LFun) :AV:=.agg [aH f.name,.int .i64 f.body]
structure LUnit where
 name:aB
 cons:List Con
 funs:List LFun
 needs:List aB
 nodes:List Node
def LUnit.av (u:LUnit) :AV:=.agg [aH u.name,.ilst 2 (map Con.av u.cons) false,.ilst 2 (map LFun.av u.funs) false,.ilst 1 (map aH u.needs) false,.ilst 4 (map Node.av u.nodes) false]
structure LPlace where
 nodes:Int
 funs:Int
def LPlace.av (p:LPlace) :AV:=.agg [.int .i64 p.nodes,.int .i64 p.funs]
theorem aCL {E:Emb}{e:Nat}{ex:Bool}:∀v,VR E .nils v→VR E (.ilst e [] ex) v:=fun v h=>by
 simp only [VR]at h;simp only [VR];exact⟨[],VRs.nil _,fun _ hu=>by(cases hu),.inl ⟨rfl,none,0,h,fun _=>rfl,fun _=>rfl⟩⟩
theorem aR2 (o n:Int) :VW [.agg [.int .i64 o,.int .i64 n,.nils,.nils]] (map Node.av [Node.mk o n [] []]) :=fun E vs h=>by
 simp only [map_cons,map_nil,Node.av];obtain⟨v,vs',rfl,h1,h2⟩ :=h.cons_inv;refine VRs.cons ?_ h2;simp only [VR]at h1 ⊢;obtain⟨cs,rfl,h3⟩ :=h1;obtain⟨a1,w1,rfl,c1,h3⟩ :=h3.cons_inv;obtain⟨a2,w2,rfl,c2,h3⟩ :=h3.cons_inv;obtain⟨a3,w3,rfl,c3,h3⟩ :=h3.cons_inv;obtain⟨a4,w4,rfl,c4,h3⟩ :=h3.cons_inv;exact⟨_,rfl,VRs.cons c1 (VRs.cons c2 (VRs.cons (aCL _ c3) (VRs.cons (by simp only [Pats.av];exact aCL _ c4) h3)))⟩
theorem aQH {l:List ONode}{nn:List Node}(h:l=map Node.o nn) :map ONode.av l=map Node.av nn:=by rw [h,aKw]
theorem aNW :∀n:Nat,kG [AV.str 0 0] n=map aH (replicate n ([] :aB))
 |0=>rfl
 |n+1=>by rw [kG,aNW n];rfl
theorem zF :∀l:List aB,cK (map aH l) =true
 | [] =>rfl
 |s::l=>by rw [map_cons,cK,zF l];rfl
theorem aI1 :∀l:List AV,oY false 1 l.length l=l
 | [] =>rfl
 | a::l=>by
  rw [length_cons,oY];simp only [cond,List.headD_cons,List.drop_succ_cons,List.drop_zero];rw [aI1 l]
theorem aUd (l:List AV) :getCells (putCells .leaf 0 l) 0 l.length=some l:=uX l _ 0 (fun j hj=>by
 rw [cD,if_pos (by omega),Nat.zero_add])
theorem aW6 (n:Nat) : (map aH (replicate n ([] :aB))).length=n:=by simp
theorem aW7 (n:Nat) :getCells (putCells .leaf 0 (map aH (replicate n ([] :aB)))) 0 (n*1) =some (map aH (replicate n ([] :aB))) :=by
 have:=aUd (map aH (replicate n ([] :aB)));rw [aW6]at this;rw [Nat.mul_one];exact this
theorem aW8 (n:Nat) :oY false 1 n (map aH (replicate n ([] :aB))) =map aH (replicate n ([] :aB)) :=by
 have:=aI1 (map aH (replicate n ([] :aB)));rwa [aW6]at this
theorem aR3 {α β:Type}[DecidableEq α]{f:α→AV}{g:β→AV}(hf:aMA f){k:α}{l:List (α×β)}(h:dE k l=none)(z:β) :
  aDl (aU f g 0 l) (length l) (f k) (g z) =some (.tup [g z,.int .i64 ((length l:Nat) :Int)],aU f g 0 (cB k z l),length (cB k z l)) :=by
 unfold aDl;rw [vA hf k l 0 0 h];obtain⟨a,b⟩ :=yU f g k z l 0 h;simp only [Nat.zero_add]at a;simp only [a,b]
theorem aR4 {α β:Type}[DecidableEq α]{k:α}{l:List (α×β)}(h:dE k l=none)(z v:β) : (cB k z l).length= (cB k v l).length:=by
 rw [(yU (fun _=>nils) (fun _=>nils) k z l 0 h).2,(yU (fun _=>nils) (fun _=>nils) k v l 0 h).2]
theorem aI2 {α β:Type}[DecidableEq α]{f:α→AV}{g:β→AV}{k:α}(z v:β) :∀ (l:List (α×β)) (n:Nat),dE k l=none→kN (g v) (n+l.length) (aU f g n (cB k z l)) =some (aU f g n (cB k v l))
 | [],n,_=>by simp only [cB,aU,kN,length_nil,Nat.add_zero,Nat.beq_refl,cond]
 | e ::l,n,h=>by
  unfold dE at h;split at h
  ·cases h
  · rename_i hk;have ih:=aI2 (f:=f) (g:=g) z v l (n+1) h;simp only [cB,if_neg hk,aU,kN,length_cons];have:Nat.beq n (n+ (l.length+1)) =false:=by
     cases q:Nat.beq n (n+ (l.length+1))
     case false=>rfl
     have:=Nat.eq_of_beq_eq_true q;omega
    rw [this];simp only [cond];rw [show n+ (l.length+1) =n+1+l.length by omega,ih]
theorem aNX {α β:Type}[DecidableEq α]{f:α→AV}{g:β→AV}{k:α}{l:List (α×β)}(h:dE k l=none)(z v:β) :
  kN (g v) (((length l:Nat) :Int)).toNat (aU f g 0 (cB k z l)) =some (aU f g 0 (cB k v l)) :=by
 have:=aI2 (f:=f) (g:=g) z v l 0 h;rwa [Nat.zero_add]at this
theorem aUe {f:Nat}{args args':List AV}{v:AV}(h:Pure PP f args v)(hl:args'.length=args.length)(ha:∀ (E:Emb) (i:Nat) (a a':AV) (c:Value),args[i]?=some a→args'[i]?=some a'→VR E a' c→VR E a c) :Pure PP f args' v:=fun hh=>by
 obtain⟨g,hg,he⟩ :=h hh;simp only [eD,cJ]at hg;split at hg
 · rename_i fn hfn;split at hg
   · rename_i c hc;cases hg;refine⟨_,by simp only [eD,cJ,hfn,hc];rfl,?_⟩;intro hm E fr ccs w hfr fs r cl base;refine he hm E fr ccs w ?_ fs r cl base;refine⟨hfr.fn,⟨by have:=hfr.tm.1;rw [hl]at this;exact this,fun t a e=>?_⟩,hfr.todo,hfr.defers,hfr.mode,hfr.kind,hfr.round⟩;have ht:t<args.length∧args[t]?=some a:=by
      have e': (dB .leaf 0 args).at t=some a:=e;unfold dB at e';rw [cD]at e';split at e'
      ·rename_i hlt;exact⟨hlt,e'⟩
      ·cases e'
     have ht':args'[t]?=some args'[t] :=getElem?_eq_getElem (by omega)
     obtain⟨cv,g1,g2⟩ :=hfr.tm.2 t args'[t] (by
      show(dB .leaf 0 args').at t=_;unfold dB;rw [cD,if_pos (by omega)];exact ht')
     exact⟨cv,g1,ha E t _ _ cv ht.2 ht' g2⟩
   ·cases hg
 ·cases hg
abbrev aQI (a:LUnit):AV:=.agg [(aH a.name),(iC a.cons),(.ilst 2 (map LFun.av a.funs) false),(iS a.needs),(iN a.nodes)]
abbrev aK9 (a:Nat)(b:LUnit):=oC a [(aH b.name),(iC b.cons),(.ilst 2 (map LFun.av b.funs) false),(iS b.needs),(iN b.nodes)]
abbrev bFz (a:LUnit):AV:=.agg [(iN a.nodes),.nils,(nI 0),(iC a.cons)]
abbrev aLa (a:List LUnit):AV:=.ilst 5 (map LUnit.av a) false
def bEl(a:LUnit):TS:=cQ PP 78 [(aQI a)] [] 0
def aLb(a:LUnit)(c:Int)(b:List aB):TS:=⟨(tf 78 22 [kp 1 0,(2,.nils),(3,(.gl 1 1 0 b.length false)),(4,(nI c))] [kc f78 116,kl f78 116,.inBlock 0,kc f78 15]),[],[aK9 0 a,oL 1 1 (map aH b)],2⟩
def aCM(a:List aB)(b:Int):TS:=⟨(tf 79 18 [(0,(iS a)),(2,(bV false)),(3,(nI b))] [kc f79 52,kl f79 52,.inBlock 0,kc f79 7]),[],[],0⟩
def bEm(a:LUnit):TS:=cQ PP 14 [(aQI a)] [] 0
def aLc(a:LUnit)(b:Int):TS:=⟨(tf 14 56 [kp 1 0,(2,(bV false)),(3,(nI b))] [kc f14 116,kl f14 116,.inBlock 0,kc f14 15]),[],[aK9 0 a],1⟩
def aLd(a:LUnit)(b:Int):TS:=⟨(tf 14 56 [kp 1 0,(2,(bV false)),(4,(nI b))] [kc f14 244,kl f14 244,.inBlock 2,kc f14 31]),[],[aK9 0 a],1⟩
def aFk(a:List LUnit)(b:Int):TS:=⟨(tf 89 23 [(0,(aLa a)),(2,(bV false)),(3,(nI b))] [kc f89 52,kl f89 52,.inBlock 0,kc f89 7]),[],[],0⟩
def aLe(a:List LUnit)(b:Int):TS:=⟨(tf 90 19 [(0,(aLa a)),(2,(bV false)),(3,(nI b))] [kc f90 116,kl f90 116,.inBlock 0,kc f90 15]),[],[],0⟩
def aW9(a:LUnit):TS:=cQ PP 78 [(aQI a)] [] 0
def aLf(a:LUnit)(c:Int)(b:List aB):TS:=⟨(tf 78 22 [kp 1 0,(2,.nils),(3,(.gl 1 1 0 b.length false)),(4,(nI c))] [kc f78 116,kl f78 116,.inBlock 0,kc f78 15]),[],[aK9 0 a,oL 1 1 (map aH b)],2⟩
def bAg (a:LUnit):=(tT 0 (bEl a)<|.i [rn 16,.nilL 3 1] []<|gu 0 1 (map aH ([] :List aB))<|gs 0 3 (.gl 1 1 0 ([] :List aB).length false)<|.W 0 2 [0,1] (aLb a 0 ([] :List aB))) ⟨kk,trivial⟩
def aXa(a:LUnit)(b:Int)(c:List aB):=tT 0 (aLb a b c)<|gl 6 LFun.av a.funs<|gd 2 9 (b< (a.funs.length:Int)) (gX LFun.av 9 a.funs b<|fun d=>ga 3 aH c [d.name]<|gw 6 11 (b+1)<|.W 3 4 [0,3] (aLb a (b+1) (c++ [d.name])))<|gz 8 2 1 1 aH c false<|gE 0 2 (iS c)
def bAh:=fun a b c d e f g i j=>aXa a b c|>.t e d f g i j ⟨kk,trivial⟩
def bAi:=fun a b c d=>aXa a b c|>.f d tv
def aUf (a:List aB):=(tT 0 (start PP 79 [(iS a)])<|.W 11 0 [] (aCM a 0)) tv
def aQJ(a:List aB)(b:Int):=tT 0 (aCM a b)<|gl 5 aH a<|gd 2 7 (b< (a.length:Int)) (gX aH 8 a b<|fun c=>gV 1 39 [(aH c)]<|fun d=>.b 2 15 (!d) (gE 6 0 (bV false))<|gw 6 9 (b+1)<|.W 3 0 [] (aCM a (b+1)))<|gV 5 62 [(iS a)]<|fun c=>gE 3 0 (bV c)
def aUg:=fun a b c d e f g i j=>aQJ a b|>.t e c f g d i|>.t j tv
def aUh:=fun a b c d e f g i j k=>aQJ a b|>.t e c f g d i|>.f j k tv
def aUi:=fun a b c d e=>aQJ a b|>.f d c e tv
def aXb(a b c:Int):=tT 0 (start PP 80 [(nI a),(nI b),(nI c)])<|gd 10 10 (a≥b) (gE 7 0 (bV (decide (a≤c))))<|gE 7 0 (bV false)
def aUj:=fun a b c d=>aXb a b c|>.t d tv
def aUk:=fun a b c d=>aXb a b c|>.f d tv
def aLg(a:LUnit):=tT 0 (bEm a)<|gl 10 LFun.av a.funs<|gd 2 9 ((a.funs.length:Int) >30) (gE 18 1 (bV false))<|gl 2 aH a.needs<|gd 3 15 ((a.needs.length:Int) >25) (gE 12 1 (bV false))<|gd 6 20 ((a.name.length:Int) >30) (gE 6 1 (bV false))<|.W 9 1 [0] (aLc a 0)
def bAj:=fun a b=>aLg a|>.t b tv
def bAk:=fun a b c=>aLg a|>.f b|>.t c tv
def bAl:=fun a b c d=>aLg a|>.f b|>.f c|>.t d tv
def bAm:=fun a b c d=>aLg a|>.f b|>.f c|>.f d tv
def aQK(a:LUnit)(b:Int):=tT 0 (aLc a b)<|gl 6 LFun.av a.funs<|gd 2 25 (b< (a.funs.length:Int)) (gX LFun.av 9 a.funs b<|fun c=>gd 5 35 ((c.name.length:Int) >30) (gE 6 1 (bV false))<|gw 6 27 (b+1)<|.W 3 1 [0] (aLc a (b+1)))<|.W 9 1 [0] (aLd a 0)
def bAn:=fun a b c d e f g=>aQK a b|>.t d c e f|>.t g tv
def bAo:=fun a b c d e f g i=>aQK a b|>.t d c e f|>.f g i tv
def bAp:=fun a b c=>aQK a b|>.f c tv
def aQL(a:LUnit)(b:Int):=tT 0 (aLd a b)<|gl 6 aH a.needs<|gd 2 40 (b< (a.needs.length:Int)) (gX aH 9 a.needs b<|fun c=>gd 4 49 ((c.length:Int) >30) (gE 6 1 (bV false))<|gw 6 42 (b+1)<|.W 3 1 [0] (aLd a (b+1)))<|gV 9 76 [(bFz a)]<|fun c=>gE 3 1 (bV c)
def bAq:=fun a b c d e f g=>aQL a b|>.t d c e f|>.t g tv
def bAr:=fun a b c d e f g i=>aQL a b|>.t d c e f|>.f g i tv
def bAs:=fun a b c d e=>aQL a b|>.f d c e tv
def aXc (a:List LUnit):=(tT 0 (start PP 89 [(aLa a)])<|.W 11 0 [] (aFk a 0)) tv
def aLh(a:List LUnit)(b:Int):=tT 0 (aFk a b)<|gl 5 LUnit.av a<|gd 2 8 (b< (a.length:Int)) (gd 4 11 (b≤10) (gX LUnit.av 8 a b<|fun c=>gV 1 14 [(.agg [(aH c.name),(iC c.cons),(.ilst 2 (map LFun.av c.funs) false),(iS c.needs),(iN c.nodes)])]<|fun d=>.b 2 19 (!d) (gE 6 0 (bV false))<|gw 6 13 (b+1)<|.W 3 0 [] (aFk a (b+1)))<|gl 5 LUnit.av a<|gE 4 0 (bV (decide ((a.length:Int) ≤11))))<|gl 9 LUnit.av a<|gE 4 0 (bV (decide ((a.length:Int) ≤11)))
def aXd:=fun a b c d e f g i j k=>aLh a b|>.t e|>.t f c g i d j|>.t k tv
def aXe:=fun a b c d e f g i j k l=>aLh a b|>.t e|>.t f c g i d j|>.f k l tv
def aXf:=fun a b c d=>aLh a b|>.t c|>.f d tv
def aNY:=fun a b c=>aLh a b|>.f c tv
def aXg(a:List LUnit):=tT 0 (start PP 90 [(aLa a)])<|gl 8 LUnit.av a<|gd 2 6 ((a.length:Int) >10) (gE 6 0 (bV false))<|.W 9 0 [] (aLe a 0)
def bAt:=fun a b=>aXg a|>.t b tv
def bAu:=fun a b=>aXg a|>.f b tv
def aLi(a:List LUnit)(b:Int):=tT 0 (aLe a b)<|gl 5 LUnit.av a<|gd 2 10 (b< (a.length:Int)) (gX LUnit.av 8 a b<|fun c=>gV 1 16 [(.agg [(aH c.name),(iC c.cons),(.ilst 2 (map LFun.av c.funs) false),(iS c.needs),(iN c.nodes)])]<|fun d=>.b 2 18 (!d) (gE 6 0 (bV false))<|gw 6 12 (b+1)<|.W 3 0 [] (aLe a (b+1)))<|gE 7 0 (bV true)
def bAv:=fun a b c d e f g i j=>aLi a b|>.t e c f g d i|>.t j tv
def bAw:=fun a b c d e f g i j k=>aLi a b|>.t e c f g d i|>.f j k tv
def bAx:=fun a b c=>aLi a b|>.f c tv
def bAy (a:LUnit):=(tT 0 (aW9 a)<|.i [rn 16,.nilL 3 1] []<|gu 0 1 (map aH ([] :List aB))<|gs 0 3 (.gl 1 1 0 ([] :List aB).length false)<|.W 0 2 [0,1] (aLf a 0 ([] :List aB))) ⟨kk,trivial⟩
def aR5(a:LUnit)(b:Int)(c:List aB):=tT 0 (aLf a b c)<|gl 6 LFun.av a.funs<|gd 2 9 (b< (a.funs.length:Int)) (gX LFun.av 9 a.funs b<|fun d=>ga 3 aH c [d.name]<|gw 6 11 (b+1)<|.W 3 4 [0,3] (aLf a (b+1) (c++ [d.name])))<|.E 8 2 [1] (.gl 0 1 0 c.length false) [oL 0 1 (map aH c)] 1
def bAz:=fun a b c d e f g i j=>aR5 a b c|>.t e d f g i j ⟨kk,trivial⟩
def bAA:=fun a b c d=>aR5 a b c|>.f d ⟨kk,trivial⟩
theorem zG (u:LUnit) :keyless u.av=true:=by simp [LUnit.av,keyless,keylessL,aH]
def dX (s:aB) :List aB→Nat→Int
 | [],_=> -1
 |x::l,i=>if x=s then(i:Int)else dX s l (i+1)
theorem aQM (n lo hi:Int) :Pure PP 80 [.int .i64 n,.int .i64 lo,.int .i64 hi] (.bool (dG n lo hi)) :=by
 refine aV (by kernel_rfl) rfl rfl ?_;unfold dG;by_cases h:lo≤n
 · have e: (decide (lo≤n) &&decide (n≤hi)) =decide (n≤hi) :=by simp [h]
   rw [e];exact aUj n lo hi (by simpa using h)
 · have e: (decide (lo≤n) &&decide (n≤hi)) =false:=by simp [h]
   rw [e];exact aUk n lo hi (by simpa using h)
def aC (u:LUnit) :List aB:=u.funs.map LFun.name
theorem aNZ (u:LUnit)(hl:u.funs.length≤1000) :∀ (t:List LFun) (i:Nat) (acc:List aB),u.funs.drop i=t→acc.length=i→Ends PP 0 (aLb u (i:Int) acc).as (.ret (.ilst 1 (map aH (acc++t.map LFun.name)) false)) (aD [] 0)
 | [],i,acc,h,ha=>by
  have:=bA h;rw [map_nil,List.append_nil];exact bAi u i acc sd
 | c::t,i,acc,h,ha=>by
  obtain⟨q1,q2,q3⟩ :=aZ h;have hi:= (List.getElem?_eq_some_iff.1 q1).1;refine(bAh u i acc c sd sd sd (by simp;omega) sd).ends ?_;have:=aNZ u hl t (i+1) (acc++ [c.name]) q2 (by simp [ha]);rw [List.append_assoc]at this;exact this
theorem aXh (u:LUnit)(hl:u.funs.length≤1000) :Pure PP 78 [LUnit.av u] (.ilst 1 (map aH (aC u)) false) :=
 dP (s:=bEl u) (by kernel_rfl) (by kernel_rfl) (by simp [keylessL,zG]) (by simp [keyless]) ((bAg u).ends (aNZ u hl u.funs 0 [] rfl rfl))
theorem aN0 (u:LUnit)(hl:u.funs.length≤1000) :∀ (t:List LFun) (i:Nat) (acc:List aB),u.funs.drop i=t→acc.length=i→Ends PP 0 (aLf u (i:Int) acc).as (.ret (.gl 0 1 0 (length (acc++t.map LFun.name)) false)) (aD [(0,.lst 1 (map aH (acc++t.map LFun.name)),true)] 1)
 | [],i,acc,h,ha=>by
  have:=bA h;rw [map_nil,List.append_nil];exact bAA u i acc sd
 | c::t,i,acc,h,ha=>by
  obtain⟨q1,q2,q3⟩ :=aZ h;have hi:= (List.getElem?_eq_some_iff.1 q1).1;refine(bAz u i acc c sd sd sd (by simp;omega) sd).ends ?_;have:=aN0 u hl t (i+1) (acc++ [c.name]) q2 (by simp [ha]);rw [List.append_assoc]at this;exact this
theorem aXi (u:LUnit)(hl:u.funs.length≤1000) :aCp PP (.enter 78 [LUnit.av u]) (aD [] 0) (.ret (.gl 0 1 0 (length (aC u)) false)) (aD [(0,.lst 1 (map aH (aC u)),true)] 1) :=by
 suffices hh:Ends PP 0 (aW9 u).as (.ret (.gl 0 1 0 (length (aC u)) false)) (aD [(0,.lst 1 (map aH (aC u)),true)] 1)from⟨(aW9 u).as.fr,by kernel_rfl,Eq.mp (by kernel_rfl) hh⟩
 exact(bAy u).ends (aN0 u hl u.funs 0 [] rfl rfl)
def gJ (l:List aB) :Bool:=l.all mJ&&cC l
theorem aN1 (l:List aB)(hl:l.length<1000000) :∀ (t:List aB) (i:Nat),l.drop i=t→Ends PP 0 (aCM l (i:Int)).as (.ret (.bool (t.all mJ&&cC l))) (aD [] 0)
 | [],i,h=>by
  have:=bA h;rw [all_nil,Bool.true_and];exact aUi l i _ sd (aCB l hl)
 | c::t,i,h=>by
  obtain⟨q1,q2,q3⟩ :=aZ h;have hn:=aGx c;rw [all_cons];cases e:mJ c
  case false=>rw [e]at hn;exact aUg l i c false sd sd sd hn rfl
  rw [e]at hn;rw [Bool.true_and];exact(aUh l i c true sd sd sd hn rfl sd).ends (aN1 l hl t (i+1) q2)
theorem aEK (l:List aB)(hl:l.length<1000000) :Pure PP 79 [.ilst 1 (map aH l) false] (.bool (gJ l)) :=
 aV (by kernel_rfl) rfl rfl ((aUf l).ends (aN1 l hl l 0 rfl))
def aN (l:List LUnit) :List aB:= (l.map aC).flatten
theorem jG (u:LUnit)(l:List LUnit) :aN (u::l) =aC u++aN l:=rfl
structure FewU (u:LUnit) :Prop where
 f:u.funs.length≤30
 n:u.needs.length≤25
 p:aJ ⟨u.nodes,[],0,u.cons⟩ =true
 nm:∀f∈u.funs,f.name.length≤30
 nd:∀s∈u.needs,s.length≤30
def cA (s:aB) :List LUnit→Nat→Int
 | [],_=> -1
 |u::l,i=>if aQ (aC u) s=true then(i:Int)else cA s l (i+1)
theorem aUl {f:Nat}{a a' v:AV}(h:Pure PP f [a] v)(ha:∀ (E:Emb) (c:Value),VR E a' c→VR E a c) :Pure PP f [a'] v:=
 aUe h rfl (fun E i x x' c h1 h2 hv=>by
  cases i with
  |zero=>simp only [List.getElem?_cons_zero,Option.some.injEq]at h1 h2;subst h1 h2;exact ha E c hv
  |succ i=>simp at h1)
theorem aUm {E:Emb}{ns:List Node}{cs:List Con}{c:Value}(h:VR E (.agg [.ilst 4 (map Node.av ns) false,.nils,.int .i64 0,.ilst 2 (map Con.av cs) false]) c) :VR E (Prog.av ⟨ns,[],0,cs⟩) c:=by
 simp only [Prog.av,VR]at h ⊢;obtain⟨ws,rfl,h5⟩ :=h;obtain⟨a1,w1,rfl,c1,h5⟩ :=h5.cons_inv;obtain⟨a2,w2,rfl,c2,h5⟩ :=h5.cons_inv;exact⟨_,rfl,VRs.cons c1 (VRs.cons (aCL _ c2) h5)⟩
def nY (u:LUnit) :Prog:= ⟨u.nodes,[],0,u.cons⟩
def vP (u:LUnit) :Bool:=decide (u.funs.length≤30) &&decide (u.needs.length≤25) &&decide (u.name.length≤30) &&u.funs.all (fun f=>decide (f.name.length≤30)) &&u.needs.all (fun s=>decide (s.length≤30)) &&aJ (nY u)
theorem aGL {u:LUnit}(h:vP u=true) :FewU u:=by
 simp only [vP,and_eq_true,decide_eq_true_eq]at h;obtain⟨⟨⟨⟨⟨h1,h2⟩,h3⟩,h4⟩,h5⟩,h6⟩ :=h;exact⟨h1,h2,h6,fun f hf=>by simpa using List.all_eq_true.1 h4 f hf,fun s hs=>by simpa using List.all_eq_true.1 h5 s hs⟩
theorem bEn (u:LUnit)(hn:u.needs.length≤25) :∀ (t:List aB) (i:Nat),u.needs.drop i=t→Ends PP 0 (aLd u (i:Int)).as (.ret (.bool (t.all (fun s=>decide (s.length≤30)) &&aJ (nY u)))) (aD [] 0)
 | [],i,h=>by
  have:=bA h;rw [all_nil,Bool.true_and];exact bAs u i _ sd (aUl (aE2 (nY u)) (fun E c h=>aUm h))
 | s ::t,i,h=>by
  obtain⟨q1,q2,q3⟩ :=aZ h;by_cases hs:s.length≤30
  · rw [all_cons,decide_eq_true hs,Bool.true_and];exact(bAr u i s sd sd sd (by simp;omega) sd).ends (bEn u hn t (i+1) q2)
  · rw [all_cons,decide_eq_false hs,Bool.false_and,Bool.false_and];exact bAq u i s sd sd sd (by simp;omega)
theorem bEo (u:LUnit)(hf:u.funs.length≤30)(hn:u.needs.length≤25) :∀ (t:List LFun) (i:Nat),u.funs.drop i=t→Ends PP 0 (aLc u (i:Int)).as (.ret (.bool (t.all (fun f=>decide (f.name.length≤30)) &&u.needs.all (fun s=>decide (s.length≤30)) &&aJ (nY u)))) (aD [] 0)
 | [],i,h=>by
  have:=bA h;rw [all_nil,Bool.true_and];exact(bAp u i sd).ends (bEn u hn u.needs 0 rfl)
 | f ::t,i,h=>by
  obtain⟨q1,q2,q3⟩ :=aZ h;by_cases hs:f.name.length≤30
  · rw [all_cons,decide_eq_true hs,Bool.true_and];exact(bAo u i f sd sd sd (by simp;omega) sd).ends (bEo u hf hn t (i+1) q2)
  · rw [all_cons,decide_eq_false hs,Bool.false_and,Bool.false_and,Bool.false_and];exact bAn u i f sd sd sd (by simp;omega)
theorem aXj (u:LUnit) :Pure PP 14 [LUnit.av u] (.bool (vP u)) :=by
 refine dP (s:=bEm u) (by kernel_rfl) (by kernel_rfl) (by simp [keylessL,zG]) (by simp [keyless]) ?_;unfold vP;by_cases h1:u.funs.length≤30
 · by_cases h2:u.needs.length≤25
   · by_cases h3:u.name.length≤30
     · rw [decide_eq_true h1,decide_eq_true h2,decide_eq_true h3,Bool.true_and,Bool.true_and,Bool.true_and];exact(bAm u (by simp;omega) (by simp;omega) (by simp;omega)).ends (bEo u h1 h2 u.funs 0 rfl)
     · rw [decide_eq_false h3];simp only [Bool.and_false,Bool.false_and];exact bAl u (by simp;omega) (by simp;omega) (by simp;omega)
   · rw [decide_eq_false h2];simp only [Bool.and_false,Bool.false_and];exact bAk u (by simp;omega) (by simp;omega)
 · rw [decide_eq_false h1];simp only [Bool.false_and];exact bAj u (by simp;omega)
theorem aFl {α:Type}{l:List α}{i:Nat}{y:α}(h:l[i]?=some y) :l.take (i+1) =l.take i++ [y] :=by rw [List.take_add_one,h];rfl
def kD (l:List LUnit) :Bool:= (l.take 11).all vP&&decide (l.length≤11)
theorem aI3 (l:List LUnit) :∀ (k i:Nat),i+k=11→ (∀u∈l.take i,vP u=true) →i≤l.length→Ends PP 0 (aFk l (i:Int)).as (.ret (.bool (kD l))) (aD [] 0)
 | 0,i,hk,hs,hi=>by
  have e:i=11:=by omega
  subst e;have ev:kD l=decide (((length l:Nat) :Int) ≤ (11:Int)) :=by
   unfold kD;rw [List.all_eq_true.2 hs,Bool.true_and];by_cases h:l.length≤11
   ·rw [decide_eq_true h,decide_eq_true (by omega)]
   ·rw [decide_eq_false h,decide_eq_false (by omega)]
  rw [ev];by_cases h:11<l.length
  ·exact aXf l ((11:Nat) :Int) (by simp;omega) (by decide)
  ·exact aNY l ((11:Nat) :Int) (by simp;omega)
 | k + 1,i,hk,hs,hi=>by
  by_cases h:i<l.length
  · obtain⟨u,hu⟩ :∃u,l[i]?=some u:= ⟨_,getElem?_eq_getElem h⟩;have hp:=aXj u;cases e:vP u
    case false=>
     rw [e]at hp;have ev:kD l=false:=by
      unfold kD;have: (l.take 11).all vP=false:=by
       rw [Bool.eq_false_iff];intro hh;have:=List.all_eq_true.1 hh u (List.mem_of_getElem? (by rw [List.getElem?_take,if_pos (show i<11 by omega)];exact hu));rw [e]at this;cases this
      rw [this,Bool.false_and]
     rw [ev];exact aXd l i u false sd (by simp;omega) sd sd hp rfl
    rw [e]at hp;refine(aXe l i u true sd (by simp;omega) sd sd hp rfl sd).ends (aI3 l k (i+1) (by omega) (fun x hx=>?_) (by omega));rw [aFl hu]at hx;rcases List.mem_append.1 hx with g|g
    ·exact hs x g
    ·rw [List.mem_singleton.1 g];exact e
  · have ev:kD l=decide (((length l:Nat) :Int) ≤ (11:Int)) :=by
     unfold kD;have:l.take 11=l.take i:=by rw [take_of_length_le (by omega),take_of_length_le (by omega)]
     rw [this,List.all_eq_true.2 hs,Bool.true_and,decide_eq_true (show l.length≤11 by omega),decide_eq_true (by omega)]
    rw [ev];exact aNY l i sd
theorem aUn (l:List LUnit) :Pure PP 89 [.ilst 5 (map LUnit.av l) false] (.bool (kD l)) :=
 aV (by kernel_rfl) (by simp [keylessL,keyless]) rfl ((aXc l).ends (aI3 l 11 0 rfl (by simp) (Nat.zero_le _)))
theorem aEL {l:List LUnit}(h:kD l=true) :l.length≤11∧∀u∈l,vP u=true:=by
 simp only [kD,and_eq_true,decide_eq_true_eq]at h;obtain⟨h1,h2⟩ :=h;rw [take_of_length_le h2]at h1;exact⟨h2,List.all_eq_true.1 h1⟩
structure FitU (u:LUnit) :Prop where
 p:FitP (nY u)
 f:u.funs.length<1000000
 n:u.needs.length<1000000
abbrev aXk (a:LUnit):AV:=.agg [(aH a.name),(iC a.cons),(.ilst 2 (map LFun.av a.funs) false),(iS a.needs),(iN a.nodes)]
abbrev aQN (a:Nat)(b:LUnit):=oC a [(aH b.name),(iC b.cons),(.ilst 2 (map LFun.av b.funs) false),(iS b.needs),(iN b.nodes)]
abbrev zH (a:List Node)(b:Int)(c:Node):AV:=.gl 2 4 0 (set a b.toNat (Node.mk c.op (-1) c.kids c.pats)).length false
def bEp(a:LUnit):TS:=cQ PP 16 [(aXk a)] [] 0
def aLj(a:LUnit)(b:List aB)(c:Int):TS:=⟨(tf 16 126 [kp 1 0,(2,(bV false)),(3,(iS b)),(4,(nI c))] [kc f16 244,kl f16 244,.inBlock 0,kc f16 31]),[],[aQN 0 a],1⟩
def aLk(a:LUnit)(c:List aB)(d:Int)(b:List Int):TS:=⟨(tf 16 126 [kp 1 0,(2,(bV false)),(3,(iS c)),kp 6 1,(7,(nI d))] [kc f16 2036,kl f16 2036,.inBlock 2,kc f16 255]),[],[aQN 0 a,oC 1 [(.gl 2 4 0 a.nodes.length false),(.gl 3 1 0 b.length false),(nI 0),(iC a.cons)],oL 2 4 (jN a.nodes),oL 3 1 (jI b)],4⟩
def aDC(a:LUnit)(d:List aB)(b:List Int)(e:Int)(c:List Node):TS:=⟨(tf 16 126 [kp 1 0,(2,(bV false)),(3,(iS d)),kp 6 1,(8,(nI e))] [kc f16 4084,kl f16 4084,.inBlock 4,kc f16 511]),[],[aQN 0 a,oC 1 [(.gl 2 4 0 c.length false),(.gl 3 1 0 b.length false),(nI 0),(iC a.cons)],oL 2 4 (jN c),oL 3 1 (jI b)],4⟩
def aGM(a:LUnit):=tT 0 (bEp a)<|.y fun b:List aB=>gp 8 78 [(aXk a)] (iS b)<|gV 7 39 [(aH a.name)]<|fun c=>.b 2 16 (!c) (gE 23 1 (bV false))<|gl 2 aH a.needs<|gd 3 22 ((a.needs.length:Int) >20) (gE 17 1 (bV false))<|gV 1 79 [(iS b)]<|fun d=>.b 3 27 (!d) (gE 12 1 (bV false))<|gV 2 79 [(iS a.needs)]<|fun e=>.b 3 32 (!e) (gE 6 1 (bV false))<|.W 9 1 [0] (aLj a b 0)
def bAB:=fun a b c d e f=>aGM a b d c e|>.t f tv
def bAC:=fun a b c d e f g=>aGM a b d c e|>.f f|>.t g tv
def bAD:=fun a b c d e f g i j k=>aGM a b e c f|>.f g|>.f i d j|>.t k tv
def bAE:=fun a b c d e f g i j k l m n=>aGM a b f c g|>.f i|>.f j d k|>.f l e m|>.t n tv
def bAF:=fun a b c d e f g i j k l m n=>aGM a b f c g|>.f i|>.f j d k|>.f l e m|>.f n tv
def aGN(a:LUnit)(b:List aB)(c:Int):=tT 0 (aLj a b c)<|gl 6 aH a.needs<|gd 2 37 (c< (a.needs.length:Int)) (gX aH 10 a.needs c<|fun d=>gV 1 64 [(iS b),(aH d)]<|fun e=>.b 1 46 e (gE 6 1 (bV false))<|gw 6 39 (c+1)<|.W 3 1 [0] (aLj a b (c+1)))<|gl 6 aH b<|.b 2 49 ((b.length:Int) ==0) (.i [rn 13,.ctoL 3 0 true [(nI 3),(nI 0),.nils,.nils]] [hr (some [(nI 3),(nI 0),.nils,.nils]),hr true]<|.i [.lw 1 (jN [(Node.mk 3 0 [] [])])] [.q (p:=([(.agg [(nI 3),(nI 0),.nils,.nils])] :List AV) ≠ []) (by simp),.q (p:=VW [(.agg [(nI 3),(nI 0),.nils,.nils])] (jN [(Node.mk 3 0 [] [])])) (aR2 _ _)]<|gv 0 3 0 (.gl 1 4 0 [(Node.mk 3 0 [] [])].length true)<|.i [.cweak 3 0] []<|gy 0 3 0 1 4 Node.av [(Node.mk 3 0 [] [])] false<|.i [.ctoL 3 1 false [(nI 0)]] [hr (some [(nI 0)]),hr true]<|gu 0 2 (jI [0])<|gv 0 3 1 (.gl 2 1 0 [0].length true)<|.i [.cweak 3 1] []<|gy 0 3 1 2 1 aY [0] false<|gl 3 Node.av a.nodes<|.b 2 60 ((a.nodes.length:Int) ==0) (gV 1 22 [(.agg [(iN [(Node.mk 3 0 [] [])]),(iI [0]),(nI 0),(iC a.cons)])]<|fun d=>gE 4 4 (bV d))<|gE 6 4 (bV false))<|.i [rn 3,.reg (rd 4 (.app (jN a.nodes) a.nodes.length::rd 3 []))] [hA (length a.nodes≤1000000),hr (jN a.nodes),.q (p:=length (jN a.nodes) =length a.nodes) (length_map ..),hr (ilst 2 (jC a.cons) false),hr (ilst 2 (jC a.cons) false)]<|.i [rn 7,.cnil 1 1 1] []<|gu 0 3 (jI ([] :List Int))<|gv 0 1 1 (.gl 3 1 0 ([] :List Int).length false)<|.W 0 4 [0,1,2,3] (aLk a b 0 ([] :List Int))
def bAG:=fun a b c d e f g i j k=>aGN a b c|>.t f d g i e j|>.t k tv
def bAH:=fun a b c d e f g i j k l=>aGN a b c|>.t f d g i e j|>.f k l tv
def bAI:=fun a b c d e f g i=>aGN a b c|>.f e|>.t f|>.t g d i tv
def bAJ:=fun a b c d e f=>aGN a b c|>.f d|>.t e|>.f f tv
def bAK:=fun a b c d e f=>aGN a b c|>.f d|>.f e f ⟨kk,⟨kk,trivial⟩⟩
def aXl(c:LUnit)(e:List aB)(d:Int)(a:List Int):=tT 0 (aLk c e d a)<|gl 6 LFun.av c.funs<|gd 2 74 (d< (c.funs.length:Int)) (.y fun b:LFun=>.i [rn 4,.reg (rd 5 (.ans (.idx (LFun.av b))::rd 3 [.app (jI (a++ [b.body])) (a++ [b.body]).length,.d,.d]))] [hA (0≤d),.a (((c.funs)[d.toNat]?) =some b) (bS (f:=LFun.av)),hb aY a,hA (length (a++ [b.body]) ≤1000000),hc aY a [b.body],he aY a [b.body]]<|gw 4 76 (d+1)<|.W 3 6 [0,1,2,5] (aLk c e (d+1) (a++ [b.body])))<|.W 9 4 [0,1,2,3] (aDC c e a 0 c.nodes)
def bAL:=fun a b c d e f g i j k=>aXl a b c d|>.t f e g i j k ⟨kk,⟨kk,trivial⟩⟩
def bAM:=fun a b c d e=>aXl a b c d|>.f e ⟨kk,⟨kk,trivial⟩⟩
def aLl(f:LUnit)(d:List aB)(e:List Int)(c:Int)(b:List Node):=tT 0 (aDC f d e c b)<|gd 9 92 (c< (b.length:Int)) (.i [rn 9,.ans (.ix)] [hA (0≤c),hA (c< (b.length:Int))]<|.y fun a:Node=>gj Node.av 0 b c.toNat a<|.b 9 103 (a.op==4) (gl 3 aH d<|gw 1 108 (0- (d.length:Int))<|gl 2 aH f.needs<|gw 1 112 ((0- (d.length:Int)) - (f.needs.length:Int))<|gl 1 aH d<|gw 1 115 (0- (d.length:Int))<|gw 1 116 ((0- (d.length:Int)) -1)<|gV 0 80 [(nI a.n),(nI ((0- (d.length:Int)) - (f.needs.length:Int))),(nI ((0- (d.length:Int)) -1))]<|fun g=>.b 2 118 g (.i [rn 5,.ans (.ix)] [hA (0≤c),hA (c< (b.length:Int))]<|.i [rn 1,.st (Node.av a) (Node.av (Node.mk a.op (-1) a.kids a.pats))] [.a (((b)[c.toNat]?) =some a) (dN (f:=Node.av)),hr (some (Node.av (Node.mk a.op (-1) a.kids a.pats)))]<|.i [.lset 2 (jN (set b c.toNat (Node.mk a.op (-1) a.kids a.pats)))] [.q (p:=(jN b).set (0+c.toNat) (Node.av (Node.mk a.op (-1) a.kids a.pats)) = (jN (set b c.toNat (Node.mk a.op (-1) a.kids a.pats)))) (iF _ _ _ _)]<|.i [.set 90 (zH b c a)] [.q (p:=(AV.gl 2 4 0 b.length false) = (zH b c a)) (bD (length_set ..).symm)]<|.i [.set 96 (zH b c a)] [.q (p:=(AV.gl 2 4 0 b.length false) = (zH b c a)) (bD (length_set ..).symm)]<|.i [.set 120 (zH b c a)] [.q (p:=(AV.gl 2 4 0 b.length false) = (zH b c a)) (bD (length_set ..).symm)]<|.i [.cset 1 0 (zH b c a)] [.q (p:=(AV.gl 2 4 0 b.length false) = (zH b c a)) (bD (length_set ..).symm)]<|gw 5 94 (c+1)<|.W 3 5 [0,1,2,3] (aDC f d e (c+1) (set b c.toNat (Node.mk a.op (-1) a.kids a.pats))))<|gw 6 94 (c+1)<|.W 3 5 [0,1,2,3] (aDC f d e (c+1) b))<|gw 22 94 (c+1)<|.W 3 5 [0,1,2,3] (aDC f d e (c+1) b))<|.i [rn 5,.frz 124 2 (jN b)] [hk Node.av b,.q (p:=frzOk 2 4 (jN b) (jN b) (.agg [(.gl 2 4 0 b.length false),(.gl 3 1 0 e.length false),(nI 0),(iC f.cons)])) (by simp [frzOk,AV.frzOkL,take_of_length_le])]<|.i [.frz 124 3 (jI e)] [hk aY e,.q (p:=frzOk 3 1 (jI e) (jI e) (.agg [(iN b),(.gl 3 1 0 e.length false),(nI 0),(iC f.cons)])) (by simp [frzOk,AV.frzOkL,take_of_length_le])]<|gV 0 22 [(.agg [(iN b),(iI e),(nI 0),(iC f.cons)])]<|fun a=>gE 3 4 (bV a)
def bAN:=fun e f g i j k l m a b c n d o p q r s=>aLl e f g i j|>.t m a b k c|>.t n d o d p l q|>.t r a b c s ⟨kk,⟨kk,trivial⟩⟩
def bAO:=fun b c d e f g i j k l m n a o p q r s=>aLl b c d e f|>.t j k l g m|>.t n a o a p i q|>.f r s ⟨kk,⟨kk,trivial⟩⟩
def bAP:=fun a b c d e f g i j k l m=>aLl a b c d e|>.t g i j f k|>.f l m ⟨kk,⟨kk,trivial⟩⟩
def bAQ:=fun a b c d e f g i=>aLl a b c d e|>.f g f i tv
def tG {α:Type}(f:α→α)(l:List α)(i:Nat) :List α:= (l.take i).map f++l.drop i
section
variable {α :Type} {f:α→α} {l:List α} {i:Nat}
theorem aI4 :tG f l 0=l:=by simp [tG]
theorem aGO : (tG f l i).length=l.length:=by simp [tG];omega
theorem aN2 (h:l.length≤i) :tG f l i=l.map f:=by simp [tG,take_of_length_le h,List.drop_eq_nil_of_le h]
theorem aBE {x:α}(h:l[i]?=some x) :tG f l i= (l.take i).map f++x::l.drop (i+1) ∧ ((l.take i).map f).length=i:=by
 have hi:= (List.getElem?_eq_some_iff.1 h).1;refine⟨?_,by simp;omega⟩;unfold tG;rw [List.drop_eq_getElem_cons hi];rw [(List.getElem?_eq_some_iff.1 h).2]
theorem aN3 {x:α}(h:l[i]?=some x) : (tG f l i)[i]?=some x:=by
 obtain⟨e,hl⟩ :=aBE (f:=f) h;rw [e,List.getElem?_append_right (by omega),hl];simp
theorem aI5 {x:α}(h:l[i]?=some x) :tG f l (i+1) = (l.take i).map f++f x::l.drop (i+1) :=by
 unfold tG;rw [aFl h];simp
theorem aN4 {x:α}(h:l[i]?=some x) : (tG f l i).set i (f x) =tG f l (i+1) :=by
 obtain⟨e,hl⟩ :=aBE (f:=f) h;rw [e,aI5 h,List.set_append_right _ _ (by omega),hl];simp
theorem tH {x:α}(h:l[i]?=some x)(e:f x=x) :tG f l i=tG f l (i+1) :=by
 rw [(aBE (f:=f) h).1,aI5 h,e]
end
def gP (a b:Nat)(x:Node) :Node:=if x.op=4∧ -(a:Int) -b≤x.n∧x.n≤ -(a:Int) -1 then⟨x.op,-1,x.kids,x.pats⟩else x
def cI (u:LUnit) :List Int:=u.funs.map LFun.body
def gW (u:LUnit) :Prog:= ⟨u.nodes.map (gP u.funs.length u.needs.length),cI u,0,u.cons⟩
def aA9 (u:LUnit) :Prog:= ⟨[⟨3,0,[],[]⟩],[0],0,u.cons⟩
def jJ (u:LUnit) :Bool:=mJ u.name&&decide (u.needs.length≤20) &&gJ (aC u) &&gJ u.needs&&u.needs.all (fun s=> !aQ (aC u) s) &&
 (if u.funs.length=0 then decide (u.nodes.length=0) &&aP (aA9 u)else aP (gW u))
theorem lJ {u:LUnit}(h:FewU u) :aJ (gW u) =true:=by
 have h0:=h.p;have hf:=h.f;simp only [aJ,and_eq_true,decide_eq_true_eq]at h0 ⊢;obtain⟨⟨⟨⟨h1,h2⟩,h3⟩,h4⟩,h5⟩ :=h0;refine⟨⟨⟨⟨by simp [gW];exact h1,by simp [gW,cI];omega⟩,h3⟩,h4⟩,List.all_eq_true.2 (fun x hx=>?_)⟩;simp only [gW,List.mem_map]at hx;obtain⟨y,hy,rfl⟩ :=hx;have:=List.all_eq_true.1 h5 y hy;unfold gP;split<;>exact this
theorem aBF {u:LUnit}(h:FewU u) :aJ (aA9 u) =true:=by
 have h0:=h.p;simp only [aJ,and_eq_true,decide_eq_true_eq]at h0 ⊢;obtain⟨⟨⟨⟨h1,h2⟩,h3⟩,h4⟩,h5⟩ :=h0;exact⟨⟨⟨⟨by simp [aA9],by simp [aA9]⟩,h3⟩,h4⟩,by rfl⟩
section
variable (u :LUnit) (hu:FewU u)
include hu
theorem bEq :∀ (t:List Node) (i:Nat),u.nodes.drop i=t→i≤u.nodes.length→Ends PP 0 (aDC u (aC u) (cI u) (i:Int) (tG (gP u.funs.length u.needs.length) u.nodes i)).as (.ret (.bool (aP (gW u)))) (aD [] 0)
 | [],i,h,hi=>by
  have hd:=bA h;have hn:i=u.nodes.length:=by omega
  have hl: (tG (gP u.funs.length u.needs.length) u.nodes i).length=u.nodes.length:=aGO;rw [aN2 (by omega)]at hl ⊢;exact bAQ u (aC u) (cI u) i _ _ (by rw [hl];exact sd) (mA (gW u) (lJ hu))
 | x ::t,i,h,hi=>by
  obtain⟨q1,q2,q3⟩ :=aZ h;have hi:= (List.getElem?_eq_some_iff.1 q1).1;have hn:u.nodes.length≤320:=by have:=hu.p;simp only [aJ,and_eq_true,decide_eq_true_eq]at this;exact this.1.1.1.1
  have hf:=hu.f;have hd:=hu.n;have hl: (tG (gP u.funs.length u.needs.length) u.nodes i).length=u.nodes.length:=aGO;have ho: (aC u).length=u.funs.length:=by simp [aC]
  have hg:=aN3 (f:=gP u.funs.length u.needs.length) q1;have w1:IntKind.i64.wrap (0- ((length (aC u) :Nat) :Int)) =0- ((length (aC u) :Nat) :Int) :=by apply wrap64<;>omega
  have w2:IntKind.i64.wrap (0- ((length (aC u) :Nat) :Int) - ((length u.needs:Nat) :Int)) =0- ((length (aC u) :Nat) :Int) - ((length u.needs:Nat) :Int) :=by apply wrap64<;>omega
  have w3:IntKind.i64.wrap (0- ((length (aC u) :Nat) :Int) - (1:Int)) =0- ((length (aC u) :Nat) :Int) - (1:Int) :=by apply wrap64<;>omega
  have ih:=bEq t (i+1) q2 (by omega);by_cases h4:x.op=4
  · have hp:=aQM x.n (0- ((length (aC u) :Nat) :Int) - ((length u.needs:Nat) :Int)) (0- ((length (aC u) :Nat) :Int) - (1:Int));by_cases hb: -(u.funs.length:Int) -u.needs.length≤x.n∧x.n≤ -(u.funs.length:Int) -1
    · have eb:dG x.n (0- ((length (aC u) :Nat) :Int) - ((length u.needs:Nat) :Int)) (0- ((length (aC u) :Nat) :Int) - (1:Int)) =true:=by rw [inB_iff,ho];omega
      rw [eb]at hp;have ef:gP u.funs.length u.needs.length x= ⟨x.op,-1,x.kids,x.pats⟩ :=by unfold gP;rw [if_pos ⟨h4,hb⟩]
      have h1:=bAN u (aC u) (cI u) i _ x true (by rw [hl];exact sd) sd (by rw [hl];omega) (by rw [Int.toNat_natCast];exact hg) (by simp [h4]) w1 w2 w3 hp rfl sd;rw [Int.toNat_natCast,←ef,aN4 q1]at h1;exact h1.ends ih
    · have eb:dG x.n (0- ((length (aC u) :Nat) :Int) - ((length u.needs:Nat) :Int)) (0- ((length (aC u) :Nat) :Int) - (1:Int)) =false:=by rw [Bool.eq_false_iff,Ne,inB_iff,ho];omega
      rw [eb]at hp;have ef:gP u.funs.length u.needs.length x=x:=by unfold gP;rw [if_neg (fun g=>hb g.2)]
      have h1:=bAO u (aC u) (cI u) i _ x false (by rw [hl];exact sd) sd (by rw [hl];omega) (by rw [Int.toNat_natCast];exact hg) (by simp [h4]) w1 w2 w3 hp rfl sd;rw [tH q1 ef]at h1 hl ⊢;exact h1.ends ih
  · have ef:gP u.funs.length u.needs.length x=x:=by unfold gP;rw [if_neg (fun g=>h4 g.1)]
    have h1:=bAP u (aC u) (cI u) i _ x (by rw [hl];exact sd) sd (by rw [hl];omega) (by rw [Int.toNat_natCast];exact hg) (by simp [h4]) sd;rw [tH q1 ef]at h1 hl ⊢;exact h1.ends ih
theorem bEr :∀ (t:List LFun) (i:Nat) (acc:List Int),u.funs.drop i=t→acc.length=i→Ends PP 0 (aLk u (aC u) (i:Int) acc).as (.ret (.bool (aP (gW u)))) (aD [] 0) ∨acc++t.map LFun.body≠cI u
 | [],i,acc,h,ha=>by
  have:=bA h;by_cases e:acc=cI u
  · subst e;have:=bEq u hu u.nodes 0 rfl (Nat.zero_le _);rw [aI4]at this;exact .inl ((bAM u (aC u) i _ sd).ends this)
  ·exact .inr (by simpa using e)
 | f::t,i,acc,h,ha=>by
  obtain⟨q1,q2,q3⟩ :=aZ h;have hi:= (List.getElem?_eq_some_iff.1 q1).1;have hf:=hu.f;rcases bEr t (i+1) (acc++ [f.body]) q2 (by simp [ha])with g|g
  ·exact .inl ((bAL u (aC u) i acc f sd sd sd (by simp;omega) sd).ends g)
  ·exact .inr (by simpa using g)
theorem bEs :∀ (t:List aB) (i:Nat),u.needs.drop i=t→Ends PP 0 (aLj u (aC u) (i:Int)).as (.ret (.bool (t.all (fun s=> !aQ (aC u) s) && (if u.funs.length=0 then decide (u.nodes.length=0) &&aP (aA9 u)else aP (gW u))))) (aD [] 0)
 | [], i,h=>by
  have:=bA h;have ho: (aC u).length=u.funs.length:=by simp [aC]
  have hn:u.nodes.length≤320:=by have:=hu.p;simp only [aJ,and_eq_true,decide_eq_true_eq]at this;exact this.1.1.1.1
  rw [all_nil,Bool.true_and];by_cases h0:u.funs.length=0
  · rw [if_pos h0];by_cases h1:u.nodes.length=0
    · rw [decide_eq_true h1,Bool.true_and];exact bAI u (aC u) i _ sd (by rw [ho,h0];rfl) (by rw [h1];rfl) (mA (aA9 u) (aBF hu))
    · rw [decide_eq_false h1,Bool.false_and];exact bAJ u (aC u) i sd (by rw [ho,h0];rfl) (beq_eq_false_iff_ne.2 (by omega))
  · rw [if_neg h0];refine(bAK u (aC u) i sd (beq_eq_false_iff_ne.2 (by rw [ho];omega)) (by omega)).ends ?_;rcases bEr u hu u.funs 0 [] rfl rfl with g|g
    ·exact g
    ·exact absurd rfl g
 | s::t,i,h=>by
  obtain⟨q1,q2,q3⟩ :=aZ h;have hf:=hu.f;have hd:=hu.n;have hh:=aDu (aC u) s (by simp [aC];omega);rw [all_cons];cases e:aQ (aC u) s
  case true=>
   rw [e]at hh;rw [Bool.not_true,Bool.false_and,Bool.false_and];exact bAG u (aC u) i s true sd sd sd hh rfl
  rw [e]at hh;rw [Bool.not_false,Bool.true_and];exact(bAH u (aC u) i s false sd sd sd hh rfl sd).ends (bEs t (i+1) q2)
theorem aXm :Pure PP 16 [LUnit.av u] (.bool (jJ u)) :=by
 have hf:=hu.f;have hd:=hu.n;refine dP (s:=bEp u) (by kernel_rfl) (by kernel_rfl) (by simp [keylessL,zG]) (by simp [keyless]) ?_;have a0:=aXh u (by omega);have a1:=aGx u.name;have a2:=aEK (aC u) (by simp [aC];omega);have a3:=aEK u.needs (by omega);unfold jJ;cases e1:mJ u.name
 case false=>rw [e1]at a1;simp only [Bool.false_and];exact bAB u (aC u) false a0 a1 rfl
 rw [e1]at a1;by_cases e2:u.needs.length≤20
 · rw [decide_eq_true e2];cases e3:gJ (aC u)
   case false=>rw [e3]at a2;simp only [Bool.true_and,Bool.false_and,Bool.and_false];exact bAD u (aC u) true false a0 a1 rfl (by simp;omega) a2 rfl
   rw [e3]at a2;cases e4:gJ u.needs
   case false=>rw [e4]at a3;simp only [Bool.true_and,Bool.false_and,Bool.and_false];exact bAE u (aC u) true true false a0 a1 rfl (by simp;omega) a2 rfl a3 rfl
   rw [e4]at a3;simp only [Bool.true_and];exact(bAF u (aC u) true true true a0 a1 rfl (by simp;omega) a2 rfl a3 rfl).ends (bEs u hu u.needs 0 rfl)
 · rw [decide_eq_false e2];simp only [Bool.and_false,Bool.false_and];exact bAC u (aC u) true a0 a1 rfl (by simp;omega)
end
def gR (l:List LUnit) :Bool:=decide (l.length≤10) &&l.all jJ
theorem aN5 (l:List LUnit)(hl:l.length≤10)(hu:∀u∈l,FewU u) :∀ (t:List LUnit) (i:Nat),l.drop i=t→Ends PP 0 (aLe l (i:Int)).as (.ret (.bool (t.all jJ))) (aD [] 0)
 | [],i,h=>by
  have:=bA h;exact bAx l i sd
 | u::t,i,h=>by
  obtain⟨q1,q2,q3⟩ :=aZ h;have hp:=aXm u (hu u (List.mem_of_getElem? q1));rw [all_cons];cases e:jJ u
  case false=>rw [e]at hp;exact bAv l i u false sd sd sd hp rfl
  rw [e]at hp;rw [Bool.true_and];exact(bAw l i u true sd sd sd hp rfl sd).ends (aN5 l hl hu t (i+1) q2)
theorem aXn (l:List LUnit)(hu:∀u∈l,FewU u) :Pure PP 90 [.ilst 5 (map LUnit.av l) false] (.bool (gR l)) :=by
 refine aV (by kernel_rfl) (by simp [keylessL,keyless]) rfl ?_;unfold gR;by_cases h:l.length≤10
 · rw [decide_eq_true h,Bool.true_and];exact(bAu l (by simp;omega)).ends (aN5 l h hu l 0 rfl)
 · rw [decide_eq_false h,Bool.false_and];exact bAt l (by simp;omega)
def tI (own:List aB) :List aB→List aB→List aB
 |out,[] =>out
 |out,s::t=>tI own (if aQ own s=true∨aQ out s=true then out else out++ [s]) t
def zI (own:List aB) :List aB→List LUnit→List aB
 |out,[] =>out
 |out,u::l=>zI own (tI own out u.needs) l
def zJ (l:List LUnit) :List aB:=zI (aN l) [] l
theorem aI6 (own:List aB) :∀ (t out:List aB),(tI own out t).length≤out.length+t.length
 | [],out=>by simp [tI]
 | s::t,out=>by
  rw [tI];have:=aI6 own t (if aQ own s=true∨aQ out s=true then out else out++ [s]);split at this<;>simp at this ⊢ <;>split<;>simp_all<;>omega
theorem aAo {s x:aB}{l:List aB}:aQ (x::l) s= (decide (x=s) ||aQ l s) :=rfl
theorem aGP (l:List LUnit)(hu:∀u∈l,FewU u) : (aN l).length≤30*l.length:=by
 induction l with
 |nil=>simp [aN]
 | cons u l ih=>
  have:=ih (fun x hx=>hu x (mem_cons_of_mem _ hx));have h1:= (hu u (mem_cons_self ..)).f;rw [jG,length_append,length_cons];simp [aC];omega
def aEM (out:List Con)(c:Con) :Option (List Con) :=match out.find? (fun d=>decide (d.name=c.name))with
 |none=>some (out++ [c])
 |some d=>if d.args=c.args then some out else none
def zK :List Con→List Con→Option (List Con)
 |out,[] =>some out
 | out,c::t=>match aEM out c with
  |some o=>zK o t
  |none=>none
def tJ :List Con→List LUnit→Option (List Con)
 |out,[] =>some out
 | out,u::t=>match zK out u.cons with
  |some o=>tJ o t
  |none=>none
def aGQ (l:List LUnit) :Option (List Con) :=tJ [] l
theorem aI7 {out o:List Con}{c:Con}(h:aEM out c=some o) :o.length≤out.length+1:=by
 unfold aEM at h;split at h
 ·cases h;simp
 · split at h
   ·cases h;omega
   ·cases h
theorem aDD :∀ {t out o:List Con},zK out t=some o→o.length≤out.length+t.length
 | [],out,o,h=>by cases h;simp
 | c ::t,out,o,h=>by
  rw [zK]at h;split at h
  · rename_i o1 h1;have:=aI7 h1;have:=aDD h;simp;omega
  ·cases h
mutual
def aXo :Pat→Bool
 | .mk _ _ s ps=>decide (s= []) &&rQ ps
def rQ :List Pat→Bool
 | [] =>true
 |p::ps=>aXo p&&rQ ps
end
mutual
theorem bAR {cons:List Con}:∀ (p:Pat),cM cons p=true→aXo p=true
 | .mk f n s ps,h=>by
  rw [cM,and_eq_true]at h;have h1:=h.1;rw [cX,and_eq_true]at h1;rw [aXo,h1.2,aGR ps h.2];rfl
theorem aGR {cons:List Con}:∀ (ps:List Pat),bX cons ps=true→rQ ps=true
 | [],_=>rfl
 | p::ps,h=>by
  rw [bX,and_eq_true]at h;rw [rQ,bAR p h.1,aGR ps h.2];rfl
end
abbrev UAV (u:LUnit) :AV:=.agg [aH u.name,.ilst 2 (map Con.av u.cons) false,.ilst 2 (map LFun.av u.funs) false,.ilst 1 (map aH u.needs) false,.ilst 4 (map Node.av u.nodes) false]
abbrev aI8 (u:LUnit) :AObj:=.cells (putCells .leaf 0 [aH u.name,.ilst 2 (map Con.av u.cons) false,.ilst 2 (map LFun.av u.funs) false,.ilst 1 (map aH u.needs) false,.ilst 4 (map Node.av u.nodes) false]) 5 [] false
abbrev aBa (x:Node) :AObj:=.cells (putCells .leaf 0 [.int .i64 x.op,.int .i64 x.n,.ilst 1 (map aY x.kids) false,.ilst 4 (Pats.av x.pats) false]) 4 [] false
structure WS where
 l:List Con
 mc:List (aB×Int)
 ar:List Int
def kX (n:Int) :aB:=[UInt8.ofNat n.toNat]
theorem aI9 {n:Int}(h:0≤n)(h2:n<256) :kJ [.int .u8 n] =some (aH (kX n)) :=by
 have:n.toNat<256:=by omega
 simp only [kJ,aBV,h,h2,and_self,if_true];simp [aH,kX,aA,UInt8.toNat_ofNat,Nat.mod_eq_of_lt this]
theorem wrap_u8 {n:Int}(h:0≤n)(h2:n<256) :IntKind.u8.wrap n=n:=by
 unfold IntKind.wrap;simp [IntKind.signed,IntKind.bits];omega
theorem bGx {n:Int}(h:0≤n)(h2:n≤1000000000000) :aC7 PP .quo 3 (.int .i64 n) (.int .i64 26) false true=some (.int .i64 (Int.tdiv n 26)) :=by
 have e:Int.tdiv n 26=n / 26:=Int.tdiv_eq_ediv_of_nonneg h;simp only [aC7,aFt,if_true];rw [e];have:xF .i64 (n / 26) =n / 26:=sd;rw [this];simp
theorem bGy {n:Int}:aC7 PP .rem 3 (.int .i64 n) (.int .i64 26) false true=some (.int .i64 (Int.tmod n 26)) :=by
 simp [aC7,aFt]
theorem aBb :∀ (a b:aB),aA (a++b) =aA a+256 ^ a.length*aA b
 | [],b=>by simp [aA]
 | x::a,b=>by
  simp only [List.cons_append,aA,aBb a b,length_cons,Nat.pow_succ];rw [Nat.mul_add,Nat.mul_comm (256 ^ a.length) 256,Nat.mul_assoc];omega
theorem aLm (a b:aB) :aA (a++b) =aA a % 256 ^ a.length+256 ^ a.length*aA b:=by
 rw [aBb,Nat.mod_eq_of_lt (aCx a)]
theorem bAS {a b:aB}(h:a.length+b.length≤1000000000) :aC7 PP .add 9 (aH a) (aH b) false false=some (aH (a++b)) :=by
 have hb:Nat.ble (a.length+b.length) 1000000000=true:=by rw [Nat.ble_eq];exact h
 simp only [aC7,aH,aJA,hb,cond,length_append,aLm];rfl
def fN (n:Nat) :aB:=if h:n<26 then kX (97+n)else fN (n / 26-1) ++kX (97+ (n % 26:Nat))
termination_by n
decreasing_by omega
theorem vQ {n:Nat}(h:n<26) :fN n=kX (97+n) :=by rw [fN];simp [h]
theorem vR {n:Nat}(h:¬n<26) :fN n=fN (n / 26-1) ++kX (97+ (n % 26:Nat)) :=by rw [fN];simp [h]
theorem aXp :∀ (n:Nat),(fN n).length≤n+1:=by
 intro n
 induction n using Nat.strongRecOn with
 | ind n ih=>
  by_cases h:n<26
  ·rw [vQ h];simp [kX]
  · rw [vR h];have:=ih (n / 26-1) (by omega);simp only [length_append,kX,length_cons,length_nil];omega
structure TB (p:Prog) (fl pl:List aB) (A:Nat) :Prop where
 fl:fl.length≤1000000000
 pl:pl.length≤1000000000
 ks:∀x∈p.nodes,x.kids.length<1000000∧x.pats.length<1000000∧∀q∈x.pats,cU q<1000000
 ad:∀x∈p.nodes,∀i:Nat,i<x.kids.length→Pure PP A [Node.av x,.int .i64 (i:Int)] (.int .i64 (aEF x i))
 kl:keyless (PA p) =true
theorem aGS {E:Emb}{e:Nat}{xs:List AV}{cv:Value}(h:VR E (.ilst e xs true) cv) :VR E (.ilst e xs false) cv:=by
 simp only [VR]at h ⊢;obtain⟨vs,h1,h2,h3⟩ :=h;refine⟨vs,h1,h2,?_⟩;rcases h3 with⟨a1,a,cap,a2,a3,a4⟩ | ⟨k,a,cap,C,a1,a2,a3,a4,a5⟩
 ·exact .inl ⟨a1,a,cap,a2,a3,fun e=> (by cases e)⟩
 ·exact .inr ⟨k,a,cap,C,a1,a2,a3,fun e=> (by cases e),a5⟩
def vS :Nat→Nat
 |0=>0
 |k+1=>26+26*vS k
theorem aDE :∀ (k n:Nat),vS k≤n→k+1≤ (fN n).length
 | 0,n,_=>by
  by_cases h:n<26
  ·rw [vQ h];simp [kX]
  ·rw [vR h];simp [kX]
 | k+1,n,h=>by
  simp only [vS]at h;rw [vR (by omega)];have:=aDE k (n / 26-1) (by omega);simp only [length_append,kX,length_cons,length_nil];omega
theorem aGT :∀ (k n:Nat),n<vS (k+1) → (fN n).length≤k+1
 | 0,n,h=>by
  simp only [vS]at h;rw [vQ (by omega)];simp [kX]
 | k +1,n,h=>by
  by_cases h2:n<26
  ·rw [vQ h2];simp [kX]
  · rw [vR h2];rw [vS]at h;have:=aGT k (n / 26-1) (by omega);simp only [length_append,kX,length_cons,length_nil];omega
theorem aJa {r:Nat}(h:r<26) :fG (kX (97+ (r:Int))) =true:=by
 have e: (97+ (r:Int)).toNat=97+r:=by omega
 have e2: (97+r) % 256=97+r:=Nat.mod_eq_of_lt (by omega);simp only [kX,fG,all_cons,all_nil,Bool.and_true,sG,e,UInt8.toNat_ofNat',and_eq_true,decide_eq_true_eq];have e3: (97+r) % 2 ^ 8=97+r:=Nat.mod_eq_of_lt (by omega);rw [e3];omega
theorem aQO :∀ (n:Nat),fG (fN n) =true:=by
 intro n
 induction n using Nat.strongRecOn with
 | ind n ih=>
  by_cases h:n<26
  ·rw [vQ h];exact aJa h
  · rw [vR h];have h1:=ih (n / 26-1) (by omega);have h2:=aJa (r:=n % 26) (by omega);unfold fG at h1 h2 ⊢;rw [List.all_append,h1,h2];rfl
theorem aXq :∀k∈kwL,k.length≤6:=by
 intro k hk;have:kwL.all (fun k=>decide (k.length≤6)) =true:=by kernel_rfl
 exact of_decide_eq_true (List.all_eq_true.1 this k hk)
theorem aUo {n:Nat}(h1:vS 6≤n)(h2:n<vS 8) :mJ (fN n) =true:=by
 have a:=aDE 6 n h1;have b:=aGT 7 n h2;have c:aQ kwL (fN n) =false:=by
  cases h:aQ kwL (fN n)
  case false=>rfl
  unfold aQ at h;obtain⟨w,hw,e⟩ :=List.any_eq_true.1 h;have e:=of_decide_eq_true e;have:=aXq w hw;have: (fN n).length=w.length:=by rw [e]
  omega
 unfold mJ;rw [c,aQO];simp;omega
structure Spk where
 prog:Prog
 funs:List aB
 places:List aB
def Spk.av (x:Spk) :AV:=.agg [.ilst 4 (map Node.av x.prog.nodes) false,.ilst 1 (map aY x.prog.funs) false,.int .i64 x.prog.main,.ilst 2 (map Con.av x.prog.cons) false,.ilst 1 (map aH x.funs) false,.ilst 1 (map aH x.places) false]
section
variable (p q:Prog) (mn:Int) (zn:List Node) (zu:List Int)
end
theorem hasS_mem {l:List aB}{s:aB}:aQ l s=true↔s∈l:=by
 simp [aQ]
theorem vT :∀ (l pre:List aB),cR pre l=true→l.Nodup∧∀x∈l,x∉pre
 | [],pre,_=> ⟨List.nodup_nil,fun x hx=>by cases hx⟩
 | x::t,pre,h=>by
  simp only [cR,and_eq_true,Bool.not_eq_true']at h;obtain⟨h1,h2⟩ :=vT t (pre++ [x]) h.2
  have hx:x∉pre:=fun hm=>by
   have:=hasS_mem.2 hm;rw [h.1]at this;cases this
  refine⟨List.nodup_cons.2 ⟨fun hm=>h2 x hm (by simp),h1⟩,fun y hy=>?_⟩;rcases List.mem_cons.1 hy with rfl|hy
  ·exact hx
  ·exact fun hm=>h2 y hy (List.mem_append_left _ hm)
theorem aFm (k v j:Int)(m:List (Int×Int)) :iL (cB k v m) j=if j=k then v else iL m j:=by
 unfold iL;rw [qM];split<;>rfl
structure Fm (p:Prog) :Prop where
 fine:FineP p
 cons:p.cons.length≤25
 dup: ((p.funs.map (pre p p.nodes.length)).flatten).Nodup
 len: ((p.funs.map (pre p p.nodes.length)).flatten).length=p.nodes.length
 into:∀x∈ (p.funs.map (pre p p.nodes.length)).flatten,0≤x∧x<p.nodes.length
 node:∀ (i:Nat) (x:Node),p.nodes[i]?=some x→bJ p x=true∧x.pats.length≤10
 names: (p.cons.map Con.name).Nodup
theorem aQP {p:Prog}(hs:aJ p=true)(hf:aP p=true) :Fm p:=by
 have hss:=hs;simp only [aJ,and_eq_true,decide_eq_true_eq]at hss;obtain⟨⟨⟨⟨s1,s2⟩,s3⟩,_⟩,s5⟩ :=hss;obtain⟨a,b,c,d⟩ :=mY hs hf;refine⟨nX hs hf,s3,a,b,c,fun i x hx=> ⟨d i x hx,?_⟩,?_⟩
 · have h10:=List.all_eq_true.1 s5 x (List.mem_of_getElem? hx);simp only [aW,and_eq_true,decide_eq_true_eq]at h10;omega
 · simp only [aP,and_eq_true,zA]at hf;exact(vT _ _ hf.1.2.2).1
theorem Fm.fit {p:Prog}(h:Fm p)(i:Nat)(x:Node)(hx:p.nodes[i]?=some x) :bGw x:=by
 obtain⟨h1,h2⟩ :=h.node i x hx;have:= (h.fine.node i x hx).2.1;exact⟨by omega,(aUc h.fine.fsmall h1 h2).1.1⟩
def nodeAt (p:Prog)(k:Int) :Node:= (p.nodes[k.toNat]?).getD ⟨0,0,[],[]⟩
theorem fD {p:Prog}{k:Int}{x:Node}(h:p.nodes[k.toNat]?=some x) :nodeAt p k=x:=by unfold nodeAt;rw [h];rfl
def dY (p:Prog) :List Int:= (p.funs.map (pre p p.nodes.length)).flatten
theorem aQQ (p:Prog)(mf mc:List (Int×Int))(to:List Int) :∀ (f:Nat) (a:Int),wB p mf mc to f a= (pre p f a).map fun k=>fK mf mc to (nodeAt p k)
 |0,a=>rfl
 | f+1,a=>by
  rw [wB,pre];cases hx:p.nodes[a.toNat]? with
  |none=>rfl
  | some x=>
   simp only [map_cons,fD hx,map_flatten,map_map];congr 2;exact map_congr_left (fun k _=>aQQ p mf mc to f k)
theorem aQR (p:Prog)(mf mc:List (Int×Int))(to:List Int) :aW1 p mf mc to p.nodes.length= (dY p).map fun k=>fK mf mc to (nodeAt p k) :=by
 unfold aW1 dY;rw [map_flatten,map_map];congr 1;exact map_congr_left (fun k _=>aQQ p mf mc to _ k)
theorem tK {p:Prog}(hp:FineP p) :∀ (f g:Nat) (k:Int),0≤k→k<p.nodes.length→p.nodes.length-k.toNat≤f→p.nodes.length-k.toNat≤g→pre p f k=pre p g k
 |0,_,k,h0,h1,h2,_=>by omega
 |_+1,0,k,h0,h1,_,h3=>by omega
 | f+1,g+1,k,h0,h1,h2,h3=>by
  obtain⟨x,hx⟩ :∃x,p.nodes[k.toNat]?=some x:= ⟨_,getElem?_eq_getElem (by omega)⟩;rw [pre,pre,hx];simp only;congr 2
  exact map_congr_left (fun c hc=>by
   have:= (hp.node _ _ hx).2.2 c hc;exact tK hp f g c (by omega) (by omega) (by omega) (by omega))
def KidsAfter (p:Prog)(l:List Int) :Prop:=∀ (i:Nat) (k c:Int),l[i]?=some k→c∈cT p k→∃j,i<j∧l[j]?=some c
theorem KidsAfter.append {p:Prog}{l m:List Int}(h1:KidsAfter p l)(h2:KidsAfter p m) :KidsAfter p (l++m) :=fun i k c hi hc=>by
 by_cases h:i<l.length
 · rw [List.getElem?_append_left h]at hi;obtain⟨j,hj,e⟩ :=h1 i k c hi hc;exact⟨j,hj,by rw [List.getElem?_append_left (List.getElem?_eq_some_iff.1 e).1];exact e⟩
 · rw [List.getElem?_append_right (by omega)]at hi;obtain⟨j,hj,e⟩ :=h2 _ k c hi hc;exact⟨l.length+j,by omega,by rw [List.getElem?_append_right (by omega),show l.length+j-l.length=j by omega];exact e⟩
theorem KidsAfter.flatten {p:Prog}:∀ {L:List (List Int)},(∀l∈L,KidsAfter p l) →KidsAfter p L.flatten
 | [],_=>fun i k c hi _=>by simp at hi
 | l::L,h=>by
  rw [flatten_cons];exact(h l (mem_cons_self ..)).append (KidsAfter.flatten fun m hm=>h m (mem_cons_of_mem _ hm))
theorem aDF {p:Prog}(hp:FineP p) :∀ (f:Nat) (k:Int),0≤k→k<p.nodes.length→p.nodes.length-k.toNat≤f→KidsAfter p (pre p f k)
 |0,k,h0,h1,h2=>by omega
 | f +1,k,h0,h1,h2=>by
  obtain⟨x,hx⟩ :∃x,p.nodes[k.toNat]?=some x:= ⟨_,getElem?_eq_getElem (by omega)⟩;have e:pre p (f+1) k=k:: (x.kids.map (pre p f)).flatten:=by rw [pre,hx]
  have hks:= (hp.node _ _ hx).2.2
  have hrest:KidsAfter p (x.kids.map (pre p f)).flatten:=KidsAfter.flatten fun l hl=>by
   obtain⟨c,hc,rfl⟩ :=List.mem_map.1 hl;have:=hks c hc;exact aDF hp f c (by omega) (by omega) (by omega)
  rw [e];intro i k' c hi hc;cases i with
  | zero=>
   simp only [List.getElem?_cons_zero,Option.some.injEq]at hi;subst hi;have ek:cT p k=x.kids:=by unfold cT;rw [hx]
   rw [ek]at hc
   have hm:c∈ (x.kids.map (pre p f)).flatten:=List.mem_flatten.2 ⟨pre p f c,List.mem_map.2 ⟨c,hc,rfl⟩,by
    have:=hks c hc;obtain⟨y,g,_,_,h3⟩ :=qN hp (f:=f) (a:=c) (by omega) (by omega) (by omega);rw [h3];exact mem_cons_self ..⟩
   obtain⟨j,hj⟩ :=List.mem_iff_getElem?.1 hm;exact⟨j+1,by omega,by simpa using hj⟩
  | succ i=>
   simp only [List.getElem?_cons_succ]at hi;obtain⟨j,hj,e2⟩ :=hrest i k' c hi hc;exact⟨j+1,by omega,by simpa using e2⟩
theorem aGU {p:Prog}(h:Fm p){k:Int}(h0:0≤k)(h1:k<p.nodes.length) :∃i:Nat,(dY p)[i]?=some k:=by
 refine List.mem_iff_getElem?.1 ?_;have hd: ((dY p).map Int.toNat).Nodup:=by
  have hd:=h.dup;rw [List.nodup_iff_pairwise_ne]at hd ⊢;refine List.pairwise_map.2 (hd.imp_of_mem (fun {a b} ha hb hne e=>?_));have:=h.into a ha;have:=h.into b hb;exact hne (by omega)
 by_cases hm:k∈dY p
 ·exact hm
 · have h2:=mX (p.nodes.length) (k.toNat:: (dY p).map Int.toNat) (List.nodup_cons.2 ⟨fun hm2=>by
    obtain⟨y,hy,e⟩ :=List.mem_map.1 hm2;have:=h.into y hy;exact hm ((show y=k by omega) ▸ hy),hd⟩) (fun x hx=>by
    rcases List.mem_cons.1 hx with rfl|hx
    ·omega
    · obtain⟨y,hy,rfl⟩ :=List.mem_map.1 hx;have:=h.into y hy;omega)
   rw [length_cons,length_map]at h2;have:=h.len;unfold dY at h2;omega
structure Laid (a:Prog) (off:Nat) (p:Prog) (mf mc:List (Int×Int)) (to:List Int) :Prop where
 node:∀ (i:Nat) (k:Int),(dY p)[i]?=some k→a.nodes[off+i]?=some (fK mf mc to (nodeAt p k))
 to:∀ (i:Nat) (k:Int),(dY p)[i]?=some k→fC to k= ((off+i:Nat) :Int)
section
variable {a p:Prog} {off:Nat} {mf mc:List (Int×Int)} {to:List Int}
theorem Laid.at (h:Laid a off p mf mc to)(hp:Fm p){k:Int}(h0:0≤k)(h1:k<p.nodes.length) :0≤fC to k∧a.nodes[(fC to k).toNat]?=some (fK mf mc to (nodeAt p k)) :=by
 obtain⟨i,hi⟩ :=aGU hp h0 h1;have e:=h.to i k hi;rw [e,Int.toNat_natCast];exact⟨by omega,h.node i k hi⟩
theorem Laid.pre (h:Laid a off p mf mc to)(hp:Fm p) :∀ (f:Nat) (k:Int),0≤k→k<p.nodes.length→p.nodes.length-k.toNat≤f→pre a f (fC to k) = (pre p f k).map (fC to)
 |0,k,h0,h1,h2=>by omega
 | f+1,k,h0,h1,h2=>by
  obtain⟨x,hx⟩ :∃x,p.nodes[k.toNat]?=some x:= ⟨_,getElem?_eq_getElem (by omega)⟩;obtain⟨g0,g1⟩ :=h.at hp h0 h1;rw [fD hx]at g1;rw [Go.Hb.pre,Go.Hb.pre,hx,g1];simp only [map_cons,map_flatten,map_map,fK];congr 2
  exact map_congr_left (fun c hc=>by
   have:= (hp.fine.node _ _ hx).2.2 c hc;exact h.pre hp f c (by omega) (by omega) (by omega))
theorem Laid.walk (h:Laid a off p mf mc to)(hp:Fm p){F:Nat}(hF:p.nodes.length≤F) : ((p.funs.map (fC to)).map (Go.Hb.pre a F)).flatten= (List.range (dY p).length).map fun i=> ((off+i:Nat) :Int) :=by
 have e1: (p.funs.map (fC to)).map (Go.Hb.pre a F) = (p.funs.map (Go.Hb.pre p p.nodes.length)).map (map (fC to)) :=by
  rw [map_map,map_map];refine map_congr_left (fun k hk=>?_);have:=hp.fine.funs k hk;show Go.Hb.pre a F (fC to k) = (Go.Hb.pre p p.nodes.length k).map (fC to);rw [h.pre hp F k this.1 this.2 (by omega),tK hp.fine F p.nodes.length k this.1 this.2 (by omega) (by omega)]
 rw [e1,←map_flatten];refine List.ext_getElem? (fun i=>?_);rw [List.getElem?_map,List.getElem?_map];by_cases hi:i< (dY p).length
 · rw [List.getElem?_range hi];have e: (dY p)[i]?=some (dY p)[i] :=getElem?_eq_getElem hi;have: ((p.funs.map (Go.Hb.pre p p.nodes.length)).flatten)[i]?=some (dY p)[i] :=e;rw [this];simp only [Option.map_some];rw [h.to i _ e]
 · have e: (dY p)[i]?=none:=List.getElem?_eq_none (by omega);have: ((p.funs.map (Go.Hb.pre p p.nodes.length)).flatten)[i]?=none:=e;rw [this,List.getElem?_eq_none (by simp;omega)];rfl
end
mutual
theorem aGV (mc:List (Int×Int)) :∀q:Pat,oP (qS mc q) =oP q
 | .mk f n s ps=>by rw [qS,oP,oP,aEN mc ps]
theorem aEN (mc:List (Int×Int)) :∀ps:List Pat,pH (eJ mc ps) =pH ps
 | [] =>rfl
 |q::ps=>by rw [eJ,pH,pH,aGV mc q,aEN mc ps]
end
structure MapsOk (p a:Prog) (mf mc:List (Int×Int)) :Prop where
 funs:∀i:Int,0≤i→i<p.funs.length→0≤iL mf i∧iL mf i<a.funs.length
 cons:∀ (i:Nat) (d:Con),p.cons[i]?=some d→0≤iL mc (i:Int) ∧a.cons[(iL mc (i:Int)).toNat]?=some d
section
variable {p a:Prog} {mf mc:List (Int×Int)}
theorem MapsOk.at (h:MapsOk p a mf mc){n:Int}(h0:0≤n)(h1:n<p.cons.length) :0≤iL mc n∧iL mc n<a.cons.length∧fH a.cons (iL mc n) =fH p.cons n∧a.cons[(iL mc n).toNat]?=p.cons[n.toNat]?:=by
 have e:p.cons[n.toNat]?=some p.cons[n.toNat] :=getElem?_eq_getElem (by omega);obtain⟨g0,g1⟩ :=h.cons n.toNat _ e;rw [show((n.toNat:Nat) :Int) =n by omega]at g0 g1;have:= (List.getElem?_eq_some_iff.1 g1).1;refine⟨g0,by omega,?_,by rw [g1,e]⟩;unfold fH;rw [g1,e]
theorem aAp (mc:List (Int×Int)) :∀ps:List Pat,(eJ mc ps).length=ps.length
 | [] =>rfl
 |p::ps=>by rw [eJ,length_cons,length_cons,aAp mc ps]
mutual
theorem aR6 (h:MapsOk p a mf mc) :∀q:Pat,cM p.cons q=true→cM a.cons (qS mc q) =true
 | .mk f n s ps,g=>by
  rw [cM,and_eq_true]at g;rw [qS,cM,aN6 h ps g.2,Bool.and_true,aAp];have g1:=g.1;by_cases hf:f=6
  · subst hf;unfold cX at g1 ⊢;simp [dG]at g1 ⊢;obtain⟨⟨⟨a0,a1⟩,a2⟩,a3⟩ :=g1;obtain⟨b0,b1,b2,b3⟩ :=h.at a0 (by omega);exact⟨⟨⟨b0,by omega⟩,by rw [b2];exact a2⟩,a3⟩
  · rw [if_neg hf];unfold cX at g1 ⊢;rw [if_neg hf]at g1 ⊢;exact g1
theorem aN6 (h:MapsOk p a mf mc) :∀ps:List Pat,bX p.cons ps=true→bX a.cons (eJ mc ps) =true
 | [],_=>rfl
 | q::ps,g=>by
  rw [bX,and_eq_true]at g;rw [eJ,bX,aR6 h q g.1,aN6 h ps g.2];rfl
end
theorem aDG (mc:List (Int×Int)) :∀ {ps:List Pat} {q':Pat},q'∈eJ mc ps→∃q∈ps,q'=qS mc q
 | [],_,h=>by simp [eJ]at h
 | q ::ps,q',h=>by
  rw [eJ]at h;rcases List.mem_cons.1 h with rfl|h
  ·exact⟨q,mem_cons_self ..,rfl⟩
  · obtain⟨x,hx,e⟩ :=aDG mc h;exact⟨x,mem_cons_of_mem _ hx,e⟩
theorem aGW (h:MapsOk p a mf mc)(to:List Int){x:Node}(hx:bJ p x=true) :bJ a (fK mf mc to x) =true:=by
 simp only [bJ,fJ,and_eq_true,decide_eq_true_eq]at hx ⊢;obtain⟨⟨⟨h1,h2⟩,h3⟩,h4⟩ :=hx;have hl: (fK mf mc to x).pats.length=x.pats.length:=aAp mc _;have hk: (fK mf mc to x).kids.length=x.kids.length:=length_map ..;have ho: (fK mf mc to x).op=x.op:=rfl;have hn: (fK mf mc to x).n=bN mf mc x.op x.n:=rfl;refine⟨⟨⟨?_,by rw [hl];exact h2⟩,?_⟩,?_⟩
 · rw [ho,hn];unfold bN;by_cases e4:x.op=4
   · rw [if_pos e4];rw [e4]at h1 ⊢;simp [bP,dG]at h1 ⊢;by_cases hn:0≤x.n
     ·rw [if_pos hn];omega
     · rw [if_neg hn];have:=h.funs (-1-x.n) (by omega) (by omega);omega
   · rw [if_neg e4];by_cases e14:x.op=14
     · rw [if_pos e14];rw [e14]at h1 ⊢;simp [bP,dG]at h1 ⊢;obtain⟨b0,b1,_⟩ :=h.at (n:=x.n) h1.1 (by omega);omega
     · rw [if_neg e14];unfold bP at h1 ⊢;rw [if_neg e4,if_neg e14]at *;exact h1
 · refine List.all_eq_true.2 (fun q' hq=>?_);obtain⟨q,hq2,rfl⟩ :=aDG mc hq;have:=List.all_eq_true.1 h3 q hq2;simp only [iY,and_eq_true,decide_eq_true_eq]at this ⊢;exact⟨by rw [aDB];exact this.1,aR6 h q this.2⟩
 · rw [hl,hk,ho,h4];congr 1;unfold gC;rw [ho,hn];by_cases e14:x.op=14
   · have h1':=h1;rw [e14]at h1';simp [bP,dG]at h1';obtain⟨b0,b1,b2,_⟩ :=h.at (n:=x.n) h1'.1 (by omega);unfold bN;rw [if_neg (show ¬x.op=4 by omega),if_pos e14,if_pos ⟨e14,by simp [dG];omega⟩,if_pos ⟨e14,by simp [dG];omega⟩,b2]
   ·rw [if_neg (fun g=>e14 g.1),if_neg (fun g=>e14 g.1)]
theorem aEO (to:List Int){x:Node}(hx:aW x=true) :aW (fK mf mc to x) =true:=by
 simp only [aW,and_eq_true,decide_eq_true_eq]at hx ⊢;obtain⟨⟨h1,h2⟩,h3⟩ :=hx;refine⟨⟨by show(x.kids.map _).length≤10;rw [length_map];exact h1,by show(eJ mc x.pats).length≤10;rw [aAp];exact h2⟩,?_⟩;refine List.all_eq_true.2 (fun q' hq=>?_);obtain⟨q,hq2,rfl⟩ :=aDG mc hq;have:=List.all_eq_true.1 h3 q hq2;simp only [yZ,and_eq_true,decide_eq_true_eq]at this ⊢;exact⟨by rw [aDB];exact this.1,by rw [aGV];exact this.2⟩
end
theorem aBG {lo n:Int}(hlo:0≤lo) :∀ (ks:List Int) (u:List Bool),(u.length:Int) =n→ (∀k∈ks,lo≤k∧k<n) → (∀m:Int,0≤m→m<n→ks.count m+lN u m≤1) →∃v,marks lo n ks u=some v
 | [],u,_,_,_=> ⟨u,rfl⟩
 | k ::ks,u,hl,hr,hc=>by
  have hk:=hr k (mem_cons_self ..);have h1:=hc k (by omega) hk.2;rw [show k::ks= [k] ++ks from rfl,count_append,List.count_singleton_self]at h1;have hu:u[k.toNat]?=some false:=by
   have hlt:k.toNat<u.length:=by omega
   cases hb:u[k.toNat]
   case false=>rw [getElem?_eq_getElem hlt,hb]
   have:lN u k=1:=by unfold lN;rw [getElem?_eq_getElem hlt,hb];rfl
   omega
  obtain⟨v,hv⟩ :=aBG hlo ks (u.set k.toNat true) (by rw [length_set];exact hl) (fun x hx=>hr x (mem_cons_of_mem _ hx)) (fun m m0 m1=>by
   have h2:=hc m m0 m1;rw [show k::ks= [k] ++ks from rfl,count_append]at h2;by_cases e:m=k
   · subst e;have:lN (u.set m.toNat true) m≤1:=by unfold lN;split<;>omega
     rw [List.count_singleton_self]at h2;omega
   · have:lN (u.set k.toNat true) m=lN u m:=by unfold lN;rw [List.getElem?_set_ne (by omega)]
     omega)
  exact⟨v,by rw [marks,if_pos ⟨by simp [dG];omega,hu⟩];exact hv⟩
theorem aBc {a:Prog}:∀ (t:List Node) (i:Nat) (u:List Bool),u.length=a.nodes.length→ (∀x∈t,bJ a x=true) → (∀ (j:Nat) (x:Node),t[j]?=some x→∀k∈x.kids,((i+j:Nat) :Int) <k∧k<a.nodes.length) →
  (∀m:Int,0≤m→m<a.nodes.length→ ((t.map Node.kids).flatten).count m+lN u m≤1) →∃v,bW a i t u=some v
 | [],i,u,_,_,_,_=> ⟨u,rfl⟩
 | x::t,i,u,hl,hok,hk,hc=>by
  obtain⟨w,hw⟩ :=aBG (lo:= (i:Int) +1) (n:= (a.nodes.length:Int)) (by omega) x.kids u (by omega) (fun k hkm=>by
   have:=hk 0 x rfl k hkm;omega) (fun m m0 m1=>by
   have:=hc m m0 m1;rw [map_cons,flatten_cons,count_append]at this;omega)
  obtain⟨v,hv⟩ :=aBc t (i+1) w (by rw [iG hw,hl]) (fun y hy=>hok y (mem_cons_of_mem _ hy)) (fun j y hy k hkm=>by
   have:=hk (j+1) y (by simpa using hy) k hkm;omega) (fun m m0 m1=>by
   have h1:=hc m m0 m1;have h2:=jW (m:=m) (by omega) m0 hw;rw [map_cons,flatten_cons,count_append]at h1;omega)
  exact⟨v,by rw [bW,if_pos (hok x (mem_cons_self ..)),hw];exact hv⟩
end
end Go.Hb
