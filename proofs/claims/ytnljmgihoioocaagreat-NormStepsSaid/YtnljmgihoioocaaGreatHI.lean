/- A machine on abstract values, its soundness, ways, plain laws. -/
import Derived.Test.YtnljmgihoioocaaGreatHF
import Derived.Test.YtnljmgihoioocaaGreatHG
import Derived.Test.YtnljmgihoioocaaGreatHH
set_option linter.defProp false
set_option linter.unusedVariables false
set_option linter.unusedSimpArgs false
set_option linter.unusedSectionVars false
set_option maxRecDepth 100000
set_option maxHeartbeats 2000000
namespace Go.Hb
open AV (keyless keylessL ptr ren renL)
open List (drop getElem?_map length length_append map map_cons map_set nodup_nil set take)
open Nat (ble blt le_refl zero_le)
open Go.Proofs Tryz
noncomputable section
section
variable (p :Prog) (mf mc:List (Int×Int))
variable {p mf mc}
end
theorem aGV {P:Program}{f:Nat}{args args':List AV}{v v':AV}{l l' lc lc':List (Nat×AObj×Bool)}{m nb nb' n2 n3:Nat}{ks:List Nat}
  (h0:eK P m (.enter f args) (aA l nb) (.ret v) (aA l' nb')) (e3:nb'-m+n2=n3) (ev:ren (jA m n2 ks) v=v') (hargs:renL (eR 0 nb n2 ks) args=args') (hm:ble m nb=true) (hm':ble m nb'=true)
  (hin:cT 0 ⟨⟨0,0,[],[],[],.run,.normal,none⟩,[],l,nb⟩ ks=true) (hl:sV (aA lc n2) (eR 0 nb n2 ks) l=gK (eR 0 nb n2 ks) l) (hkl:eF l)
  (hl':sV (aA lc' n3) (jA m n2 ks) l'=gK (jA m n2 ks) l') (hkl':eF l') (hpl:vU l'=true:=by kernel_rfl) (hk':fC nb' l'=true:=by kernel_rfl)
  (hx:fC n2 lc=true:=by kernel_rfl) (hx':fC n3 lc'=true:=by kernel_rfl) (hlt:ks.all (fun k=>blt k n2) =true:=by kernel_rfl) (hout:aCG (namesT (jA m n2 ks) l') (l.map fun p=>ks.getD p.1 0) (aA lc n2) lc'=uL lc':=by kernel_rfl) (hll:uL l'= (l'.map fun p=> (aA l' nb').look p.1) :=by kernel_rfl) :
  Spec P (.enter f args') (aA lc n2) (.ret v') (aA lc' n3) :=by
 subst e3 ev;exact aTM h0 hargs hm hm' hin hl hkl hl' hkl' hpl hk' hx hx' hlt hout hll
section
variable (p :Prog) (mf mc:List (Int×Int)) (to:List Int)
variable {p mf mc to}
end
section
variable {P :Program}
def bE1 (Q:Nat→AObj→Prop) :List (Nat×AObj×Bool) →Prop
 | [] =>True
 | (b,o,_) ::l=>Q b o∧bE1 Q l
theorem aT {Q:Nat→AObj→Prop}:∀ {l:List (Nat×AObj×Bool)} {nb:Nat},bE1 Q l→∀x o,(aA l nb).look x=some o→Q x o:=fun {l nb} hq x o e=>by
 obtain⟨f,hm⟩ :=jL e;clear e
 induction l with
 |nil=>cases hm
 | cons p l ih=>
  obtain⟨b,q,g⟩ :=p;rcases List.mem_cons.1 hm with h|h
  ·cases h;exact hq.1
  ·exact ih hq.2 h
theorem jT {α:Type}{m:Nat}{s:AS}{t:α→AS}{ok:α→Prop}{res:Res}{hf:Hp}(z:aAa s.h ok (fun x=> (t x).h))(hfr:∀x,(t x).fr=s.fr∧ (t x).cs=s.cs)(k:∀x,ok x→Ends P m (t x) res hf) :Ends P m s res hf:=
 aKq (fr:=s.fr) (cs:=s.cs) (h:=s.h) z (fun x hx=>by
  have h2:=k x hx;obtain⟨e1,e2⟩ :=hfr x;rw [←e1,←e2];exact h2)
theorem lE {m:Nat}{s t:AS}(z:iG s.h t.h)(hfr:t.fr=s.fr)(hcs:t.cs=s.cs) :LeadsM P m s t:=by
 have:=aKp (P:=P) (m:=m) (fr:=s.fr) (cs:=s.cs) z;have e:t= ⟨s.fr,s.cs,t.h⟩ :=by rw [←hfr,←hcs]
 rw [e];exact this
theorem rO {m:Nat}{s t:AS}{j:Nat}{v v':AV}(hj:s.fr.tm.at j=some v)(ht:m≤s.h.nb→kY m s.h t.h v v')(hfr:t.fr= {s.fr with tm:=s.fr.tm.put j v'})(hcs:t.cs=s.cs) :LeadsM P m s t:=by
 have:=iD (P:=P) (fr:=s.fr) (cs:=s.cs) hj ht;have e:t= ⟨{s.fr with tm:=s.fr.tm.put j v'},s.cs,t.h⟩ :=by rw [←hfr,←hcs]
 rw [e];exact this
theorem mR {m:Nat}{s:AS}{v:AV}{h h':Hp}(e:Ends P m s (.ret v) h)(z:iG h h')(hm:m≤h.nb) :Ends P m s (.ret v) h':=fun hm0 E fr ccs w f fs r cl base=>by
 obtain⟨cl',w',E2,s1,⟨cv,rfl,g2⟩,r2,x2⟩ :=e hm0 E fr ccs w f fs r cl base;obtain⟨E3,h1,h2,h3⟩ :=z E2 w' r2;exact⟨_,w',E3,s1,⟨cv,rfl,g2.mono h1⟩,h2,x2.trans (h3 m hm)⟩
theorem cN {m:Nat}{s:AS}{v v0:AV}{lc l:List (Nat×AObj×Bool)}{nb n2:Nat}{ks:List Nat}(e:Ends P m s (.ret v0) (aA lc n2))(hv:ren (eR m nb n2 ks) v=v0)
  (hok:cT m ⟨⟨0,0,[],[],[],.run,.normal,none⟩,[],l,nb⟩ ks=true) (hh:sV (aA lc n2) (eR m nb n2 ks) l=gK (eR m nb n2 ks) l) (hkl:eF l) :Ends P m s (.ret v) (aA l nb) :=fun hm E fr ccs w f fs r cl base=>by
 obtain⟨cl',w',E2,s1,⟨cv,rfl,g2⟩,r2,x2⟩ :=e hm E fr ccs w f fs r cl base;obtain⟨q1,q2⟩ :=kZ hok hh hkl r2;subst hv;exact⟨_,w',_,s1,⟨cv,rfl,(eC _ _ _ _).1 g2⟩,q1,x2.trans q2⟩
mutual
def IsTree (p:Prog) :XT→Int→Prop
 | .mk o n ks ps,at0=>0≤at0∧∃nd,p.nodes[at0.toNat]?=some nd∧nd.op=o∧nd.n=n∧nd.pats=ps∧aR p ks nd.kids
def aR (p:Prog) :List XT→List Int→Prop
 | [],l=>l= []
 |t::ts,l=>∃k l',l=k::l'∧IsTree p t k∧aR p ts l'
end
end
inductive KV where
 |row (l:List Int)
 |nil
 |val (u:Value)
def KV.av :KV→AV
 | .row l=>.ilst 1 (map bU l) false
 | .nil=>.nils
 | .val u=>.val u
structure ONode where
 op:Int
 n:Int
 kv:KV
 pats:List Pat
def ONode.av (x:ONode) :AV:=.agg [.int .i64 x.op,.int .i64 x.n,x.kv.av,.ilst 4 (Pats.av x.pats) false]
def Node.o (x:Node) :ONode:= ⟨x.op,x.n,.row x.kids,x.pats⟩
theorem aZw (l:List Node) :map ONode.av (map Node.o l) =map Node.av l:=by
 rw [List.map_map];rfl
theorem bE2 :∀k:KV,keyless k.av=true
 | .row l=>by simp only [KV.av,keyless]
 | .nil=>rfl
 | .val u=>rfl
theorem dK (x:ONode) :keyless x.av=true:=by
 simp only [ONode.av,keyless,keylessL,bE2,aA0,Bool.and_true]
theorem aIE {E:Emb}{x y:AV}(hv:∀v,VR E x v→VR E y v) :∀ {xs:List AV} {i:Nat},xs[i]?=some x→∀vs,VRs E xs vs→VRs E (xs.set i y) vs
 | [],i,h,vs,hvs=>by simp at h
 | a::xs,0,h,vs,hvs=>by
  simp only [VRs]at hvs;obtain⟨u,us,rfl,h1,h2⟩ :=hvs;simp at h;subst h;simp only [List.set_cons_zero,VRs];exact⟨u,us,rfl,hv u h1,h2⟩
 | a::xs,i+1,h,vs,hvs=>by
  simp only [VRs]at hvs;obtain⟨u,us,rfl,h1,h2⟩ :=hvs;simp only [List.getElem?_cons_succ]at h;simp only [List.set_cons_succ,VRs];exact⟨u,us,rfl,h1,aIE hv h us h2⟩
theorem aLD {E:Emb}{x:ONode}{k:KV}(hk:∀v,VR E x.kv.av v→VR E k.av v) :∀v,VR E x.av v→VR E (ONode.av ⟨x.op,x.n,k,x.pats⟩) v:=fun v h=>by
 simp only [ONode.av,VR,VRs]at h ⊢;obtain⟨us,rfl,u1,r1,rfl,q1,u2,r2,rfl,q2,u3,r3,rfl,q3,q4⟩ :=h;exact⟨_,rfl,_,_,rfl,q1,_,_,rfl,q2,_,_,rfl,hk _ q3,q4⟩
theorem aOy {E:Emb}:∀v,VR E KV.nil.av v→VR E (KV.row []).av v:=fun v h=>by
 simp only [KV.av,VR]at h;simp only [KV.av,VR,List.map_nil];exact⟨[],VRs.nil _,fun _ hu=>by(cases hu),.inl ⟨rfl,none,0,h,fun _=>rfl,fun _=>rfl⟩⟩
theorem aU3 {l:List ONode}{i:Nat}{y:ONode}(h:l[i]?=some y)(hk:y.kv= .nil) :VW (map ONode.av l) (map ONode.av (l.set i ⟨y.op,y.n,.row [],y.pats⟩)) :=fun E vs hvs=>by
 have h1: (map ONode.av l)[i]?=some y.av:=by rw [getElem?_map,h];rfl
 rw [map_set];exact aIE (aLD (by rw [hk];exact aOy)) h1 vs hvs
theorem aU4 {l:List ONode}{i:Nat}{y:ONode}{u:Value}{ks:List Int}(h:l[i]?=some y)(hk:y.kv= .val u) :VQ u 1 (map bU ks) (map ONode.av l) (map ONode.av (l.set i ⟨y.op,y.n,.row ks,y.pats⟩)) :=fun E vs hu hvs=>by
 have h1: (map ONode.av l)[i]?=some y.av:=by rw [getElem?_map,h];rfl
 rw [map_set];refine aIE (aLD (fun v hv=>?_)) h1 vs hvs;rw [hk]at hv;simp only [KV.av,VR]at hv;subst hv;exact hu
theorem aIF {α:Type}{f:α→AV}{l:List α}{i:Nat}{y:α}(h:l[i]?=some y) :map f l≠ [] :=fun e=>by
 cases l with
 |nil=>simp at h
 |cons _ _=>cases e
abbrev qR (a b:Int)(c:cA)(d:List Pat):AV:=.agg [(nI a),(nI b),(dD c),(iP d)]
abbrev aAh (a:List XT):AV:=.ilst 1 (XTs.av a) false
def bE3(a b:Int)(c:cA)(d:List Pat):TS:=bC PP 201 [(qR a b c d)] [] 0
def aIG(d e:Int)(f:cA)(a:List Pat)(b c:Int):TS:=⟨(tf 201 22 [(2,(nI 0)),(3,(nI b)),(10,(iP a)),(11,(nI (a.length:Int))),(12,(nI c))] [kc f201 244,kl f201 244,.inBlock 0,kc f201 31]),[],[],0⟩
def bE4(a b:Int)(c:List XT)(d:List Pat)(e:Int):TS:=bC PP 178 [(.iptr [(nI a),(nI b),(aAh c),(iP d)]),(nI e)] [] 0
def bE5(a b:Int)(c:List XT)(d:List Pat):TS:=bC PP 138 [(.iptr [(nI a),(nI b),(aAh c),(iP d)])] [] 0
def bE6(a b:Int)(c:List XT)(d:List Pat):TS:=bC PP 137 [(.iptr [(nI a),(nI b),(aAh c),(iP d)])] [] 0
def bE7(a b:Int)(c:List XT)(d:List Pat):TS:=bC PP 95 [(.iptr [(nI a),(nI b),(aAh c),(iP d)])] [] 0
def aIH(a b:Int)(c:List XT)(d:List Pat)(e f:Int):TS:=⟨(tf 95 38 [(0,(.iptr [(nI a),(nI b),(aAh c),(iP d)])),(2,.nili),(22,(nI e)),(23,(nI f))] [kc f95 116,kl f95 116,.inBlock 0,kc f95 15]),[],[],0⟩
def bE8(a b:Int)(c:cA)(d:List Pat):TS:=bC PP 162 [(qR a b c d)] [] 0
def aII(c d:Int)(e:cA)(a:List Pat)(f:Int)(b:List Pat):TS:=⟨(tf 162 22 [kp 1 0,kp 2 1,(3,(.gl 2 4 0 b.length false)),(7,(iP a)),(8,(nI (a.length:Int))),(9,(nI f))] [kc f162 116,kl f162 116,.inBlock 0,kc f162 15]),[],[oC 0 [(nI c),(nI d),(dD e),(iP a)],oC 1 [(nI 0),(nI 0),(.str 0 0),.nils],oL 2 4 (Pats.av b)],3⟩
def bE9(a:List Pat):TS:=bC PP 120 [(iP a)] [] 0
def aIJ(a:List Pat)(c:Int)(b:List Pat):TS:=⟨(tf 120 19 [(2,.nils),(3,(.gl 0 4 0 b.length false)),(6,(iP a)),(7,(nI (a.length:Int))),(8,(nI c))] [kc f120 116,kl f120 116,.inBlock 0,kc f120 15]),[],[oL 0 4 (Pats.av b)],1⟩
def aU5(a c:Int)(d:cA)(b:List Pat):=tT 0 (bE3 a c d b)<|.b 12 8 (a==2) (gE 6 1 (nI 1))<|gm 11 aD b<|.W 4 1 [] (aIG a c d b 0 0)
def aZx:=fun a b c d e=>aU5 a b c d|>.t e tv
def aZy:=fun a b c d e=>aU5 a b c d|>.f e tv
def aU6(d e:Int)(f:cA)(b:List Pat)(c a:Int):=tT 0 (aIG d e f b c a)<|gd 5 13 (a< (b.length:Int)) (tC 6 b a<|fun i j k l=>gpI 7 201 [(qR i j k l)]<|fun g=>gw 1 19 (c+g)<|gw 5 20 (a+1)<|.W 3 1 [] (aIG d e f b (c+g) (a+1)))<|gE 8 0 (nI c)
def aZz:=fun a b c d e f g i j k l m n o p q r=>aU6 a b c d e f|>.t m g i j k n o l p q r tv
def aZA:=fun a b c d e f g=>aU6 a b c d e f|>.f g tv
def aAi(b j:Int)(k:List XT)(c:List Pat)(a:Int):=tT 0 (bE4 b j k c a)<|.b 14 11 (b==5) (gE 25 0 (nI 1))<|.b 7 18 (b==27) (gE 18 0 (nI 1))<|.b 6 24 (b==7) (.b 6 5 (a==1) (gE 6 0 (nI 1))<|.b 9 35 (b==15) (gd 5 29 (a>0) (gw 9 44 (a-1)<|tC 0 c (a-1)<|fun d e f g=>gpI 1 201 [(qR d e f g)]<|fun i=>gE 3 0 (nI i))<|gE 8 0 (nI 0))<|gE 13 0 (nI 0))<|.b 15 35 (b==15) (gd 5 29 (a>0) (gw 9 44 (a-1)<|tC 0 c (a-1)<|fun d e f g=>gpI 1 201 [(qR d e f g)]<|fun i=>gE 3 0 (nI i))<|gE 8 0 (nI 0))<|gE 13 0 (nI 0)
def aZB:=fun a b c d e f=>aAi a b c d e|>.t f tv
def aZC:=fun a b c d e f g=>aAi a b c d e|>.f f|>.t g tv
def aZD:=fun a b c d e f g i j=>aAi a b c d e|>.f f|>.f g|>.t i|>.t j tv
def aZE:=fun a b c d e f g i j k=>aAi a b c d e|>.f f|>.f g|>.t i|>.f j|>.f k tv
def aZF:=fun a b c d e f g i j k l m n o p q r s t=>aAi a b c d e|>.f l|>.f m|>.f n|>.t o|>.t p q f g i j r s k t tv
def aZG:=fun a b c d e f g i j k=>aAi a b c d e|>.f f|>.f g|>.f i|>.t j|>.f k tv
def aZH:=fun a b c d e f g i j=>aAi a b c d e|>.f f|>.f g|>.f i|>.f j tv
def aE9(a b:Int)(c:List XT)(d:List Pat):=tT 0 (bE5 a b c d)<|.b 19 7 (a==1) (gE 8 0 (bV true))<|.b 6 7 (a==2) (gE 8 0 (bV true))<|.b 6 7 (a==3) (gE 8 0 (bV true))<|.b 5 7 (a==4) (gE 6 0 (bV true))<|gE 8 0 (bV false)
def aZI:=fun a b c d e=>aE9 a b c d|>.t e tv
def aZJ:=fun a b c d e f=>aE9 a b c d|>.f e|>.t f tv
def aZK:=fun a b c d e f g=>aE9 a b c d|>.f e|>.f f|>.t g tv
def aZL:=fun a b c d e f g i=>aE9 a b c d|>.f e|>.f f|>.f g|>.t i tv
def aZM:=fun a b c d e f g i=>aE9 a b c d|>.f e|>.f f|>.f g|>.f i tv
def hN(b c:Int)(a:List XT)(d:List Pat):=tT 0 (bE6 b c a d)<|.b 19 7 (b==8) (gE 8 0 (nI 1))<|.b 6 7 (b==15) (gE 8 0 (nI 1))<|.b 6 7 (b==16) (gE 8 0 (nI 1))<|.b 6 7 (b==17) (gE 8 0 (nI 1))<|.b 6 7 (b==19) (gE 8 0 (nI 1))<|.b 6 7 (b==20) (gE 8 0 (nI 1))<|.b 6 7 (b==23) (gE 8 0 (nI 1))<|.b 5 7 (b==24) (gE 6 0 (nI 1))<|.b 7 16 (b==6) (.i [rn 9,aL a] [.q (p:=((XTs.av a).length:Int) = (a.length:Int)) (fD dJ _)]<|gE 3 0 (nI (a.length:Int)))<|.b 6 16 (b==9) (.i [rn 9,aL a] [.q (p:=((XTs.av a).length:Int) = (a.length:Int)) (fD dJ _)]<|gE 3 0 (nI (a.length:Int)))<|.b 6 16 (b==10) (.i [rn 9,aL a] [.q (p:=((XTs.av a).length:Int) = (a.length:Int)) (fD dJ _)]<|gE 3 0 (nI (a.length:Int)))<|.b 6 16 (b==11) (.i [rn 9,aL a] [.q (p:=((XTs.av a).length:Int) = (a.length:Int)) (fD dJ _)]<|gE 3 0 (nI (a.length:Int)))<|.b 6 16 (b==12) (.i [rn 9,aL a] [.q (p:=((XTs.av a).length:Int) = (a.length:Int)) (fD dJ _)]<|gE 3 0 (nI (a.length:Int)))<|.b 6 16 (b==13) (.i [rn 9,aL a] [.q (p:=((XTs.av a).length:Int) = (a.length:Int)) (fD dJ _)]<|gE 3 0 (nI (a.length:Int)))<|.b 6 16 (b==18) (.i [rn 9,aL a] [.q (p:=((XTs.av a).length:Int) = (a.length:Int)) (fD dJ _)]<|gE 3 0 (nI (a.length:Int)))<|.b 6 16 (b==22) (.i [rn 9,aL a] [.q (p:=((XTs.av a).length:Int) = (a.length:Int)) (fD dJ _)]<|gE 3 0 (nI (a.length:Int)))<|.b 5 16 (b==14) (.i [rn 7,aL a] [.q (p:=((XTs.av a).length:Int) = (a.length:Int)) (fD dJ _)]<|gE 3 0 (nI (a.length:Int)))<|gE 8 0 (nI 0)
def aZN:=fun a b c d e=>hN a b c d|>.t e tv
def aZO:=fun a b c d e f=>hN a b c d|>.f e|>.t f tv
def aZP:=fun a b c d e f g=>hN a b c d|>.f e|>.f f|>.t g tv
def aZQ:=fun a b c d e f g i=>hN a b c d|>.f e|>.f f|>.f g|>.t i tv
def aZR:=fun a b c d e f g i j=>hN a b c d|>.f e|>.f f|>.f g|>.f i|>.t j tv
def aZS:=fun a b c d e f g i j k=>hN a b c d|>.f e|>.f f|>.f g|>.f i|>.f j|>.t k tv
def aZT:=fun a b c d e f g i j k l=>hN a b c d|>.f e|>.f f|>.f g|>.f i|>.f j|>.f k|>.t l tv
def aZU:=fun a b c d e f g i j k l m=>hN a b c d|>.f e|>.f f|>.f g|>.f i|>.f j|>.f k|>.f l|>.t m tv
def aZV:=fun a b c d e f g i j k l m n=>hN a b c d|>.f e|>.f f|>.f g|>.f i|>.f j|>.f k|>.f l|>.f m|>.t n tv
def aZW:=fun a b c d e f g i j k l m n o=>hN a b c d|>.f e|>.f f|>.f g|>.f i|>.f j|>.f k|>.f l|>.f m|>.f n|>.t o tv
def aU7:=fun a b c d e f g i j k l m n o p=>hN a b c d|>.f e|>.f f|>.f g|>.f i|>.f j|>.f k|>.f l|>.f m|>.f n|>.f o|>.t p tv
def aU8:=fun a b c d e f g i j k l m n o p q=>hN a b c d|>.f e|>.f f|>.f g|>.f i|>.f j|>.f k|>.f l|>.f m|>.f n|>.f o|>.f p|>.t q tv
def aU9:=fun a b c d e f g i j k l m n o p q r=>hN a b c d|>.f e|>.f f|>.f g|>.f i|>.f j|>.f k|>.f l|>.f m|>.f n|>.f o|>.f p|>.f q|>.t r tv
def aVa:=fun a b c d e f g i j k l m n o p q r s=>hN a b c d|>.f e|>.f f|>.f g|>.f i|>.f j|>.f k|>.f l|>.f m|>.f n|>.f o|>.f p|>.f q|>.f r|>.t s tv
def aVb:=fun a b c d e f g i j k l m n o p q r s t=>hN a b c d|>.f e|>.f f|>.f g|>.f i|>.f j|>.f k|>.f l|>.f m|>.f n|>.f o|>.f p|>.f q|>.f r|>.f s|>.t t tv
def aVc:=fun a b c d e f g i j k l m n o p q r s t u=>hN a b c d|>.f e|>.f f|>.f g|>.f i|>.f j|>.f k|>.f l|>.f m|>.f n|>.f o|>.f p|>.f q|>.f r|>.f s|>.f t|>.t u tv
def aVd:=fun a b c d e f g i j k l m n o p q r s t u v=>hN a b c d|>.f e|>.f f|>.f g|>.f i|>.f j|>.f k|>.f l|>.f m|>.f n|>.f o|>.f p|>.f q|>.f r|>.f s|>.f t|>.f u|>.t v tv
def aVe:=fun a b c d e f g i j k l m n o p q r s t u v=>hN a b c d|>.f e|>.f f|>.f g|>.f i|>.f j|>.f k|>.f l|>.f m|>.f n|>.f o|>.f p|>.f q|>.f r|>.f s|>.f t|>.f u|>.f v tv
def aOz(a c:Int)(b:List XT)(d:List Pat):=tT 0 (bE7 a c b d)<|.b 13 8 (a==7) (.y fun e:Int=>.y fun f:Int=>.y fun g:List XT=>.y fun i:List Pat=>giF dJ 8 b 0 (XT.mk e f g i)<|.b 6 18 (e==7) (gE 8 0 (.iface 191 (.agg [])))<|gE 7 0 .nili)<|gpI 6 137 [(.iptr [(nI a),(nI c),(aAh b),(iP d)])]<|fun j=>.W 4 0 [] (aIH a c b d j 0)
def aZX:=fun a b c d e f g i j k l m=>aOz a b c d|>.t j e f g i k l|>.t m tv
def aZY:=fun a b c d e f g i j k l m=>aOz a b c d|>.t j e f g i k l|>.f m tv
def aZZ:=fun a b c d e f g=>aOz a b c d|>.f f e g tv
def aOA(d e:Int)(b:List XT)(f:List Pat)(c a:Int):=tT 0 (aIH d e b f c a)<|gd 5 24 (a<c) (.y fun g:Int=>.y fun i:Int=>.y fun j:List XT=>.y fun k:List Pat=>giF dJ 16 b a (XT.mk g i j k)<|jR 1 138 [(.iptr [(nI g),(nI i),(aAh j),(iP k)])]<|fun l=>.b 2 34 (!l) (gE 8 0 (.iface 193 (nI a)))<|gw 5 37 (a+1)<|.W 3 0 [] (aIH d e b f c (a+1)))<|gE 7 0 .nili
def aZ0:=fun a b c d e f g i j k l m n o p q=>aOA a b c d e f|>.t m g i j k n o l p|>.t q tv
def aZ1:=fun a b c d e f g i j k l m n o p q r=>aOA a b c d e f|>.t m g i j k n o l p|>.f q r tv
def aZ2:=fun a b c d e f g=>aOA a b c d e f|>.f g tv
def aZ3 (b c:Int)(d:cA)(a:List Pat):=(tT 0 (bE8 b c d a)<|gm 14 aD a<|.i [rn 4,.nilL 3 4] []<|gu 0 2 (Pats.av ([] :List Pat))<|gs 0 3 (.gl 2 4 0 ([] :List Pat).length false)<|.W 0 3 [0,1,2] (aII b c d a 0 ([] :List Pat))) ⟨pY,trivial⟩
def aVf(d e:Int)(f:cA)(c:List Pat)(a:Int)(b:List Pat):=tT 0 (aII d e f c a b)<|gd 5 10 (a< (c.length:Int)) (tC 6 c a<|fun l m n o=>.y fun g:Int=>.y fun i:Int=>.y fun j:cA=>.y fun k:List Pat=>gp 7 162 [(qR l m n o)] (qR g i j k)<|gA 1 aD b [(Pat.mk g i j k)]<|gw 5 18 (a+1)<|.W 3 6 [0,1,5] (aII d e f c (a+1) (b++ [(Pat.mk g i j k)])))<|gY 14 1 3 2 4 aD pY b false<|gE 0 3 (qR d e f b)
def aZ4:=fun a b c d e f g i j k l m n o p q r s t u=>aVf a b c d e f|>.t p g i j k q r l m n o s t u ⟨pY,trivial⟩
def aZ5:=fun a b c d e f g=>aVf a b c d e f|>.f g tv
def aZ6 (a:List Pat):=(tT 0 (bE9 a)<|gm 12 aD a<|.i [rn 4,.nilL 3 4] []<|gu 0 0 (Pats.av ([] :List Pat))<|gs 0 3 (.gl 0 4 0 ([] :List Pat).length false)<|.W 0 1 [0] (aIJ a 0 ([] :List Pat))) ⟨pY,trivial⟩
def aVg(c:List Pat)(a:Int)(b:List Pat):=tT 0 (aIJ c a b)<|gd 5 9 (a< (c.length:Int)) (tC 6 c a<|fun i j k l=>.y fun d:Int=>.y fun e:Int=>.y fun f:cA=>.y fun g:List Pat=>gp 7 162 [(qR i j k l)] (qR d e f g)<|gA 1 aD b [(Pat.mk d e f g)]<|gw 5 17 (a+1)<|.W 3 4 [3] (aIJ c (a+1) (b++ [(Pat.mk d e f g)])))<|gZ 8 2 0 4 aD pY b false<|gE 0 1 (iP b)
def aZ7:=fun a b c d e f g i j k l m n o p q r=>aVg a b c|>.t m d e f g n o i j k l p q r ⟨pY,trivial⟩
def aZ8:=fun a b c d=>aVg a b c|>.f d tv
theorem take_succ' {α:Type}{l:List α}{i:Nat}{x:α}(h:l[i]?=some x) :l.take i++ [x] =l.take (i+1) :=by
 rw [List.take_add_one,h];rfl
theorem aLE (f n:Int)(s:cA)(ps:List Pat)(hl:ps.length<1000000)(hp:∀q∈ps,aJ PP 162 [Pat.av q] (Pat.av q)) :∀ (t:List Pat) (i:Nat),ps.drop i=t→Ends PP 0 (aII f n s ps (i:Int) (ps.take i)).as (.ret (Pat.av (.mk f n s ps))) (aA [] 0)
 | [],i,h=>by
  have hi:=bE h;have:=aZ5 f n s ps (i:Int) (ps.take i) sd;rw [List.take_of_length_le hi]at this ⊢;exact this
 | .mk a b c d::t,i,h=>by
  obtain⟨g1,g2,g3⟩ :=bB h;have e:=take_succ' g1;refine(aZ4 f n s ps (i:Int) (ps.take i) a b c d a b c d sd sd sd (hp _ (List.mem_of_getElem? g1)) (by rw [e,List.length_take];omega) sd).ends ?_;rw [e];exact aLE f n s ps hl hp t (i+1) g2
mutual
theorem aVh :∀q:Pat,bW q≤1000000→aJ PP 162 [Pat.av q] (Pat.av q)
 | .mk f n s ps,h=>by
  have hl:=eP ps;simp only [bW]at h;refine aF (by kernel_rfl) (by simp [keylessL,lV]) (lV _) ((aZ3 f n s ps).ends ?_);exact aLE f n s ps (by omega) (aIK ps (by omega)) ps 0 rfl
theorem aIK :∀ps:List Pat,bF ps≤1000000→∀q∈ps,aJ PP 162 [Pat.av q] (Pat.av q)
 | [],_,q,hq=>by cases hq
 | p::ps,h,q,hq=>by
  simp only [bF]at h;rcases List.mem_cons.1 hq with e|hq
  ·rw [e];exact aVh p (by omega)
  ·exact aIK ps (by omega) q hq
end
theorem aLF (ps:List Pat)(hl:ps.length<1000000)(hp:∀q∈ps,aJ PP 162 [Pat.av q] (Pat.av q)) :∀ (t:List Pat) (i:Nat),ps.drop i=t→Ends PP 0 (aIJ ps (i:Int) (ps.take i)).as (.ret (.ilst 4 (Pats.av ps) false)) (aA [] 0)
 | [],i,h=>by
  have hi:=bE h;have:=aZ8 ps (i:Int) (ps.take i) sd;rw [List.take_of_length_le hi]at this ⊢;exact this
 | .mk a b c d::t,i,h=>by
  obtain⟨g1,g2,g3⟩ :=bB h;have e:=take_succ' g1;refine(aZ7 ps (i:Int) (ps.take i) a b c d a b c d sd sd sd (hp _ (List.mem_of_getElem? g1)) (by rw [e,List.length_take];omega) sd).ends ?_;rw [e];exact aLF ps hl hp t (i+1) g2
theorem aLG (ps:List Pat)(h:bF ps<1000000) :aJ PP 120 [.ilst 4 (Pats.av ps) false] (.ilst 4 (Pats.av ps) false) :=by
 have hl:=eP ps;exact aF (by kernel_rfl) (by simp [keylessL,keyless,pY]) (by simp [keyless,pY]) ((aZ6 ps).ends (aLF ps (by omega) (aIK ps (by omega)) ps 0 rfl))
abbrev aOB (a:Nat)(b c:Int)(d:List XT)(e:List Pat):=oC a [(nI b),(nI c),(.gl 3 1 0 d.length false),(iP e)]
abbrev mS (a:Nat)(b:List (Nat×Nat)):=oL a 1 (map aO b)
abbrev xQ (a b:List (Nat×Nat))(c:List (Option XT))(d:Nat)(e f:Int)(g:List XT)(h:List Pat):=[mS 4 a,(5,(.zone true [6] (cU b (set c d none) d)),false),aOB 6 e f g h]
abbrev aPY (a b c d:Int)(e:List (Nat×Nat))(f:List Pat)(g h:List (Nat×Nat))(i:List (Option XT))(j:Nat)(k:Int)(l:List XT)(m:List (Option XT)):=[oC 0 [(nI a)],oC 1 [(nI b)],oC 2 [(nI c),(nI d),(.gl 4 1 0 e.length false),(iP f)],oL 3 1 (map aO g),oL 4 1 (map aO e),(5,(.zone true [6] (cU h (set i j none) j)),false),oC 6 [(nI c),(nI k),(.gl 3 1 0 l.length false),(iP f)],(8,(.zone true [] (ZV e m)),false)]
abbrev aOC (a:Nat):=oL a 1 (map aO ([] :List (Nat×Nat)))
abbrev bDA:AV:=.gl 5 1 0 ([] :List (Nat×Nat)).length false
abbrev aPZ (a b c d:Int)(e:List XT)(f:List Pat)(g:Int)(h:List (Nat×Nat))(i:List (Option XT))(j:Nat):=[oC 0 [(nI a)],oC 1 [(nI b)],oC 2 [(nI c),(nI d),(.gl 4 1 0 e.length false),(iP f)],oC 3 [(nI c),(nI g),bDA,(iP f)],(4,gh,false),aOC 5,(6,(.zone true [2] (cU h (set i j none) j)),false),(7,(.zone true [4] (bN e)),false)]
abbrev aDs (a:Nat)(b c:Int)(d:List (Nat×Nat))(e:List Pat):=oC a [(nI b),(nI c),(.gl 2 1 0 d.length false),(iP e)]
abbrev aVi (a:Nat×Nat)(b c d e:Int)(f:List (Nat×Nat))(g:List Pat)(h i:List (Nat×Nat))(j:List (Option XT))(k:Nat)(l:Int)(m:List XT)(n:List (Option XT))(o:XT):=Spec PP (.enter 251 [(aO a),(.func 252 [] [(.ptr 0 0),(.ptr 1 0)])]) (aA (aPY b c d e f g h i j k l m n++[(9,(.zone true [] (ZV h (map some m))),false)]) 11) (.ret (.ptr 12 0)) (aA (aPY b c d e f g h i j k l m n++[(11,(.zone true [] (ZV h (map some m))),false),(12,gh,false),(13,(.zone true [12] (Z1 o)),false)]) 14)
abbrev aVj (a:Prog)(b c d:Int)(e:List (Nat×Nat))(f:List Pat)(g:List (Option XT))(h:XT):=Spec PP (.enter 91 [(Prog.av a),(nI b)]) (aA [oC 0 [(iN a.nodes),(iI a.funs),(nI a.main),(iC a.cons)],aDs 1 c d e f,oL 2 1 (map aO e),(3,(.zone true [] (ZV e g)),false)] 5) (.ret (.ptr 5 0)) (aA [oC 0 [(iN a.nodes),(iI a.funs),(nI a.main),(iC a.cons)],aDs 1 c d e f,oL 2 1 (map aO e),(3,(.zone true [] (ZV e g)),false),(5,gh,false),(6,(.zone true [5] (Z1 h)),false)] 7)
abbrev aCa (a:Nat)(b:Prog):=oC a [(iN b.nodes),(iI b.funs),(nI b.main),(iC b.cons)]
abbrev aCb (a:Nat)(b c:Int)(d:List (Nat×Nat))(e:List Pat):=oC a [(nI b),(nI c),(.gl 4 1 0 d.length false),(iP e)]
abbrev aOD:AV:=.gl 3 1 0 ([] :List (Nat×Nat)).length false
abbrev aIL:AV:=.gl 8 1 0 ([] :List (Nat×Nat)).length false
abbrev qA (a:List XT):AV:=.gl 3 1 0 a.length false
def bCh(a:Prog)(b:Int):TS:=bC PP 91 [(Prog.av a),(nI b)] [] 0
def aOE(a:Prog)(j b c:Int)(d:List Int)(e:List Pat)(f g:Int)(i:List Pat):TS:=⟨(tf 91 44 [kp 2 0,(4,.nilp),kp 5 1,kp 6 2] [kc f91 60,kc f91 61,kc f91 31]),[],[aCa 0 a,oC 1 [(nI b),(nI c),(iI d),(iP e)],oC 2 [(nI f),(nI g),aOD,(iP i)],aOC 3],4⟩
def aIM(a:Prog)(j b c:Int)(d:List Int)(e:List Pat)(f g:Int)(i:List Pat):TS:=⟨(tf 91 44 [kp 2 0,(4,.nilp),kp 5 1,kp 6 2] [kc f91 60,kc f91 61,kc f91 31]),[],[aCa 0 a,oC 1 [(nI b),(nI c),(iI d),(iP e)],oC 2 [(nI f),(nI g),aOD,(iP i)],aOC 3,(4,(.zone true [] (ZV ([] :List (Nat×Nat)) ([] :List (Option XT)))),false)],5⟩
def aFa(a:Prog)(k:Int)(c:List Int)(d e f:Int)(g:List Pat)(i:Int)(b:List (Nat×Nat))(j:List (Option XT)):TS:=⟨(tf 91 44 [kp 2 0,(4,.nilp),kp 6 1,(24,(iI c)),(25,(nI d)),(26,(nI i))] [kc f91 244,kl f91 244,.inBlock 0,kc f91 31]),[],[aCa 0 a,aDs 1 e f b g,mS 2 b,(3,(.zone true [] (ZV b j)),false)],4⟩
def aOF(a:Prog)(l:Int)(c:List Int)(d e f:Int)(g:List Pat)(i:XT)(j:Int)(b:List (Nat×Nat))(k:List (Option XT)):TS:=⟨(tf 91 44 [kp 2 0,(4,.nilp),kp 6 1,(24,(iI c)),(25,(nI d)),(26,(nI j))] [kc f91 1959,kl f91 244,.inBlock 0,kc f91 31]),[],[aCa 0 a,oC 1 [(nI e),(nI f),(.gl 2 1 0 (b.length+1) false),(iP g)],(2,(.lst 1 (map aO b++ [.ptr 3 0])),false),(3,gh,false),(4,(.zone true [3] (Z1 i)),false),(5,(.zone true [] (ZV b k)),false)],6⟩
def aDt(a:Prog)(m:Int)(d:List Int)(e f g:Int)(i:List Pat)(j:XT)(k:Int)(b:List (Nat×Nat))(l:List (Option XT))(c:Nat×Nat):TS:=⟨(tf 91 44 [kp 2 0,(4,.nilp),kp 6 1,(24,(iI d)),(25,(nI e)),(26,(nI k))] [kc f91 1959,kl f91 244,.inBlock 0,kc f91 31]),[],[aCa 0 a,oC 1 [(nI f),(nI g),(.gl 2 1 0 (b++ [c]).length false),(iP i)],oL 2 1 (map aO (b++ [c])),(6,(.zone true [] (ZV (b++ [c]) (l++ [some j]))),false)],7⟩
theorem aZ9 (p:Prog)(at0:Int)(c1_2:List Int)(t25 c2_0 c2_1:Int)(vy1:List Pat)(t26:Int)(q0: (List (Nat×Nat)))(q1: (List (Option XT)))(y0:Int)(nt1:XT)(h0:decide (t26<t25) =true)(h1:0≤t26)(h2: ((c1_2)[t26.toNat]?) =some y0)(h3:aVj p y0 c2_0 c2_1 q0 vy1 q1 nt1)(h4:q0.length+1≤1000000) :
  LeadsM PP 0 (aFa p at0 c1_2 t25 c2_0 c2_1 vy1 t26 q0 q1).as (aOF p at0 c1_2 t25 c2_0 c2_1 vy1 nt1 t26 q0 q1).as:=
 jZ (n1:=8) (ks:=[0,1,7,5,6,3]) (W:=[some (.cells (putCells .leaf 0 [(iN p.nodes),(iI p.funs),(nI p.main),(iC p.cons)]) 4 [] false),some (.cells (putCells .leaf 0 [(nI c2_0),(nI c2_1),(.gl 7 1 0 (q0.length+1) false),(iP vy1)]) 4 [] false),some (.lst 1 (map aO q0++ [.ptr 5 0])),some gh,some (.zone true [5] (Z1 nt1)),some (.zone true [] (ZV q0 q1))]) (wc (by kernel_rfl) (wc (by kernel_rfl) (wc (aA5 (by kernel_rfl)) (wc (by kernel_rfl) (wc (by kernel_rfl) (wc (by kernel_rfl) wn)))))) (ps:=[decide (t26<t25) =true,0≤t26,(jI c1_2)[t26.toNat]?=some (bU y0),aVj p y0 c2_0 c2_1 q0 vy1 q1 nt1,0+q0.length≤length (map aO q0),q0.length+1≤1000000,take q0.length (drop 0 (map aO q0)) ++ [ptr 5 0] = (map aO q0++ [.ptr 5 0]),q0.length+length [ptr 5 0] =q0.length+1,(AV.gl 2 1 0 q0.length false) = (AV.gl 2 1 0 q0.length false),(AV.gl 2 1 0 q0.length false) = (AV.gl 2 1 0 q0.length false)]) (is:=[.run 5,.b 27 true,.run 6,.ans (.idx (bU y0)),.run 3,.reg [.d,.d,.d,.d,.d,.d,.d,.call (.ptr 5 0) (aA [aCa 0 p,aDs 1 c2_0 c2_1 q0 vy1,mS 2 q0,(3,(.zone true [] (ZV q0 q1)),false),(5,gh,false),(6,(.zone true [5] (Z1 nt1)),false)] 7),.d,.app (map aO q0++ [.ptr 5 0]) (q0.length+1),.d,.d,.d],.run 1]) (by kernel_rfl) (by kernel_rfl) trivial ⟨h0,h1,(aZ h2),h3,aEQ,h4,aNp,aNq,rfl,rfl⟩
def bCi(a b:Int)(c:List (Nat×Nat))(d:List (Option XT))(f:Nat)(e:Nat×Nat)(g i:Int)(j:List XT)(k:List Pat):TS:=bC PP 251 [(aO e),(.func 252 [] [(.ptr 0 0),(.ptr 1 0)])] [oC 0 [(nI a)],oC 1 [(nI b)],(2,(.zone true [] (ZV c d)),false)] 3
def aOG(a b:Int)(c:List (Nat×Nat))(d:List (Option XT))(f:Nat)(e:Nat×Nat)(g i:Int)(j:List XT)(k:List Pat):TS:=⟨(tf 251 66 [(0,(aO e)),(1,(.func 252 [] [(.ptr 0 0),(.ptr 1 0)]))] [kc f251 2,kc f251 3]),[],[oC 0 [(nI a)],oC 1 [(nI b)],(2,(.zone true [] (ZV c d)),false)],3⟩
def aDu(c d:Int)(e:List (Nat×Nat))(f:List (Option XT))(a:Nat)(k:Nat×Nat)(g i:Int)(b:List XT)(j:List Pat):TS:=⟨(tf 251 66 [kp 0 3,(1,(.func 252 [] [(.ptr 0 0),(.ptr 1 0)]))] [kc f251 2,kc f251 3]),[],[oC 0 [(nI c)],oC 1 [(nI d)],oC 3 [(nI g),(nI i),(.gl 4 1 0 b.length false),(iP j)],(4,gh,false),(5,(.zone true [4] (bN b)),false),(6,(.zone true [3] (cU e (set f a none) a)),false)],7⟩
def aAj(e f:Int)(g:List (Nat×Nat))(i:List (Option XT))(a:Nat)(l:Nat×Nat)(b j:Int)(c:List XT)(d:List Pat)(k:Int):TS:=⟨(tf 251 66 [kp 0 2,(1,(.func 252 [] [(.ptr 0 0),(.ptr 1 0)])),(4,.nilp),kp 5 3] [kc f251 60,kc f251 61,kc f251 31]),[],(aPZ e f b j c d k g i a),8⟩
def aIN(e f:Int)(g:List (Nat×Nat))(i:List (Option XT))(a:Nat)(l:Nat×Nat)(b j:Int)(c:List XT)(d:List Pat)(k:Int):TS:=⟨(tf 251 66 [kp 0 2,(1,(.func 252 [] [(.ptr 0 0),(.ptr 1 0)])),(4,.nilp),kp 5 3] [kc f251 60,kc f251 61,kc f251 31]),[],(aPZ e f b j c d k g i a++[(8,(.zone true [] (ZV ([] :List (Nat×Nat)) ([] :List (Option XT)))),false)]),9⟩
def aIO(f g:Int)(i:List (Nat×Nat))(j:List (Option XT))(c:Nat)(o:Nat×Nat)(d k:Int)(a:List XT)(e:List Pat)(l m:Int)(b:List (Nat×Nat))(n:List (Option XT)):TS:=⟨(tf 251 66 [(1,(.func 252 [] [(.ptr 0 0),(.ptr 1 0)])),(4,.nilp),kp 5 2,(46,(qA a)),(47,(nI (a.length:Int))),(48,(nI m))] [kc f251 244,kl f251 244,.inBlock 0,kc f251 31]),[],([oC 0 [(nI f)],oC 1 [(nI g)],aCb 2 d l b e,(3,gh,false)]++xQ b i j c d k a e++[(7,(.zone true [3] (bN a)),false),(8,(.zone true [] (ZV b n)),false)]),9⟩
def aOH(f g:Int)(i:List (Nat×Nat))(j:List (Option XT))(c:Nat)(o:Nat×Nat)(d k:Int)(a:List XT)(e:List Pat)(l m:Int)(b:List (Nat×Nat))(n:List (Option XT)):TS:=⟨(tf 251 66 [(1,(.func 252 [] [(.ptr 0 0),(.ptr 1 0)])),(4,.nilp),kp 5 2,(46,(qA a)),(47,(nI (a.length:Int))),(48,(nI m))] [kc f251 7832,kc f251 7833,.inBlock 1,kc f251 1959,kl f251 244,.inBlock 0,kc f251 31]),[],([oC 0 [(nI f)],oC 1 [(nI g)],aCb 2 d l b e,(3,gh,false)]++xQ b i j c d k a e++[(7,(.zone true [3] (bN a)),false),(8,(.zone true [] (ZV b n)),false)]),9⟩
def aDv(g i:Int)(j:List (Nat×Nat))(k:List (Option XT))(c:Nat)(p:Nat×Nat)(d l:Int)(a:List XT)(e:List Pat)(m n:Int)(b:List (Nat×Nat))(o:List (Option XT))(f:List (Nat×Nat)):TS:=⟨(tf 251 66 [(1,(.func 252 [] [(.ptr 0 0),(.ptr 1 0)])),(4,.nilp),kp 5 2,(46,(qA a)),(47,(nI (a.length:Int))),(48,(nI n))] [kc f251 7832,kc f251 7833,.inBlock 1,kc f251 1959,kl f251 244,.inBlock 0,kc f251 31]),[],([oC 0 [(nI g)],oC 1 [(nI i)],aCb 2 d m b e,mS 3 f]++xQ b j k c d l a e++[(8,(.zone true [] (ZV b o)),false),(9,(.zone true [] (ZV f (map some a))),false)]),10⟩
def aOI(g i:Int)(j:List (Nat×Nat))(k:List (Option XT))(c:Nat)(q:Nat×Nat)(d l:Int)(a:List XT)(e:List Pat)(m:Int)(n:XT)(f:List (Nat×Nat))(o:Int)(b:List (Nat×Nat))(p:List (Option XT)):TS:=⟨(tf 251 66 [(1,(.func 252 [] [(.ptr 0 0),(.ptr 1 0)])),(4,.nilp),kp 5 2,(46,(qA a)),(47,(nI (a.length:Int))),(48,(nI o))] [kc f251 1959,kl f251 244,.inBlock 0,kc f251 31]),[],[oC 0 [(nI g)],oC 1 [(nI i)],oC 2 [(nI d),(nI m),(.gl 4 1 0 (b.length+1) false),(iP e)],mS 3 f,(4,(.lst 1 (map aO b++ [.ptr 5 0])),false),(5,gh,false),(6,(.zone true [5] (Z1 n)),false),(7,(.zone true [8] (cU j (set k c none) c)),false),aOB 8 d l a e,(9,(.zone true [] (ZV b p)),false),(10,(.zone true [] (ZV f (map some a))),false)],11⟩
def aDw(i j:Int)(k:List (Nat×Nat))(l:List (Option XT))(d:Nat)(r:Nat×Nat)(e m:Int)(a:List XT)(f:List Pat)(n:Int)(o:XT)(g:List (Nat×Nat))(p:Int)(b:List (Nat×Nat))(q:List (Option XT))(c:Nat×Nat):TS:=⟨(tf 251 66 [(1,(.func 252 [] [(.ptr 0 0),(.ptr 1 0)])),(4,.nilp),kp 5 2,(46,(qA a)),(47,(nI (a.length:Int))),(48,(nI p))] [kc f251 1959,kl f251 244,.inBlock 0,kc f251 31]),[],[oC 0 [(nI i)],oC 1 [(nI j)],oC 2 [(nI e),(nI n),(.gl 4 1 0 (b++ [c]).length false),(iP f)],mS 3 g,oL 4 1 (map aO (b++ [c])),(7,(.zone true [8] (cU k (set l d none) d)),false),aOB 8 e m a f,(10,(.zone true [] (ZV g (map some a))),false),(11,(.zone true [] (ZV (b++ [c]) (q++ [some o]))),false)],12⟩
def aOJ(g i:Int)(j:List (Nat×Nat))(k:List (Option XT))(c:Nat)(p:Nat×Nat)(d l:Int)(a:List XT)(e:List Pat)(m:Int)(f b:List (Nat×Nat))(n:List (Option XT))(o:Int):TS:=⟨(tf 251 66 [(1,(.func 252 [] [(.ptr 0 0),(.ptr 1 0)])),(4,.nilp),kp 5 2,(46,(qA a)),(47,(nI (a.length:Int))),(48,(nI o))] [kc f251 1959,kl f251 244,.inBlock 0,kc f251 31]),[],([oC 0 [(nI g)],oC 1 [(nI i)],aCb 2 d m b e,mS 3 f]++xQ b j k c d l a e++[(7,(.zone true [] (ZV f (map some a))),false),(8,(.zone true [] (ZV b n)),false)]),9⟩
def aIP(f g:Int)(i:List (Nat×Nat))(j:List (Option XT))(c:Nat)(o:Nat×Nat)(d k:Int)(a:List XT)(e:List Pat)(l:Int)(p b:List (Nat×Nat))(m:List (Option XT))(n:Int):TS:=⟨(tf 251 66 [(1,(.func 252 [] [(.ptr 0 0),(.ptr 1 0)])),(4,.nilp),kp 5 2,(46,(qA a)),(47,(nI (a.length:Int))),(48,(nI n))] [kc f251 1959,kl f251 244,.inBlock 0,kc f251 31]),[],([oC 0 [(nI f)],oC 1 [(nI g)],aCb 2 d l b e,(3,gh,false)]++xQ b i j c d k a e++[(8,(.zone true [] (ZV b m)),false),(9,(.zone true [3] (bN a)),false)]),10⟩
def bAa (c:Prog)(d:Int):=fun a b e f g=>(tT 0 (bCh c d)<|gX Node.av 10 c.nodes d<|fun a=>.y fun b:List Pat=>.i [rn 5,.reg (rd 6 (.pure (iP b)::rd 3 []))] [hA (aJ PP 120 [(iP a.pats)] (iP b)),hr (nI a.n),hr (nI a.n),hr (nI a.op),hr (nI a.op)]<|.i [rn 2,.cnil 2 2 1] []<|gu 0 3 (map aO ([] :List (Nat×Nat)))<|gv 0 2 2 aOD<|.W 0 4 [0,1,2,3] (aOE c d a.op a.n a.kids a.pats a.op a.n b)) a e f b g ⟨kk,trivial⟩
def bAb (b:Prog)(c g i:Int)(a:List Int)(j:List Pat)(d e:Int)(f:List Pat):=(tT 0 (aIM b c g i a j d e f)<|gl 3 bU a<|.W 4 5 [0,2,3,4] (aFa b c a (a.length:Int) d e f 0 ([] :List (Nat×Nat)) ([] :List (Option XT)))) ⟨kk,trivial⟩
def bAc (i:Prog)(j:Int)(k:List Int)(b c d:Int)(e:List Pat)(f:Int)(a:List (Nat×Nat))(g:List (Option XT)):=fun l=>(tT 0 (aFa i j k b c d e f a g)<|gd 5 27 (f<b) .x<|.E 8 4 [1,2,3] (.ptr 0 0) [oC 0 [(nI c),(nI d),(.gl 1 1 0 a.length false),(iP e)],mS 1 a,(2,(.zone true [] (ZV a g)),false)] 3)|>.f l ⟨kk,trivial⟩
def bAd (b:Prog)(c:Int)(d:List Int)(e f g:Int)(i:List Pat)(j:XT)(a:Int)(k:List (Nat×Nat))(l:List (Option XT))(m:Nat×Nat):=fun n=>(tT 0 (aDt b c d e f g i j a k l m)<|gw 2 42 (a+1)<|.W 3 7 [0,1,2,6] (aFa b c d e f g i (a+1) (k++ [m]) (l++ [some j]))) n ⟨kk,trivial⟩
def bAe (a b:Int)(c:List (Nat×Nat))(d:List (Option XT))(e:Nat)(f:Nat×Nat)(g i:Int)(j:List XT)(k:List Pat):=(tT 2 (bCi a b c d e f g i j k)<|.W 1 3 [2] (aOG a b c d e f g i j k)) tv
def aIQ(c b:Int)(e:List (Nat×Nat))(f:List (Option XT))(g:Nat)(i:Nat×Nat)(d a:Int)(j:List XT)(k:List Pat):=tT 2 (aDu c b e f g i d a j k)<|.i [rn 4,.reg (rd 15 [])] []<|.b 9 27 (d==4) (gd 7 33 (a≥0) (gd 20 7 (a≥c) (gw 6 10 (a+b)<|.i [rn 10,.cnil 7 2 1] []<|gu 0 8 (map aO ([] :List (Nat×Nat)))<|gv 0 7 2 aIL<|.W 0 9 [3,7,4,8,6,5] (aAj c b e f g i d a j k (a+b)))<|.i [rn 15,.cnil 7 2 1] []<|gu 0 8 (map aO ([] :List (Nat×Nat)))<|gv 0 7 2 aIL<|.W 0 9 [3,7,4,8,6,5] (aAj c b e f g i d a j k a))<|.i [rn 4,.cnil 7 2 1] []<|gu 0 8 (map aO ([] :List (Nat×Nat)))<|gv 0 7 2 aIL<|.W 0 9 [3,7,4,8,6,5] (aAj c b e f g i d a j k a))<|.i [rn 11,.cnil 7 2 1] []<|gu 0 8 (map aO ([] :List (Nat×Nat)))<|gv 0 7 2 aIL<|.W 0 9 [3,7,4,8,6,5] (aAj c b e f g i d a j k a)
def bAf:=fun a b c d e f g i j k l m n o=>aIQ a b c d e f g i j k|>.t l|>.t m|>.t n o ⟨kk,trivial⟩
def bAg:=fun a b c d e f g i j k l m n=>aIQ a b c d e f g i j k|>.t l|>.t m|>.f n ⟨kk,trivial⟩
def bAh:=fun a b c d e f g i j k l m=>aIQ a b c d e f g i j k|>.t l|>.f m ⟨kk,trivial⟩
def bAi:=fun a b c d e f g i j k l=>aIQ a b c d e f g i j k|>.f l ⟨kk,trivial⟩
def bAj (a b:Int)(c:List (Nat×Nat))(d:List (Option XT))(e:Nat)(f:Nat×Nat)(g i:Int)(j:List XT)(k:List Pat)(l:Int):=(tT 2 (aIN a b c d e f g i j k l)<|.W 10 9 [3,4,5,6,2,7,8] (aIO a b c d e f g i j k l 0 ([] :List (Nat×Nat)) ([] :List (Option XT)))) ⟨kk,trivial⟩
def aVk(f g:Int)(i:List (Nat×Nat))(j:List (Option XT))(c:Nat)(o:Nat×Nat)(d k:Int)(a:List XT)(e:List Pat)(l m:Int)(b:List (Nat×Nat))(n:List (Option XT)):=tT 2 (aIO f g i j c o d k a e l m b n)<|gd 5 49 (m< (a.length:Int)) (.W 5 9 [2,3,4,5,6,7,8] (aOH f g i j c o d k a e l m b n))<|.E 8 9 [2,4,5,6,3,7,8] (.ptr 2 0) [oC 0 [(nI f)],oC 1 [(nI g)],oC 2 [(nI d),(nI l),(.gl 3 1 0 b.length false),(iP e)],mS 3 b,(4,(.zone true [5] (cU i (set j c none) c)),false),oC 5 [(nI d),(nI k),(.gl 6 1 0 a.length false),(iP e)],(6,gh,false),(7,(.zone true [6] (bN a)),false),(8,(.zone true [] (ZV b n)),false)] 9
def bAk:=fun a b c d e f g i j k l m n o p=>aVk a b c d e f g i j k l m n o|>.t p ⟨kk,trivial⟩
def bAl:=fun a b c d e f g i j k l m n o p=>aVk a b c d e f g i j k l m n o|>.f p ⟨kk,trivial⟩
def bAm (a b:Int)(c:List (Nat×Nat))(d:List (Option XT))(e:Nat)(f:Nat×Nat)(g i:Int)(j:List XT)(k:List Pat)(l:Int)(m:XT)(n:List (Nat×Nat))(o:Int)(p:List (Nat×Nat))(q:List (Option XT))(r:Nat×Nat):=(tT 2 (aDw a b c d e f g i j k l m n o p q r)<|.W 0 12 [2,3,4,7,8,10,11] (aOJ a b c d e f g i j k l n (p++ [r]) (q++ [some m]) o)) ⟨kk,⟨kk,trivial⟩⟩
def bAn (b c:Int)(d:List (Nat×Nat))(e:List (Option XT))(f:Nat)(g:Nat×Nat)(i j:Int)(k:List XT)(l:List Pat)(m:Int)(p n:List (Nat×Nat))(o:List (Option XT))(a:Int):=fun q=>(tT 2 (aIP b c d e f g i j k l m p n o a)<|gw 2 64 (a+1)<|.W 3 10 [2,3,4,5,6,9,8] (aIO b c d e f g i j k l m (a+1) n o)) q ⟨kk,trivial⟩
theorem bDB (fr mb:Int)(us: (List (Nat×Nat)))(ts: (List (Option XT)))(ix:Nat)(u: (Nat×Nat))(op nn:Int)(ks:List XT)(ps:List Pat)(hu:us[ix]?=some u)(ht: (ts)[ix]?=some (some (.mk op nn ks ps))) :LeadsM PP 2 (aOG fr mb us ts ix u op nn ks ps).as (aDu fr mb us ts ix u op nn ks ps).as:=
 rO (j:=0) (v:=aO u) (v':=.ptr 3 0) (by kernel_rfl) (fun hm=>nV (h:= (aOG fr mb us ts ix u op nn ks ps).as.h) (h':= (aDu fr mb us ts ix u op nn ks ps).as.h) (g:=2) (us:=us) (ts:=ts) (i:=ix) (u:=u) (op:=op) (n:=nn) (ks:=ks) (ps:=ps) (by kernel_rfl) hu ht rfl (aT ⟨.inr (.inr (.inr (.inr ⟨by decide,by kernel_rfl⟩))),.inr (.inr (.inr (.inr ⟨by decide,by kernel_rfl⟩))),.inl ⟨rfl,rfl⟩,.inr (.inl ⟨rfl,rfl⟩),.inr (.inr (.inl ⟨rfl,rfl⟩)),.inr (.inr (.inr (.inl ⟨rfl,rfl⟩))),trivial⟩) hm) (by kernel_rfl) (by kernel_rfl)
theorem bDC (fr mb:Int)(us: (List (Nat×Nat)))(ts: (List (Option XT)))(ix:Nat)(u: (Nat×Nat))(op nn:Int)(ks:List XT)(ps:List Pat)(c3_1:Int) :LeadsM PP 2 (aAj fr mb us ts ix u op nn ks ps c3_1).as (aIN fr mb us ts ix u op nn ks ps c3_1).as:=
 lE (xJ (h:= (aAj fr mb us ts ix u op nn ks ps c3_1).as.h) (h':= (aIN fr mb us ts ix u op nn ks ps c3_1).as.h) (Z:= (ZV ([] :List (Nat×Nat)) ([] :List (Option XT)))) (fun _ _=> ⟨nodup_nil,by simp [OsAt]⟩) (le_refl _) (aT ⟨.inr (by kernel_rfl),.inr (by kernel_rfl),.inr (by kernel_rfl),.inr (by kernel_rfl),.inr (by kernel_rfl),.inr (by kernel_rfl),.inr (by kernel_rfl),.inr (by kernel_rfl),.inl ⟨rfl,rfl⟩,trivial⟩)) (by kernel_rfl) (by kernel_rfl)
theorem bDD (fr mb:Int)(us: (List (Nat×Nat)))(ts: (List (Option XT)))(ix:Nat)(u: (Nat×Nat))(op nn:Int)(ks:List XT)(ps:List Pat)(c3_1 t48:Int)(q0: (List (Nat×Nat)))(q1: (List (Option XT))){res:Res}{hf:Hp}(hne:ks≠ [])(k:∀u8,u8.length=ks.length→Ends PP 2 (aDv fr mb us ts ix u op nn ks ps c3_1 t48 q0 q1 u8).as res hf) :Ends PP 2 (aOH fr mb us ts ix u op nn ks ps c3_1 t48 q0 q1).as res hf:=
 jT (t:=fun u8=> (aDv fr mb us ts ix u op nn ks ps c3_1 t48 q0 q1 u8).as) (ok:=fun us=>us.length=ks.length) (rK (h:= (aOH fr mb us ts ix u op nn ks ps c3_1 t48 q0 q1).as.h) (h':=fun u8=> (aDv fr mb us ts ix u op nn ks ps c3_1 t48 q0 q1 u8).as.h) (k:=3) (g:=7) (o:=gh) (ts:=ks) (by kernel_rfl) rfl (by kernel_rfl) hne (fun _=>le_refl _) (fun u8=> (aT ⟨.inr (.inr ⟨by decide,by kernel_rfl⟩),.inr (.inr ⟨by decide,by kernel_rfl⟩),.inr (.inr ⟨by decide,by kernel_rfl⟩),.inr (.inl ⟨rfl,rfl⟩),.inr (.inr ⟨by decide,by kernel_rfl⟩),.inr (.inr ⟨by decide,by kernel_rfl⟩),.inr (.inr ⟨by decide,by kernel_rfl⟩),.inr (.inr ⟨by decide,by kernel_rfl⟩),.inl ⟨rfl,rfl⟩,trivial⟩))) (fun u8=> ⟨by kernel_rfl,by kernel_rfl⟩) k
theorem bDE (fr mb:Int)(us: (List (Nat×Nat)))(ts: (List (Option XT)))(ix:Nat)(u: (Nat×Nat))(op nn:Int)(ks:List XT)(ps:List Pat)(c3_1:Int)(q0:XT)(q0x1: (List (Nat×Nat)))(t48:Int)(usx1: (List (Nat×Nat)))(q1: (List (Option XT))){res:Res}{hf:Hp}(k:∀u9,Ends PP 2 (aDw fr mb us ts ix u op nn ks ps c3_1 q0 q0x1 t48 usx1 q1 u9).as res hf) :Ends PP 2 (aOI fr mb us ts ix u op nn ks ps c3_1 q0 q0x1 t48 usx1 q1).as res hf:=
 jT (t:= (fun u9=> (aDw fr mb us ts ix u op nn ks ps c3_1 q0 q0x1 t48 usx1 q1 u9).as)) (ok:=fun _=>True) (aDl (h:= (aOI fr mb us ts ix u op nn ks ps c3_1 q0 q0x1 t48 usx1 q1).as.h) (h':=fun u9=> (aDw fr mb us ts ix u op nn ks ps c3_1 q0 q0x1 t48 usx1 q1 u9).as.h) (k:=4) (g:=9) (gz:=6) (z:=5) (us:=usx1) (ts:=q1) (t:=q0) (by kernel_rfl) (by kernel_rfl) (by kernel_rfl) (by decide) (fun _=>le_refl _) (fun u9=> (aT ⟨.inr (.inr ⟨by decide,by kernel_rfl⟩),.inr (.inr ⟨by decide,by kernel_rfl⟩),.inr (.inr ⟨by decide,by rw [length_append];kernel_rfl⟩),.inr (.inr ⟨by decide,by kernel_rfl⟩),.inr (.inl ⟨rfl,rfl⟩),.inr (.inr ⟨by decide,by kernel_rfl⟩),.inr (.inr ⟨by decide,by kernel_rfl⟩),.inr (.inr ⟨by decide,by kernel_rfl⟩),.inl ⟨rfl,rfl⟩,trivial⟩))) (fun u9=> ⟨by kernel_rfl,by kernel_rfl⟩) (fun u9 _=>k u9)
theorem bDF (fr mb:Int)(us: (List (Nat×Nat)))(ts: (List (Option XT)))(ix:Nat)(u: (Nat×Nat))(op nn:Int)(ks:List XT)(ps:List Pat)(c3_1:Int)(q0: (List (Nat×Nat)))(q0x2: (List (Nat×Nat)))(q1: (List (Option XT)))(t48:Int)(hne:ks≠ []) :LeadsM PP 2 (aOJ fr mb us ts ix u op nn ks ps c3_1 q0 q0x2 q1 t48).as (aIP fr mb us ts ix u op nn ks ps c3_1 q0 q0x2 q1 t48).as:=
 lE (xG (h:= (aOJ fr mb us ts ix u op nn ks ps c3_1 q0 q0x2 q1 t48).as.h) (h':= (aIP fr mb us ts ix u op nn ks ps c3_1 q0 q0x2 q1 t48).as.h) (k:=3) (g:=7) (us:=q0) (ts:=ks) (by kernel_rfl) (by kernel_rfl) hne (le_refl _) (aT ⟨.inr (.inr ⟨by decide,by decide,by kernel_rfl⟩),.inr (.inr ⟨by decide,by decide,by kernel_rfl⟩),.inr (.inr ⟨by decide,by decide,by kernel_rfl⟩),.inl ⟨rfl,rfl⟩,.inr (.inr ⟨by decide,by decide,by kernel_rfl⟩),.inr (.inr ⟨by decide,by decide,by kernel_rfl⟩),.inr (.inr ⟨by decide,by decide,by kernel_rfl⟩),.inr (.inr ⟨by decide,by decide,by kernel_rfl⟩),.inr (.inl ⟨rfl,rfl⟩),trivial⟩)) (by kernel_rfl) (by kernel_rfl)
theorem bAo (fr mb:Int)(us: (List (Nat×Nat)))(ts: (List (Option XT)))(ix:Nat)(u: (Nat×Nat))(op nn:Int)(ks:List XT)(ps:List Pat)(c3_1 t48:Int)(q0: (List (Nat×Nat)))(q1: (List (Option XT)))(u8: (List (Nat×Nat)))(y0: (Nat×Nat))(nt1:XT)(h0:0≤t48)(h1:t48< ((ks.length:Nat) :Int))(h2: ((u8)[t48.toNat]?) =some y0)(h3:aVi y0 fr mb op c3_1 q0 ps u8 us ts ix nn ks q1 nt1)(h4:q0.length+1≤1000000) :
  LeadsM PP 2 (aDv fr mb us ts ix u op nn ks ps c3_1 t48 q0 q1 u8).as (aOI fr mb us ts ix u op nn ks ps c3_1 nt1 u8 t48 q0 q1).as:=
 jZ (n1:=15) (ks:=[2,3,14,12,13,5,6,8,11]) (W:=[some (.cells (putCells .leaf 0 [(nI fr)]) 1 [] false),some (.cells (putCells .leaf 0 [(nI mb)]) 1 [] false),some (.cells (putCells .leaf 0 [(nI op),(nI c3_1),(.gl 14 1 0 (q0.length+1) false),(iP ps)]) 4 [] false),some (.lst 1 (map aO u8)),some (.lst 1 (map aO q0++ [.ptr 12 0])),some gh,some (.zone true [12] (Z1 nt1)),some (.zone true [6] (cU us (set ts ix none) ix)),some (.cells (putCells .leaf 0 [(nI op),(nI nn),(qA ks),(iP ps)]) 4 [] false),some (.zone true [] (ZV q0 q1)),some (.zone true [] (ZV u8 (map some ks)))]) (wc (by kernel_rfl) (wc (by kernel_rfl) (wc (by kernel_rfl) (wc (by kernel_rfl) (wc (aA5 (by kernel_rfl)) (wc (by kernel_rfl) (wc (by kernel_rfl) (wc (by kernel_rfl) (wc (by kernel_rfl) (wc (by kernel_rfl) (wc (by kernel_rfl) wn))))))))))) (ps:=[0≤t48,t48< ((ks.length:Nat) :Int),(map aO u8)[(0+t48.toNat)]?=some (aO y0),aVi y0 fr mb op c3_1 q0 ps u8 us ts ix nn ks q1 nt1,0+q0.length≤length (map aO q0),q0.length+1≤1000000,take q0.length (drop 0 (map aO q0)) ++ [ptr 12 0] = (map aO q0++ [.ptr 12 0]),q0.length+length [ptr 12 0] =q0.length+1,(AV.gl 4 1 0 q0.length false) = (AV.gl 4 1 0 q0.length false),(AV.gl 4 1 0 q0.length false) = (AV.gl 4 1 0 q0.length false)]) (is:=[.run 1,.ans (.ix),.ans (.idx (aO y0)),.run 2,.reg [.d,.d,.d,.d,.d,.d,.d,.call (.ptr 12 0) (aA ([oC 0 [(nI fr)],oC 1 [(nI mb)],aCb 2 op c3_1 q0 ps,mS 3 u8]++xQ q0 us ts ix op nn ks ps++[(8,(.zone true [] (ZV q0 q1)),false),(11,(.zone true [] (ZV u8 (map some ks))),false),(12,gh,false),(13,(.zone true [12] (Z1 nt1)),false)]) 14),.d,.app (map aO q0++ [.ptr 12 0]) (q0.length+1),.d,.d,.d],.run 1]) (by kernel_rfl) (by kernel_rfl) ⟨(aG _ (fun _=>rfl) _),trivial⟩ ⟨h0,h1,(cB h2),h3,aEQ,h4,aNp,aNq,rfl,rfl⟩
abbrev HL :=List (Nat×AObj×Bool)
abbrev NT (t:XT) :HL:=[(0,gh,false),(1,.zone true [0] (Z1 t),false)]
abbrev NL (o n:Int)(ps:List Pat)(us:List (Nat×Nat))(ts:List (Option XT)) :HL:=[(0,(.cells (putCells .leaf 0 [(.int .i64 o),(.int .i64 n),(.gl 1 1 0 (length us) false),(.ilst 4 (Pats.av ps) false)]) 4 [] false),false),(1,(.lst 1 (map aO us)),true),(2,(.zone true [] (ZV us ts)),false)]
theorem bFa (t:XT) :eF (NT t) :=trivial
def aFb (p:Prog) :Prop:=∀nd∈p.nodes,nd.kids.length<1000000∧bF nd.pats<1000000
theorem aSr {o n:Int}{ps:List Pat}{us:List (Nat×Nat)}{ts:List XT}:iG (aA (NL o n ps us (ts.map some)) 3) (aA [(0,gh,false),(3,.zone true [0] (Z1 (.mk o n ts ps)),false)] 4) :=fun E w r=>by
 have hlen:us.length=ts.length:=by
  obtain⟨L,_,h2⟩ :=r.obj 2 (.zone true [] (ZV us (ts.map some))) (by kernel_rfl);obtain⟨_,_,_,hos⟩ :=eY h2;have:=hos.len;rwa [List.length_map]at this
 have z:iG (aA (NL o n ps us (ts.map some)) 3) (aA [(0,gh,false),(3,.zone true [0] (Z1 (.mk o n ts ps)),false)] 4) :=
  aA4 (b:=0) (k:=1) (g:=2) (us:=us) (op:=o) (n:=n) (ts:=ts) (ps:=ps) (len:=us.length) (ex:=false) (pv:=.ilst 4 (Pats.av ps) false) (by kernel_rfl) hlen (fun _ _ h=>h) (by kernel_rfl) (by kernel_rfl) (le_refl _)
   (aT ⟨.inr (.inl ⟨rfl,rfl⟩),.inl ⟨rfl,rfl⟩,trivial⟩)
 exact z E w r
theorem aSs {s:AS}{o n:Int}{ps:List Pat}{us:List (Nat×Nat)}{ts:List XT}(e:Ends PP 0 s (.ret (.ptr 0 0)) (aA (NL o n ps us (ts.map some)) 3)) :Ends PP 0 s (.ret (.ptr 0 0)) (aA (NT (.mk o n ts ps)) 2) :=
 cN (ks:=[0,3]) (mR e aSr (zero_le _)) (by kernel_rfl) (by kernel_rfl) (by kernel_rfl) (bFa _)
theorem aVl {ce:Prog}{o n:Int}{ps:List Pat}{us:List (Nat×Nat)}{ts:List (Option XT)}{t:XT}{at0 t25 t26:Int}{ks:List Int}{res:Res}{hf:Hp}(k:∀u,Ends PP 0 (aDt ce at0 ks t25 o n ps t t26 us ts u).as res hf) :Ends PP 0 (aOF ce at0 ks t25 o n ps t t26 us ts).as res hf:=
 jT (t:=fun u=> (aDt ce at0 ks t25 o n ps t t26 us ts u).as) (ok:=fun _=>True)
  (aDl (h:= (aOF ce at0 ks t25 o n ps t t26 us ts).as.h) (h':=fun u=> (aDt ce at0 ks t25 o n ps t t26 us ts u).as.h) (k:=2) (g:=5) (gz:=4) (z:=3) (us:=us) (ts:=ts) (t:=t) (by kernel_rfl) (by kernel_rfl) (by kernel_rfl) (by decide) (fun u=>le_refl _)
   (fun u=>aT ⟨.inr (.inr ⟨by decide,by kernel_rfl⟩),.inr (.inr ⟨by decide,by rw [length_append];kernel_rfl⟩),.inr (.inl ⟨rfl,rfl⟩),.inl ⟨rfl,rfl⟩,trivial⟩))
  (fun u=> ⟨by kernel_rfl,by kernel_rfl⟩) (fun u _=>k u)
theorem nil_turn {ce:Prog}{o n c0 c1:Int}{ps c3:List Pat}{at0:Int}{ks:List Int}:LeadsM PP 0 (aOE ce at0 c0 c1 ks c3 o n ps).as (aIM ce at0 c0 c1 ks c3 o n ps).as:=
 lE (xJ (h:= (aOE ce at0 c0 c1 ks c3 o n ps).as.h) (h':= (aIM ce at0 c0 c1 ks c3 o n ps).as.h) (Z:=ZV [] []) (fun _ _=> ⟨nodup_nil,by simp [OsAt]⟩) (le_refl _) (aT ⟨.inr (by kernel_rfl),.inr (by kernel_rfl),.inr (by kernel_rfl),.inr (by kernel_rfl),.inl ⟨rfl,rfl⟩,trivial⟩)) (by kernel_rfl) (by kernel_rfl)
section
variable {p :Prog} (hf:aFb p)
mutual
theorem aGW (hf:aFb p) :∀ (t:XT) (at0:Int),IsTree p t at0→eK PP 0 (.enter 91 [Prog.av p,.int .i64 at0]) (aA [] 0) (.ret (.ptr 0 0)) (aA (NT t) 2)
 | .mk o n ts ps,at0,h=>by
  simp only [IsTree]at h;obtain⟨h0,nd,h1,rfl,rfl,rfl,h5⟩ :=h;obtain⟨f1,f2⟩ :=hf nd (List.mem_of_getElem? h1);refine⟨(bCh p at0).as.fr,by kernel_rfl,?_⟩;refine((bAa p at0 nd nd.pats h0 h1 (aLG nd.pats f2)).trans (nil_turn.trans (bAb p at0 _ _ nd.kids _ _ _ nd.pats))).ends ?_;exact aFc hf at0 nd.kids nd.op nd.n nd.pats f1 ts [] [] 0 (by simpa using h5) rfl rfl
theorem aFc (hf:aFb p)(at0:Int)(ks:List Int)(o n:Int)(ps:List Pat)(hk:ks.length<1000000) :∀ (ts dn:List XT) (us:List (Nat×Nat)) (i:Nat),aR p ts (ks.drop i) →dn.length=i→us.length=i →
  Ends PP 0 (aFa p at0 ks ((length ks:Nat) :Int) o n ps (i:Int) us (dn.map some)).as (.ret (.ptr 0 0)) (aA (NT (.mk o n (dn++ts) ps)) 2)
 | [],dn,us,i,h,h1,h2=>by
  simp only [aR]at h;have hi:=bE h;rw [List.append_nil];exact aSs (bAc p at0 ks _ o n ps (i:Int) us (dn.map some) sd)
 | t::ts,dn,us,i,h,h1,h2=>by
  simp only [aR]at h;obtain⟨k,l',h3,h4,h5⟩ :=h;obtain⟨g1,g2,g3⟩ :=bB h3
  have hs:=aGV (m:=0) (ks:=[]) (n2:=5) (n3:=7) (v':=.ptr 5 0) (args':=[Prog.av p,.int .i64 k])
   (lc:=[(0,(.cells (putCells .leaf 0 [(.ilst 4 (map Node.av p.nodes) false),(.ilst 1 (map bU p.funs) false),(.int .i64 p.main),(.ilst 2 (map Con.av p.cons) false)]) 4 [] false),false),(1,(.cells (putCells .leaf 0 [(.int .i64 o),(.int .i64 n),(.gl 2 1 0 (length us) false),(.ilst 4 (Pats.av ps) false)]) 4 [] false),false),(2,(.lst 1 (map aO us)),true),(3,(.zone true [] (ZV us (dn.map some))),false)])
   (lc':=[(0,(.cells (putCells .leaf 0 [(.ilst 4 (map Node.av p.nodes) false),(.ilst 1 (map bU p.funs) false),(.int .i64 p.main),(.ilst 2 (map Con.av p.cons) false)]) 4 [] false),false),(1,(.cells (putCells .leaf 0 [(.int .i64 o),(.int .i64 n),(.gl 2 1 0 (length us) false),(.ilst 4 (Pats.av ps) false)]) 4 [] false),false),(2,(.lst 1 (map aO us)),true),(3,(.zone true [] (ZV us (dn.map some))),false),(5,gh,false),(6,(.zone true [5] (Z1 t)),false)])
   (aGW hf t k h4) (by rfl) (by rfl) (by kernel_rfl) (by rfl) (by rfl) (by kernel_rfl) (by kernel_rfl) trivial (by kernel_rfl) trivial
  refine(aZ9 p at0 ks _ o n ps (i:Int) us (dn.map some) k t sd sd sd hs (by omega)).ends (aVl fun u=>?_);refine(bAd p at0 ks _ o n ps t (i:Int) us (dn.map some) u sd).ends ?_;have:=aFc hf at0 ks o n ps hk ts (dn++ [t]) (us++ [u]) (i+1) (by rw [g2];exact h5) (by simp [h1]) (by simp [h2]);rw [List.append_assoc,List.map_append]at this;exact this
end
end
abbrev aVm (a:Nat×Nat)(b:List (Nat×Nat))(c:List (Option XT))(d:XT):=[oC 0 [(nI 7),(nI 0),(.gl 1 1 0 ([a].length+1) false),.nils],(1,(.lst 1 (map aO [a] ++ [.ptr 2 0])),false),(2,gh,false),(3,(.zone true [] (ZV b c)),false),(4,(.zone true [2] (Z1 d)),false)]
abbrev bDG (a:Nat)(b:List (Nat×Nat))(c:Prog)(d:List Con):=oC a [(.gl 2 1 0 b.length false),(nI c.main),(iC d)]
abbrev aIR (a:List (Nat×Nat))(b:Prog)(c:List Con)(d:List (Option XT)):=[bDG 1 a b c,oL 2 1 (map aO a),(3,(.zone true [] (ZV a d)),false)]
abbrev aVn (a:Prog)(b:Int)(c:List (Nat×Nat))(d:List Con)(e:List (Option XT))(f:XT):=Spec PP (.enter 91 [(Prog.av a),(nI b)]) (aA ([oC 0 [(iN a.nodes),(iI a.funs),(nI a.main),(iC a.cons)]]++aIR c a d e) 5) (.ret (.ptr 5 0)) (aA ([oC 0 [(iN a.nodes),(iI a.funs),(nI a.main),(iC a.cons)]]++aIR c a d e++[(5,gh,false),(6,(.zone true [5] (Z1 f)),false)]) 7)
abbrev aCc (a:Nat)(b:Prog):=oC a [(iN b.nodes),(iI b.funs),(nI b.main),(iC b.cons)]
abbrev aOK:AV:=.gl 2 1 0 ([] :List (Nat×Nat)).length false
def bCj(a:Prog):TS:=bC PP 48 [(Prog.av a)] [] 0
def aOL(a:Prog)(b:List Con):TS:=⟨(tf 48 34 [kp 1 0,(2,.nilp),kp 3 1] [kc f48 28,kc f48 29,kc f48 15]),[],[aCc 0 a,oC 1 [aOK,(nI a.main),(iC b)],oL 2 1 (map aO ([] :List (Nat×Nat)))],3⟩
def aIS(a:Prog)(b:List Con):TS:=⟨(tf 48 34 [kp 1 0,(2,.nilp),kp 3 1] [kc f48 28,kc f48 29,kc f48 15]),[],[aCc 0 a,oC 1 [aOK,(nI a.main),(iC b)],oL 2 1 (map aO ([] :List (Nat×Nat))),(3,(.zone true [] (ZV ([] :List (Nat×Nat)) ([] :List (Option XT)))),false)],4⟩
def aFd(a:Prog)(c:List Con)(d:Int)(b:List (Nat×Nat))(e:List (Option XT)):TS:=⟨(tf 48 34 [kp 1 0,(2,.nilp),kp 3 1,(14,(iI a.funs)),(15,(nI (a.funs.length:Int))),(16,(nI d))] [kc f48 116,kl f48 116,.inBlock 0,kc f48 15]),[],([aCc 0 a]++aIR b a c e),4⟩
def aOM(a:Prog)(c:List Con)(d:XT)(e:Int)(b:List (Nat×Nat))(f:List (Option XT)):TS:=⟨(tf 48 34 [kp 1 0,(2,.nilp),kp 3 1,(14,(iI a.funs)),(15,(nI (a.funs.length:Int))),(16,(nI e))] [kc f48 935,kl f48 116,.inBlock 0,kc f48 15]),[],[aCc 0 a,oC 1 [(.gl 2 1 0 (b.length+1) false),(nI a.main),(iC c)],(2,(.lst 1 (map aO b++ [.ptr 3 0])),false),(3,gh,false),(4,(.zone true [3] (Z1 d)),false),(5,(.zone true [] (ZV b f)),false)],6⟩
def aDx(a:Prog)(d:List Con)(e:XT)(f:Int)(b:List (Nat×Nat))(g:List (Option XT))(c:Nat×Nat):TS:=⟨(tf 48 34 [kp 1 0,(2,.nilp),kp 3 1,(14,(iI a.funs)),(15,(nI (a.funs.length:Int))),(16,(nI f))] [kc f48 935,kl f48 116,.inBlock 0,kc f48 15]),[],[aCc 0 a,oC 1 [(.gl 2 1 0 (b++ [c]).length false),(nI a.main),(iC d)],oL 2 1 (map aO (b++ [c])),(6,(.zone true [] (ZV (b++ [c]) (g++ [some e]))),false)],7⟩
theorem bDH (p:Prog)(vy0:List Con) :LeadsM PP 0 (aOL p vy0).as (aIS p vy0).as:=
 lE (xJ (h:= (aOL p vy0).as.h) (h':= (aIS p vy0).as.h) (Z:= (ZV ([] :List (Nat×Nat)) ([] :List (Option XT)))) (fun _ _=> ⟨nodup_nil,by simp [OsAt]⟩) (le_refl _) (aT ⟨.inr (by kernel_rfl),.inr (by kernel_rfl),.inr (by kernel_rfl),.inl ⟨rfl,rfl⟩,trivial⟩)) (by kernel_rfl) (by kernel_rfl)
theorem bDI (p:Prog)(vy0:List Con)(q0:XT)(t16:Int)(us: (List (Nat×Nat)))(q1: (List (Option XT))){res:Res}{hf:Hp}(k:∀u9,Ends PP 0 (aDx p vy0 q0 t16 us q1 u9).as res hf) :Ends PP 0 (aOM p vy0 q0 t16 us q1).as res hf:=
 jT (t:= (fun u9=> (aDx p vy0 q0 t16 us q1 u9).as)) (ok:=fun _=>True) (aDl (h:= (aOM p vy0 q0 t16 us q1).as.h) (h':=fun u9=> (aDx p vy0 q0 t16 us q1 u9).as.h) (k:=2) (g:=5) (gz:=4) (z:=3) (us:=us) (ts:=q1) (t:=q0) (by kernel_rfl) (by kernel_rfl) (by kernel_rfl) (by decide) (fun _=>le_refl _) (fun u9=> (aT ⟨.inr (.inr ⟨by decide,by kernel_rfl⟩),.inr (.inr ⟨by decide,by rw [length_append];kernel_rfl⟩),.inr (.inl ⟨rfl,rfl⟩),.inl ⟨rfl,rfl⟩,trivial⟩))) (fun u9=> ⟨by kernel_rfl,by kernel_rfl⟩) (fun u9 _=>k u9)
theorem bAp (p:Prog)(vy0:List Con)(t16:Int)(q0: (List (Nat×Nat)))(q1: (List (Option XT)))(y0:Int)(nt1:XT)(h0:decide (t16< (p.funs.length:Int)) =true)(h1:0≤t16)(h2: ((p.funs)[t16.toNat]?) =some y0)(h3:aVn p y0 q0 vy0 q1 nt1)(h4:q0.length+1≤1000000) :
  LeadsM PP 0 (aFd p vy0 t16 q0 q1).as (aOM p vy0 nt1 t16 q0 q1).as:=
 jZ (n1:=8) (ks:=[0,1,7,5,6,3]) (W:=[some (.cells (putCells .leaf 0 [(iN p.nodes),(iI p.funs),(nI p.main),(iC p.cons)]) 4 [] false),some (.cells (putCells .leaf 0 [(.gl 7 1 0 (q0.length+1) false),(nI p.main),(iC vy0)]) 3 [] false),some (.lst 1 (map aO q0++ [.ptr 5 0])),some gh,some (.zone true [5] (Z1 nt1)),some (.zone true [] (ZV q0 q1))]) (wc (by kernel_rfl) (wc (by kernel_rfl) (wc (aA5 (by kernel_rfl)) (wc (by kernel_rfl) (wc (by kernel_rfl) (wc (by kernel_rfl) wn)))))) (ps:=[decide (t16< (p.funs.length:Int)) =true,0≤t16,(jI p.funs)[t16.toNat]?=some (bU y0),aVn p y0 q0 vy0 q1 nt1,0+q0.length≤length (map aO q0),q0.length+1≤1000000,take q0.length (drop 0 (map aO q0)) ++ [ptr 5 0] = (map aO q0++ [.ptr 5 0]),q0.length+length [ptr 5 0] =q0.length+1,(AV.gl 2 1 0 q0.length false) = (AV.gl 2 1 0 q0.length false),(AV.gl 2 1 0 q0.length false) = (AV.gl 2 1 0 q0.length false)]) (is:=[.run 5,.b 17 true,.run 6,.ans (.idx (bU y0)),.run 3,.reg [.d,.d,.d,.d,.d,.d,.d,.call (.ptr 5 0) (aA ([aCc 0 p]++aIR q0 p vy0 q1++[(5,gh,false),(6,(.zone true [5] (Z1 nt1)),false)]) 7),.d,.app (map aO q0++ [.ptr 5 0]) (q0.length+1),.d,.d,.d],.run 1]) (by kernel_rfl) (by kernel_rfl) trivial ⟨h0,h1,(aZ h2),h3,aEQ,h4,aNp,aNq,rfl,rfl⟩
def bCk(a:List (Nat×Nat))(b:List (Option XT))(f:Nat)(c:Nat×Nat)(d e:Int):TS:=bC PP 249 [(aO c),(nI d),(nI e)] [(0,(.zone true [] (ZV a b)),false)] 1
def bCl(a:List (Nat×Nat))(b:List (Option XT))(e:Nat)(c:Nat×Nat)(d:XT):TS:=bC PP 248 [(aO c),(.ptr 1 0)] [(0,(.zone true [] (ZV a b)),false),(1,gh,false),(2,(.zone true [1] (Z1 d)),false)] 3
theorem bAq (us: (List (Nat×Nat)))(ts: (List (Option XT)))(ix:Nat)(u: (Nat×Nat))(tb:XT) :
  Ends PP 0 (bCl us ts ix u tb).as (.ret (.ptr 0 0)) (aA (aVm u us ts tb) 5) :=
 aKv (n1:=5) (ks:=[4,3,1,0,2]) (hp:= (aVm u us ts tb)) (v:= (.ptr 0 0)) (W:=[some (.cells (putCells .leaf 0 [(nI 7),(nI 0),(.gl 3 1 0 ([u].length+1) false),.nils]) 4 [] false),some (.lst 1 (map aO [u] ++ [.ptr 1 0])),some gh,some (.zone true [] (ZV us ts)),some (.zone true [1] (Z1 tb))]) (wc (by kernel_rfl) (wc (aA5 (by kernel_rfl)) (wc (by kernel_rfl) (wc (by kernel_rfl) (wc (by kernel_rfl) wn))))) (ps:=[getCells (putCells .leaf 0 [(aO u),(.ptr 1 0)]) 0 (2*1) =some [(aO u),(.ptr 1 0)],cJ [(aO u),(.ptr 1 0)] =true,[(aO u),(.ptr 1 0)] = (map aO [u] ++ [(.ptr 1 0)]),(AV.gl 3 1 0 2 false) = (.gl 3 1 0 ([u].length+1) false)]) (is:=[.run 28,.ctoL 4 2 false [(aO u),(.ptr 1 0)],.lset 3 (map aO [u] ++ [(.ptr 1 0)]),.cweak 4 2,.cset 4 2 (.gl 3 1 0 ([u].length+1) false)]) (by kernel_rfl) (by kernel_rfl) trivial ⟨rfl,rfl,rfl,rfl⟩
def bCm(a:Nat ×Nat)(b:List (Nat×Nat)):TS:=bC PP 254 [(.gl 0 1 0 (a::b).length false)] [oL 0 1 (map aO (a::b))] 1
def bCn(a b:Int):TS:=bC PP 250 [(nI a),(nI b),.nils] [] 0
def bAr (a:Prog):=fun b c=>(tT 0 (bCj a)<|.y fun b:List Con=>.i [rn 6,.reg (rd 4 (.pure (iC b)::rd 3 []))] [hA (aJ PP 90 [(iC a.cons)] (iC b)),hr (nI a.main),hr (nI a.main)]<|.i [rn 2,.cnil 1 0 1] []<|gu 0 2 (map aO ([] :List (Nat×Nat)))<|gv 0 1 0 aOK<|.W 0 3 [0,1,2] (aOL a b)) b c ⟨kk,trivial⟩
def bAs (a:Prog)(b:List Con):=(tT 0 (aIS a b)<|gl 3 bU a.funs<|.W 4 4 [0,1,2,3] (aFd a b 0 ([] :List (Nat×Nat)) ([] :List (Option XT)))) ⟨kk,trivial⟩
def bAt (b:Prog)(c:List Con)(d:Int)(a:List (Nat×Nat))(e:List (Option XT)):=fun f=>(tT 0 (aFd b c d a e)<|gd 5 17 (d< (b.funs.length:Int)) .x<|.E 8 4 [1,2,3] (.ptr 0 0) [oC 0 [(.gl 1 1 0 a.length false),(nI b.main),(iC c)],oL 1 1 (map aO a),(2,(.zone true [] (ZV a e)),false)] 3)|>.f f ⟨kk,trivial⟩
def bAu (b:Prog)(c:List Con)(d:XT)(a:Int)(e:List (Nat×Nat))(f:List (Option XT))(g:Nat×Nat):=fun i=>(tT 0 (aDx b c d a e f g)<|gw 2 32 (a+1)<|.W 3 7 [0,1,2,6] (aFd b c (a+1) (e++ [g]) (f++ [some d]))) i ⟨kk,trivial⟩
def bAv (a:List (Nat×Nat))(b:List (Option XT))(g:Nat)(f:Nat×Nat)(d e:Int):=fun c i=>(tT 0 (bCk a b g f d e)<|.y fun c:XT=>gk 10 (.enter 251 [(aO f),(.func 252 [] [(.ptr 1 0),(.ptr 2 0)])]) [(0,(.zone true [] (ZV a b)),false),oC 1 [(nI d)],oC 2 [(nI e)]] 3 (.ptr 4 0) [oC 1 [(nI d)],oC 2 [(nI e)],(3,(.zone true [] (ZV a b)),false),(4,gh,false),(5,(.zone true [4] (Z1 c)),false)] 6<|.E 3 6 [4,3,5] (.ptr 0 0) [(0,gh,false),(1,(.zone true [] (ZV a b)),false),(2,(.zone true [0] (Z1 c)),false)] 3) c i tv
def bAw (a:Nat×Nat)(b:List (Nat×Nat)):=fun c=>(tT 1 (bCm a b)<|.i [rn 16,.toL 5 false []] [.q (p:=getCells (putCells .leaf 0 []) 0 (0*1) =some []) rfl,hr true]<|gu 0 1 (map aO ([] :List (Nat×Nat)))<|gs 0 5 (.gl 1 1 0 ([] :List (Nat×Nat)).length true)<|.i [.weak 5] []<|.i [.app (map aO (a::b)) (a::b).length] [.q (p:=0+ (a::b).length≤length (map aO (a::b))) aEQ,.q (p:=0+ ([] :List (Nat×Nat)).length≤length (map aO ([] :List (Nat×Nat)))) aEQ,hA ((a::b).length≤1000000),.q (p:=take ([] :List (Nat×Nat)).length (drop 0 (map aO ([] :List (Nat×Nat)))) ++take (a::b).length (drop 0 (map aO (a::b))) = (map aO (a::b))) bDj,.q (p:=([] :List (Nat×Nat)).length+ (a::b).length= (a::b).length) (Nat.zero_add _)]<|.E 3 3 [2] (.gl 1 1 0 (a::b).length false) [oL 0 1 (map aO (a::b)),oL 1 1 (map aO (a::b))] 2) c ⟨kk,⟨kk,trivial⟩⟩
def bAx (a b:Int):=(tT 0 (bCn a b)<|.E 14 1 [0] (.ptr 0 0) [oC 0 [(nI a),(nI b),.nils,.nils]] 1) tv
theorem nH {P:Program}{f:Nat}{args args':List AV}{v v':AV}{l l' lc lc':List (Nat×AObj×Bool)}{m nb nb' n2 n3:Nat}{ks:List Nat}
  (h0:eK P m (.enter f args) (aA l nb) (.ret v) (aA l' nb'))
  (hb: (ble m nb&&ble m nb'&&cT 0 ⟨⟨0,0,[],[],[],.run,.normal,none⟩,[],l,nb⟩ ks&&vU l'&&fC nb' l'&&fC n2 lc&&fC n3 lc'&&ks.all (fun k=>blt k n2)) =true)
  (he: (nb'-m+n2,ren (jA m n2 ks) v,renL (eR 0 nb n2 ks) args,sV (aA lc n2) (eR 0 nb n2 ks) l,sV (aA lc' n3) (jA m n2 ks) l',aCG (namesT (jA m n2 ks) l') (l.map fun p=>ks.getD p.1 0) (aA lc n2) lc',uL l') = (n3,v',args',gK (eR 0 nb n2 ks) l,gK (jA m n2 ks) l',uL lc',(l'.map fun p=> (aA l' nb').look p.1)))
  (hkl:eF l) (hkl':eF l') :Spec P (.enter f args') (aA lc n2) (.ret v') (aA lc' n3) :=by
 simp only [Bool.and_eq_true]at hb;obtain⟨⟨⟨⟨⟨⟨⟨b1,b2⟩,b3⟩,b4⟩,b5⟩,b6⟩,b7⟩,b8⟩ :=hb;simp only [Prod.mk.injEq]at he;obtain⟨e1,e2,e3,e4,e5,e6,e7⟩ :=he;exact aGV h0 e1 e2 e3 b1 b2 b3 e4 hkl e5 hkl' b4 b5 b6 b7 b8 e6 e7
theorem bFb {P:Program}{f:Nat}{x y:Int}{a p q:AV}{h h':Hp}{r:Res}(e:x=y)(s:Spec P (.enter f [.agg [a,.int .i64 y,p],q]) h r h') :Spec P (.enter f [.agg [a,.int .i64 x,p],q]) h r h':=by rw [e];exact s
theorem aLH {P:Program}{f:Nat}{x y:Int}{i j b k o:Nat}{a q:AV}{h h':Hp}{r:Res}(e:x=y)(e2:i=j)(s:Spec P (.enter f [.agg [a,.int .i64 y,.ep b k j o],q]) h r h') :Spec P (.enter f [.agg [a,.int .i64 x,.ep b k i o],q]) h r h':=by rw [e,e2];exact s
def mvN (fr mb o n:Int) :Int:=if o=4∧0≤n∧fr≤n then n+mb else n
mutual
def pJ (fr mb:Int) :XT→XT
 | .mk o n ks ps=>.mk o (mvN fr mb o n) (rP fr mb ks) ps
def rP (fr mb:Int) :List XT→List XT
 | [] =>[]
 |t::ts=>pJ fr mb t::rP fr mb ts
end
mutual
def OkT :XT→Prop
 | .mk o n ks _=> (o=4→n≤1000000) ∧ks.length<1000000∧aC7 ks
def aC7 :List XT→Prop
 | [] =>True
 |t::ts=>OkT t∧aC7 ts
end
theorem rQ (fr mb:Int) :∀ts,rP fr mb ts=ts.map (pJ fr mb)
 | [] =>rfl
 |t::ts=>by rw [rP,rQ fr mb ts];rfl
theorem okTs_iff :∀ {ts:List XT},aC7 ts↔∀t∈ts,OkT t
 | [] =>by simp [aC7]
 |t::ts=>by simp only [aC7,okTs_iff (ts:=ts),List.mem_cons];exact⟨fun h x hx=>by rcases hx with rfl|hx;exact h.1;exact h.2 x hx,fun h=> ⟨h t (.inl rfl),fun x hx=>h x (.inr hx)⟩⟩
abbrev PHl (fr mb:Int)(us:List (Nat×Nat))(ts:List (Option XT)) :HL:=[(0,(.cells (putCells .leaf 0 [(.int .i64 fr)]) 1 [] false),false),(1,(.cells (putCells .leaf 0 [(.int .i64 mb)]) 1 [] false),false),(2,(.zone true [] (ZV us ts)),false)]
abbrev PHr (fr mb:Int)(us:List (Nat×Nat))(ts:List (Option XT))(t:XT) :HL:=[(0,(.cells (putCells .leaf 0 [(.int .i64 fr)]) 1 [] false),false),(1,(.cells (putCells .leaf 0 [(.int .i64 mb)]) 1 [] false),false),(2,(.zone true [] (ZV us ts)),false),(3,gh,false),(4,.zone true [3] (Z1 t),false)]
def bDJ (fr mb:Int)(t:XT) :Prop:=∀ (us:List (Nat×Nat)) (ts:List (Option XT)) (ix:Nat) (u:Nat×Nat),us[ix]?=some u→ts[ix]?=some (some t) →
 eK PP 2 (.enter 251 [aO u,.func 252 [] [.ptr 0 0,.ptr 1 0]]) (aA (PHl fr mb us ts) 3) (.ret (.ptr 3 0)) (aA (PHr fr mb us ts (pJ fr mb t)) 5)
abbrev PHe (fr mb:Int)(us:List (Nat×Nat))(ts:List (Option XT))(ix:Nat)(op nn n':Int)(ks:List XT)(ps:List Pat)(w:List (Nat×Nat))(rs:List XT) :HL:=[(0,(.cells (putCells .leaf 0 [(.int .i64 fr)]) 1 [] false),false),(1,(.cells (putCells .leaf 0 [(.int .i64 mb)]) 1 [] false),false),(2,(.cells (putCells .leaf 0 [(.int .i64 op),(.int .i64 n'),(.gl 3 1 0 (length w) false),(.ilst 4 (Pats.av ps) false)]) 4 [] false),false),(3,(.lst 1 (map aO w)),true),(4,(.zone true [5] (cU us (set ts ix none) ix)),false),(5,(.cells (putCells .leaf 0 [(.int .i64 op),(.int .i64 nn),(.gl 6 1 0 (length ks) false),(.ilst 4 (Pats.av ps) false)]) 4 [] false),false),(6,gh,false),(7,(.zone true [6] (bN ks)),false),(8,(.zone true [] (ZV w (rs.map some))),false)]
abbrev PHf (fr mb:Int)(us:List (Nat×Nat))(ts:List (Option XT))(op n':Int)(ps:List Pat)(w:List (Nat×Nat))(rs:List XT) :HL:=[(0,(.cells (putCells .leaf 0 [(.int .i64 fr)]) 1 [] false),false),(1,(.cells (putCells .leaf 0 [(.int .i64 mb)]) 1 [] false),false),(2,(.cells (putCells .leaf 0 [(.int .i64 op),(.int .i64 n'),(.gl 3 1 0 (length w) false),(.ilst 4 (Pats.av ps) false)]) 4 [] false),false),(3,(.lst 1 (map aO w)),true),(8,(.zone true [] (ZV w (rs.map some))),false),(9,(.zone true [] (ZV us ts)),false)]
abbrev PHg (fr mb:Int)(us:List (Nat×Nat))(ts:List (Option XT))(t:XT) :HL:=[(0,(.cells (putCells .leaf 0 [(.int .i64 fr)]) 1 [] false),false),(1,(.cells (putCells .leaf 0 [(.int .i64 mb)]) 1 [] false),false),(2,gh,false),(9,(.zone true [] (ZV us ts)),false),(10,.zone true [2] (Z1 t),false)]
theorem aLI {ts:List (Option XT)}{ix:Nat}{x:Option XT}(h:ts[ix]?=some x) : (ts.set ix none).set ix x=ts:=by
 rw [List.set_set];apply List.ext_getElem?;intro j;rw [List.getElem?_set];split
 · rename_i hj;subst hj;rw [if_pos (List.getElem?_eq_some_iff.1 h).1,h]
 ·rfl
theorem aVo {s:AS}{fr mb:Int}{us:List (Nat×Nat)}{ts:List (Option XT)}{ix:Nat}{op nn n':Int}{ks:List XT}{ps:List Pat}{w:List (Nat×Nat)}{rs:List XT}(ht:ts[ix]?=some (some (.mk op nn ks ps)))(hw:w.length=rs.length)
  (e:Ends PP 2 s (.ret (.ptr 2 0)) (aA (PHe fr mb us ts ix op nn n' ks ps w rs) 9)) :Ends PP 2 s (.ret (.ptr 3 0)) (aA (PHr fr mb us ts (.mk op n' rs ps)) 5) :=by
 have z1:iG (aA (PHe fr mb us ts ix op nn n' ks ps w rs) 9) (aA (PHf fr mb us ts op n' ps w rs) 10) :=by
  refine aAb (h:=aA (PHe fr mb us ts ix op nn n' ks ps w rs) 9) (h':=aA (PHf fr mb us ts op n' ps w rs) 10) (b:=5) (k:=6) (gk:=7) (g:=4) (us:=us) (ts:=ts.set ix none) (i:=ix) (op:=op) (n:=nn) (ks:=ks) (ps:=ps) (len:=ks.length) (ex:=false) (pv:=.ilst 4 (Pats.av ps) false) (by kernel_rfl) rfl (fun _ _ h=>h) (by kernel_rfl) (by kernel_rfl) (by decide) (le_refl _) ?_;rw [aLI ht];exact aT ⟨.inr ⟨by decide,by kernel_rfl⟩,.inr ⟨by decide,by kernel_rfl⟩,.inr ⟨by decide,by kernel_rfl⟩,.inr ⟨by decide,by kernel_rfl⟩,.inr ⟨by decide,by kernel_rfl⟩,.inl ⟨rfl,rfl⟩,trivial⟩
 have z2:iG (aA (PHf fr mb us ts op n' ps w rs) 10) (aA (PHg fr mb us ts (.mk op n' rs ps)) 11) :=
  aA4 (h:=aA (PHf fr mb us ts op n' ps w rs) 10) (h':=aA (PHg fr mb us ts (.mk op n' rs ps)) 11) (b:=2) (k:=3) (g:=8) (us:=w) (op:=op) (n:=n') (ts:=rs) (ps:=ps) (len:=w.length) (ex:=false) (pv:=.ilst 4 (Pats.av ps) false) (by kernel_rfl) hw (fun _ _ h=>h) (by kernel_rfl) (by kernel_rfl) (le_refl _)
   (aT ⟨.inr (.inr ⟨by decide,by kernel_rfl⟩),.inr (.inr ⟨by decide,by kernel_rfl⟩),.inr (.inl ⟨rfl,rfl⟩),.inr (.inr ⟨by decide,by kernel_rfl⟩),.inl ⟨rfl,rfl⟩,trivial⟩)
 exact cN (ks:=[9,2,10]) (mR (mR e z1 (show 2≤9 by decide)) z2 (show 2≤10 by decide)) (by kernel_rfl) (by kernel_rfl) (by kernel_rfl) trivial
theorem dG {α β:Type}{a:List α}{b:List β}(h:a.length=b.length){i:Nat}(hi:i<b.length) :∃x,a[i]?=some x:= ⟨a[i]'(by omega),List.getElem?_eq_getElem _⟩
mutual
theorem aP1 (fr:Int) :∀ (t:XT),OkT t→bDJ fr 1 t
 | .mk op nn ks ps,h=>fun us ts ix u hu ht=>by
  simp only [OkT]at h;obtain⟨h1,h2,h3⟩ :=h;refine⟨(bCi fr 1 us ts ix u op nn ks ps).as.fr,by kernel_rfl,?_⟩;have hc :LeadsM PP 2 (aDu fr 1 us ts ix u op nn ks ps).as (aAj fr 1 us ts ix u op nn ks ps (mvN fr 1 op nn)).as:=by
   unfold mvN;by_cases e1:op=4
   · by_cases e2:0≤nn
     · by_cases e3:fr≤nn
       · rw [if_pos ⟨e1,e2,e3⟩];have:=h1 e1;exact bAf fr 1 us ts ix u op nn ks ps (by rw [e1];rfl) sd sd sd
       · rw [if_neg (fun h=>e3 h.2.2)];exact bAg fr 1 us ts ix u op nn ks ps (by rw [e1];rfl) sd sd
     · rw [if_neg (fun h=>e2 h.2.1)];exact bAh fr 1 us ts ix u op nn ks ps (by rw [e1];rfl) sd
   · rw [if_neg (fun h=>e1 h.1)];exact bAi fr 1 us ts ix u op nn ks ps (by simpa using e1)
  refine((bAe fr 1 us ts ix u op nn ks ps).trans ((bDB fr 1 us ts ix u op nn ks ps hu ht).trans (hc.trans ((bDC fr 1 us ts ix u op nn ks ps _).trans (bAj fr 1 us ts ix u op nn ks ps _))))).ends ?_;have:=aP2 fr us ts ix u op nn ks ps ht h2 ks [] [] 0 rfl rfl rfl h3;simp only [pJ];exact this
theorem aP2 (fr:Int)(us:List (Nat×Nat))(ts:List (Option XT))(ix:Nat)(u:Nat×Nat)(op nn:Int)(ks:List XT)(ps:List Pat)(ht:ts[ix]?=some (some (.mk op nn ks ps)))(hk:ks.length<1000000) :∀ (tl dn:List XT) (w:List (Nat×Nat)) (i:Nat),ks.drop i=tl→dn.length=i→w.length=i→aC7 tl →
  Ends PP 2 (aIO fr 1 us ts ix u op nn ks ps (mvN fr 1 op nn) (i:Int) w (dn.map some)).as (.ret (.ptr 3 0)) (aA (PHr fr 1 us ts (.mk op (mvN fr 1 op nn) (dn++rP fr 1 tl) ps)) 5)
 | [],dn,w,i,h,h1,h2,_=>by
  have hi:=bE h;simp only [rP,List.append_nil];exact aVo ht (by omega) (bAl fr 1 us ts ix u op nn ks ps _ (i:Int) w (dn.map some) sd)
 | t::tl,dn,w,i,h,h1,h2,h3=>by
  simp only [aC7]at h3;obtain⟨g1,g2,g3⟩ :=bB h;have hne:ks≠ [] :=fun e=>by subst e;simp at g3
  refine(bAk fr 1 us ts ix u op nn ks ps _ (i:Int) w (dn.map some) sd).ends (bDD fr 1 us ts ix u op nn ks ps _ (i:Int) w (dn.map some) hne fun u8 hu8=>?_);obtain⟨y0,hy0⟩ :=dG hu8 g3;refine(bAo fr 1 us ts ix u op nn ks ps _ (i:Int) w (dn.map some) u8 y0 (pJ fr 1 t) sd sd sd (nH (m:=2) (ks:=[0,1,9]) (aP1 fr t h3.1 u8 (ks.map some) i y0 hy0 (by rw [getElem?_map,g1];rfl)) (by kernel_rfl) (by kernel_rfl) trivial trivial) (by omega)).ends ?_;refine bDE fr 1 us ts ix u op nn ks ps _ _ u8 (i:Int) w (dn.map some) fun u9=>?_;refine((bAm fr 1 us ts ix u op nn ks ps _ _ u8 (i:Int) w (dn.map some) u9).trans ((bDF fr 1 us ts ix u op nn ks ps _ u8 _ _ (i:Int) hne).trans (bAn fr 1 us ts ix u op nn ks ps _ u8 _ _ (i:Int) sd))).ends ?_;have:=aP2 fr us ts ix u op nn ks ps ht hk tl (dn++ [pJ fr 1 t]) (w++ [u9]) (i+1) g2 (by simp [h1]) (by simp [h2]) h3.2;rw [List.append_assoc,List.map_append]at this;simp only [rP];exact this
end
theorem aP3 (fr:Int)(t:XT)(h:OkT t)(us:List (Nat×Nat))(ts:List (Option XT))(ix:Nat)(u:Nat×Nat)(hu:us[ix]?=some u)(ht:ts[ix]?=some (some t)) :
  eK PP 0 (.enter 249 [aO u,.int .i64 fr,.int .i64 1]) (aA [(0,(.zone true [] (ZV us ts)),false)] 1) (.ret (.ptr 1 0)) (aA [(0,(.zone true [] (ZV us ts)),false),(1,gh,false),(2,.zone true [1] (Z1 (pJ fr 1 t)),false)] 3) :=by
 refine⟨(bCk us ts ix u fr 1).as.fr,by kernel_rfl,?_⟩;have:=bAv us ts ix u fr 1 (pJ fr 1 t) (nH (m:=2) (ks:=[1,2,0]) (aP1 fr t h us ts ix u hu ht) (by kernel_rfl) (by kernel_rfl) trivial trivial);exact cN (ks:=[1,0,2]) this (by kernel_rfl) (by kernel_rfl) (by kernel_rfl) trivial
section
variable {P :Program}
theorem aGX {call:bK}(hc:dT P call){m:Nat}:∀ {n:Nat} {s:AS} {v:AV} {h':Hp},aHh P call n s=some (v,h') →Ends P m s (.ret v) h'
 |0,s,v,h',h0=>by simp [aHh]at h0
 | n + 1,s,v,h',h0=>by
  simp only [aHh]at h0;split at h0
  · rename_i x hx;cases h0;exact lT hx
  · split at h0
    · rename_i s' hs';exact(cV hc hs').ends (aGX hc h0)
    ·cases h0
def aBc :AObj→AObj
 | .cells t n _ _=>.cells t n [] false
 |o=>o
def qS (hp:List (Nat×AObj)) :List (Nat×AObj×Bool) :=hp.map fun p=> (p.1,aBc p.2,false)
def aLJ (x:Nat) :List (Nat×AObj) →Bool
 | [] =>false
 |p::r=>Nat.beq p.1 x||aLJ x r
def aFe (l:List (Nat×AObj)) :List Nat→Bool
 | [] =>true
 |x::r=> !(aLJ x l) &&aFe l r
def aCd (l:List (Nat×AObj)) :List (Nat×AObj) →Bool
 | [] =>true
 |p::r=>aFe l (bQ p.2) &&aCd l r
theorem aCe {x:Nat}:∀ {l:List (Nat×AObj)},∀p∈l,p.1=x→aLJ x l=true
 | q::r,p,hp,e=>by
  simp only [aLJ,Bool.or_eq_true];rcases List.mem_cons.1 hp with rfl|hp
  ·exact .inl (by rw [e];exact Nat.beq_refl x)
  ·exact .inr (aCe p hp e)
theorem aAk {l:List (Nat×AObj)}:∀ {k:List Nat},aFe l k=true→∀x∈k,aLJ x l=false
 | y::r,h,x,hx=>by
  simp only [aFe,Bool.and_eq_true,Bool.not_eq_true']at h;rcases List.mem_cons.1 hx with rfl|hx
  ·exact h.1
  ·exact aAk h.2 x hx
theorem aAl {l:List (Nat×AObj)}:∀ {k:List (Nat×AObj)},aCd l k=true→∀p∈k,aFe l (bQ p.2) =true
 | q::r,h,p,hp=>by
  simp only [aCd,Bool.and_eq_true]at h;rcases List.mem_cons.1 hp with rfl|hp
  ·exact h.1
  ·exact aAl h.2 p hp
theorem aGY {h:Hp}:∀ {hp:List (Nat×AObj)},(hp.map fun p=>h.look p.1) = (hp.map fun p=>some p.2) →∀p∈hp,h.look p.1=some p.2
 | q::r,e,p,hp=>by
  simp only [map_cons,List.cons.injEq]at e;rcases List.mem_cons.1 hp with rfl|hp
  ·exact e.1
  ·exact aGY e.2 p hp
theorem mA {h:Hp}{hp:List (Nat×AObj)}{nb:Nat}(hl: (hp.map fun p=>h.look p.1) = (hp.map fun p=>some p.2)){b:Nat}{o:AObj}(e: (aA (qS hp) nb).look b=some o) :∃o1,(b,o1) ∈hp∧h.look b=some o1∧o=aBc o1:=by
 obtain⟨fl,hm⟩ :=jL e;obtain⟨⟨pb,po⟩,hp',hpe⟩ :=List.mem_map.1 hm;cases hpe;exact⟨po,hp',aGY hl _ hp',rfl⟩
theorem xR {o:AObj}{L:Loc}{i:Nat}:Own (aBc o) L i→Own o L i:=by cases o<;>exact id
theorem aVp {E:Emb}{H:Array Obj}{o:AObj}{L:Loc}:OR E H L o→OR E H L (aBc o) :=by cases o<;>exact id
theorem aLK (o:AObj) :jK (aBc o) =jK o:=by cases o<;>rfl
theorem aSu {E:Emb}{h:Hp}{H:Array Obj}(r:Rel E h H){hp:List (Nat×AObj)}{nb:Nat}(hl: (hp.map fun p=>h.look p.1) = (hp.map fun p=>some p.2))(ha:aCd hp hp=true)(hn:h.nb=nb) :Rel E (aA (qS hp) nb) H:=by
 subst hn;refine⟨fun b o e=>?_,fun b b' o o' L L' e e' k k' hm hne=>?_,r.fresh,r.imm,fun b o L e k i hi=>?_,fun b o e=>?_⟩
 · obtain⟨o1,m1,e1,rfl⟩ :=mA hl e;rcases r.obj0 b o1 e1 with⟨u1,u2⟩ | ⟨L,k1,k2⟩
   ·exact .inl ⟨by rw [aLK];exact u1,u2⟩
   ·exact .inr ⟨L,k1,aVp k2⟩
 · obtain⟨o1,m1,e1,rfl⟩ :=mA hl e;obtain⟨o2,m2,e2,rfl⟩ :=mA hl e';exfalso;have hm':Meet o1 o2 L L':=by
    obtain⟨i,i1,i2⟩ :=hm;exact⟨i,xR i1,xR i2⟩
   rcases r.kin b b' o1 o2 L L' e1 e2 k k' hm' hne with⟨g,_⟩ | ⟨g,_⟩
   · have:=aAk (aAl ha _ m1) _ g;rw [aCe _ m2 rfl]at this;cases this
   · have:=aAk (aAl ha _ m2) _ g;rw [aCe _ m1 rfl]at this;cases this
 · obtain⟨o1,m1,e1,rfl⟩ :=mA hl e;exact r.apart b o1 L e1 k i (xR hi)
 · obtain⟨o1,m1,e1,rfl⟩ :=mA hl e;exact r.keys b o1 e1
theorem aCR {fr:AFrame}{cs:List AFrame}{h:Hp}{hp:List (Nat×AObj)}{nb:Nat}(hl: (hp.map fun p=>h.look p.1) = (hp.map fun p=>some p.2))(ha:aCd hp hp=true)(hn:h.nb=nb) :Leads P ⟨fr,cs,h⟩ ⟨fr,cs,aA (qS hp) nb⟩ :=fun E fr ccs w base f fs r=>by
 have keys:∀ {x o},(aA (qS hp) nb).look x=some o→∃o',h.look x=some o'∧∀L i,Own o L i→Own o' L i:=fun {x o} e=>by
  obtain⟨o1,_,e1,rfl⟩ :=mA hl e;exact⟨o1,e1,fun L i=>xR⟩
 refine⟨E,fr,ccs,w,Steps.refl _ _,f,fs,aSu r hl ha hn,⟨Emb.le.refl E,le_refl _,fun _ _ _=>rfl,fun x o L h1 h2 i hi _=>by obtain⟨o',e,ho⟩ :=keys h1;exact⟨x,o',L,e,h2,ho L i hi⟩,?_,rfl,rfl,rfl,fun _ _=>rfl,fun _ _=>rfl,fun _ _ e _=>.inl e,fun x o e _=>by obtain⟨o',e',_⟩ :=keys e;exact⟨o',e'⟩⟩⟩;show h.nb≤nb;omega
theorem aBd {f:Nat}{args:List AV}{g:AFrame}{fr:AFrame}{h:Hp}{hp:List (Nat×AObj)}{nb:Nat}{v:AV}(hg:dB P (aA [] 0) (.enter f args) =some g)(hL:Leads P ⟨g,[],aA [] 0⟩ ⟨fr,[],h⟩)(hl: (hp.map fun p=>h.look p.1) = (hp.map fun p=>some p.2))(ha:aCd hp hp=true)(hn:h.nb=nb)
  (hf:uP P ⟨fr,[],aA (qS hp) nb⟩ =some (v,aA (qS hp) nb)) :eK P 0 (.enter f args) (aA [] 0) (.ret v) (aA (qS hp) nb) :=
 ⟨g,hg,((hL.trans (aCR hl ha hn)).toM).ends (lT hf)⟩
theorem xT {n d k:Nat}{c:AIn}{h:Hp}{v:AV}{l:List (Nat×AObj×Bool)}{nb:Nat}
  (ha: (uQ P n (d+1) k c h).map (fun r=> (r.1,r.2.nb,l.map fun p=>r.2.look p.1)) =some (v,nb,l.map fun p=>some p.2.1)) (hb:h.nb≤nb) :Spec P c h (.ret v) (aA l nb) :=by
 simp only [uQ]at ha;split at ha
 · rename_i g hg;cases hr:aHh P (uQ P n d) n ⟨g,[],h⟩with
   |none=>rw [hr]at ha;cases ha
   | some r=>
    rw [hr]at ha;simp only [Option.map_some,Option.some.injEq,Prod.mk.injEq]at ha;obtain⟨rfl,rfl,h3⟩ :=ha;refine⟨g,hg,?_⟩;have e:=aGX (m:=h.nb) (sO n d) hr
    have hs:∀b o,(aA l r.2.nb).look b=some o→r.2.look b=some o:=fun b o e=>by
     obtain⟨fl,hm⟩ :=jL e;have:∀ {k:List (Nat×AObj×Bool)},(k.map fun p=>r.2.look p.1) = (k.map fun p=>some p.2.1) →∀p∈k,r.2.look p.1=some p.2.1:=by
      intro k
      induction k with
      |nil=>intro _ p hp;cases hp
      | cons q k ih=>
       intro e p hp;simp only [map_cons,List.cons.injEq]at e;rcases List.mem_cons.1 hp with rfl|hp
       ·exact e.1
       ·exact ih e.2 p hp
     exact this h3 _ hm
    intro hm E fr ccs w f fs rl cl base;obtain⟨cl',w',E',s1,g1,g2,g3⟩ :=e hm E fr ccs w f fs rl cl base;exact⟨cl',w',E',s1,g1,g2.sub hs (le_refl _),⟨g3.low,g3.imm,g3.size,g3.keep,fun b' o' L' e=>g3.own b' o' L' (hs b' o' e),hb,g3.os,g3.tape,g3.output,g3.froz,g3.immo,fun b o e=>g3.keys b o (hs b o e)⟩⟩
 ·cases ha
def aVq (τ:Nat→Nat) :List (Nat×AObj×Bool) →List (Nat×AObj×Bool)
 | [] =>[]
 |p::r=> (τ p.1,p.2.1.ren τ,false) ::aVq τ r
theorem bFc {l:List (Nat×AObj×Bool)}(h:eF l=True) :eF l:=h.symm ▸ trivial
theorem aCS {f:Nat}{args:List AV}{v v':AV}{l' lc lc':List (Nat×AObj×Bool)}{nb' n2 n3:Nat}(h0:eK P 0 (.enter f args) (aA [] 0) (.ret v) (aA l' nb'))
  (hb: (cT 0 ⟨⟨0,0,[],[],[],.run,.normal,none⟩,[],[],0⟩ [] &&vU l'&&fC nb' l'&&fC n2 lc&&fC n3 lc') =true)
  (he: (nb'-0+n2,ren (jA 0 n2 []) v,renL (eR 0 0 n2 []) args,sV (aA lc' n3) (jA 0 n2 []) l',aCG (namesT (jA 0 n2 []) l') [] (aA lc n2) lc',uL l') = (n3,v',args,gK (jA 0 n2 []) l',uL lc',(l'.map fun p=> (aA l' nb').look p.1)))
  (hkl':eF l'=True) :Spec P (.enter f args) (aA lc n2) (.ret v') (aA lc' n3) :=by
 simp only [Bool.and_eq_true]at hb;obtain⟨⟨⟨⟨b3,b4⟩,b5⟩,b6⟩,b7⟩ :=hb;simp only [Prod.mk.injEq]at he;obtain⟨e1,e2,e3,e5,e6,e7⟩ :=he;refine nH (m:=0) (ks:=[]) h0 ?_ ?_ trivial (bFc hkl')
 · simp only [Bool.and_eq_true];exact⟨⟨⟨⟨⟨⟨⟨rfl,by cases nb'<;>rfl⟩,b3⟩,b4⟩,b5⟩,b6⟩,b7⟩,rfl⟩
 · simp only [Prod.mk.injEq];exact⟨e1,e2,e3,rfl,e5,e6,e7⟩
theorem aIT {s s1:AS}{b:Bool}{is:List Ins}{ps:List Prop}(hl:Leads P s s1)(hx: (pX P is s1).map (fun x=> ((uP P x.1).map Prod.fst,x.2)) =some (some (.bool b),ps))(hp:AllP ps) :Ends P 0 s (.ret (.bool b)) (aA [] 0) :=by
 cases hr:pX P is s1 with
 |none=>rw [hr]at hx;cases hx
 | some r=>
  obtain⟨s2,qs⟩ :=r;rw [hr]at hx;simp only [Option.map_some,Option.some.injEq,Prod.mk.injEq]at hx;obtain⟨h1,rfl⟩ :=hx;cases hf:uP P s2 with
  |none=>rw [hf]at h1;cases h1
  | some u=>
   obtain⟨v,h2⟩ :=u;rw [hf]at h1;simp only [Option.map_some,Option.some.injEq]at h1;subst h1;have h3:LeadsM P 0 s s2:= (hl.toM).trans (fR hr (fun p hpp=>hp.mem p hpp));intro hm E fr ccs w f fs r cl base;obtain⟨cl',w',E',g1,⟨cv,rfl,g2⟩,g3,g4⟩ := (h3.ends (lT hf)) hm E fr ccs w f fs r cl base;refine⟨_,w',E'.p,g1,⟨cv,rfl,?_⟩,aEq g3,⟨fun b hb=>absurd hb (Nat.not_lt_zero _),g4.imm,g4.size,g4.keep,fun b' o' L' e=>?_,le_refl _,g4.os,g4.tape,g4.output,g4.froz,g4.immo,fun b o e=>?_⟩⟩
   ·simpa only [VR]using g2
   ·simp [aAX,Hp.look,T.at_leaf]at e
   ·simp [aAX,Hp.look,T.at_leaf]at e
theorem aON {h h':Hp}{g:Nat}{us:List (Nat×Nat)}{ts:List (Option XT)}{i:Nat}{u:Nat×Nat}{t:XT}(hg:h.look g=some (.zone true [] (ZV us ts)))(hu:us[i]?=some u)(ht:ts[i]?=some (some t))(hn:h'.nb=h.nb+2)
  (hl:∀b o,h'.look b=some o→ (b=h.nb∧o= .zone true [] (ZV us (ts.set i none))) ∨ (b=h.nb+1∧o= .zone true [] (ZV [u] [some t])) ∨ (b≠g∧h.look b=some o)) :iG h h':=fun E w r=>by
 obtain⟨Lg,g1,g2⟩ :=r.obj g _ hg;obtain⟨Ls,_,hnd,hos⟩ :=eY g2;obtain⟨a,F1,F2,o1,o2,o3,o4⟩ :=hos.out ht;rw [hu]at o1;cases o1;have hnd':= (o4.nodup_iff).2 hnd;obtain⟨nd1,nd2,nd3⟩ :=List.nodup_append.1 hnd'
 let E':Emb:= ⟨fun b=>if b=h.nb then some ⟨hM F2,0,0⟩else if b=h.nb+1 then some ⟨hM F1,0,0⟩else E b,E.imm⟩
 have e0:E' h.nb=some ⟨hM F2,0,0⟩ :=if_pos rfl;have e1:E' (h.nb+1) =some ⟨hM F1,0,0⟩ :=by simp [E']
 have eo:∀ {b},b<h.nb∨h.nb+2≤b→E' b=E b:=fun {b} hb=>by
  simp only [E'];rw [if_neg (by omega),if_neg (by omega)]
 have hgb:=r.keys g _ hg;have oz:OR E' w.heap ⟨hM F2,0,0⟩ (.zone true [] (ZV us (ts.set i none))) :=tI (Ls:=[]) rfl (OsAt.blk _ us F2 o3) (fun imm' H' hi hH=> ⟨nd2,OsAt.go hi _ us F2 o3 hH⟩);have o1s:OsAt E.imm w.heap [u] [some t] F1:=by
  simp only [OsAt];exact⟨u,[],F1,[],rfl,by simp,o2,rfl,rfl⟩
 have oh:OR E' w.heap ⟨hM F1,0,0⟩ (.zone true [] (ZV [u] [some t])) :=tI (Ls:=[]) rfl (OsAt.blk _ _ F1 o1s) (fun imm' H' hi hH=> ⟨nd1,OsAt.go hi _ _ F1 o1s hH⟩);have inF:∀ {i},i∈F1∨i∈F2→i∈hR Lg.blk:=fun {i} hi=> (o4.mem_iff).1 (List.mem_append.2 hi);have old:∀i,i∈hR Lg.blk→∃b0 o0 L0,¬ (fun b=>b≠g) b0∧h.look b0=some o0∧E b0=some L0∧Own o0 L0 i:=fun i hi=> ⟨g,_,Lg,fun hh=>hh rfl,hg,g1,hi⟩
 obtain ⟨q1,q2,q3⟩ :=r.swap (E':=E') (h':=h') (fun b=>b≠g) (by omega) (fun b hb=>eo (.inl hb)) rfl (fun b hb=>by rw [eo (by omega)];exact r.fresh b (by omega))
  (fun b o e hb=>by
   have h2:b=g:=Classical.not_not.1 hb;subst h2;rw [hg]at e;cases e;exact⟨rfl,rfl⟩)
  (fun b o e=>by
   rcases hl b o e with⟨rfl,rfl⟩ | ⟨rfl,rfl⟩ |h3
   ·exact .inr ⟨by omega,rfl,rfl,fun hh=>absurd hh (by omega),_,e0,oz,fun i hi=>old i (inF (.inr (zone_own.1 hi)))⟩
   ·exact .inr ⟨by omega,rfl,rfl,fun hh=>absurd hh (by omega),_,e1,oh,fun i hi=>old i (inF (.inl (zone_own.1 hi)))⟩
   ·exact .inl h3)
  (fun b b' o o' L L' n1 n2 e e' k k' hbb hm=>by
   obtain⟨x,i1,i2⟩ :=hm;rcases hl b o e with⟨rfl,rfl⟩ | ⟨rfl,rfl⟩ |h3
   · rw [e0]at k;cases k;rcases hl b' o' e' with⟨rfl,rfl⟩ | ⟨rfl,rfl⟩ |h3
     ·exact hbb rfl
     · rw [e1]at k';cases k';exact nd3 x (zone_own.1 i2) x (zone_own.1 i1) rfl
     ·exact n2 h3
   · rw [e1]at k;cases k;rcases hl b' o' e' with⟨rfl,rfl⟩ | ⟨rfl,rfl⟩ |h3
     · rw [e0]at k';cases k';exact nd3 x (zone_own.1 i1) x (zone_own.1 i2) rfl
     ·exact hbb rfl
     ·exact n2 h3
   ·exact n1 h3)
 exact⟨E',q1,q2,q3⟩
theorem bAy {α:Type}{m:Nat}{s:AS}{v:AV}{h:Hp}{h1:α→Hp}{h2:Hp}{ok:α→Prop}(e:Ends P m s (.ret v) h)(z:aAa h ok h1)(hm:m≤h.nb)(z2:∀x,ok x→iG (h1 x) h2)(hm2:∀x,m≤ (h1 x).nb) :Ends P m s (.ret v) h2:=fun hm0 E fr ccs w f fs r cl base=>by
 obtain⟨cl',w',E2,s1,⟨cv,rfl,g2⟩,r2,x2⟩ :=e hm0 E fr ccs w f fs r cl base;obtain⟨x,E3,h0,h1,h2,h3⟩ :=z E2 w' r2;obtain⟨E4,k1,k2,k3⟩ :=z2 x h0 E3 w' h2;exact⟨_,w',E4,s1,⟨cv,rfl,(g2.mono h1).mono k1⟩,k2,(x2.trans (h3 m hm)).trans (k3 m (hm2 x))⟩
end
theorem aGZ {E:Emb}{v:Value}(h:VR E .nils v) :VR E (.ilst 4 (Pats.av []) false) v:=by
 simp only [VR]at h ⊢;subst h;exact⟨[],by simp [Pats.av,VRs],fun _ hu=>by(cases hu),.inl ⟨rfl,none,0,rfl,fun _=>rfl,fun h=>by(cases h)⟩⟩
theorem bAz (op n:Int) :eK PP 0 (.enter 250 [.int .i64 op,.int .i64 n,.nils]) (aA [] 0) (.ret (.ptr 0 0)) (aA (NT (.mk op n [] [])) 2) :=by
 refine⟨(bCn op n).as.fr,by kernel_rfl,?_⟩;have z:iG (aA [(0,(.cells (putCells .leaf 0 [(.int .i64 op),(.int .i64 n),.nils,.nils]) 4 [] false),false)] 1) (aA (NT (.mk op n [] [])) 2) :=
  aT2 (h:=aA [(0,(.cells (putCells .leaf 0 [(.int .i64 op),(.int .i64 n),.nils,.nils]) 4 [] false),false)] 1) (h':=aA (NT (.mk op n [] [])) 2) (b:=0) (op:=op) (n:=n) (ps:=[]) (kv:=.nils) (pv:=.nils) (by kernel_rfl) (fun _ _ h=> ⟨none,by simpa only [VR]using h⟩) (fun _ _ h=>aGZ h) (le_refl _)
   (aT ⟨.inr (.inl ⟨rfl,rfl⟩),.inl ⟨rfl,rfl⟩,trivial⟩)
 exact mR (bAx op n) z (zero_le _)
abbrev LT0 (us:List (Nat×Nat))(ts:List (Option XT))(u:Nat×Nat)(tb:XT) :HL:=[(0,(.cells (putCells .leaf 0 [(.int .i64 7),(.int .i64 0),(.gl 1 1 0 ((length [u]) +1) false),.nils]) 4 [] false),false),(1,(.lst 1 (map aO [u] ++ [.ptr 2 0])),false),(2,gh,false),(3,(.zone true [] (ZV us ts)),false),(4,(.zone true [2] (Z1 tb)),false)]
abbrev LT1 (us:List (Nat×Nat))(ts:List (Option XT))(ix:Nat)(u:Nat×Nat)(ta tb:XT) :HL:=[(0,(.cells (putCells .leaf 0 [(.int .i64 7),(.int .i64 0),(.gl 1 1 0 ((length [u]) +1) false),.nils]) 4 [] false),false),(1,(.lst 1 (map aO [u] ++ [.ptr 2 0])),false),(2,gh,false),(4,(.zone true [2] (Z1 tb)),false),(5,(.zone true [] (ZV us (ts.set ix none))),false),(6,(.zone true [] (ZV [u] [some ta])),false)]
abbrev LT2 (us:List (Nat×Nat))(ts:List (Option XT))(ix:Nat)(u:Nat×Nat)(ta tb:XT)(u9:Nat×Nat) :HL:=[(0,(.cells (putCells .leaf 0 [(.int .i64 7),(.int .i64 0),(.gl 1 1 0 ((length [u]) +1) false),.nils]) 4 [] false),false),(1,(.lst 1 (map aO [u,u9])),true),(5,(.zone true [] (ZV us (ts.set ix none))),false),(7,(.zone true [] (ZV [u,u9] [some ta,some tb])),false)]
abbrev LT3 (us:List (Nat×Nat))(ts:List (Option XT))(ix:Nat)(t:XT) :HL:=[(0,gh,false),(5,(.zone true [] (ZV us (ts.set ix none))),false),(8,(.zone true [0] (Z1 t)),false)]
theorem aIU (us:List (Nat×Nat))(ts:List (Option XT))(ix:Nat)(u:Nat×Nat)(ta tb:XT)(hu:us[ix]?=some u)(ht:ts[ix]?=some (some ta)) :
  eK PP 0 (.enter 248 [aO u,.ptr 1 0]) (aA [(0,(.zone true [] (ZV us ts)),false),(1,gh,false),(2,.zone true [1] (Z1 tb),false)] 3) (.ret (.ptr 1 0)) (aA [(0,(.zone true [] (ZV us (ts.set ix none))),false),(1,gh,false),(2,.zone true [1] (Z1 (.mk 7 0 [ta,tb] [])),false)] 3) :=by
 refine⟨(bCl us ts ix u tb).as.fr,by kernel_rfl,?_⟩;have z1:iG (aA (LT0 us ts u tb) 5) (aA (LT1 us ts ix u ta tb) 7) :=
  aON (h:=aA (LT0 us ts u tb) 5) (h':=aA (LT1 us ts ix u ta tb) 7) (g:=3) (us:=us) (ts:=ts) (i:=ix) (u:=u) (t:=ta) (by kernel_rfl) hu ht rfl
   (aT ⟨.inr (.inr ⟨by decide,by kernel_rfl⟩),.inr (.inr ⟨by decide,by kernel_rfl⟩),.inr (.inr ⟨by decide,by kernel_rfl⟩),.inr (.inr ⟨by decide,by kernel_rfl⟩),.inl ⟨rfl,rfl⟩,.inr (.inl ⟨rfl,rfl⟩),trivial⟩)
 have z2:aAa (aA (LT1 us ts ix u ta tb) 7) (fun _=>True) (fun u9=>aA (LT2 us ts ix u ta tb u9) 8) :=
  aDl (h:=aA (LT1 us ts ix u ta tb) 7) (h':=fun u9=>aA (LT2 us ts ix u ta tb u9) 8) (k:=1) (g:=6) (gz:=4) (z:=2) (us:=[u]) (ts:=[some ta]) (t:=tb) (by kernel_rfl) (by kernel_rfl) (by kernel_rfl) (by decide) (fun _=>le_refl _)
   (fun u9=>aT ⟨.inr (.inr ⟨by decide,by kernel_rfl⟩),.inr (.inl ⟨rfl,rfl⟩),.inr (.inr ⟨by decide,by kernel_rfl⟩),.inl ⟨rfl,rfl⟩,trivial⟩)
 have z3:∀u9,iG (aA (LT2 us ts ix u ta tb u9) 8) (aA (LT3 us ts ix (.mk 7 0 [ta,tb] [])) 9) :=fun u9=>
  aA4 (h:=aA (LT2 us ts ix u ta tb u9) 8) (h':=aA (LT3 us ts ix (.mk 7 0 [ta,tb] [])) 9) (b:=0) (k:=1) (g:=7) (us:=[u,u9]) (op:=7) (n:=0) (ts:=[ta,tb]) (ps:=[]) (len:= (length [u]) +1) (ex:=false) (pv:=.nils) (by kernel_rfl) rfl (fun _ _ h=>aGZ h) (by kernel_rfl) (by kernel_rfl) (le_refl _)
   (aT ⟨.inr (.inl ⟨rfl,rfl⟩),.inr (.inr ⟨by decide,by kernel_rfl⟩),.inl ⟨rfl,rfl⟩,trivial⟩)
 exact cN (ks:=[5,0,8]) (bAy (mR (bAq us ts ix u tb) z1 (zero_le _)) z2 (zero_le _) (fun u9 _=>z3 u9) (fun _=>zero_le _)) (by kernel_rfl) (by kernel_rfl) (by kernel_rfl) trivial
theorem aIV (us:List (Nat×Nat)) :keylessL (map aO us) =true:=aG _ (fun _=>rfl) us
theorem bAA :∀ (us:List (Nat×Nat)),us≠ [] →us.length≤1000000→eK PP 1 (.enter 254 [.gl 0 1 0 (length us) false]) (aA [(0,(.lst 1 (map aO us)),true)] 1) (.ret (.gl 1 1 0 (length us) false)) (aA [(0,(.lst 1 (map aO us)),true),(1,(.lst 1 (map aO us)),true)] 2)
 | [],h,_=>absurd rfl h
 |u::us,_,h=> ⟨(bCm u us).as.fr,by kernel_rfl,bAw u us h⟩
abbrev aOO (a:Nat)(b c:Int)(d:List XT)(e:List Pat):=oC a [(nI b),(nI c),(.gl 2 1 0 d.length false),(iP e)]
abbrev aDy (a b:Int)(c:List XT)(d:List Pat):=[aOO 1 a b c d,(2,gh,false),(3,(.zone true [2] (bN c)),false)]
abbrev aP4 (a:List (Nat×Nat))(b:List (Option XT))(c:Nat)(d:List (Nat×Nat))(e:List (Option XT))(f:List (Nat×Nat))(g:List XT)(h:XT):List (Nat×AObj×Bool):=[(4,(.zone true [] (ZV a (set b c none))),false),(6,(.zone true [] (ZV d e)),false),(7,(.zone true [] (ZV f (map some g))),false),(8,gh,false),(9,(.zone true [8] (Z1 h)),false)]
abbrev qB (a:List (Nat×Nat))(b:List (Option XT))(c:Nat)(d:List (Nat×Nat))(e:List XT):List (Nat×AObj×Bool):=[(4,(.zone true [] (ZV a (set b c none))),false),(5,(.zone true [] (ZV d (map some e))),false)]
abbrev xU (a:Nat)(b:List (Nat×Nat)):=oL a 1 (map aO b)
abbrev aIW (a b:Int)(c:List XT)(d:List Pat)(e f:List (Nat×Nat))(g:List (Option XT))(h:Nat)(i j:Int)(k:List XT)(l:List Pat)(m:List (Nat×Nat)):=[oC 0 [(nI a),(nI b),(.gl 1 1 0 c.length false),(iP d)],xU 1 e,(2,(.zone true [] (ZV f (set g h none))),false),oC 4 [(nI i),(nI j),(.gl 5 1 0 k.length false),(iP l)],xU 5 m]
abbrev cF (a:Nat)(b:List (Nat×Nat)):=oL a 1 (map aO b)
abbrev aBe (a b:List (Nat×Nat))(c:List (Option XT))(d:Nat):=[cF 1 a,(2,(.zone true [] (ZV b (set c d none))),false)]
abbrev aP5 (a b:Int)(c:List (Nat×Nat))(d:List Pat)(e f:List (Nat×Nat))(g:List (Option XT))(h:Nat)(i:List XT)(j:List (Option XT)):=aA ([oC 0 [(nI a),(nI b),(.gl 2 1 0 c.length false),(iP d)],oC 1 [(nI a),(nI b),(.gl 3 1 0 c.length false),(iP d)],oL 2 1 (map aO c),oL 3 1 (map aO e)]++qB f g h c i++[(6,(.zone true [] (ZV e j)),false)]) 7
abbrev aBf (a:List (Nat×Nat)):AV:=.gl 3 1 0 a.length false
abbrev aVr (a b c:Int)(d:List (Nat×Nat))(e:List Pat)(f g:List (Nat×Nat))(h:List (Option XT))(i:Nat)(j:List XT)(k:List (Option XT)):=Spec PP (.enter 250 [(nI 4),(nI a),.nils]) (aP5 b c d e f g h i j k) (.ret (.ptr 7 0)) (aA ([oC 0 [(nI b),(nI c),(.gl 2 1 0 d.length false),(iP e)],oC 1 [(nI b),(nI c),(aBf d),(iP e)],xU 2 d,xU 3 f]++qB g h i d j++[(6,(.zone true [] (ZV f k)),false),(7,gh,false),(8,(.zone true [7] (Z1 (XT.mk 4 a [] []))),false)]) 9)
abbrev aVs (a:Nat×Nat)(b c d:Int)(e:List (Nat×Nat))(f:List Pat)(g h:List (Nat×Nat))(i:List (Option XT))(j:Nat)(k:List XT)(l:List (Option XT))(m:XT):=Spec PP (.enter 249 [(aO a),(nI b),(nI 1)]) (aP5 c d e f g h i j k l) (.ret (.ptr 8 0)) (aA ([oC 0 [(nI c),(nI d),(.gl 2 1 0 e.length false),(iP f)],oC 1 [(nI c),(nI d),(aBf e),(iP f)],xU 2 e,xU 3 g]++aP4 h i j g l e k m) 10)
abbrev aVt (a b:Int)(c:List XT)(d:List Pat)(e f:List (Nat×Nat))(g:List (Option XT))(h:Nat)(i j:Int)(k:List XT)(l:List Pat)(m:List (Nat×Nat))(n:XT):=aA (aIW a b c d e f g h i j k l m++[(10,(.zone true [] (ZV e (set (map some c) 0 none))),false),(16,(.zone true [] (ZV m (set (set (map some k) 1 none) 0 none))),false),(17,gh,false),(18,(.zone true [17] (Z1 n)),false)]) 19
abbrev aOP (a b:Int)(c:List XT)(d:List Pat)(e f:List (Nat×Nat))(g:List (Option XT))(h:Nat)(i j:Int)(k:List XT)(l:List Pat)(m:List (Nat×Nat))(n:XT):=aA (aIW a b c d e f g h i j k l m++[(10,(.zone true [] (ZV e (set (map some c) 0 none))),false),(13,(.zone true [] (ZV m (set (map some k) 1 none))),false),(14,gh,false),(15,(.zone true [14] (Z1 n)),false)]) 16
abbrev aOQ (a b:Int)(c:List XT)(d:List Pat)(e f:List (Nat×Nat))(g:List (Option XT))(h:Nat)(i j:Int)(k:List XT)(l:List Pat)(m:List (Nat×Nat))(n:XT):=aA (aIW a b c d e f g h i j k l m++[(9,(.zone true [] (ZV m (map some k))),false),(10,(.zone true [] (ZV e (set (map some c) 0 none))),false),(11,gh,false),(12,(.zone true [11] (Z1 n)),false)]) 13
abbrev iJ (a:Nat)(b c:Int)(d:List (Nat×Nat))(e:List Pat):=oC a [(nI b),(nI c),(.gl 2 1 0 d.length false),(iP e)]
abbrev qT (a:Nat)(b c:Int)(d:List (Nat×Nat))(e:List Pat):=oC a [(nI b),(nI c),(aBf d),(iP e)]
abbrev aFf (a:Nat)(b c:Int)(d:List XT)(e:List Pat):=oC a [(nI b),(nI c),(.gl 1 1 0 d.length false),(iP e)]
abbrev aDz (a:Nat)(b c:Int)(d:List XT)(e:List Pat):=oC a [(nI b),(nI c),(.gl 5 1 0 d.length false),(iP e)]
abbrev qC (a:List (Nat×Nat)):AV:=.gl 2 1 0 a.length false
def bCo(a:List (Nat×Nat))(b:List (Option XT))(f:Nat)(c:Nat×Nat)(g i:Int)(j:List XT)(k:List Pat)(d e:Int)(l:List (Nat×Nat)):TS:=bC PP 253 [(nI d),(aO c),(nI e)] [(0,(.zone true [] (ZV a b)),false)] 1
def aOR(a:List (Nat×Nat))(b:List (Option XT))(f:Nat)(c:Nat×Nat)(g i:Int)(j:List XT)(k:List Pat)(d e:Int)(l:List (Nat×Nat)):TS:=⟨(tf 253 54 [(0,(nI d)),(1,(aO c)),(2,(nI e)),(6,.nilp)] [kc f253 6,kc f253 7]),[],[(0,(.zone true [] (ZV a b)),false)],1⟩
def aDA(c:List (Nat×Nat))(d:List (Option XT))(e:Nat)(l:Nat×Nat)(f g:Int)(a:List XT)(i:List Pat)(j k:Int)(b:List (Nat×Nat)):TS:=⟨(tf 253 54 [(0,(nI j)),kp 1 1,(2,(nI k)),(6,.nilp)] [kc f253 6,kc f253 7]),[],[aOO 1 f g a i,cF 2 b,(5,(.zone true [] (ZV c (set d e none))),false),(6,(.zone true [] (ZV b (map some a))),false)],7⟩
def aOS(e:List (Nat×Nat))(f:List (Option XT))(g:Nat)(l:Nat×Nat)(b c:Int)(i:List XT)(d:List Pat)(j k:Int)(a:List (Nat×Nat)):TS:=⟨(tf 253 54 [(0,(nI j)),kp 1 0,(2,(nI k)),(6,.nilp),kp 7 1] [kc f253 60,kc f253 61,kc f253 31]),[],([iJ 0 b c a d,qT 1 b c a d,cF 2 a,cF 3 a]++qB e f g a i),6⟩
def aIX(e:List (Nat×Nat))(f:List (Option XT))(g:Nat)(l:Nat×Nat)(b c:Int)(i:List XT)(d:List Pat)(j k:Int)(a:List (Nat×Nat)):TS:=⟨(tf 253 54 [(0,(nI j)),kp 1 0,(2,(nI k)),(6,.nilp),kp 7 1] [kc f253 60,kc f253 61,kc f253 31]),[],([iJ 0 b c a d,qT 1 b c a d,cF 2 a,cF 3 a]++qB e f g a i++[(6,(.zone true [] (ZV a (map (fun _=>none) a))),false)]),7⟩
def wG(f:List (Nat×Nat))(g:List (Option XT))(i:Nat)(o:Nat×Nat)(b c:Int)(j:List XT)(d:List Pat)(k l:Int)(a:List (Nat×Nat))(m:List (Option XT))(n:Int)(e:List (Nat×Nat)):TS:=⟨(tf 253 54 [(0,(nI k)),kp 1 0,(2,(nI l)),(6,.nilp),kp 7 1,(22,(qC a)),(23,(nI (a.length:Int))),(24,(nI n))] [kc f253 244,kl f253 244,.inBlock 0,kc f253 31]),[],([iJ 0 b c a d,qT 1 b c a d,cF 2 a,cF 3 e]++qB f g i a j++[(6,(.zone true [] (ZV e m)),false)]),7⟩
def aOT(f:List (Nat×Nat))(g:List (Option XT))(i:Nat)(q:Nat×Nat)(b c:Int)(j:List XT)(d:List Pat)(k l:Int)(a:List (Nat×Nat))(m:Nat)(n:XT)(o:List (Option XT))(p:Int)(e:List (Nat×Nat)):TS:=⟨(tf 253 54 [(0,(nI k)),kp 1 0,(2,(nI l)),(6,.nilp),kp 7 1,(22,(qC a)),(23,(nI (a.length:Int))),(24,(nI p))] [kc f253 1959,kl f253 244,.inBlock 0,kc f253 31]),[],[iJ 0 b c a d,qT 1 b c a d,cF 2 a,(3,(.lst 1 ((map aO e).set m (.ptr 4 0))),false),(4,gh,false),(5,(.zone true [4] (Z1 n)),false),(6,(.zone true [] (ZV f (set g i none))),false),(7,(.zone true [] (ZV e o)),false),(8,(.zone true [] (ZV a (map some j))),false)],9⟩
def aDB(i:List (Nat×Nat))(j:List (Option XT))(k:Nat)(r:Nat×Nat)(c d:Int)(l:List XT)(e:List Pat)(m n:Int)(a:List (Nat×Nat))(b:Nat)(o:XT)(p:List (Option XT))(q:Int)(f:List (Nat×Nat))(g:Nat×Nat):TS:=⟨(tf 253 54 [(0,(nI m)),kp 1 0,(2,(nI n)),(6,.nilp),kp 7 1,(22,(qC a)),(23,(nI (a.length:Int))),(24,(nI q))] [kc f253 1959,kl f253 244,.inBlock 0,kc f253 31]),[],[iJ 0 c d a e,qT 1 c d a e,cF 2 a,oL 3 1 (map aO (set f b g)),(6,(.zone true [] (ZV i (set j k none))),false),(8,(.zone true [] (ZV a (map some l))),false),(9,(.zone true [] (ZV (set f b g) (set p b (some o)))),false)],10⟩
def aOU(f:List (Nat×Nat))(g:List (Option XT))(i:Nat)(o:Nat×Nat)(b c:Int)(j:List XT)(d:List Pat)(k p:Int)(a:List (Nat×Nat))(l:Nat)(m:XT)(n:List (Option XT))(e:List (Nat×Nat)):TS:=⟨(tf 253 54 [(0,(nI k)),kp 1 0,(6,.nilp),kp 7 1] [kc f253 63]),[],[iJ 0 b c a d,qT 1 b c a d,cF 2 a,(3,(.lst 1 ((map aO e).set l (.ptr 4 0))),false),(4,gh,false),(5,(.zone true [4] (Z1 m)),false),(6,(.zone true [] (ZV f (set g i none))),false),(7,(.zone true [] (ZV a (map some j))),false),(8,(.zone true [] (ZV e n)),false)],9⟩
def aDC(i:List (Nat×Nat))(j:List (Option XT))(k:Nat)(p:Nat×Nat)(c d:Int)(l:List XT)(e:List Pat)(m q:Int)(a:List (Nat×Nat))(b:Nat)(n:XT)(o:List (Option XT))(f:List (Nat×Nat))(g:Nat×Nat):TS:=⟨(tf 253 54 [(0,(nI m)),kp 1 0,(6,.nilp),kp 7 1] [kc f253 63]),[],[iJ 0 c d a e,qT 1 c d a e,cF 2 a,oL 3 1 (map aO (set f b g)),(6,(.zone true [] (ZV i (set j k none))),false),(7,(.zone true [] (ZV a (map some l))),false),(9,(.zone true [] (ZV (set f b g) (set o b (some n)))),false)],10⟩
def aOV(f:List (Nat×Nat))(g:List (Option XT))(i:Nat)(m:Nat×Nat)(b c:Int)(j:List XT)(d:List Pat)(k n:Int)(a e:List (Nat×Nat))(l:List (Option XT)):TS:=⟨(tf 253 54 [(0,(nI k)),kp 1 0,(6,.nilp),kp 7 1] [kc f253 126,kc f253 127]),[],([iJ 0 b c a d,qT 1 b c a d,cF 2 a,cF 3 e]++qB f g i a j++[(6,(.zone true [] (ZV e l)),false)]),7⟩
def aIY(e:List (Nat×Nat))(f:List (Option XT))(g:Nat)(l:Nat×Nat)(b c:Int)(i:List XT)(d:List Pat)(j m:Int)(a n:List (Nat×Nat))(o:List (Option XT))(k:List XT):TS:=⟨(tf 253 54 [(0,(nI j)),kp 1 0,(6,.nilp),kp 7 1] [kc f253 126,kc f253 127]),[],([iJ 0 b c a d,(1,gh,false),cF 2 a]++qB e f g a i++[(7,(.zone true [1] (Z1 (XT.mk b c k d))),false)]),8⟩
def aBg(c:List (Nat×Nat))(d:List (Option XT))(a:Nat)(k:Nat×Nat)(e f:Int)(b:List XT)(g:List Pat)(i j:Int)(l:List (Nat×Nat)):TS:=⟨(tf 253 54 [(0,(nI i)),kp 1 1,(2,(nI j)),(6,.nilp)] [kc f253 6,kc f253 7]),[],(aDy e f b g++[(4,(.zone true [1] (cU c (set d a none) a)),false)]),5⟩
theorem aVu (us: (List (Nat×Nat)))(ts: (List (Option XT)))(ix:Nat)(u: (Nat×Nat))(op nn:Int)(ks:List XT)(ps:List Pat)(kx sz:Int)(u8: (List (Nat×Nat)))(hu:us[ix]?=some u)(ht: (ts)[ix]?=some (some (.mk op nn ks ps))) :LeadsM PP 0 (aOR us ts ix u op nn ks ps kx sz u8).as (aBg us ts ix u op nn ks ps kx sz u8).as:=
 rO (j:=1) (v:=aO u) (v':=.ptr 1 0) (by kernel_rfl) (fun hm=>nV (h:= (aOR us ts ix u op nn ks ps kx sz u8).as.h) (h':= (aBg us ts ix u op nn ks ps kx sz u8).as.h) (g:=0) (us:=us) (ts:=ts) (i:=ix) (u:=u) (op:=op) (n:=nn) (ks:=ks) (ps:=ps) (by kernel_rfl) hu ht rfl (aT ⟨.inl ⟨rfl,rfl⟩,.inr (.inl ⟨rfl,rfl⟩),.inr (.inr (.inl ⟨rfl,rfl⟩)),.inr (.inr (.inr (.inl ⟨rfl,rfl⟩))),trivial⟩) hm) (by kernel_rfl) (by kernel_rfl)
def aBh(b:List (Nat×Nat))(c:List (Option XT))(d:Nat)(k:Nat×Nat)(e f:Int)(a:List XT)(g:List Pat)(i j:Int)(l:List (Nat×Nat)):TS:=⟨(tf 253 54 [(0,(nI i)),kp 1 1,(2,(nI j)),(6,.nilp)] [kc f253 6,kc f253 7]),[],(aDy e f a g++[(5,(.zone true [] (ZV b (set c d none))),false)]),6⟩
theorem aVv (us: (List (Nat×Nat)))(ts: (List (Option XT)))(ix:Nat)(u: (Nat×Nat))(op nn:Int)(ks:List XT)(ps:List Pat)(kx sz:Int)(u8: (List (Nat×Nat))) :LeadsM PP 0 (aBg us ts ix u op nn ks ps kx sz u8).as (aBh us ts ix u op nn ks ps kx sz u8).as:=
 lE (aB3 (h:= (aBg us ts ix u op nn ks ps kx sz u8).as.h) (h':= (aBh us ts ix u op nn ks ps kx sz u8).as.h) (g:=4) (Z:= (cU us (set ts ix none) ix)) (Z':= (ZV us (set ts ix none))) (rs:=[1]) (rs':=[]) (by kernel_rfl) (.inl rfl) (fun _ _ _ _ h=>by rw [if_pos rfl];exact aIa h) (le_refl _) (aT ⟨.inr ⟨by decide,by kernel_rfl⟩,.inr ⟨by decide,by kernel_rfl⟩,.inr ⟨by decide,by kernel_rfl⟩,.inl ⟨rfl,rfl⟩,trivial⟩)) (by kernel_rfl) (by kernel_rfl)
theorem aVw (us: (List (Nat×Nat)))(ts: (List (Option XT)))(ix:Nat)(u: (Nat×Nat))(op nn:Int)(ks:List XT)(ps:List Pat)(kx sz:Int)(u80: (List (Nat×Nat))){res:Res}{hf:Hp}(hne:ks≠ [])(k:∀u8,u8.length=ks.length→Ends PP 0 (aDA us ts ix u op nn ks ps kx sz u8).as res hf) :Ends PP 0 (aBh us ts ix u op nn ks ps kx sz u80).as res hf:=
 jT (t:=fun u8=> (aDA us ts ix u op nn ks ps kx sz u8).as) (ok:=fun us=>us.length=ks.length) (rK (h:= (aBh us ts ix u op nn ks ps kx sz u80).as.h) (h':=fun u8=> (aDA us ts ix u op nn ks ps kx sz u8).as.h) (k:=2) (g:=3) (o:=gh) (ts:=ks) (by kernel_rfl) rfl (by kernel_rfl) hne (fun _=>le_refl _) (fun u8=> (aT ⟨.inr (.inr ⟨by decide,by kernel_rfl⟩),.inr (.inl ⟨rfl,rfl⟩),.inr (.inr ⟨by decide,by kernel_rfl⟩),.inl ⟨rfl,rfl⟩,trivial⟩))) (fun u8=> ⟨by kernel_rfl,by kernel_rfl⟩) k
theorem bDK (us: (List (Nat×Nat)))(ts: (List (Option XT)))(ix:Nat)(u: (Nat×Nat))(op nn:Int)(ks:List XT)(ps:List Pat)(kx sz:Int)(u8: (List (Nat×Nat))) :LeadsM PP 0 (aOS us ts ix u op nn ks ps kx sz u8).as (aIX us ts ix u op nn ks ps kx sz u8).as:=
 lE (xJ (h:= (aOS us ts ix u op nn ks ps kx sz u8).as.h) (h':= (aIX us ts ix u op nn ks ps kx sz u8).as.h) (Z:= (ZV u8 (map (fun _=>none) u8))) (fun _ _=>aZe) (le_refl _) (aT ⟨.inr (by kernel_rfl),.inr (by kernel_rfl),.inr (by kernel_rfl),.inr (by kernel_rfl),.inr (by kernel_rfl),.inr (by kernel_rfl),.inl ⟨rfl,rfl⟩,trivial⟩)) (by kernel_rfl) (by kernel_rfl)
theorem bDL (us: (List (Nat×Nat)))(ts: (List (Option XT)))(ix:Nat)(u: (Nat×Nat))(op nn:Int)(ks:List XT)(ps:List Pat)(kx sz:Int)(u8: (List (Nat×Nat)))(ri:Nat)(q0:XT)(q1: (List (Option XT)))(t24:Int)(usx1: (List (Nat×Nat))){res:Res}{hf:Hp}(ht: (q1)[ri]?=some none)(k:∀u9,Ends PP 0 (aDB us ts ix u op nn ks ps kx sz u8 ri q0 q1 t24 usx1 u9).as res hf) :Ends PP 0 (aOT us ts ix u op nn ks ps kx sz u8 ri q0 q1 t24 usx1).as res hf:=
 jT (t:= (fun u9=> (aDB us ts ix u op nn ks ps kx sz u8 ri q0 q1 t24 usx1 u9).as)) (ok:=fun _=>True) (aH9 (h:= (aOT us ts ix u op nn ks ps kx sz u8 ri q0 q1 t24 usx1).as.h) (h':=fun u9=> (aDB us ts ix u op nn ks ps kx sz u8 ri q0 q1 t24 usx1 u9).as.h) (k:=3) (g:=7) (gz:=5) (z:=4) (us:=usx1) (ts:=q1) (i:=ri) (t:=q0) (by kernel_rfl) (by kernel_rfl) (by kernel_rfl) ht (by decide) (fun _=>le_refl _) (fun u9=> (aT ⟨.inr (.inr ⟨by decide,by kernel_rfl⟩),.inr (.inr ⟨by decide,by kernel_rfl⟩),.inr (.inr ⟨by decide,by kernel_rfl⟩),.inr (.inl ⟨rfl,rfl⟩),.inr (.inr ⟨by decide,by kernel_rfl⟩),.inr (.inr ⟨by decide,by kernel_rfl⟩),.inl ⟨rfl,rfl⟩,trivial⟩))) (fun u9=> ⟨by kernel_rfl,by kernel_rfl⟩) (fun u9 _=>k u9)
theorem bDM (us: (List (Nat×Nat)))(ts: (List (Option XT)))(ix:Nat)(u: (Nat×Nat))(op nn:Int)(ks:List XT)(ps:List Pat)(kx sz:Int)(u8: (List (Nat×Nat)))(ri:Nat)(q0:XT)(q1: (List (Option XT)))(usx1: (List (Nat×Nat))){res:Res}{hf:Hp}(ht: (q1)[ri]?=some none)(k:∀u9,Ends PP 0 (aDC us ts ix u op nn ks ps kx sz u8 ri q0 q1 usx1 u9).as res hf) :Ends PP 0 (aOU us ts ix u op nn ks ps kx sz u8 ri q0 q1 usx1).as res hf:=
 jT (t:= (fun u9=> (aDC us ts ix u op nn ks ps kx sz u8 ri q0 q1 usx1 u9).as)) (ok:=fun _=>True) (aH9 (h:= (aOU us ts ix u op nn ks ps kx sz u8 ri q0 q1 usx1).as.h) (h':=fun u9=> (aDC us ts ix u op nn ks ps kx sz u8 ri q0 q1 usx1 u9).as.h) (k:=3) (g:=8) (gz:=5) (z:=4) (us:=usx1) (ts:=q1) (i:=ri) (t:=q0) (by kernel_rfl) (by kernel_rfl) (by kernel_rfl) ht (by decide) (fun _=>le_refl _) (fun u9=> (aT ⟨.inr (.inr ⟨by decide,by kernel_rfl⟩),.inr (.inr ⟨by decide,by kernel_rfl⟩),.inr (.inr ⟨by decide,by kernel_rfl⟩),.inr (.inl ⟨rfl,rfl⟩),.inr (.inr ⟨by decide,by kernel_rfl⟩),.inr (.inr ⟨by decide,by kernel_rfl⟩),.inl ⟨rfl,rfl⟩,trivial⟩))) (fun u9=> ⟨by kernel_rfl,by kernel_rfl⟩) (fun u9 _=>k u9)
theorem bDN (us: (List (Nat×Nat)))(ts: (List (Option XT)))(ix:Nat)(u: (Nat×Nat))(op nn:Int)(ks:List XT)(ps:List Pat)(kx sz:Int)(u8: (List (Nat×Nat)))(q0: (List (Nat×Nat)))(zs:List XT)(hl:u8.length=length zs) :LeadsM PP 0 (aOV us ts ix u op nn ks ps kx sz u8 q0 (zs.map some)).as (aIY us ts ix u op nn ks ps kx sz u8 q0 (zs.map some) zs).as:=
 lE (aA4 (h:= (aOV us ts ix u op nn ks ps kx sz u8 q0 (zs.map some)).as.h) (h':= (aIY us ts ix u op nn ks ps kx sz u8 q0 (zs.map some) zs).as.h) (b:=1) (k:=3) (g:=6) (us:=q0) (op:=op) (n:=nn) (ts:=zs) (ps:=ps) (len:=u8.length) (ex:=false) (pv:=.ilst 4 (Pats.av ps) false) (by kernel_rfl) hl (fun _ _ h=>h) (by kernel_rfl) (by kernel_rfl) (le_refl _) (aT ⟨.inr (.inr ⟨by decide,by kernel_rfl⟩),.inr (.inl ⟨rfl,rfl⟩),.inr (.inr ⟨by decide,by kernel_rfl⟩),.inr (.inr ⟨by decide,by kernel_rfl⟩),.inr (.inr ⟨by decide,by kernel_rfl⟩),.inl ⟨rfl,rfl⟩,trivial⟩)) (by kernel_rfl) (by kernel_rfl)
theorem bAB (us: (List (Nat×Nat)))(ts: (List (Option XT)))(ix:Nat)(u: (Nat×Nat))(op nn:Int)(ks:List XT)(ps:List Pat)(kx sz:Int)(u8: (List (Nat×Nat)))(q1: (List (Option XT)))(t24:Int)(q0: (List (Nat×Nat)))(y0: (Nat×Nat))(mt1:XT)(y2: (Nat×Nat))(h0:decide (t24< ((u8.length:Nat) :Int)) =true)(h1:0≤t24)(h2:t24< ((u8.length:Nat) :Int))(h3: ((u8)[t24.toNat]?) =some y0)(h4: (t24 != kx) =true)(h5:aVs y0 sz op nn u8 ps q0 us ts ix ks q1 mt1)(h6: ((q0)[t24.toNat]?) =some y2) :
  LeadsM PP 0 (wG us ts ix u op nn ks ps kx sz u8 q1 t24 q0).as (aOT us ts ix u op nn ks ps kx sz u8 t24.toNat mt1 q1 t24 q0).as:=
 jZ (n1:=10) (ks:=[0,1,2,3,8,9,4,6,7]) (W:=[some (.cells (putCells .leaf 0 [(nI op),(nI nn),(qC u8),(iP ps)]) 4 [] false),some (.cells (putCells .leaf 0 [(nI op),(nI nn),(aBf u8),(iP ps)]) 4 [] false),some (.lst 1 (map aO u8)),some (.lst 1 ((map aO q0).set t24.toNat (.ptr 8 0))),some gh,some (.zone true [8] (Z1 mt1)),some (.zone true [] (ZV us (set ts ix none))),some (.zone true [] (ZV q0 q1)),some (.zone true [] (ZV u8 (map some ks)))]) (wc (by kernel_rfl) (wc (by kernel_rfl) (wc (by kernel_rfl) (wc (xI (by kernel_rfl)) (wc (by kernel_rfl) (wc (by kernel_rfl) (wc (by kernel_rfl) (wc (by kernel_rfl) (wc (by kernel_rfl) wn))))))))) (ps:=[decide (t24< ((u8.length:Nat) :Int)) =true,0≤t24,t24< ((u8.length:Nat) :Int),(map aO u8)[(0+t24.toNat)]?=some (aO y0),(t24 != kx) =true,aVs y0 sz op nn u8 ps q0 us ts ix ks q1 mt1,0≤t24,t24< ((u8.length:Nat) :Int),(map aO q0)[(0+t24.toNat)]?=some (aO y2),jM (aO y2) 0 [(.ptr 8 0)] =some (ptr 8 0),(AV.gl 3 1 0 u8.length false) = (AV.gl 3 1 0 u8.length false),(AV.gl 3 1 0 u8.length false) = (AV.gl 3 1 0 u8.length false),(map aO q0).set (0+t24.toNat) (.ptr 8 0) = ((map aO q0).set t24.toNat (.ptr 8 0))]) (is:=[.run 5,.b 25 true,.run 7,.ans (.ix),.ans (.idx (aO y0)),.run 9,.b 31 true,.run 1,.reg [.d,.d,.d,.d,.d,.call (.ptr 8 0) (aA ([iJ 0 op nn u8 ps,qT 1 op nn u8 ps,cF 2 u8,cF 3 q0]++aP4 us ts ix q0 q1 u8 ks mt1) 10),.ans (.ix),.st (aO y2) (.ptr 8 0)],.lset 3 ((map aO q0).set t24.toNat (.ptr 8 0)),.run 1]) (by kernel_rfl) (by kernel_rfl) ⟨(aG _ (fun _=>rfl) _),trivial⟩ ⟨h0,h1,h2,(cB h3),h4,h5,h1,h2,(cB h6),rfl,rfl,rfl,(aT5 _ _ _)⟩
theorem bAC (us: (List (Nat×Nat)))(ts: (List (Option XT)))(ix:Nat)(u: (Nat×Nat))(op nn:Int)(ks:List XT)(ps:List Pat)(kx sz:Int)(u8: (List (Nat×Nat)))(q1: (List (Option XT)))(t24:Int)(q0: (List (Nat×Nat)))(y0: (Nat×Nat))(h0:decide (t24< ((u8.length:Nat) :Int)) =false)(h1:aVr sz op nn u8 ps q0 us ts ix ks q1)(h2:0≤kx)(h3:kx< ((u8.length:Nat) :Int))(h4: ((q0)[kx.toNat]?) =some y0) :
  LeadsM PP 0 (wG us ts ix u op nn ks ps kx sz u8 q1 t24 q0).as (aOU us ts ix u op nn ks ps kx sz u8 kx.toNat (XT.mk 4 sz [] []) q1 q0).as:=
 jZ (n1:=9) (ks:=[0,1,2,3,7,8,4,5,6]) (W:=[some (.cells (putCells .leaf 0 [(nI op),(nI nn),(qC u8),(iP ps)]) 4 [] false),some (.cells (putCells .leaf 0 [(nI op),(nI nn),(aBf u8),(iP ps)]) 4 [] false),some (.lst 1 (map aO u8)),some (.lst 1 ((map aO q0).set kx.toNat (.ptr 7 0))),some gh,some (.zone true [7] (Z1 (XT.mk 4 sz [] []))),some (.zone true [] (ZV us (set ts ix none))),some (.zone true [] (ZV u8 (map some ks))),some (.zone true [] (ZV q0 q1))]) (wc (by kernel_rfl) (wc (by kernel_rfl) (wc (by kernel_rfl) (wc (xI (by kernel_rfl)) (wc (by kernel_rfl) (wc (by kernel_rfl) (wc (by kernel_rfl) (wc (by kernel_rfl) (wc (by kernel_rfl) wn))))))))) (ps:=[decide (t24< ((u8.length:Nat) :Int)) =false,aVr sz op nn u8 ps q0 us ts ix ks q1,0≤kx,kx< ((u8.length:Nat) :Int),(map aO q0)[(0+kx.toNat)]?=some (aO y0),jM (aO y0) 0 [(.ptr 7 0)] =some (ptr 7 0),(AV.gl 3 1 0 u8.length false) = (AV.gl 3 1 0 u8.length false),(AV.gl 3 1 0 u8.length false) = (AV.gl 3 1 0 u8.length false),(map aO q0).set (0+kx.toNat) (.ptr 7 0) = ((map aO q0).set kx.toNat (.ptr 7 0))]) (is:=[.run 5,.b 25 false,.run 3,.reg [.d,.d,.d,.d,.call (.ptr 7 0) (aA ([iJ 0 op nn u8 ps,qT 1 op nn u8 ps,cF 2 u8,cF 3 q0]++qB us ts ix u8 ks++[(6,(.zone true [] (ZV q0 q1)),false),(7,gh,false),(8,(.zone true [7] (Z1 (XT.mk 4 sz [] []))),false)]) 9),.ans (.ix),.st (aO y0) (.ptr 7 0)],.lset 3 ((map aO q0).set kx.toNat (.ptr 7 0))]) (by kernel_rfl) (by kernel_rfl) ⟨(aG _ (fun _=>rfl) _),trivial⟩ ⟨h0,h1,h2,h3,(cB h4),rfl,rfl,rfl,(aT5 _ _ _)⟩
def bCp(a:List (Nat×Nat))(b:List (Option XT))(e:Nat)(c:Nat×Nat)(f g:Int)(i:List XT)(j:List Pat)(k l:Int)(m:List XT)(n:List Pat)(d:Int)(o p:List (Nat×Nat)):TS:=bC PP 247 [(.agg []),(aO c),(nI d)] [(0,(.zone true [] (ZV a b)),false)] 1
def aOW(a:List (Nat×Nat))(b:List (Option XT))(e:Nat)(c:Nat×Nat)(f g:Int)(i:List XT)(j:List Pat)(k l:Int)(m:List XT)(n:List Pat)(d:Int)(o p:List (Nat×Nat)):TS:=⟨(tf 247 36 [(1,(aO c)),(2,(nI d)),(6,.nilp)] [kc f247 6,kc f247 7]),[],[(0,(.zone true [] (ZV a b)),false)],1⟩
def aDD(c:List (Nat×Nat))(d:List (Option XT))(e:Nat)(k:Nat×Nat)(f g:Int)(a:List XT)(i:List Pat)(l m:Int)(n:List XT)(o:List Pat)(j:Int)(b p:List (Nat×Nat)):TS:=⟨(tf 247 36 [kp 1 1,(2,(nI j)),(6,.nilp)] [kc f247 6,kc f247 7]),[],[aOO 1 f g a i,cF 2 b,(5,(.zone true [] (ZV c (set d e none))),false),(6,(.zone true [] (ZV b (map some a))),false)],7⟩
def aOX(c:List (Nat×Nat))(d:List (Option XT))(e:Nat)(l:Nat×Nat)(f g:Int)(a:List XT)(i:List Pat)(m n:Int)(o:List XT)(p:List Pat)(j:Int)(b q:List (Nat×Nat))(k:Nat×Nat):TS:=⟨(tf 247 36 [kp 1 0,(2,(nI j)),(6,.nilp),(7,(aO k))] [kc f247 14,kc f247 15]),[],([aFf 0 f g a i]++aBe b c d e++[(3,(.zone true [] (ZV b (map some a))),false)]),4⟩
def aDE(e:List (Nat×Nat))(f:List (Option XT))(g:Nat)(p:Nat×Nat)(i j:Int)(a:List XT)(k:List Pat)(l m:Int)(b:List XT)(n:List Pat)(o:Int)(c d:List (Nat×Nat))(q:Nat×Nat):TS:=⟨(tf 247 36 [kp 1 0,(2,(nI o)),(6,.nilp),kp 7 4] [kc f247 14,kc f247 15]),[],([aFf 0 i j a k]++aBe c e f g++[aDz 4 l m b n,cF 5 d,(8,(.zone true [] (ZV c (set (map some a) 0 none))),false),(9,(.zone true [] (ZV d (map some b))),false)]),10⟩
def aBi(c:List (Nat×Nat))(d:List (Option XT))(a:Nat)(j:Nat×Nat)(e f:Int)(b:List XT)(g:List Pat)(k l:Int)(m:List XT)(n:List Pat)(i:Int)(o p:List (Nat×Nat)):TS:=⟨(tf 247 36 [kp 1 1,(2,(nI i)),(6,.nilp)] [kc f247 6,kc f247 7]),[],(aDy e f b g++[(4,(.zone true [1] (cU c (set d a none) a)),false)]),5⟩
theorem aVx (us: (List (Nat×Nat)))(ts: (List (Option XT)))(ix:Nat)(u: (Nat×Nat))(op nn:Int)(ks:List XT)(ps:List Pat)(o2 n2:Int)(k2:List XT)(p2:List Pat)(sz:Int)(u8: (List (Nat×Nat)))(u7: (List (Nat×Nat)))(hu:us[ix]?=some u)(ht: (ts)[ix]?=some (some (.mk op nn ks ps))) :LeadsM PP 0 (aOW us ts ix u op nn ks ps o2 n2 k2 p2 sz u8 u7).as (aBi us ts ix u op nn ks ps o2 n2 k2 p2 sz u8 u7).as:=
 rO (j:=1) (v:=aO u) (v':=.ptr 1 0) (by kernel_rfl) (fun hm=>nV (h:= (aOW us ts ix u op nn ks ps o2 n2 k2 p2 sz u8 u7).as.h) (h':= (aBi us ts ix u op nn ks ps o2 n2 k2 p2 sz u8 u7).as.h) (g:=0) (us:=us) (ts:=ts) (i:=ix) (u:=u) (op:=op) (n:=nn) (ks:=ks) (ps:=ps) (by kernel_rfl) hu ht rfl (aT ⟨.inl ⟨rfl,rfl⟩,.inr (.inl ⟨rfl,rfl⟩),.inr (.inr (.inl ⟨rfl,rfl⟩)),.inr (.inr (.inr (.inl ⟨rfl,rfl⟩))),trivial⟩) hm) (by kernel_rfl) (by kernel_rfl)
def aBj(b:List (Nat×Nat))(c:List (Option XT))(d:Nat)(j:Nat×Nat)(e f:Int)(a:List XT)(g:List Pat)(k l:Int)(m:List XT)(n:List Pat)(i:Int)(o p:List (Nat×Nat)):TS:=⟨(tf 247 36 [kp 1 1,(2,(nI i)),(6,.nilp)] [kc f247 6,kc f247 7]),[],(aDy e f a g++[(5,(.zone true [] (ZV b (set c d none))),false)]),6⟩
theorem aVy (us: (List (Nat×Nat)))(ts: (List (Option XT)))(ix:Nat)(u: (Nat×Nat))(op nn:Int)(ks:List XT)(ps:List Pat)(o2 n2:Int)(k2:List XT)(p2:List Pat)(sz:Int)(u8: (List (Nat×Nat)))(u7: (List (Nat×Nat))) :LeadsM PP 0 (aBi us ts ix u op nn ks ps o2 n2 k2 p2 sz u8 u7).as (aBj us ts ix u op nn ks ps o2 n2 k2 p2 sz u8 u7).as:=
 lE (aB3 (h:= (aBi us ts ix u op nn ks ps o2 n2 k2 p2 sz u8 u7).as.h) (h':= (aBj us ts ix u op nn ks ps o2 n2 k2 p2 sz u8 u7).as.h) (g:=4) (Z:= (cU us (set ts ix none) ix)) (Z':= (ZV us (set ts ix none))) (rs:=[1]) (rs':=[]) (by kernel_rfl) (.inl rfl) (fun _ _ _ _ h=>by rw [if_pos rfl];exact aIa h) (le_refl _) (aT ⟨.inr ⟨by decide,by kernel_rfl⟩,.inr ⟨by decide,by kernel_rfl⟩,.inr ⟨by decide,by kernel_rfl⟩,.inl ⟨rfl,rfl⟩,trivial⟩)) (by kernel_rfl) (by kernel_rfl)
theorem aVz (us: (List (Nat×Nat)))(ts: (List (Option XT)))(ix:Nat)(u: (Nat×Nat))(op nn:Int)(ks:List XT)(ps:List Pat)(o2 n2:Int)(k2:List XT)(p2:List Pat)(sz:Int)(u80: (List (Nat×Nat)))(u7: (List (Nat×Nat))){res:Res}{hf:Hp}(hne:ks≠ [])(k:∀u8,u8.length=ks.length→Ends PP 0 (aDD us ts ix u op nn ks ps o2 n2 k2 p2 sz u8 u7).as res hf) :Ends PP 0 (aBj us ts ix u op nn ks ps o2 n2 k2 p2 sz u80 u7).as res hf:=
 jT (t:=fun u8=> (aDD us ts ix u op nn ks ps o2 n2 k2 p2 sz u8 u7).as) (ok:=fun us=>us.length=ks.length) (rK (h:= (aBj us ts ix u op nn ks ps o2 n2 k2 p2 sz u80 u7).as.h) (h':=fun u8=> (aDD us ts ix u op nn ks ps o2 n2 k2 p2 sz u8 u7).as.h) (k:=2) (g:=3) (o:=gh) (ts:=ks) (by kernel_rfl) rfl (by kernel_rfl) hne (fun _=>le_refl _) (fun u8=> (aT ⟨.inr (.inr ⟨by decide,by kernel_rfl⟩),.inr (.inl ⟨rfl,rfl⟩),.inr (.inr ⟨by decide,by kernel_rfl⟩),.inl ⟨rfl,rfl⟩,trivial⟩))) (fun u8=> ⟨by kernel_rfl,by kernel_rfl⟩) k
def aBk(d:List (Nat×Nat))(e:List (Option XT))(f:Nat)(o:Nat×Nat)(g i:Int)(a:List XT)(j:List Pat)(k l:Int)(b:List XT)(m:List Pat)(n:Int)(c p:List (Nat×Nat))(q:Nat×Nat):TS:=⟨(tf 247 36 [kp 1 0,(2,(nI n)),(6,.nilp),kp 7 4] [kc f247 14,kc f247 15]),[],([aFf 0 g i a j]++aBe c d e f++[aDz 4 k l b m,(5,gh,false),(6,(.zone true [5] (bN b)),false),(7,(.zone true [4] (cU c (set (map some a) 0 none) 0)),false)]),8⟩
theorem aVA (us: (List (Nat×Nat)))(ts: (List (Option XT)))(ix:Nat)(u: (Nat×Nat))(op nn:Int)(ks:List XT)(ps:List Pat)(o2 n2:Int)(k2:List XT)(p2:List Pat)(sz:Int)(u8: (List (Nat×Nat)))(u7: (List (Nat×Nat)))(ad: (Nat×Nat))(hu:u8[0]?=some ad)(ht: ((map some ks))[0]?=some (some (.mk o2 n2 k2 p2))) :LeadsM PP 0 (aOX us ts ix u op nn ks ps o2 n2 k2 p2 sz u8 u7 ad).as (aBk us ts ix u op nn ks ps o2 n2 k2 p2 sz u8 u7 ad).as:=
 rO (j:=7) (v:=aO ad) (v':=.ptr 4 0) (by kernel_rfl) (fun hm=>nV (h:= (aOX us ts ix u op nn ks ps o2 n2 k2 p2 sz u8 u7 ad).as.h) (h':= (aBk us ts ix u op nn ks ps o2 n2 k2 p2 sz u8 u7 ad).as.h) (g:=3) (us:=u8) (ts:= (map some ks)) (i:=0) (u:=ad) (op:=o2) (n:=n2) (ks:=k2) (ps:=p2) (by kernel_rfl) hu ht rfl (aT ⟨.inr (.inr (.inr (.inr ⟨by decide,by kernel_rfl⟩))),.inr (.inr (.inr (.inr ⟨by decide,by kernel_rfl⟩))),.inr (.inr (.inr (.inr ⟨by decide,by kernel_rfl⟩))),.inl ⟨rfl,rfl⟩,.inr (.inl ⟨rfl,rfl⟩),.inr (.inr (.inl ⟨rfl,rfl⟩)),.inr (.inr (.inr (.inl ⟨rfl,rfl⟩))),trivial⟩) hm) (by kernel_rfl) (by kernel_rfl)
def aBl(d:List (Nat×Nat))(e:List (Option XT))(f:Nat)(o:Nat×Nat)(g i:Int)(a:List XT)(j:List Pat)(k l:Int)(b:List XT)(m:List Pat)(n:Int)(c p:List (Nat×Nat))(q:Nat×Nat):TS:=⟨(tf 247 36 [kp 1 0,(2,(nI n)),(6,.nilp),kp 7 4] [kc f247 14,kc f247 15]),[],([aFf 0 g i a j]++aBe c d e f++[aDz 4 k l b m,(5,gh,false),(6,(.zone true [5] (bN b)),false),(8,(.zone true [] (ZV c (set (map some a) 0 none))),false)]),9⟩
def bAD (a:List (Nat×Nat))(b:List (Option XT))(c:Nat)(d:Nat×Nat)(e f:Int)(g:List XT)(i:List Pat)(j k:Int)(l:List (Nat×Nat)):=(tT 0 (bCo a b c d e f g i j k l)<|.W 5 1 [0] (aOR a b c d e f g i j k l)) tv
def bAE (f:List (Nat×Nat))(g:List (Option XT))(i:Nat)(j:Nat×Nat)(b c:Int)(d:List XT)(e:List Pat)(k l:Int)(a:List (Nat×Nat)):=fun m n=>(tT 0 (aDA f g i j b c d e k l a)<|.i [rn 3,.cset 1 2 (qC a)] [.a (a.length=d.length) (p':=(AV.gl 2 1 0 d.length false) = (qC a)) (fun h=>(bG h.symm))]<|gk 10 (.enter 254 [(qC a)]) [iJ 1 b c a e,cF 2 a,(5,(.zone true [] (ZV f (set g i none))),false),(6,(.zone true [] (ZV a (map some d))),false),iJ 7 b c a e] 8 (.gl 8 1 0 a.length false) [iJ 1 b c a e,cF 2 a,(5,(.zone true [] (ZV f (set g i none))),false),(6,(.zone true [] (ZV a (map some d))),false),iJ 7 b c a e,cF 8 a] 9<|.W 5 9 [1,7,2,8,5,6] (aOS f g i j b c d e k l a)) m n ⟨kk,⟨kk,trivial⟩⟩
def bAF (b:List (Nat×Nat))(c:List (Option XT))(d:Nat)(e:Nat×Nat)(f g:Int)(i:List XT)(j:List Pat)(k l:Int)(a:List (Nat×Nat)):=(tT 0 (aIX b c d e f g i j k l a)<|.W 10 7 [0,1,2,3,4,5,6] (wG b c d e f g i j k l a (map (fun _=>none) a) 0 a)) ⟨kk,⟨kk,trivial⟩⟩
def bAG (e:List (Nat×Nat))(f:List (Option XT))(g:Nat)(i:Nat×Nat)(j k:Int)(l:List XT)(m:List Pat)(c n:Int)(b:List (Nat×Nat))(o:List (Option XT))(a:Int)(p:List (Nat×Nat)):=fun d q r s t u v=>(tT 0 (wG e f g i j k l m c n b o a p)<|gd 5 25 (a< (b.length:Int)) (.i [rn 7,.ans (.ix)] [hA (0≤a),hA (a< (b.length:Int))]<|.y fun d:Nat×Nat=>gj aO 0 b a.toNat d<|.b 9 31 (a != c) .x<|gw 5 39 (a+1)<|.W 3 7 [0,1,2,3,4,5,6] (wG e f g i j k l m c n b o (a+1) p)) .x)|>.t q r s d t|>.f u v ⟨kk,⟨kk,trivial⟩⟩
def bAH (c:List (Nat×Nat))(d:List (Option XT))(e:Nat)(f:Nat×Nat)(g i:Int)(j:List XT)(k:List Pat)(l m:Int)(n:List (Nat×Nat))(a:Nat)(o:XT)(p:List (Option XT))(b:Int)(q:List (Nat×Nat))(r:Nat×Nat):=fun s=>(tT 0 (aDB c d e f g i j k l m n a o p b q r)<|gw 2 39 (b+1)<|.W 3 10 [0,1,2,3,6,8,9] (wG c d e f g i j k l m n (set p a (some o)) (b+1) (set q a r))) s ⟨kk,⟨kk,trivial⟩⟩
def bAI (b:List (Nat×Nat))(c:List (Option XT))(d:Nat)(e:Nat×Nat)(f g:Int)(i:List XT)(j:List Pat)(k l:Int)(m:List (Nat×Nat))(a:Nat)(n:XT)(o:List (Option XT))(p:List (Nat×Nat))(q:Nat×Nat):=(tT 0 (aDC b c d e f g i j k l m a n o p q)<|.W 1 10 [0,1,2,3,6,7,9] (aOV b c d e f g i j k l m (set p a q) (set o a (some n)))) ⟨kk,⟨kk,trivial⟩⟩
def bAJ (c:List (Nat×Nat))(d:List (Option XT))(e:Nat)(n:Nat×Nat)(f g:Int)(i:List XT)(j:List Pat)(b o:Int)(a p:List (Nat×Nat))(q:List (Option XT))(m:List XT):=fun k l r s t u=>(tT 0 (aIY c d e n f g i j b o a p q m)<|.i [rn 6,.ans (.ix)] [hA (0≤b),hA (b< (a.length:Int))]<|.y fun k:Nat×Nat=>gj aO 0 a b.toNat k<|.y fun l:XT=>gk 0 (.enter 248 [(aO k),(.ptr 1 0)]) [iJ 0 f g a j,(1,gh,false),cF 2 a,(4,(.zone true [] (ZV c (set d e none))),false),(5,(.zone true [] (ZV a (map some i))),false),(7,(.zone true [1] (Z1 (XT.mk f g m j))),false)] 8 (.ptr 9 0) [iJ 0 f g a j,cF 2 a,(4,(.zone true [] (ZV c (set d e none))),false),(8,(.zone true [] (ZV a (set (map some i) (Int.toNat b) none))),false),(9,gh,false),(10,(.zone true [9] (Z1 l)),false)] 11<|.E 3 11 [9,4,8,10] (.ptr 0 0) [(0,gh,false),(1,(.zone true [] (ZV c (set d e none))),false),(2,(.zone true [] (ZV a (set (map some i) (Int.toNat b) none))),false),(3,(.zone true [0] (Z1 l)),false)] 4) r s k t l u tv
def bAK (a:List (Nat×Nat))(b:List (Option XT))(c:Nat)(d:Nat×Nat)(e f:Int)(g:List XT)(i:List Pat)(j k:Int)(l:List XT)(m:List Pat)(n:Int)(o p:List (Nat×Nat)):=(tT 0 (bCp a b c d e f g i j k l m n o p)<|.W 6 2 [0] (aOW a b c d e f g i j k l m n o p)) tv
def bAL (d:List (Nat×Nat))(e:List (Option XT))(f:Nat)(g:Nat×Nat)(i j:Int)(b:List XT)(k:List Pat)(l m:Int)(n:List XT)(o:List Pat)(p:Int)(c q:List (Nat×Nat)):=fun a r s t=>(tT 0 (aDD d e f g i j b k l m n o p c q)<|.i [rn 5,.ans (.ix)] [hA (0≤ (0:Int)),hA ((0:Int) < ((b.length:Nat) :Int))]<|.y fun a:Nat×Nat=>gj aO 0 c ((0:Int).toNat) a<|.W 3 7 [1,2,5,6] (aOX d e f g i j b k l m n o p c q a)) r s a t ⟨kk,trivial⟩
def bAM (f:List (Nat×Nat))(g:List (Option XT))(i:Nat)(y:Nat×Nat)(j k:Int)(c:List XT)(l:List Pat)(m n:Int)(a:List XT)(o:List Pat)(w:Int)(d b:List (Nat×Nat))(z:Nat×Nat):=fun e p q r s t A B u x C v D F G H I=>(tT 0 (aDE f g i y j k c l m n a o w d b z)<|.y fun e:Nat×Nat=>.y fun p:Nat×Nat=>.y fun q:Nat×Nat=>.y fun r:XT=>.y fun s:XT=>.y fun t:XT=>.i [.regA (rd 4 (.ans (.ix)::.ans (.idx (aO e))::rd 4 (.ans (.ix)::.ans (.idx (aO p))::rd 4 [.ans (.ix),.ans (.idx (aO q)),.d,.call (.ptr 11 0) (aOQ j k c l d f g i m n a o b r),.call (.ptr 14 0) (aOP j k c l d f g i m n a o b s),.call (.ptr 17 0) (aVt j k c l d f g i m n a o b t),.d]))) [(some (.idx (aO p))),none,(some (.idx (aO e))),none]] [hA (0≤ (0:Int)),hA ((0:Int) < ((a.length:Nat) :Int)),.a (((b)[(0:Int).toNat]?) =some e) (cB (f:=aO)),hA (0≤ (1:Int)),hA ((1:Int) < ((a.length:Nat) :Int)),.a (((b)[(1:Int).toNat]?) =some p) (cB (f:=aO)),hA (0≤ (1:Int)),hA ((1:Int) < ((c.length:Nat) :Int)),.a (((d)[(1:Int).toNat]?) =some q) (cB (f:=aO)),hA (Spec PP (.enter 249 [(aO q),(nI w),(nI 1)]) (aA ([aFf 0 j k c l]++aBe d f g i++[aDz 4 m n a o,cF 5 b,(8,(.zone true [] (ZV d (set (map some c) 0 none))),false),(9,(.zone true [] (ZV b (map some a))),false)]) 10) (.ret (.ptr 11 0)) (aOQ j k c l d f g i m n a o b r)),hA (Spec PP (.enter 248 [(aO p),(.ptr 11 0)]) (aOQ j k c l d f g i m n a o b r) (.ret (.ptr 14 0)) (aOP j k c l d f g i m n a o b s)),hA (Spec PP (.enter 248 [(aO e),(.ptr 14 0)]) (aOP j k c l d f g i m n a o b s) (.ret (.ptr 17 0)) (aVt j k c l d f g i m n a o b t)),hr (aO p),.a (((b)[(1:Int).toNat]?) =some p) (cB (f:=aO)),hr (aO p),.a (((b)[(1:Int).toNat]?) =some p) (cB (f:=aO)),hr (AV.gl 5 1 0 a.length false),hr (AV.gl 5 1 0 a.length false),hr (aO e),.a (((b)[(0:Int).toNat]?) =some e) (cB (f:=aO)),hr (aO e),.a (((b)[(0:Int).toNat]?) =some e) (cB (f:=aO)),hr (aO e),.a (((b)[(0:Int).toNat]?) =some e) (cB (f:=aO)),hr (AV.gl 5 1 0 a.length false),hr (AV.gl 5 1 0 a.length false),hr (AV.gl 5 1 0 a.length false)]<|.E 1 19 [17,2,10,16,18] (.ptr 0 0) [(0,gh,false),(1,(.zone true [] (ZV f (set g i none))),false),(2,(.zone true [] (ZV d (set (map some c) 0 none))),false),(3,(.zone true [] (ZV b (set (set (map some a) 1 none) 0 none))),false),(4,(.zone true [0] (Z1 t)),false)] 5) e p q r s t A B u x C v x D F G H I v v u u u tv
theorem aVB (us: (List (Nat×Nat)))(ts: (List (Option XT)))(ix:Nat)(u: (Nat×Nat))(op nn:Int)(ks:List XT)(ps:List Pat)(o2 n2:Int)(k2:List XT)(p2:List Pat)(sz:Int)(u8: (List (Nat×Nat)))(u7: (List (Nat×Nat)))(ad: (Nat×Nat)) :LeadsM PP 0 (aBk us ts ix u op nn ks ps o2 n2 k2 p2 sz u8 u7 ad).as (aBl us ts ix u op nn ks ps o2 n2 k2 p2 sz u8 u7 ad).as:=
 lE (aB3 (h:= (aBk us ts ix u op nn ks ps o2 n2 k2 p2 sz u8 u7 ad).as.h) (h':= (aBl us ts ix u op nn ks ps o2 n2 k2 p2 sz u8 u7 ad).as.h) (g:=7) (Z:= (cU u8 (set (map some ks) 0 none) 0)) (Z':= (ZV u8 (set (map some ks) 0 none))) (rs:=[4]) (rs':=[]) (by kernel_rfl) (.inl rfl) (fun _ _ _ _ h=>by rw [if_pos rfl];exact aIa h) (le_refl _) (aT ⟨.inr ⟨by decide,by kernel_rfl⟩,.inr ⟨by decide,by kernel_rfl⟩,.inr ⟨by decide,by kernel_rfl⟩,.inr ⟨by decide,by kernel_rfl⟩,.inr ⟨by decide,by kernel_rfl⟩,.inr ⟨by decide,by kernel_rfl⟩,.inl ⟨rfl,rfl⟩,trivial⟩)) (by kernel_rfl) (by kernel_rfl)
theorem aVC (us: (List (Nat×Nat)))(ts: (List (Option XT)))(ix:Nat)(u: (Nat×Nat))(op nn:Int)(ks:List XT)(ps:List Pat)(o2 n2:Int)(k2:List XT)(p2:List Pat)(sz:Int)(u8: (List (Nat×Nat)))(u70: (List (Nat×Nat)))(ad: (Nat×Nat)){res:Res}{hf:Hp}(hne:k2≠ [])(k:∀u7,u7.length=k2.length→Ends PP 0 (aDE us ts ix u op nn ks ps o2 n2 k2 p2 sz u8 u7 ad).as res hf) :Ends PP 0 (aBl us ts ix u op nn ks ps o2 n2 k2 p2 sz u8 u70 ad).as res hf:=
 jT (t:=fun u7=> (aDE us ts ix u op nn ks ps o2 n2 k2 p2 sz u8 u7 ad).as) (ok:=fun us=>us.length=k2.length) (rK (h:= (aBl us ts ix u op nn ks ps o2 n2 k2 p2 sz u8 u70 ad).as.h) (h':=fun u7=> (aDE us ts ix u op nn ks ps o2 n2 k2 p2 sz u8 u7 ad).as.h) (k:=5) (g:=6) (o:=gh) (ts:=k2) (by kernel_rfl) rfl (by kernel_rfl) hne (fun _=>le_refl _) (fun u7=> (aT ⟨.inr (.inr ⟨by decide,by kernel_rfl⟩),.inr (.inr ⟨by decide,by kernel_rfl⟩),.inr (.inr ⟨by decide,by kernel_rfl⟩),.inr (.inr ⟨by decide,by kernel_rfl⟩),.inr (.inl ⟨rfl,rfl⟩),.inr (.inr ⟨by decide,by kernel_rfl⟩),.inl ⟨rfl,rfl⟩,trivial⟩))) (fun u7=> ⟨by kernel_rfl,by kernel_rfl⟩) k
end
end Go.Hb
