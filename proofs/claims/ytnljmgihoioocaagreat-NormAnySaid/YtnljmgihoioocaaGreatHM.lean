/- A machine on abstract values, its soundness, ways, plain laws. -/
import Derived.Test.YtnljmgihoioocaaGreatHF
import Derived.Test.YtnljmgihoioocaaGreatHG
import Derived.Test.YtnljmgihoioocaaGreatHH
import Derived.Test.YtnljmgihoioocaaGreatHK
import Derived.Test.YtnljmgihoioocaaGreatHL
set_option linter.defProp false
set_option linter.unusedVariables false
set_option linter.unusedSimpArgs false
set_option linter.unusedSectionVars false
set_option maxRecDepth 100000
set_option maxHeartbeats 1000000
namespace Go.Hb
open List (length map set)
open Pats (av)
open Go.Proofs Tryz
noncomputable section
mutual
def eB :XT→Nat→List Node
 | .mk o n ks ps,a=> ⟨o,n,(bE ks (a+1)).1,ps⟩ :: (bE ks (a+1)).2
def bE :List XT→Nat→List Int×List Node
 | [],_=> ([],[])
 |t::ts,a=> (((a:Nat) :Int) :: (bE ts (a+ (eB t a).length)).1,eB t a++ (bE ts (a+ (eB t a).length)).2)
end
mutual
theorem bR :∀ (t:XT) (a:Nat),(eB t a).length=cB t
 | .mk o n b c,a=>by rw [eB,cB,oI,pO b (a+1)]
theorem pO :∀ (b:List XT) (a:Nat),(bE b a).2.length=aD b
 | [],a=>by rw [bE,aD];rfl
 |t::b,a=>by rw [bE,aD,tI,bR t _,pO b _]
end
abbrev PHc (b n:Nat)(r k:Nat)(mn:Int)(cs:List Con) :AObj:=.cells (putCells .leaf 0 [.gl b 4 0 n false,.gl r 1 0 k false,.int .i64 mn,.ilst 2 (map Con.av cs) false]) 4 [] false
abbrev PBl (fs:List Int)(mn:Int)(cs:List Con)(L:List ONode) :HL:=[(0,PHc 3 (length L) 2 (length fs) mn cs,false),(1,.cells (putCells .leaf 0 [.func 119 [] [.ptr 0 0,.ptr 1 0]]) 1 [] false,false),(2,.lst 1 (map cA fs),true),(3,OL L,true)]
def FPS (fs:List Int)(mn:Int)(cs:List Con)(t:XT)(L:List ONode)(ns:List Node) :Prop:=
 fC PP 3 (.enter 119 [XT.av t,.ptr 0 0,.ptr 1 0]) (aA (PBl fs mn cs L) 4) (.ret (.int .i64 ((length L:Nat) :Int))) (aA (PBl fs mn cs (L++map Node.o ns)) 4)
def bD7 (fs:List Int)(mn:Int)(cs:List Con)(L:List ONode)(s:TS)(ns:List Node) :Prop:=Ends PP 3 s.as (.ret (.int .i64 ((length L:Nat) :Int))) (aA (PBl fs mn cs (L++map Node.o ns)) 4)
theorem aDd (fs:List Int)(mn:Int)(cs:List Con)(L:List ONode) :eX (PBl fs mn cs L) := ⟨aH _ (fun _=>rfl) _,aXZ L,trivial⟩
section
variable (fs :List Int) (mn:Int) (cs:List Con) (L:List ONode) (o n:Int) (ks:List XT) (ps:List Pat)
theorem aUI (c:Int)(l:List ONode){ix:Nat}{a b:Int}{Q:List Pat}(h:l[ix]?=some ⟨a,b,.nil,Q⟩) :LeadsM PP 3 (aYy L fs mn cs o n ks ps c l).as (aR5 L fs mn cs o n ks ps c l ix a b Q).as:=
 bFo (k:=3) (e0:=4) (e:=1) aC aC (bDY (f:=ONode.av) [.int .i64 a,.int .i64 b] [.ilst 4 (av Q) false] h rfl) aC
theorem aUJ (c:Int)(l:List ONode)(d:List Int)(u:Value)(i:Int){ix:Nat}{a b:Int}{Q:List Pat}(h:l[ix]?=some ⟨a,b,.val u,Q⟩) :LeadsM PP 3 (aYz L fs mn cs o n ks ps c l d u i).as (aR6 L fs mn cs o n ks ps c l d i ix a b Q).as:=
 bCq (k:=3) (b:=4) (e0:=4) (e:=1) (u:=u) (xs:=map cA d) (n:=length d) aC aC (by decide) (lN ..) (bDY (f:=ONode.av) [.int .i64 a,.int .i64 b] [.ilst 4 (av Q) false] h rfl) aC
variable (hkl :ks.length≤1000) (ih:∀t∈ks,∀ (M:List ONode),M.length+cB t≤1000000→FPS fs mn cs t M (eB t M.length))
include hkl ih
theorem aNx (P:List Pat) :∀ (d:List XT) (i:Nat) (u:Value) (a:List Node) (c:List Int),ks.drop i=d→c.length=i→L.length+1+a.length+aD d≤1000000 →
  bD7 fs mn cs L (aDc L fs mn cs o n ks ps (L++ ⟨o,n,.val u,P⟩ ::map Node.o a) c u (i:Int)) (⟨o,n,c++ (bE d (L.length+1+a.length)).1,P⟩ :: (a++ (bE d (L.length+1+a.length)).2))
 | [],i,u,a,c,h,hk,_=>by
  have:=bL h;have r:=bCL L fs mn cs o n ks ps (L++ ⟨o,n,.val u,P⟩ ::map Node.o a) c u i ⟨o,n,.val u,P⟩ sd (tC ..) rfl;rw [tD]at r;rw [bE];simp only [tK];exact r
 | .mk g j k p::d,i,u,a,c,h,hk,hb=>by
  obtain⟨s,v,z⟩ :=bI h;simp only [aD]at hb;have b: (L++ (⟨o,n,.val u,P⟩ :ONode) ::map Node.o a).length=L.length+1+a.length:=by simp;omega
  have e:=ih _ (kN s) (L++ ⟨o,n,.val u,P⟩ ::map Node.o a) (by rw [b];omega);rw [b]at e;rw [bE];have l:=bR (.mk g j k p) (L.length+1+a.length);generalize eB (.mk g j k p) (L.length+1+a.length) =f at e l ⊢;unfold FPS at e;have q:=bCK L fs mn cs o n ks ps (L++ ⟨o,n,.val u,P⟩ ::map Node.o a) c u i g j k p f sd sd sd (oQ (m:=3) (ks:=[0,1,2,3]) e aC aC (aDd ..) (aDd ..));have x: (L++ (⟨o,n,.val u,P⟩ :ONode) ::map Node.o a) ++map Node.o f=L++ ⟨o,n,.val u,P⟩ ::map Node.o (a++f) :=by simp
  rw [x,b]at q;refine(q.trans (aUJ fs mn cs L o n ks ps _ _ c u i (tC L _ _))).ends ?_;refine bCG L fs mn cs o n ks ps _ _ c i (length L) o n P (by omega) (by simp;omega) (by omega) (by simp) (by simp;omega) sd (fun t w y=>?_);have:=aNx P d (i+1) (.slice t w y) (a++f) (c++ [((L.length+1+a.length:Nat) :Int)]) v (by simp [hk]) (by simp;omega);dsimp only;rw [tD];rw [tI,←Nat.add_assoc]at this;simp only [zq9,List.singleton_append]at this ⊢;exact this
theorem aYD (P:List Pat)(hb:L.length+1+aD ks≤1000000) :
  bD7 fs mn cs L (aQN L fs mn cs o n ks ps (L++ [⟨o,n,.nil,P⟩])) (⟨o,n,(bE ks (L.length+1)).1,P⟩ :: (bE ks (L.length+1)).2) :=by
 cases a:ks with
 | nil=>
  subst a;have l:=bCJ L fs mn cs o n [] ps (L++ [⟨o,n,.nil,P⟩]) ⟨o,n,.nil,P⟩ (by simp) (tC ..) rfl;rw [tD]at l;rw [bE];exact l
 | cons t h=>
  obtain⟨c,d,e,f⟩ :=t;have j:ks[0]?=some (.mk c d e f) :=by rw [a];rfl
  rw [←a];have b: (L++ [(⟨o,n,.nil,P⟩ :ONode)]).length=L.length+1:=by simp
  have q:cB (.mk c d e f) +aD h=aD ks:=by rw [a,aD]
  have g:=ih _ (kN j) (L++ [⟨o,n,.nil,P⟩]) (by rw [b];omega);rw [b]at g;have ep:bE ks (L.length+1) =bE (.mk c d e f::h) (L.length+1) :=by rw [a]
  rw [ep,bE];have i:=bR (.mk c d e f) (L.length+1);generalize eB (.mk c d e f) (L.length+1) =ns at g i ⊢;unfold FPS at g;have k:=bCI L fs mn cs o n ks ps (L++ [(⟨o,n,.nil,P⟩ :ONode)]) c d e f ns (by rw [a];simp) (by omega) (by simpa using j) (oQ (m:=3) (ks:=[0,1,2,3]) g aC aC (aDd ..) (aDd ..));have s: (L++ [(⟨o,n,.nil,P⟩ :ONode)]) ++map Node.o ns=L++ ⟨o,n,.nil,P⟩ ::map Node.o ns:=by simp
  rw [s,b]at k;refine(k.trans (aUI fs mn cs L o n ks ps _ _ (tC L _ _))).ends ?_;refine bCF L fs mn cs o n ks ps _ _ (length L) o n P (by omega) (by simp;omega) (by omega) (by simp) (by simp) (fun p r u=>?_);have:=aNx fs mn cs L o n ks ps hkl ih P h 1 (.slice p r u) ns [((L.length+1:Nat) :Int)] (by rw [a];rfl) rfl (by omega);dsimp only;rw [tD];exact this
end
theorem vN :∀ (a:List Pat),(∀q∈a,bX q≤1000) →bD a≤1000*a.length
 | [],_=>by simp [bD]
 | q::a,h=>by
  have:=vN a (fun x b=>h x (cJ _ b));have:=h q (cN ..);simp only [bD,oI];omega
mutual
theorem aNy (fs:List Int)(mn:Int)(cs:List Con){B:Int}:∀ (t:XT),FineX B t→ (∀L:List ONode,L.length+cB t≤1000000→FPS fs mn cs t L (eB t L.length))
 | .mk o n c a,e=>fun L hb=>by
  simp only [FineX]at e;obtain⟨_,g,f,_,_,d,h⟩ :=e;simp only [cB]at hb;have d:=d.2.1;have b:=vN a f;have b:bD a<1000000:=by omega
  rw [eB];refine⟨(bD6 L fs mn cs o n c a).as.fr,by kernel_rfl,?_⟩;refine(bCH L fs mn cs o n c a a (aM8 a b) (by simp;omega)).ends ?_;exact aYD fs mn cs L o n c a g (aR7 fs mn cs c h) a (by omega)
theorem aR7 (fs:List Int)(mn:Int)(cs:List Con){B:Int}:∀ (b:List XT),FineXs B b→∀t∈b,∀ (M:List ONode),M.length+cB t≤1000000→FPS fs mn cs t M (eB t M.length)
 | [],_,t,a=>by cases a
 | k::b,c,t,a=>by
  simp only [FineXs]at c;rcases zq7.1 a with e|a
  ·rw [e];exact aNy fs mn cs k c.1
  ·exact aR7 fs mn cs b c.2 t a
end
def aQO :List XT→Nat→List Int×List Node:=bE
def bK (ts:List XT)(mn:Int)(cs:List Con) :Prog:= ⟨(aQO ts 0).2,(aQO ts 0).1,mn,cs⟩
theorem aNz (ts:List XT)(mn:Int)(cs:List Con){B:Int}(hl:ts.length≤1000) :∀ (d:List XT) (i:Nat) (a:List Node) (c:List Int),ts.drop i=d→FineXs B d→a.length+aD d≤100000→c.length=i →
  Ends PP 0 (aKT ts mn cs cs (i:Int) (map Node.o a) c).as (.ret (Prog.av ⟨a++ (bE d a.length).2,c++ (bE d a.length).1,mn,cs⟩)) (aA [] 0)
 | [],i,a,c,h,_,_,_=>by
  have:=bL h;have e:=bCO ts mn cs cs (i:Int) (map Node.o a) c a sd rfl (by simp);simp only [bE,tK];exact e
 | .mk k n g o::d,i,a,c,h,j,hb,r=>by
  obtain⟨s,q,t⟩ :=bI h;simp only [FineXs]at j;simp only [aD]at hb;have b: (map Node.o a).length=a.length:=by simp
  have f:=aNy c mn cs _ j.1 (map Node.o a) (by rw [b];omega);rw [b]at f;rw [bE];have l:=bR (.mk k n g o) a.length;generalize eB (.mk k n g o) a.length=p at f l ⊢;unfold FPS at f;have st:=bCN ts mn cs cs (i:Int) (map Node.o a) c k n g o p sd sd sd (oQ (m:=3) (ks:=[1,2,4,3]) f aC aC (aDd ..) (aDd ..)) (by simp;omega) sd;refine st.ends ?_;rw [b,←aG4];have e:=aNz ts mn cs hl d (i+1) (a++p) (c++ [((a.length:Nat) :Int)]) q j.2 (by rw [tI];omega) (by simp [r]);rw [tI]at e;simp only [zq9,List.singleton_append]at e ⊢;exact e
theorem aIr (ts:List XT)(mn:Int)(cs:List Con){B:Int}(hl:ts.length≤1000)(hc:cs.length≤1000000)(b:FineXs B ts)(a:aD ts≤100000) :aM PP 76 [fvA ts mn cs] (Prog.av (bK ts mn cs)) :=by
 refine aK aC (by simp [AV.keylessL,AV.keyless,fvA]) rfl ((bCM ts mn cs cs (aGs cs hc)).ends ?_);have e:=aNz ts mn cs hl ts 0 [] [] rfl b (by simpa using a) rfl;exact e
mutual
theorem pP {B C:Int}(h:B≤C) :∀ {t:XT},FineX B t→FineX C t
 | .mk o n b c,a=>by
  simp only [FineX]at a ⊢;exact⟨fun e=>Int.le_trans (a.1 e) h,a.2.1,a.2.2.1,a.2.2.2.1,a.2.2.2.2.1,a.2.2.2.2.2.1,lC h a.2.2.2.2.2.2⟩
theorem lC {B C:Int}(h:B≤C) :∀ {a:List XT},FineXs B a→FineXs C a
 | [],_=>trivial
 |t::a,b=> ⟨pP h b.1,lC h b.2⟩
end
theorem kL (fr:Int)(ts:List XT) : (dR fr 1 ts).length=ts.length:=by rw [mB];simp
mutual
theorem aR8 {B fr:Int}:∀ {t:XT},FineX B t→FineX (B+1) (rG fr 1 t)
 | .mk o n b c,a=>by
  simp only [rG,FineX]at a ⊢;rw [kL];refine⟨fun e=>?_,a.2.1,a.2.2.1,a.2.2.2.1,a.2.2.2.2.1,a.2.2.2.2.2.1,aGx a.2.2.2.2.2.2⟩;have:=a.1 e;unfold mvN;split<;>omega
theorem aGx {B fr:Int}:∀ {a:List XT},FineXs B a→FineXs (B+1) (dR fr 1 a)
 | [],_=>trivial
 |t::a,b=> ⟨aR8 b.1,aGx b.2⟩
end
mutual
theorem aQP (fr:Int) :∀ (t:XT),cB (rG fr 1 t) =cB t
 | .mk o n a b=>by simp only [rG,cB];rw [aKU fr a]
theorem aKU (fr:Int) :∀ (a:List XT),aD (dR fr 1 a) =aD a
 | [] =>rfl
 |t::a=>by simp only [dR,aD];rw [aQP fr t,aKU fr a]
end
theorem aUK {B:Int}{ts:List XT}{i:Nat}{t:XT}(h:FineXs B ts)(a:FineX B t) :FineXs B (ts.set i t) :=fineXs_iff.2 fun x b=>by
 rcases List.mem_or_eq_of_mem_set b with g|g
 ·exact fineXs_iff.1 h x g
 ·rw [g];exact a
theorem aNA :∀ {ts:List XT} {i:Nat} {t x:XT},ts[i]?=some x→aD (ts.set i t) +cB x=aD ts+cB t
 | [],i,t,x,h=>by simp at h
 |y::ts,0,t,x,h=>by simp at h;subst h;simp only [List.set_cons_zero,aD];omega
 | y::ts,i+1,t,x,h=>by
  have:=aNA (ts:=ts) (i:=i) (t:=t) (x:=x) (by simpa using h);simp only [List.set_cons_succ,aD];omega
theorem bCP :bF 7 2≤2:=by decide
theorem aYE :bF 4 0≤0:=by decide
theorem aGy {B:Int}{a b:XT}(d:FineX B a)(hb:FineX B b) :FineX B (.mk 7 0 [a,b] []) :=by
 simp only [FineX];exact⟨fun e=> (by cases e),by simp,fun q c=> (by cases c),fun e=> (by cases e),fun _=>rfl,⟨bCP,by simp,fun h=>absurd h (by decide),fun q c=> (by cases c)⟩,d,hb,trivial⟩
theorem bCQ {B sz:Int}{k:Nat}{o n:Int}{ks:List XT}{ps:List Pat}{x:XT}(a:FineX B (.mk o n ks ps))(f:ks[k]?=some x)(g:sz≤B+1) :FineX (B+1) (dnT sz k o n ks ps x) ∧cB (dnT sz k o n ks ps x) =cB (.mk o n ks ps) +2:=by
 simp only [FineX]at a;have c:FineXs (B+1) (ks.map (rG sz 1)) :=by rw [←mB];exact aGx a.2.2.2.2.2.2
 have b:FineX (B+1) (.mk 4 sz [] []) :=by
  simp only [FineX];exact⟨fun _=>g,by simp,fun q d=> (by cases d),fun e=> (by cases e),fun e=> (by cases e),⟨aYE,by simp,fun h=>absurd h (by decide),fun q d=> (by cases d)⟩,trivial⟩
 constructor
 · refine aGy (pP (by omega) (fineXs_iff.1 a.2.2.2.2.2.2 x (kN f))) ?_;simp only [FineX,fK,lN];exact⟨fun e=>by have:=a.1 e;omega,a.2.1,a.2.2.1,a.2.2.2.1,a.2.2.2.2.1,a.2.2.2.2.2.1,aUK c b⟩
 · have i: (ks.map (rG sz 1))[k]?=some (rG sz 1 x) :=by rw [pT,f];rfl
   have:=aNA (t:=.mk 4 sz [] []) i;rw [aQP,←mB,aKU,mB]at this;simp only [dnT,cB,aD]at this ⊢;omega
theorem aUL {B sz:Int}:∀ {t:XT} {s:Option Nat},FineX B t→cO t=some s→sz≤B+1→FineX (B+1) (gK sz s t) ∧cB (gK sz s t) ≤cB t+2
 | .mk o n h r,some k,i,d,hz=>by
  obtain⟨x,j⟩ :∃x,h[k]?=some x:=by
   simp only [cO]at d;by_cases g:o=7
   · rw [if_pos g]at d;split at d
     ·split at d<;>cases d
     ·cases d
   · rw [if_neg g]at d;cases f:cU h 0 (bF o h.length)with
     |none=>rw [f]at d;cases d
     | some w=>
      rw [f]at d;cases d;obtain⟨x,j,_⟩ :=aA4 f (rfl:h.drop 0=h);exact⟨x,j⟩
  have:=bCQ i j hz;simp only [gK,rJ j];exact⟨this.1,by rw [this.2];exact Nat.le_refl _⟩
 | .mk o n h r,none,i,d,hz=>by
  have u:=i;simp only [FineX]at i;have q:o=7:=by
   simp only [cO]at d;by_cases g:o=7
   ·exact g
   · rw [if_neg g]at d;cases f:cU h 0 (bF o h.length)with
     |none=>rw [f]at d;cases d
     |some k=>rw [f]at d;cases d
  have hl:=i.2.2.2.2.1 q
  match h,hl,i,d with
  | [.mk p y v z,c],_,i,d=>
   have m:p=7:=by
    simp only [cO,if_pos q,jP,XT.op]at d;by_cases g:p=7
    ·exact g
    ·simp [g]at d
   have e:=i.2.2.2.2.2.2;simp only [FineXs,FineX]at e;have l:=e.1.2.2.2.2.1 m
   match v,l,e with
   | [a,b],_,e=>
    simp only [FineXs]at e;simp only [gK,List.getD_cons_zero,List.getD_cons_succ,XT.kids,neT];refine⟨aGy (pP (by omega) e.1.2.2.2.2.2.2.1) (aGy (pP (by omega) e.1.2.2.2.2.2.2.2.1) (aR8 e.2.1)),?_⟩;simp only [cB,aD,aQP];omega
mutual
theorem aNB {B node:Int}:∀ {t:XT} {k g:Int} {f:XT},FineX B t→0≤g→g+1000* (cB t:Nat) ≤B+1→atT node t k g= .did f→FineX (B+1) f∧cB f≤cB t+2
 | .mk o n l ps,k,g,f,b,p,hz,h=>by
  have j:=b
  have c:∀a,iF node o ps l 0 (k+1) g= .did a→FineX (B+1) (.mk o n a ps) ∧cB (.mk o n a ps) ≤cB (.mk o n l ps) +2:=fun a e=>by
   simp only [FineX]at b ⊢;simp only [cB]at hz ⊢;obtain⟨u,v,q⟩ :=aIs b.2.2.1 b.2.2.2.2.2.2 p (by omega) e;rw [q];exact⟨⟨fun e=>by have:=b.1 e;omega,b.2.1,b.2.2.1,b.2.2.2.1,b.2.2.2.2.1,b.2.2.2.2.2.1,u⟩,by omega⟩
  rw [aA5]at h
  have d:∀r,qH o n ps [] r= .did f→∃a,r= .did a∧f= .mk o n a ps:=fun r hr=>by
   cases r with
   |go m=>cases hr
   |past=>cases hr
   |did a=>simp only [qH,List.nil_append]at hr;cases hr;exact⟨a,rfl,rfl⟩
  cases i:cO (.mk o n l ps)with
  | none=>
   rw [i]at h;obtain⟨a,e,rfl⟩ :=d _ h;exact c a e
  | some s=>
   rw [i]at h;dsimp only at h;split at h
   · cases h;simp only [cB]at hz;exact aUL j i (by omega)
   · split at h
     ·cases h
     · obtain⟨a,e,rfl⟩ :=d _ h;exact c a e
theorem aIs {B node:Int}{o:Int}{ps:List Pat}(f:∀q∈ps,bX q≤1000) :∀ {b:List XT} {i:Nat} {n z:Int} {a:List XT},FineXs B b→0≤z→z+1000+1000* (aD b:Nat) ≤B+1→iF node o ps b i n z= .did a→FineXs (B+1) a∧aD a≤aD b+2∧a.length=b.length
 | [],i,n,z,a,_,_,_,h=>by simp only [iF]at h;cases h
 | t ::b,i,n,z,a,c,j,hz,h=>by
  have s:=mD (o:=o) f (i:Int);simp only [FineXs]at c;simp only [aD]at hz ⊢;simp only [iF]at h;split at h
  · rename_i m e;split at h
    ·cases h
    ·cases h
    · rename_i l g;cases h;obtain⟨d,p,k⟩ :=aIs f c.2 j (by omega) g;exact⟨⟨pP (by omega) c.1,d⟩,by simp only [aD];omega,by simp [k]⟩
  ·cases h
  · rename_i r e;cases h;obtain⟨d,p⟩ :=aNB c.1 (by omega) (by omega) e;exact⟨⟨d,lC (by omega) c.2⟩,by simp only [aD];omega,rfl⟩
end
theorem aGz {B node:Int}:∀ {c:List XT} {n:Int} {a:List XT},FineXs B c→1+1000* (aD c:Nat) ≤B+1→vW node c n= .did a→FineXs (B+1) a∧aD a≤aD c+2
 | [],n,a,_,_,h=>by simp only [vW]at h;cases h
 | t ::c,n,a,b,hz,h=>by
  simp only [FineXs]at b;simp only [aD]at hz ⊢;simp only [vW]at h;split at h
  · split at h
    ·cases h
    ·cases h
    · rename_i g f;cases h;obtain⟨d,i⟩ :=aGz b.2 (by omega) f;exact⟨⟨pP (by omega) b.1,d⟩,by simp only [aD];omega⟩
  ·cases h
  · rename_i j e;cases h;obtain⟨d,i⟩ :=aNB b.1 (by omega) (by omega) e;exact⟨⟨d,lC (by omega) b.2⟩,by simp only [aD];omega⟩
def zeroV :AV:=.agg [.ilst 4 (map Node.av ([] :List Node)) true,.ilst 1 (map cA ([] :List Int)) true,.int .i64 0,.ilst 2 (map Con.av ([] :List Con)) true]
def qM :Prog:= ⟨[],[],0,[]⟩
theorem bCR {E:Emb}{v:Value}(h:VR E zeroV v) :VR E (Prog.av qM) v:=by
 simp only [zeroV,VR]at h;obtain⟨m,rfl,a⟩ :=h;obtain⟨g,i,rfl,b,a⟩ :=a.cons_inv;obtain⟨k,n,rfl,e,a⟩ :=a.cons_inv;obtain⟨j,f,rfl,c,a⟩ :=a.cons_inv;obtain⟨l,o,rfl,d,a⟩ :=a.cons_inv;rw [a.nil_inv];show VR E (.agg [.ilst 4 (map Node.av []) false,.ilst 1 (map cA []) false,.int .i64 0,.ilst 2 (map Con.av []) false]) _;simp only [VR];exact⟨_,rfl,VRs.cons (nB b) (VRs.cons (nB e) (VRs.cons c (VRs.cons (nB d) (VRs.nil _))))⟩
theorem kM {E:Emb}{n:Int}{v:Value}(h:VR E (.tup [zeroV,.int .i64 n]) v) :VR E (.tup [Prog.av qM,.int .i64 n]) v:=by
 simp only [VR]at h ⊢;obtain⟨e,rfl,a⟩ :=h;obtain⟨c,d,rfl,b,a⟩ :=a.cons_inv;exact⟨_,rfl,VRs.cons (bCR b) a⟩
theorem bFr (ts:List XT)(mn:Int)(cs:List Con)(node:Int)(a:List XT)(c:ts.length=a.length) :LeadsM PP 0 (aGq ts mn cs node a).as (aRV ts mn cs node a).as:=by
 have z:=hY (P:=PP) (m:=0) (fr:= (aGq ts mn cs node a).as.fr) (cs:=[]) (h:= (aGq ts mn cs node a).as.h)
  (h1:=aA [(0,(.cells (putCells .leaf 0 [(.ptr 2 0)]) 1 [] false),false),(1,(.cells (putCells .leaf 0 [.nils,.nils,(.int .i64 0),.nils]) 4 [] false),false)] 5)
  (k:=0) (o:=0) (n:=1) (t:=putCells .leaf 0 [(.ptr 2 0)]) (ol:=[]) (sup:=false) (v:=.ptr 2 0) (v':=fvA a mn cs) aC aC aC
  (fun hm=>aBR (k:=2) (q:=3) (z:=4) (n:=ts.length) (mn:=mn) (cs:=cs) (ts:=a) aC aC c aC
   (aU (l:=[(0,(.cells (putCells .leaf 0 [(.ptr 2 0)]) 1 [] false),false),(1,(.cells (putCells .leaf 0 [.nils,.nils,(.int .i64 0),.nils]) 4 [] false),false)]) (nb:=5) (Q:=fun b o=>b∉ [2,4] ∧ (aGq ts mn cs node a).as.h.look b=some o) ⟨⟨by decide,by kernel_rfl⟩,⟨by decide,by kernel_rfl⟩,trivial⟩) hm)
 exact Eq.mp aC z
noncomputable def aD4 (ts:List XT)(mn:Int)(cs:List Con)(node:Int) :Prog×Int:=
 match vW node ts 0 with
 | .did ts'=>if oD 30 cs ts' then(bK ts' mn cs,0)else(qM,3)
 |_=> (qM,7)
theorem bCS {ts:List XT}{mn:Int}{cs:List Con}{node m:Int}(h:vW node ts 0= .go m) :aD4 ts mn cs node= (qM,7) :=by unfold aD4;rw [h]
theorem aUM {ts:List XT}{mn:Int}{cs:List Con}{node:Int}(h:vW node ts 0= .past) :aD4 ts mn cs node= (qM,7) :=by unfold aD4;rw [h]
theorem bCT {ts a:List XT}{mn:Int}{cs:List Con}{node:Int}(h:vW node ts 0= .did a)(hz:oD 30 cs a=false) :aD4 ts mn cs node= (qM,3) :=by unfold aD4;rw [h];simp [hz]
theorem aNC {ts a:List XT}{mn:Int}{cs:List Con}{node:Int}(h:vW node ts 0= .did a)(hz:oD 30 cs a=true) :aD4 ts mn cs node= (bK a mn cs,0) :=by unfold aD4;rw [h];simp [hz]
theorem aUN {ts:List XT}{mn:Int}{cs:List Con}{node:Int}(hl:ts.length≤1000)(hc:cs.length≤1000000)(f:FineXs 500000 ts)(j:aD ts≤400) :
  fC PP 0 (.enter 53 [.ptr 0 0,.int .i64 node]) (aA (FHl ts.length mn cs ts) 3) (.ret (.tup [Prog.av (aD4 ts mn cs node).1,.int .i64 (aD4 ts mn cs node).2])) (aA [] 0) :=by
 refine⟨(bDV ts mn cs node).as.fr,by kernel_rfl,?_⟩;have b:=aRP node 500000 (by omega) ts mn cs hl f (by omega);cases hr:vW node ts 0 with
 | go m=>
  rw [hr]at b;rw [bCS hr];have e:=aRW ts mn cs node (oQ (m:=2) (ks:=[0,1,2]) b aC aC trivial trivial);exact Ends.val (eE (ks:=[]) (l:=[]) (nb:=0) e aC aC aC trivial) (fun E i h=>kM h)
 | past=>
  rw [hr]at b;rw [aUM hr];have e:=aRW ts mn cs node (oQ (m:=2) (ks:=[0,1,2]) b aC aC trivial trivial);exact Ends.val (eE (ks:=[]) (l:=[]) (nb:=0) e aC aC aC trivial) (fun E i h=>kM h)
 | did a=>
  rw [hr]at b;have d:=aCb node ts 0 a hr;obtain⟨g,k⟩ :=aGz f (by omega) hr;have st:= (bCb ts mn cs node a (oQ (m:=2) (ks:=[0,1,2]) b aC aC trivial trivial)).trans (bFr ts mn cs node a d.symm);have c:=aIo a mn cs 30 _ (by omega) g (by omega);cases hz:oD 30 cs a
  case false=>
   rw [hz]at c;rw [bCT hr hz];exact Ends.val (st.ends (bCc ts mn cs node a _ c rfl)) (fun E i h=>kM h)
  rw [hz]at c;rw [aNC hr hz];exact st.ends (bCd ts mn cs node a _ (bK a mn cs) c rfl (aIr a mn cs (by omega) hc g (by omega)))
mutual
theorem bCU {p:Prog}(hp:FineP p) :∀ (t:XT) (a:Int) (f:Nat),IsTree p t a→p.nodes.length-a.toNat≤f→ (pre p f a).length=cB t
 | .mk o n i m,a,f,h,b=>by
  simp only [IsTree]at h;obtain⟨l,nd,d,rfl,rfl,rfl,j⟩ :=h;have e:= (zq0.1 d).1;obtain⟨_,_,hk⟩ :=hp.node _ nd d
  match f,b with
  |0,b=>omega
  | g+1,b=>
   simp only [pre,d,cB,oI];rw [aGA hp i nd.kids g j (fun k c=>by have:=hk k c;omega)]
theorem aGA {p:Prog}(hp:FineP p) :∀ (a:List XT) (l:List Int) (g:Nat),aQ p a l→ (∀k∈l,p.nodes.length-k.toNat≤g) → ((l.map (pre p g)).flatten).length=aD a
 | [],l,g,h,_=>by simp only [aQ]at h;subst h;rfl
 | t::a,l,g,h,hk=>by
  simp only [aQ]at h;obtain⟨k,c,rfl,d,b⟩ :=h;simp only [eK,aDZ,tI,aD];rw [bCU hp t k g d (hk k (cN ..)),aGA hp a c g b (fun x e=>hk x (cJ _ e))]
end
theorem vO {p:Prog}(a:aF p=true)(b:aJ p=true){ts:List XT}(e:aQ p ts p.funs) :aD ts=p.nodes.length:=by
 obtain⟨d,_,_⟩ :=iH a b;obtain⟨_,c,_⟩ :=aGv a b;rw [←c,aGA d ts p.funs p.nodes.length e (fun k _=>by omega)]
theorem yC {p:Prog}(a:aJ p=true) :p.funs≠ [] :=fun e=>by
 simp only [aJ,dX,cM]at a;have h:=a.1.1;simp [e,dY]at h
noncomputable def doX (p:Prog)(ts:List XT)(node:Int) :Prog×Int:=
 if node<0∨node≥ (p.nodes.length:Int)then(qM,2)
 else if aJ p=false then(qM,2)
 else if(cV p).1=false then(qM,7)
 else aD4 ts p.main p.cons node
theorem bCV {p:Prog}(b:aF p=true){ts:List XT}(c:aJ p=true→aQ p ts p.funs)(node:Int) :aM PP 19 [Prog.av p,.int .i64 node] (.tup [Prog.av (doX p ts node).1,.int .i64 (doX p ts node).2]) :=by
 have kl:∀r:Prog×Int,AV.keyless (.tup [Prog.av r.1,.int .i64 r.2]) =true:=fun r=>rfl;refine tH (s:=bDU p node) aC aC rfl (kl _) ?_;unfold doX;have hb:=b;simp only [aF,cM,decide_eq_true_eq]at hb;by_cases l:node<0
 · rw [if_pos (.inl l)];exact Ends.val (bB6 p node sd) (fun E g h=>kM h)
 · by_cases n:node≥ (p.nodes.length:Int)
   · rw [if_pos (.inr n)];exact Ends.val (bB7 p node sd sd) (fun E g h=>kM h)
   · rw [if_neg (by omega)];cases a:aJ p
     case false=>
      rw [if_pos rfl];exact Ends.val (bB9 p node sd sd (oQ (m:=0) (ks:=[]) (aYc b a) aC aC trivial trivial)) (fun E g h=>kM h)
     rw [if_neg (by decide)];cases hc: (cV p).1
     case false=>
      rw [if_pos rfl];exact Ends.val (bB8 p node sd sd (oQ (m:=0) (ks:=[]) (aKD b a hc) aC aC trivial trivial)) (fun E g h=>kM h)
     rw [if_neg (by decide)];have c:=c a;obtain⟨o,_,_⟩ :=iH b a;have k:=vO b a c;have d:=eU c
     have j:ts≠ [] :=fun e=>by
      rw [e]at d;exact yC a (zq35.1 d.symm)
     have i:=lC (show(400:Int) ≤500000 by decide) (qL o (oR a) ts p.funs c);have f:=aUN (mn:=p.main) (cs:=p.cons) (node:=node) (ts:=ts) (by omega) (by omega) i (by omega);generalize aD4 ts p.main p.cons node=r at f ⊢;obtain⟨q,e⟩ :=r;exact bCa p node ts p.main p.cons q e sd sd (oQ (m:=0) (ks:=[]) (aQD b a hc c j) aC aC trivial trivial) (oQ (m:=0) (ks:=[2,3,4]) f aC aC trivial trivial)
abbrev aGB (a:Nat)(b c:Int)(d:List XT)(e:List Pat):=oC a [(nI b),(nI c),(.gl 12 1 0 d.length false),(iP e)]
abbrev aYF (a b:List Int)(c:List (Nat×Nat))(d e:Int)(f:Nat)(g h:Int)(i:List XT)(j:List Pat)(k:List XT):=aA [(0,(.loop .ready none 93 (cE [kp 2 6]) 19 [6] (kd f93 28) (kd f93 29) 2),false),oC 1 [(.ptr 7 0)],(2,(.defd false),false),oC 3 [(.gl 15 1 0 (a++b).length false)],(4,(.loop .ready none 17 (cE [kp 6 3]) 25 [18] (kd f17 500) (kd f17 501) 5),false),(5,(.defd false),false),oC 6 [(.yield 4)],oL 8 1 (map aR c),oC 9 [(nI d),(nI e),(.ep 8 1 f 0)],aGB 10 g h i j,(12,gh,false),(13,(.zone true [10] (dK c (set (map some k) f none) f)),false),oL 15 1 (jI (a++b)),(16,(.zone true [12] (bH i)),false)] 17
abbrev aKV (a:List Int)(b:List (Nat×Nat))(c d:Int)(e:Nat)(f g:Int)(h:List XT)(i:List Pat)(j:List XT):=aA [(0,(.loop .ready none 93 (cE [kp 2 6]) 19 [6] (kd f93 28) (kd f93 29) 2),false),oC 1 [(.ptr 7 0)],(2,(.defd false),false),oC 3 [(.gl 11 1 0 a.length false)],(4,(.loop .ready none 17 (cE [kp 6 3]) 25 [18] (kd f17 500) (kd f17 501) 5),false),(5,(.defd false),false),oC 6 [(.yield 4)],oL 8 1 (map aR b),oC 9 [(nI c),(nI d),(.ep 8 1 e 0)],aGB 10 f g h i,oL 11 1 (jI a),(12,gh,false),(13,(.zone true [10] (dK b (set (map some j) e none) e)),false),(14,(.zone true [12] (bH h)),false)] 15
abbrev aQQ (a:List Int)(b:List (Nat×Nat))(c d:Int)(e:Nat)(f:List XT):=aA [(0,(.loop .busy none 93 (cE [kp 2 6]) 19 [6] (kd f93 28) (kd f93 29) 2),false),oC 1 [(.ptr 7 0)],(2,(.defd false),false),oC 3 [(.gl 11 1 0 a.length false)],(4,(.loop .ready none 17 (cE [kp 6 3]) 25 [18] (kd f17 500) (kd f17 501) 5),false),(5,(.defd false),false),oC 6 [(.yield 4)],oL 8 1 (map aR b),oC 9 [(nI c),(nI d),(.ep 8 1 e 0)],oC 10 [(nI c),(nI d),(.ep 8 1 e 0)],oL 11 1 (jI a),(13,(.zone true [] (ZV b (map some f))),false)] 14
abbrev aDe (a:Nat)(b:Prog):=oC a [(iN b.nodes),(iI b.funs),(nI b.main),(iC b.cons)]
abbrev lD (a:Nat)(b c:Int)(d:Nat):=oC a [(nI b),(nI c),(.ep 8 1 d 0)]
abbrev aA8 (a:Nat)(b:List Int):=oC a [(.gl 11 1 0 b.length false)]
abbrev sD (a:Nat)(b:List (Nat×Nat)):=oL a 1 (map aR b)
def bD8(a:Prog):TS:=cH PP 17 [(Prog.av a)] [] 0
def aKW(i:Prog)(c d:Int)(e:List Con)(a:List XT)(f g:Int)(b:List Int):TS:=⟨(tf 135 26 [(0,(.yield 0)),kp 1 1,(3,(nI f)),(9,(nI c)),(10,(nI g))] [kc f135 28,kl f135 28,.inBlock 0]),[(tf 93 19 [] [.inRF 0,.inBlock 0] (defers:=[.col 2])),(tf 17 25 [(2,.nils),(3,(nI 0)),kp 6 3] [.inRF 4,.inBlock 0,kc f17 63] (defers:=[.col 5]))],[(0,(.loop .ready none 93 (cE [kp 2 6]) 19 [6] (kd f93 28) (kd f93 29) 2),false),oC 1 [(.ptr 7 0)],(2,(.defd false),false),oC 3 [(.gl 8 1 0 b.length false)],(4,(.loop .ready none 17 (cE [kp 6 3]) 25 [18] (kd f17 500) (kd f17 501) 5),false),(5,(.defd false),false),oC 6 [(.yield 4)],oC 7 [(.gl 9 1 0 a.length false),(nI d),(iC e)],oL 8 1 (jI b),(9,gh,false),(10,(.zone true [9] (bH a)),false)],11⟩
def aYG(a:List Int)(b c:Int)(d:List XT)(e:Nat)(f:List (Nat×Nat))(g i:Int)(j:List XT)(k:List Pat):TS:=cH PP 136 [(.agg [(nI b),(nI c),(.ep 8 1 e 0)]),(.yield 0)] [(0,(.loop .ready none 93 (cE [kp 2 6]) 19 [6] (kd f93 28) (kd f93 29) 2),false),oC 1 [(.ptr 7 0)],(2,(.defd false),false),oC 3 [(.gl 9 1 0 a.length false)],(4,(.loop .ready none 17 (cE [kp 6 3]) 25 [18] (kd f17 500) (kd f17 501) 5),false),(5,(.defd false),false),oC 6 [(.yield 4)],(8,gh,false),oL 9 1 (jI a),(10,(.zone true [8] (bH d)),false)] 11
def aKX(d:List Int)(a b:Int)(e:List XT)(c:Nat)(f:List (Nat×Nat))(g i:Int)(j:List XT)(k:List Pat):TS:=⟨(tf 93 19 [kp 2 6,kp 3 9] [kc f93 116,kc f93 117,.inBlock 1] (roundOf:=some 0)),[(tf 136 48 [(1,(.yield 0)),kp 2 10,(4,(nI 0)),(8,(.yield 0)),(9,(.agg [(nI a),(nI b),(.ep 8 1 c 0)]))] [ko f136 12 2,kc f136 13,kc f136 7])],[(0,(.loop .busy none 93 (cE [kp 2 6]) 19 [6] (kd f93 28) (kd f93 29) 2),false),oC 1 [(.ptr 7 0)],(2,(.defd false),false),aA8 3 d,(4,(.loop .ready none 17 (cE [kp 6 3]) 25 [18] (kd f17 500) (kd f17 501) 5),false),(5,(.defd false),false),oC 6 [(.yield 4)],(8,gh,false),lD 9 a b c,lD 10 a b c,oL 11 1 (jI d),(12,(.zone true [8] (bH e)),false)],13⟩
def aCp(d:List Int)(a b:Int)(f:List XT)(c:Nat)(e:List (Nat×Nat))(g i:Int)(j:List XT)(k:List Pat):TS:=⟨(tf 93 19 [kp 2 6,kp 3 9] [kc f93 116,kc f93 117,.inBlock 1] (roundOf:=some 0)),[(tf 136 48 [(1,(.yield 0)),kp 2 10,(4,(nI 0)),(8,(.yield 0)),(9,(.agg [(nI a),(nI b),(.ep 8 1 c 0)]))] [ko f136 12 2,kc f136 13,kc f136 7])],[(0,(.loop .busy none 93 (cE [kp 2 6]) 19 [6] (kd f93 28) (kd f93 29) 2),false),oC 1 [(.ptr 7 0)],(2,(.defd false),false),aA8 3 d,(4,(.loop .ready none 17 (cE [kp 6 3]) 25 [18] (kd f17 500) (kd f17 501) 5),false),(5,(.defd false),false),oC 6 [(.yield 4)],sD 8 e,lD 9 a b c,lD 10 a b c,oL 11 1 (jI d),(13,(.zone true [] (ZV e (map some f))),false)],14⟩
def aCq(i:List Int)(a d:Int)(e:List XT)(f:Nat)(b:List (Nat×Nat))(j k:Int)(l:List XT)(m:List Pat)(g:Nat×Nat)(c:List Int):TS:=⟨(tf 136 48 [(1,(.yield 0)),kp 2 9,(4,(nI 0)),(5,(nI (a+1))),(6,(aR g))] [kc f136 124,kc f136 125,kc f136 63]),[],[(0,(.loop .ready none 93 (cE [kp 2 6]) 19 [6] (kd f93 28) (kd f93 29) 2),false),oC 1 [(.ptr 7 0)],(2,(.defd false),false),oC 3 [(.gl 10 1 0 c.length false)],(4,(.loop .ready none 17 (cE [kp 6 3]) 25 [18] (kd f17 500) (kd f17 501) 5),false),(5,(.defd false),false),oC 6 [(.yield 4)],sD 8 b,lD 9 a d f,oL 10 1 (jI c),(11,(.zone true [] (ZV b (map some e))),false)],12⟩
def aGC(l:List Int)(b f:Int)(g:List XT)(a:Nat)(c:List (Nat×Nat))(i j:Int)(d:List XT)(k:List Pat)(m:Nat×Nat)(e:List Int):TS:=⟨(tf 136 48 [(1,(.yield 0)),kp 2 9,(4,(nI 0)),(5,(nI (b+1))),kp 6 12] [kc f136 124,kc f136 125,kc f136 63]),[],[(0,(.loop .ready none 93 (cE [kp 2 6]) 19 [6] (kd f93 28) (kd f93 29) 2),false),oC 1 [(.ptr 7 0)],(2,(.defd false),false),oC 3 [(.gl 10 1 0 e.length false)],(4,(.loop .ready none 17 (cE [kp 6 3]) 25 [18] (kd f17 500) (kd f17 501) 5),false),(5,(.defd false),false),oC 6 [(.yield 4)],sD 8 c,lD 9 b f a,oL 10 1 (jI e),oC 12 [(nI i),(nI j),(.gl 13 1 0 d.length false),(iP k)],(13,gh,false),(14,(.zone true [13] (bH d)),false),(15,(.zone true [12] (dK c (set (map some g) a none) a)),false)],16⟩
def aEI(n:List Int)(e f:Int)(g:List XT)(a:Nat)(c:List (Nat×Nat))(i j:Int)(b:List XT)(k:List Pat)(d:List Int)(l m:Int):TS:=⟨(tf 136 48 [(1,(.yield 0)),kp 2 9,(4,(nI 0)),(5,(nI l)),kp 6 10,(23,(nI (b.length:Int))),(24,(nI m))] [kc f136 500,kl f136 500,.inBlock 0,kc f136 63]),[],[(0,(.loop .ready none 93 (cE [kp 2 6]) 19 [6] (kd f93 28) (kd f93 29) 2),false),oC 1 [(.ptr 7 0)],(2,(.defd false),false),aA8 3 d,(4,(.loop .ready none 17 (cE [kp 6 3]) 25 [18] (kd f17 500) (kd f17 501) 5),false),(5,(.defd false),false),oC 6 [(.yield 4)],sD 8 c,lD 9 e f a,aGB 10 i j b k,oL 11 1 (jI d),(12,gh,false),(13,(.zone true [10] (dK c (set (map some g) a none) a)),false),(14,(.zone true [12] (bH b)),false)],15⟩
def aQR(a:Prog):=tT 0 (bD8 a)<|.o (gk 9 (.enter 34 [(Prog.av a)]) [aDe 0 a] 1 (.tup [.nilp,(nI 7)]) [aDe 0 a] 1<|.i [rn 20,.nilI 2 1] []<|gE 0 1 (.tup [(.ilst 1 (jI ([] :List Int)) true),(nI 7)]))<|.o (gk 9 (.enter 34 [(Prog.av a)]) [aDe 0 a] 1 (.tup [.nilp,(nI 2)]) [aDe 0 a] 1<|.i [rn 20,.nilI 2 1] []<|gE 0 1 (.tup [(.ilst 1 (jI ([] :List Int)) true),(nI 2)]))<|.y fun b:List XT=>.y fun c:Int=>.y fun d:List Con=>gk 9 (.enter 34 [(Prog.av a)]) [aDe 0 a] 1 (.tup [(.ptr 1 0),(nI 0)]) [aDe 0 a,oC 1 [(.gl 2 1 0 b.length false),(nI c),(iC d)],(2,gh,false),(3,(.zone true [2] (bH b)),false)] 4<|.i [rn 38,.lkeep 7 [6]] []<|.i [rn 23,.lkeep 11 [2]] []<|.i [rn 15,.cnil 4 0 1] []<|gu 0 12 (jI ([] :List Int))<|gv 0 4 0 (.gl 12 1 0 ([] :List Int).length false)<|.W 0 13 [11,9,10,4,7,6,8,1,12,2,3] (aKW a (b.length:Int) c d b 0 0 ([] :List Int))
def bCW:=fun a b=>aQR a|>.1 b tv
def bCX:=fun a b=>aQR a|>.2|>.1 b tv
def bCY:=fun a b c d e=>aQR a|>.2|>.2 b c d e ⟨kk,trivial⟩
def aYH(j:Prog)(g e:Int)(f:List Con)(b:List XT)(k c:Int)(a:List Int):=tT 0 (aKW j g e f b k c a)<|gd 5 11 (c<g) (.i [rn 17,.ans (.ix)] [hA (0≤c),hA (c< (b.length:Int))]<|.y fun d:List Int=>.y fun i:Int=>gk 2 (.enter 136 [(.agg [(nI k),(nI 1),(.ep 9 1 (0+c.toNat) 0)]),(.yield 0)]) [(0,(.loop .ready none 93 (cE [kp 2 6]) 19 [6] (kd f93 28) (kd f93 29) 2),false),oC 1 [(.ptr 7 0)],(2,(.defd false),false),oC 3 [(.gl 8 1 0 a.length false)],(4,(.loop .ready none 17 (cE [kp 6 3]) 25 [18] (kd f17 500) (kd f17 501) 5),false),(5,(.defd false),false),oC 6 [(.yield 4)],oC 7 [(.gl 9 1 0 b.length false),(nI e),(iC f)],oL 8 1 (jI a),(9,gh,false),(10,(.zone true [9] (bH b)),false)] 11 (nI i) [(0,(.loop .ready none 93 (cE [kp 2 6]) 19 [6] (kd f93 28) (kd f93 29) 2),false),oC 1 [(.ptr 7 0)],(2,(.defd false),false),oC 3 [(.gl 11 1 0 (a++d).length false)],(4,(.loop .ready none 17 (cE [kp 6 3]) 25 [18] (kd f17 500) (kd f17 501) 5),false),(5,(.defd false),false),oC 6 [(.yield 4)],oC 7 [(.gl 9 1 0 b.length false),(nI e),(iC f)],(9,gh,false),oL 11 1 (jI (a++d)),(12,(.zone true [9] (bH b)),false)] 13<|gd 7 24 (i<0) (gz 18 2 11 1 cA (a++d) false<|.E 0 13 [12,9] (.tup [(iI (a++d)),(nI 0)]) [(0,(.zone true [1] (bH b)),false),(1,gh,false)] 2)<|gw 5 25 (c+1)<|.W 3 13 [0,1,2,3,4,5,6,7,11,9,12] (aKW j g e f b i (c+1) (a++d)))<|gz 19 2 8 1 cA a false<|.E 0 11 [10,9] (.tup [(iI a),(nI 0)]) [(0,(.zone true [1] (bH b)),false),(1,gh,false)] 2
def bCZ:=fun a b c d e f g i j k l m n o p q=>aYH a b c d e f g i|>.t l m n j k o|>.f p q ⟨kk,trivial⟩
def bC0:=fun a b c d e f g i j=>aYH a b c d e f g i|>.f j tv
def aYI (a:List Int)(b c:Int)(d:List XT)(e:Nat)(f:List (Nat×Nat))(g i:Int)(j:List XT)(k:List Pat):=(tT 9 (aYG a b c d e f g i j k)<|.W 18 13 [12,11,9,10] (aKX a b c d e f g i j k)) ⟨kk,trivial⟩
def aQS(b:List Int)(a e:Int)(g:List XT)(c:Nat)(d:List (Nat×Nat))(i j:Int)(k:List XT)(l:List Pat):=tT 9 (aCp b a e g c d i j k l)<|.y fun f:Nat×Nat=>.i [rn 4,aI (aR f)] [.a (((d)[c]?) =some f) (aZ (f:=aR))]<|.o (.y fun m:Int=>gk 0 (.enter 95 [(aR f)]) [(0,(.loop .busy none 93 (cE [kp 2 6]) 19 [6] (kd f93 28) (kd f93 29) 2),false),oC 1 [(.ptr 7 0)],(2,(.defd false),false),aA8 3 b,(4,(.loop .ready none 17 (cE [kp 6 3]) 25 [18] (kd f17 500) (kd f17 501) 5),false),(5,(.defd false),false),oC 6 [(.yield 4)],sD 8 d,lD 9 a e c,lD 10 a e c,oL 11 1 (jI b),(13,(.zone true [] (ZV d (map some g))),false)] 14 (.iface 193 (nI m)) [(0,(.loop .busy none 93 (cE [kp 2 6]) 19 [6] (kd f93 28) (kd f93 29) 2),false),oC 1 [(.ptr 7 0)],(2,(.defd false),false),aA8 3 b,(4,(.loop .ready none 17 (cE [kp 6 3]) 25 [18] (kd f17 500) (kd f17 501) 5),false),(5,(.defd false),false),oC 6 [(.yield 4)],sD 8 d,lD 9 a e c,lD 10 a e c,oL 11 1 (jI b),(13,(.zone true [] (ZV d (map some g))),false)] 14<|ga 16 cA b [a]<|gw 20 14 (a+1)<|.i [rn 7,aI (aR f)] [.a (((d)[c]?) =some f) (aZ (f:=aR))]<|.W 4 17 [10,16,13] (aCq b a e g c d i j k l f (b++ [a])))<|.o (gk 0 (.enter 95 [(aR f)]) [(0,(.loop .busy none 93 (cE [kp 2 6]) 19 [6] (kd f93 28) (kd f93 29) 2),false),oC 1 [(.ptr 7 0)],(2,(.defd false),false),aA8 3 b,(4,(.loop .ready none 17 (cE [kp 6 3]) 25 [18] (kd f17 500) (kd f17 501) 5),false),(5,(.defd false),false),oC 6 [(.yield 4)],sD 8 d,lD 9 a e c,lD 10 a e c,oL 11 1 (jI b),(13,(.zone true [] (ZV d (map some g))),false)] 14 (.iface 191 (.agg [])) [(0,(.loop .busy none 93 (cE [kp 2 6]) 19 [6] (kd f93 28) (kd f93 29) 2),false),oC 1 [(.ptr 7 0)],(2,(.defd false),false),aA8 3 b,(4,(.loop .ready none 17 (cE [kp 6 3]) 25 [18] (kd f17 500) (kd f17 501) 5),false),(5,(.defd false),false),oC 6 [(.yield 4)],sD 8 d,lD 9 a e c,lD 10 a e c,oL 11 1 (jI b),(13,(.zone true [] (ZV d (map some g))),false)] 14<|ga 16 cA b [a]<|gw 20 14 (a+1)<|.i [rn 7,aI (aR f)] [.a (((d)[c]?) =some f) (aZ (f:=aR))]<|.W 4 17 [10,16,13] (aCq b a e g c d i j k l f (b++ [a])))<|.i [.call .nili (aQQ b d a e c g)] [hA (Spec PP (.enter 95 [(aR f)]) (aQQ b d a e c g) (.ret .nili) (aQQ b d a e c g))]<|gw 21 14 (a+1)<|.i [rn 7,aI (aR f)] [.a (((d)[c]?) =some f) (aZ (f:=aR))]<|.W 4 14 [10,11,13] (aCq b a e g c d i j k l f b)
def aYJ:=fun b c d e f g i j k l m n a o p q=>aQS b c d e f g i j k l m a|>.1 n o p q a ⟨kk,⟨kk,trivial⟩⟩
def aYK:=fun b c d e f g i j k l m a n o p=>aQS b c d e f g i j k l m a|>.2|>.1 n o p a ⟨kk,⟨kk,trivial⟩⟩
def aYL:=fun b c d e f g i j k l m a n o=>aQS b c d e f g i j k l m a|>.2|>.2 n o a ⟨kk,⟨kk,trivial⟩⟩
def aYM (b:List Int)(a c:Int)(d:List XT)(e:Nat)(f:List (Nat×Nat))(g i:Int)(j:List XT)(k:List Pat)(m:Nat×Nat)(l:List Int):=(tT 9 (aGC b a c d e f g i j k m l)<|.W 10 16 [9,12,10,13,15,14] (aEI b a c d e f g i j k l (a+1) 0)) ⟨kk,⟨kk,trivial⟩⟩
def aYN(q:List Int)(k e:Int)(f:List XT)(a:Nat)(c:List (Nat×Nat))(g i:Int)(b:List XT)(j:List Pat)(d:List Int)(o l:Int):=tT 9 (aEI q k e f a c g i b j d o l)<|gd 5 25 (l< (b.length:Int)) (.y fun p:Int=>.y fun m:List Int=>.y fun n:Int=>.i [rn 10,.reg (rd 5 (.call (nI p) (aKV d c k e a g i b j f)::rd 6 [.ans (.ix),.d,.d,.call (nI n) (aYF d m c k e a g i b j f),.d]))] [hA (Spec PP (.enter 178 [(.ptr 10 0),(nI l)]) (aKV d c k e a g i b j f) (.ret (nI p)) (aKV d c k e a g i b j f)),hA (0≤l),hA (l< (b.length:Int)),hA (Spec PP (.enter 136 [(.agg [(nI o),(nI (IntKind.i64.wrap (e+p))),(.ep 12 1 (0+l.toNat) 0)]),(.yield 0)]) (aKV d c k e a g i b j f) (.ret (nI n)) (aYF d m c k e a g i b j f)),hr (AV.gl 12 1 0 b.length false),hr (AV.gl 12 1 0 b.length false),hr (nI e),hr (nI e)]<|gd 5 44 (n<0) (.E 7 17 [15,13,10,12,16] (nI n) [(0,(.loop .ready none 93 (cE [kp 2 6]) 19 [6] (kd f93 28) (kd f93 29) 2),false),oC 1 [(.ptr 7 0)],(2,(.defd false),false),oC 3 [(.gl 9 1 0 (d++m).length false)],(4,(.loop .ready none 17 (cE [kp 6 3]) 25 [18] (kd f17 500) (kd f17 501) 5),false),(5,(.defd false),false),oC 6 [(.yield 4)],sD 8 c,oL 9 1 (jI (d++m)),(10,(.zone true [11] (dK c (set (map some f) a none) a)),false),aGB 11 g i b j,(12,gh,false),(13,(.zone true [12] (bH b)),false)] 14)<|gw 5 46 (l+1)<|.W 3 17 [9,10,15,12,13,16] (aEI q k e f a c g i b j (d++m) n (l+1)))<|.E 8 15 [11,13,10,12,14] (nI o) [(0,(.loop .ready none 93 (cE [kp 2 6]) 19 [6] (kd f93 28) (kd f93 29) 2),false),oC 1 [(.ptr 7 0)],(2,(.defd false),false),oC 3 [(.gl 9 1 0 d.length false)],(4,(.loop .ready none 17 (cE [kp 6 3]) 25 [18] (kd f17 500) (kd f17 501) 5),false),(5,(.defd false),false),oC 6 [(.yield 4)],sD 8 c,oL 9 1 (jI d),(10,(.zone true [11] (dK c (set (map some f) a none) a)),false),aGB 11 g i b j,(12,gh,false),(13,(.zone true [12] (bH b)),false)] 14
def aYO:=fun a b c d e f g i j k l m n o p q r s t u v w x=>aYN a b c d e f g i j k l m n|>.t r o p q s t u v|>.f w x ⟨kk,⟨kk,trivial⟩⟩
def aYP:=fun a b c d e f g i j k l m n o=>aYN a b c d e f g i j k l m n|>.f o ⟨kk,⟨kk,trivial⟩⟩
theorem bC1 (f:List Int)(b e:Int)(xs:List XT)(ix:Nat)(i: (List (Nat×Nat)))(op c:Int)(ks:List XT)(ps:List Pat){d:Res}{hf:Hp}(j:xs≠ [])(k:∀a,a.length=xs.length→Ends PP 9 (aCp f b e xs ix a op c ks ps).as d hf) :Ends PP 9 (aKX f b e xs ix i op c ks ps).as d hf:=
 kS (t:=fun a=> (aCp f b e xs ix a op c ks ps).as) (ok:=fun l=>l.length=xs.length) (sV (h:= (aKX f b e xs ix i op c ks ps).as.h) (h':=fun a=> (aCp f b e xs ix a op c ks ps).as.h) (k:=8) (g:=12) (o:=gh) (ts:=xs) aC rfl aC j (fun _=>Nat.le_refl _) (fun a=> (aU ⟨.inr (.inr ⟨by decide,by kernel_rfl⟩),.inr (.inr ⟨by decide,by kernel_rfl⟩),.inr (.inr ⟨by decide,by kernel_rfl⟩),.inr (.inr ⟨by decide,by kernel_rfl⟩),.inr (.inr ⟨by decide,by kernel_rfl⟩),.inr (.inr ⟨by decide,by kernel_rfl⟩),.inr (.inr ⟨by decide,by kernel_rfl⟩),.inr (.inl ⟨rfl,rfl⟩),.inr (.inr ⟨by decide,by kernel_rfl⟩),.inr (.inr ⟨by decide,by kernel_rfl⟩),.inr (.inr ⟨by decide,by kernel_rfl⟩),.inl ⟨rfl,rfl⟩,trivial⟩))) (fun a=> ⟨by kernel_rfl,by kernel_rfl⟩) k
theorem bC2 (k:List Int)(e f:Int)(xs:List XT)(ix:Nat)(d: (List (Nat×Nat)))(op c:Int)(ks:List XT)(ps:List Pat)(b: (Nat×Nat))(a:List Int)(l:d[ix]?=some b)(m: ((map some xs))[ix]?=some (some (.mk op c ks ps))) :LeadsM PP 9 (aCq k e f xs ix d op c ks ps b a).as (aGC k e f xs ix d op c ks ps b a).as:=
 sZ (j:=6) (v:=aR b) (v':=.ptr 12 0) aC (fun hm=>pM (h:= (aCq k e f xs ix d op c ks ps b a).as.h) (h':= (aGC k e f xs ix d op c ks ps b a).as.h) (g:=11) (us:=d) (ts:= (map some xs)) (i:=ix) (u:=b) (op:=op) (n:=c) (ks:=ks) (ps:=ps) aC l m rfl (aU ⟨.inr (.inr (.inr (.inr ⟨by decide,by kernel_rfl⟩))),.inr (.inr (.inr (.inr ⟨by decide,by kernel_rfl⟩))),.inr (.inr (.inr (.inr ⟨by decide,by kernel_rfl⟩))),.inr (.inr (.inr (.inr ⟨by decide,by kernel_rfl⟩))),.inr (.inr (.inr (.inr ⟨by decide,by kernel_rfl⟩))),.inr (.inr (.inr (.inr ⟨by decide,by kernel_rfl⟩))),.inr (.inr (.inr (.inr ⟨by decide,by kernel_rfl⟩))),.inr (.inr (.inr (.inr ⟨by decide,by kernel_rfl⟩))),.inr (.inr (.inr (.inr ⟨by decide,by kernel_rfl⟩))),.inr (.inr (.inr (.inr ⟨by decide,by kernel_rfl⟩))),.inl ⟨rfl,rfl⟩,.inr (.inl ⟨rfl,rfl⟩),.inr (.inr (.inl ⟨rfl,rfl⟩)),.inr (.inr (.inr (.inl ⟨rfl,rfl⟩))),trivial⟩) hm) aC aC
mutual
def stT :XT→Int→List Int
 | .mk o n ks ps,a=> (if(cO (.mk o n ks ps)).isSome then [a]else []) ++dB ks (a+1)
def dB :List XT→Int→List Int
 | [],_=>[]
 |t::ts,a=>stT t a++dB ts (a+ (cB t:Nat))
end
mutual
theorem aKY :∀ (t:XT) (a:Int),(stT t a).length≤cB t
 | .mk o n b c,a=>by
  have:=aND b (a+1);simp only [stT,cB,tI];split<;>simp<;>omega
theorem aND :∀ (b:List XT) (a:Int),(dB b a).length≤aD b
 | [],a=>by simp [dB]
 | t::b,a=>by
  have:=aKY t a;have:=aND b (a+ (cB t:Nat));simp only [dB,aD,tI];omega
end
abbrev STl (l:List Int)(o8:AObj)(f8:Bool)(tl:HL) :HL:= (0,(.loop .ready none 93 (cE [(2,(.ptr 6 0))]) 19 [6] (cd Tryz.f93 [1,1,0,0]) (cd Tryz.f93 [1,1,0,1]) 2),false) :: (1,(.cells (putCells .leaf 0 [(.ptr 7 0)]) 1 [] false),false) :: (2,(.defd false),false) :: (3,(.cells (putCells .leaf 0 [(.gl 9 1 0 (length l) false)]) 1 [] false),false) :: (4,(.loop .ready none 17 (cE [(6,(.ptr 3 0))]) 25 [18] (cd Tryz.f17 [1,1,1,1,0,1,0,0]) (cd Tryz.f17 [1,1,1,1,0,1,0,1]) 5),false) :: (5,(.defd false),false) :: (6,(.cells (putCells .leaf 0 [(.yield 4)]) 1 [] false),false) :: (8,o8,f8) :: (9,(.lst 1 (map cA l)),true) ::tl
abbrev STr (l:List Int)(xs:List XT) :HL:=STl l gh false [(10,(.zone true [8] (bH xs)),false)]
theorem aGD (l:List Int)(xs:List XT) :eX (STr l xs) := ⟨aH _ (fun _=>rfl) _,trivial⟩
theorem aYQ {s:AS}{n:Int}{l:List Int}{a:List (Nat×Nat)}{xs:List XT}{ix:Nat}{op c:Int}{ks:List XT}{ps:List Pat}(f:xs[ix]?=some (.mk op c ks ps))
  (e:Ends PP 9 s (.ret (.int .i64 n)) (aA (STl l (.lst 1 (map aR a)) true [(10,(.zone true [11] (dK a (set (map some xs) ix none) ix)),false),(11,(.cells (putCells .leaf 0 [(.int .i64 op),(.int .i64 c),(.gl 12 1 0 (length ks) false),(.ilst 4 (av ps) false)]) 4 [] false),false),(12,gh,false),(13,(.zone true [12] (bH ks)),false)]) 14)) :
  Ends PP 9 s (.ret (.int .i64 n)) (aA (STr l xs) 11) :=by
 have d: (map some xs)[ix]?=some (some (.mk op c ks ps)) :=by rw [pT,f];rfl
 have j:jJ (aA (STl l (.lst 1 (map aR a)) true [(10,(.zone true [11] (dK a (set (map some xs) ix none) ix)),false),(11,(.cells (putCells .leaf 0 [(.int .i64 op),(.int .i64 c),(.gl 12 1 0 (length ks) false),(.ilst 4 (av ps) false)]) 4 [] false),false),(12,gh,false),(13,(.zone true [12] (bH ks)),false)]) 14) (aA (STl l (.lst 1 (map aR a)) true [(14,(.zone true [] (ZV a (map some xs))),false)]) 15) :=by
  refine aAS (h:=aA (STl l (.lst 1 (map aR a)) true [(10,(.zone true [11] (dK a (set (map some xs) ix none) ix)),false),(11,(.cells (putCells .leaf 0 [(.int .i64 op),(.int .i64 c),(.gl 12 1 0 (length ks) false),(.ilst 4 (av ps) false)]) 4 [] false),false),(12,gh,false),(13,(.zone true [12] (bH ks)),false)]) 14) (h':=aA (STl l (.lst 1 (map aR a)) true [(14,(.zone true [] (ZV a (map some xs))),false)]) 15)
   (b:=11) (k:=12) (gk:=13) (g:=10) (us:=a) (ts:=set (map some xs) ix none) (i:=ix) (op:=op) (n:=c) (ks:=ks) (ps:=ps) (len:=ks.length) (ex:=false) (pv:=.ilst 4 (av ps) false) aC rfl (fun _ _ h=>h) aC aC (by decide) (Nat.le_refl _) ?_
  rw [aNa d];exact aU ⟨.inr ⟨by decide,by kernel_rfl⟩,.inr ⟨by decide,by kernel_rfl⟩,.inr ⟨by decide,by kernel_rfl⟩,.inr ⟨by decide,by kernel_rfl⟩,.inr ⟨by decide,by kernel_rfl⟩,.inr ⟨by decide,by kernel_rfl⟩,.inr ⟨by decide,by kernel_rfl⟩,.inr ⟨by decide,by kernel_rfl⟩,.inr ⟨by decide,by kernel_rfl⟩,.inl ⟨rfl,rfl⟩,trivial⟩
 have m:jJ (aA (STl l (.lst 1 (map aR a)) true [(14,(.zone true [] (ZV a (map some xs))),false)]) 15) (aA (STl l gh false [(15,(.zone true [8] (bH xs)),false)]) 16) :=
  yY (h:=aA (STl l (.lst 1 (map aR a)) true [(14,(.zone true [] (ZV a (map some xs))),false)]) 15) (h':=aA (STl l gh false [(15,(.zone true [8] (bH xs)),false)]) 16) (k:=8) (g:=14) (us:=a) (ts:=xs) aC aC (zP f) (Nat.le_refl _)
   (aU ⟨.inr (.inr ⟨by decide,by decide,by kernel_rfl⟩),.inr (.inr ⟨by decide,by decide,by kernel_rfl⟩),.inr (.inr ⟨by decide,by decide,by kernel_rfl⟩),.inr (.inr ⟨by decide,by decide,by kernel_rfl⟩),.inr (.inr ⟨by decide,by decide,by kernel_rfl⟩),.inr (.inr ⟨by decide,by decide,by kernel_rfl⟩),.inr (.inr ⟨by decide,by decide,by kernel_rfl⟩),.inl ⟨rfl,rfl⟩,.inr (.inr ⟨by decide,by decide,by kernel_rfl⟩),.inr (.inl ⟨rfl,rfl⟩),trivial⟩)
 exact eE (ks:=[9,15]) (nS (nS e j (show 9≤14 by decide)) m (show 9≤15 by decide)) aC aC aC (aGD _ _)
section
variable (B :Int)
mutual
theorem aNE :∀ (t:XT),FineX B t→∀ (c:List XT) (ix:Nat) (l:List Int) (a d:Int),c[ix]?=some t→l.length+cB t≤100000→0≤a→a+ (cB t:Nat) ≤1000000→0≤d→d+1000* (cB t:Nat) ≤1000000000 →
  fC PP 9 (.enter 136 [.agg [.int .i64 a,.int .i64 d,.ep 8 1 ix 0],.yield 0]) (aA (STr l c) 11) (.ret (.int .i64 (a+ (cB t:Nat)))) (aA (STr (l++stT t a) c) 11)
 | .mk o n b f,x,c,ix,l,a,d,v,hl,N,J,M,I=>by
  have y:=x;simp only [FineX]at x;obtain⟨_,H,K,G,O,Q,F⟩ :=x;simp only [cB]at J I hl;have u: (map some c)[ix]?=some (some (.mk o n b f)) :=by rw [pT,v];rfl
  refine⟨(aYG l a d c ix [] o n b f).as.fr,by kernel_rfl,?_⟩;refine(aYI l a d c ix [] o n b f).ends (bC1 l a d c ix [] o n b f (zP v) fun i z=>?_);obtain⟨j,h⟩ :=eA z (zq0.1 v).1;have m:∀ {l C g},(aA l C).look g=some (.zone true [] (ZV i (c.map some))) →Spec PP (.enter 95 [aR j]) (aA l C) (.ret (aNf (cO (.mk o n b f)))) (aA l C) :=fun L=>zO L h u y;have A:=fun p (hl':p.length+aD b≤100000) =>aNF c ix l a d o n b f i v H K G M b 0 (a+1) p rfl F hl' (by omega) (by omega) (by omega);have w:=fun p=> (bC2 l a d c ix i o n b f j p h u).trans (aYM l a d c ix i o n b f j p);rw [show a+ ((cB (.mk o n b f) :Nat) :Int) =a+1+ ((aD b:Nat) :Int)by simp only [cB];omega];simp only [stT];rw [←zq9];cases D:cO (.mk o n b f)with
  | none=>
   rw [D]at m;have e:= ((aYL l a d c ix i o n b f j h (m (g:=13) aC) sd).trans (w l)).ends (A l (by omega));simpa using e
  | some s=>
   rw [D]at m;have r: (l++ [a]).length≤1000000:=by simp;omega
   have q: (l++ [a]).length+aD b≤100000:=by simp;omega
   cases s with
   | none=>
    have e:= ((aYK l a d c ix i o n b f j h (m (g:=13) aC) r sd).trans (w (l++ [a]))).ends (A (l++ [a]) q);simpa using e
   | some k=>
    have e:= ((aYJ l a d c ix i o n b f j (k:Int) h (m (g:=13) aC) r sd).trans (w (l++ [a]))).ends (A (l++ [a]) q);simpa using e
theorem aNF (xs:List XT)(ix:Nat)(d:List Int)(f c:Int)(o n:Int)(ks:List XT)(ps:List Pat)(g:List (Nat×Nat))(u:xs[ix]?=some (.mk o n ks ps))(D:ks.length≤1000)(s:∀q∈ps,bX q≤1000)(v:o=15→ks.length=1+ps.length)(h2:0≤c) :
  ∀ (b:List XT) (i:Nat) (a:Int) (l:List Int),ks.drop i=b→FineXs B b→l.length+aD b≤100000→0≤a→a+ (aD b:Nat) ≤1000000→c+1000+1000* (aD b:Nat) ≤1000000000 →
  Ends PP 9 (aEI d f c xs ix g o n ks ps l a (i:Int)).as (.ret (.int .i64 (a+ (aD b:Nat)))) (aA (STr (l++dB b a) xs) 11)
 | [],i,a,l,h,_,_,_,_,_=>by
  have:=bL h;have e:=aYQ u (aYP d f c xs ix g o n ks ps l a (i:Int) sd);simp only [dB,aD,tK];rw [show a+ ((0:Nat) :Int) =a by omega];exact e
 | t::b,i,a,l,h,k,hl,C,z,G=>by
  obtain⟨w,y,J⟩ :=bI h;simp only [FineXs]at k;simp only [aD]at hl z G ⊢;have H:=mD (o:=o) s (i:Int);have F:IntKind.i64.wrap (c+bJ o ps (i:Int)) =c+bJ o ps (i:Int) :=wrap64 (by omega) (by omega);have r:0+ ((i:Nat) :Int).toNat=i:=by rw [oY];omega
  have A:o=15→0< (i:Int) →∃q,ps[((i:Int) -1).toNat]?=some q:=fun j I=>by
   have:=v j;exact⟨_,kF (by omega)⟩
  have p:=aRK o n ks ps s (i:Int) ⟨by omega,by omega⟩ A;have hb:=aNE t k.1 ks i l a (c+bJ o ps (i:Int)) w (by omega) C (by omega) (by omega) (by omega);have x:=aKY t a
  refine(aYO d f c xs ix g o n ks ps l a (i:Int) (bJ o ps (i:Int)) (stT t a) (a+ (cB t:Nat)) sd (oQ (m:=2) (ks:=[10,12]) p aC aC trivial trivial) sd sd
   (aM9 F r (oQ (m:=9) (ks:=[0,1,2,3,4,5,6,7,12,11,14]) hb aC aC (aGD _ _) (aGD _ _))) (by simp;omega) sd).ends ?_
  have e:=aNF xs ix d f c o n ks ps g u D s v h2 b (i+1) (a+ (cB t:Nat)) (l++stT t a) y k.2 (by rw [tI];omega) (by omega) (by omega) (by omega);simp only [dB];rw [←zq9,show a+ ((cB t+aD b:Nat) :Int) =a+ (cB t:Nat) + ((aD b:Nat) :Int)by omega];exact e
end
theorem aGE (p:Prog)(mn:Int)(cs:List Con)(ts:List XT)(hl:ts.length≤1000) :∀ (a:List XT) (i:Nat) (n:Int) (l:List Int),ts.drop i=a→FineXs B a→l.length+aD a≤100000→0≤n→n+ (aD a:Nat) ≤100000 →
  Ends PP 0 (aKW p ((ts.length:Nat) :Int) mn cs ts n (i:Int) l).as (.ret (.tup [.ilst 1 (map cA (l++dB a n)) false,.int .i64 0])) (aA [] 0)
 | [],i,n,l,h,_,_,_,_=>by
  have:=bL h;simp only [dB,tK];have e:=bC0 p ((ts.length:Nat) :Int) mn cs ts n (i:Int) l sd;exact eE (ks:=[]) (l:=[]) (nb:=0) e aC aC aC trivial
 | t::a,i,n,l,h,b,d,g,o=>by
  obtain⟨f,k,q⟩ :=bI h;simp only [FineXs]at b;simp only [aD]at d o;have c:0+ ((i:Nat) :Int).toNat=i:=by rw [oY];omega
  have hb:=aNE B t b.1 ts i l n 1 f (by omega) g (by omega) (by omega) (by omega);have j:=aKY t n
  refine(bCZ p _ mn cs ts n (i:Int) l (stT t n) (n+ (cB t:Nat)) sd sd sd
   (aM9 rfl c (oQ (m:=9) (ks:=[0,1,2,3,4,5,6,7,9,8,10]) hb aC aC (aGD _ _) (aGD _ _))) (by simp;omega) sd).ends ?_
  have e:=aGE p mn cs ts hl a (i+1) (n+ (cB t:Nat)) (l++stT t n) k b.2 (by rw [tI];omega) (by omega) (by omega);simp only [dB];rw [←zq9];exact e
end
noncomputable def aKZ (p:Prog)(ts:List XT) :List Int×Int:=
 if aJ p=false then([],2)else if(cV p).1=false then([],7)else(dB ts 0,0)
theorem aDW {E:Emb}{e:Nat}{xs:List AV}{n:AV}{v:Value}(h:VR E (.tup [.ilst e xs true,n]) v) :VR E (.tup [.ilst e xs false,n]) v:=bFk h
theorem aQT {p:Prog}(b:aF p=true){ts:List XT}(c:aJ p=true→aQ p ts p.funs) :aM PP 17 [Prog.av p] (.tup [.ilst 1 (map cA (aKZ p ts).1) false,.int .i64 (aKZ p ts).2]) :=by
 refine tH (s:=bD8 p) aC aC rfl (by rfl) ?_;unfold aKZ;have hb:=b;simp only [aF,cM,decide_eq_true_eq]at hb;cases a:aJ p
 case false=>
  rw [if_pos rfl];exact Ends.val (bCX p (oQ (m:=0) (ks:=[]) (aYc b a) aC aC trivial trivial)) (fun E j h=>aDW h)
 rw [if_neg (by decide)];cases hc: (cV p).1
 case false=>
  rw [if_pos rfl];exact Ends.val (bCW p (oQ (m:=0) (ks:=[]) (aKD b a hc) aC aC trivial trivial)) (fun E j h=>aDW h)
 rw [if_neg (by decide)];have c:=c a;obtain⟨k,_,_⟩ :=iH b a;have i:=vO b a c;have d:=eU c
 have g:ts≠ [] :=fun e=>by
  rw [e]at d;exact yC a (zq35.1 d.symm)
 have f:=qL k (oR a) ts p.funs c;refine(bCY p ts p.main p.cons (oQ (m:=0) (ks:=[]) (aQD b a hc c g) aC aC trivial trivial)).ends ?_;exact aGE 400 p p.main p.cons ts (by omega) ts 0 0 [] rfl f (by simp;omega) (by omega) (by omega)
end
end Go.Hb
