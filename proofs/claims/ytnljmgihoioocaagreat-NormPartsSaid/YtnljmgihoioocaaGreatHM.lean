/- A machine on abstract values, its soundness, ways, plain laws. -/
import Derived.Test.YtnljmgihoioocaaGreatHF
import Derived.Test.YtnljmgihoioocaaGreatHG
import Derived.Test.YtnljmgihoioocaaGreatHH
import Derived.Test.YtnljmgihoioocaaGreatHK
import Derived.Test.YtnljmgihoioocaaGreatHL
set_option linter.defProp false
set_option linter.unusedVariables false
set_option linter.unusedSimpArgs false
set_option linter.unusedSectionVars false
set_option maxRecDepth 100000
set_option maxHeartbeats 1000000
namespace Go.Hb
open List (length map)
open Go.Proofs Tryz
noncomputable section
mutual
def eM :XT→Nat→List Node
 | .mk o n ks ps,a=> ⟨o,n,(aW ks (a+1)).1,ps⟩ :: (aW ks (a+1)).2
def aW :List XT→Nat→List Int×List Node
 | [],_=> ([],[])
 |t::ts,a=> (((a:Nat) :Int) :: (aW ts (a+ (eM t a).length)).1,eM t a++ (aW ts (a+ (eM t a).length)).2)
end
mutual
theorem bM :∀ (t:XT) (a:Nat),(eM t a).length=cK t
 | .mk o n b c,a=>by rw [eM,cK,oK,tQ b (a+1)]
theorem tQ :∀ (b:List XT) (a:Nat),(aW b a).2.length=aD b
 | [],a=>by rw [aW,aD];rfl
 |t::b,a=>by rw [aW,aD,wT,bM t _,tQ b _]
end
abbrev PHc (b n:Nat)(r k:Nat)(mn:Int)(cs:List Con) :AObj:=.cells (putCells .leaf 0 [.gl b 4 0 n false,.gl r 1 0 k false,.int .i64 mn,.ilst 2 (map Con.av cs) false]) 4 [] false
abbrev PBl (fs:List Int)(mn:Int)(cs:List Con)(L:List ONode) :HL:=[(0,PHc 3 (length L) 2 (length fs) mn cs,false),(1,.cells (putCells .leaf 0 [.func 119 [] [.ptr 0 0,.ptr 1 0]]) 1 [] false,false),(2,.lst 1 (map bU fs),true),(3,OL L,true)]
def FPS (fs:List Int)(mn:Int)(cs:List Con)(t:XT)(L:List ONode)(ns:List Node) :Prop:=
 gI PP 3 (.enter 119 [XT.av t,.ptr 0 0,.ptr 1 0]) (aA (PBl fs mn cs L) 4) (.ret (.int .i64 ((length L:Nat) :Int))) (aA (PBl fs mn cs (L++map Node.o ns)) 4)
def bFx (fs:List Int)(mn:Int)(cs:List Con)(L:List ONode)(s:TS)(ns:List Node) :Prop:=Ends PP 3 s.as (.ret (.int .i64 ((length L:Nat) :Int))) (aA (PBl fs mn cs (L++map Node.o ns)) 4)
theorem aDC (fs:List Int)(mn:Int)(cs:List Con)(L:List ONode) :fJ (PBl fs mn cs L) := ⟨aG _ (fun _=>rfl) _,aYW L,trivial⟩
section
variable (fs :List Int) (mn:Int) (cs:List Con) (L:List ONode) (o n:Int) (ks:List XT) (ps:List Pat)
theorem aVP (c:Int)(l:List ONode){ix:Nat}{a b:Int}{Q:List Pat}(h:l[ix]?=some ⟨a,b,.nil,Q⟩) :LeadsM PP 3 (aZs L fs mn cs o n ks ps c l).as (aS9 L fs mn cs o n ks ps c l ix a b Q).as:=
 bGW (k:=3) (e0:=4) (e:=1) aC aC (bFn (f:=ONode.av) [.int .i64 a,.int .i64 b] [.ilst 4 (Pats.av Q) false] h rfl) aC
theorem aVQ (c:Int)(l:List ONode)(d:List Int)(u:Value)(i:Int){ix:Nat}{a b:Int}{Q:List Pat}(h:l[ix]?=some ⟨a,b,.val u,Q⟩) :LeadsM PP 3 (aZt L fs mn cs o n ks ps c l d u i).as (aTa L fs mn cs o n ks ps c l d i ix a b Q).as:=
 bDs (k:=3) (b:=4) (e0:=4) (e:=1) (u:=u) (xs:=map bU d) (n:=length d) aC aC (by decide) (hJ ..) (bFn (f:=ONode.av) [.int .i64 a,.int .i64 b] [.ilst 4 (Pats.av Q) false] h rfl) aC
variable (hkl :ks.length≤1000) (ih:∀t∈ks,∀ (M:List ONode),M.length+cK t≤1000000→FPS fs mn cs t M (eM t M.length))
include hkl ih
theorem aOz (P:List Pat) :∀ (d:List XT) (i:Nat) (u:Value) (a:List Node) (c:List Int),ks.drop i=d→c.length=i→L.length+1+a.length+aD d≤1000000 →
  bFx fs mn cs L (aDB L fs mn cs o n ks ps (L++ ⟨o,n,.val u,P⟩ ::map Node.o a) c u (i:Int)) (⟨o,n,c++ (aW d (L.length+1+a.length)).1,P⟩ :: (a++ (aW d (L.length+1+a.length)).2))
 | [],i,u,a,c,h,hk,_=>by
  have:=bJ h;have r:=bDO L fs mn cs o n ks ps (L++ ⟨o,n,.val u,P⟩ ::map Node.o a) c u i ⟨o,n,.val u,P⟩ sd (tN ..) rfl;rw [tO]at r;rw [aW];simp only [oS];exact r
 | .mk k j p g::d,i,u,a,c,h,hk,hb=>by
  obtain⟨s,y,z⟩ :=bE h;simp only [aD]at hb;have b: (L++ (⟨o,n,.val u,P⟩ :ONode) ::map Node.o a).length=L.length+1+a.length:=by simp;omega
  have e:=ih _ (iO s) (L++ ⟨o,n,.val u,P⟩ ::map Node.o a) (by rw [b];omega);rw [b]at e;rw [aW];have l:=bM (.mk k j p g) (L.length+1+a.length);generalize eM (.mk k j p g) (L.length+1+a.length) =f at e l ⊢;unfold FPS at e;have q:=bDN L fs mn cs o n ks ps (L++ ⟨o,n,.val u,P⟩ ::map Node.o a) c u i k j p g f sd sd sd (wP (m:=3) (ks:=[0,1,2,3]) e aC aC (aDC ..) (aDC ..));have x: (L++ (⟨o,n,.val u,P⟩ :ONode) ::map Node.o a) ++map Node.o f=L++ ⟨o,n,.val u,P⟩ ::map Node.o (a++f) :=by simp
  rw [x,b]at q;refine(q.trans (aVQ fs mn cs L o n ks ps _ _ c u i (tN L _ _))).ends ?_;refine bDJ L fs mn cs o n ks ps _ _ c i (length L) o n P (by omega) (by simp;omega) (by omega) (by simp) (by simp;omega) sd (fun w t v=>?_);have:=aOz P d (i+1) (.slice w t v) (a++f) (c++ [((L.length+1+a.length:Nat) :Int)]) y (by simp [hk]) (by simp;omega);dsimp only;rw [tO];rw [wT,←Nat.add_assoc]at this;simp only [zq9,List.singleton_append]at this ⊢;exact this
theorem aZx (P:List Pat)(hb:L.length+1+aD ks≤1000000) :
  bFx fs mn cs L (aRG L fs mn cs o n ks ps (L++ [⟨o,n,.nil,P⟩])) (⟨o,n,(aW ks (L.length+1)).1,P⟩ :: (aW ks (L.length+1)).2) :=by
 cases a:ks with
 | nil=>
  subst a;have l:=bDM L fs mn cs o n [] ps (L++ [⟨o,n,.nil,P⟩]) ⟨o,n,.nil,P⟩ (by simp) (tN ..) rfl;rw [tO]at l;rw [aW];exact l
 | cons t h=>
  obtain⟨e,d,f,c⟩ :=t;have k:ks[0]?=some (.mk e d f c) :=by rw [a];rfl
  rw [←a];have b: (L++ [(⟨o,n,.nil,P⟩ :ONode)]).length=L.length+1:=by simp
  have p:cK (.mk e d f c) +aD h=aD ks:=by rw [a,aD]
  have g:=ih _ (iO k) (L++ [⟨o,n,.nil,P⟩]) (by rw [b];omega);rw [b]at g;have ep:aW ks (L.length+1) =aW (.mk e d f c::h) (L.length+1) :=by rw [a]
  rw [ep,aW];have i:=bM (.mk e d f c) (L.length+1);generalize eM (.mk e d f c) (L.length+1) =ns at g i ⊢;unfold FPS at g;have j:=bDL L fs mn cs o n ks ps (L++ [(⟨o,n,.nil,P⟩ :ONode)]) e d f c ns (by rw [a];simp) (by omega) (by simpa using k) (wP (m:=3) (ks:=[0,1,2,3]) g aC aC (aDC ..) (aDC ..));have u: (L++ [(⟨o,n,.nil,P⟩ :ONode)]) ++map Node.o ns=L++ ⟨o,n,.nil,P⟩ ::map Node.o ns:=by simp
  rw [u,b]at j;refine(j.trans (aVP fs mn cs L o n ks ps _ _ (tN L _ _))).ends ?_;refine bDI L fs mn cs o n ks ps _ _ (length L) o n P (by omega) (by simp;omega) (by omega) (by simp) (by simp) (fun s q r=>?_);have:=aOz fs mn cs L o n ks ps hkl ih P h 1 (.slice s q r) ns [((L.length+1:Nat) :Int)] (by rw [a];rfl) rfl (by omega);dsimp only;rw [tO];exact this
end
theorem wE :∀ (a:List Pat),(∀q∈a,cB q≤1000) →aT a≤1000*a.length
 | [],_=>by simp [aT]
 | q::a,h=>by
  have:=wE a (fun x b=>h x (eD _ b));have:=h q (dT ..);simp only [aT,oK];omega
mutual
theorem aOA (fs:List Int)(mn:Int)(cs:List Con){B:Int}:∀ (t:XT),FineX B t→ (∀L:List ONode,L.length+cK t≤1000000→FPS fs mn cs t L (eM t L.length))
 | .mk o n c a,e=>fun L hb=>by
  simp only [FineX]at e;obtain⟨_,g,f,_,_,d,h⟩ :=e;simp only [cK]at hb;have d:=d.2.1;have b:=wE a f;have b:aT a<1000000:=by omega
  rw [eM];refine⟨(bFw L fs mn cs o n c a).as.fr,by kernel_rfl,?_⟩;refine(bDK L fs mn cs o n c a a (aOc a b) (by simp;omega)).ends ?_;exact aZx fs mn cs L o n c a g (aTb fs mn cs c h) a (by omega)
theorem aTb (fs:List Int)(mn:Int)(cs:List Con){B:Int}:∀ (b:List XT),FineXs B b→∀t∈b,∀ (M:List ONode),M.length+cK t≤1000000→FPS fs mn cs t M (eM t M.length)
 | [],_,t,a=>by cases a
 | k::b,c,t,a=>by
  simp only [FineXs]at c;rcases zq7.1 a with e|a
  ·rw [e];exact aOA fs mn cs k c.1
  ·exact aTb fs mn cs b c.2 t a
end
def aVR :List XT→Nat→List Int×List Node:=aW
def dU (ts:List XT)(mn:Int)(cs:List Con) :Prog:= ⟨(aVR ts 0).2,(aVR ts 0).1,mn,cs⟩
theorem aOB (ts:List XT)(mn:Int)(cs:List Con){B:Int}(hl:ts.length≤1000) :∀ (d:List XT) (i:Nat) (a:List Node) (c:List Int),ts.drop i=d→FineXs B d→a.length+aD d≤100000→c.length=i →
  Ends PP 0 (aLJ ts mn cs cs (i:Int) (map Node.o a) c).as (.ret (Prog.av ⟨a++ (aW d a.length).2,c++ (aW d a.length).1,mn,cs⟩)) (aA [] 0)
 | [],i,a,c,h,_,_,_=>by
  have:=bJ h;have e:=bDR ts mn cs cs (i:Int) (map Node.o a) c a sd rfl (by simp);simp only [aW,oS];exact e
 | .mk o k l j::d,i,a,c,h,n,hb,q=>by
  obtain⟨t,r,s⟩ :=bE h;simp only [FineXs]at n;simp only [aD]at hb;have b: (map Node.o a).length=a.length:=by simp
  have f:=aOA c mn cs _ n.1 (map Node.o a) (by rw [b];omega);rw [b]at f;rw [aW];have g:=bM (.mk o k l j) a.length;generalize eM (.mk o k l j) a.length=p at f g ⊢;unfold FPS at f;have st:=bDQ ts mn cs cs (i:Int) (map Node.o a) c o k l j p sd sd sd (wP (m:=3) (ks:=[1,2,4,3]) f aC aC (aDC ..) (aDC ..)) (by simp;omega) sd;refine st.ends ?_;rw [b,←wX];have e:=aOB ts mn cs hl d (i+1) (a++p) (c++ [((a.length:Nat) :Int)]) r n.2 (by rw [wT];omega) (by simp [q]);rw [wT]at e;simp only [zq9,List.singleton_append]at e ⊢;exact e
theorem aVS (ts:List XT)(mn:Int)(cs:List Con){B:Int}(hl:ts.length≤1000)(hc:cs.length≤1000000)(b:FineXs B ts)(a:aD ts≤100000) :aJ PP 76 [fvA ts mn cs] (Prog.av (dU ts mn cs)) :=by
 refine aO aC (by simp [AV.keylessL,AV.keyless,fvA]) rfl ((bDP ts mn cs cs (aG7 cs hc)).ends ?_);have e:=aOB ts mn cs hl ts 0 [] [] rfl b (by simpa using a) rfl;exact e
mutual
theorem pV {B C:Int}(h:B≤C) :∀ {t:XT},FineX B t→FineX C t
 | .mk o n c b,a=>by
  simp only [FineX]at a ⊢;exact⟨fun e=>Int.le_trans (a.1 e) h,a.2.1,a.2.2.1,a.2.2.2.1,a.2.2.2.2.1,a.2.2.2.2.2.1,nP h a.2.2.2.2.2.2⟩
theorem nP {B C:Int}(h:B≤C) :∀ {a:List XT},FineXs B a→FineXs C a
 | [],_=>trivial
 |t::a,b=> ⟨pV h b.1,nP h b.2⟩
end
theorem kW (fr:Int)(ts:List XT) : (dS fr 1 ts).length=ts.length:=by rw [mL];simp
mutual
theorem aTc {B fr:Int}:∀ {t:XT},FineX B t→FineX (B+1) (rS fr 1 t)
 | .mk o n c b,a=>by
  simp only [rS,FineX]at a ⊢;rw [kW];refine⟨fun e=>?_,a.2.1,a.2.2.1,a.2.2.2.1,a.2.2.2.2.1,a.2.2.2.2.2.1,aHf a.2.2.2.2.2.2⟩;have:=a.1 e;unfold mvN;split<;>omega
theorem aHf {B fr:Int}:∀ {a:List XT},FineXs B a→FineXs (B+1) (dS fr 1 a)
 | [],_=>trivial
 |t::a,b=> ⟨aTc b.1,aHf b.2⟩
end
mutual
theorem aRH (fr:Int) :∀ (t:XT),cK (rS fr 1 t) =cK t
 | .mk o n a b=>by simp only [rS,cK];rw [aLK fr a]
theorem aLK (fr:Int) :∀ (a:List XT),aD (dS fr 1 a) =aD a
 | [] =>rfl
 |t::a=>by simp only [dS,aD];rw [aRH fr t,aLK fr a]
end
theorem aVT {B:Int}{ts:List XT}{i:Nat}{t:XT}(h:FineXs B ts)(a:FineX B t) :FineXs B (ts.set i t) :=fineXs_iff.2 fun x b=>by
 rcases List.mem_or_eq_of_mem_set b with g|g
 ·exact fineXs_iff.1 h x g
 ·rw [g];exact a
theorem aOC :∀ {ts:List XT} {i:Nat} {t x:XT},ts[i]?=some x→aD (ts.set i t) +cK x=aD ts+cK t
 | [],i,t,x,h=>by simp at h
 |y::ts,0,t,x,h=>by simp at h;subst h;simp only [List.set_cons_zero,aD];omega
 | y::ts,i+1,t,x,h=>by
  have:=aOC (ts:=ts) (i:=i) (t:=t) (x:=x) (by simpa using h);simp only [List.set_cons_succ,aD];omega
theorem bDS :bL 7 2≤2:=by decide
theorem aZy :bL 4 0≤0:=by decide
theorem aHg {B:Int}{a b:XT}(d:FineX B a)(hb:FineX B b) :FineX B (.mk 7 0 [a,b] []) :=by
 simp only [FineX];exact⟨fun e=> (by cases e),by simp,fun q c=> (by cases c),fun e=> (by cases e),fun _=>rfl,⟨bDS,by simp,fun h=>absurd h (by decide),fun q c=> (by cases c)⟩,d,hb,trivial⟩
theorem bDT {B sz:Int}{k:Nat}{o n:Int}{ks:List XT}{ps:List Pat}{x:XT}(a:FineX B (.mk o n ks ps))(f:ks[k]?=some x)(i:sz≤B+1) :FineX (B+1) (dnT sz k o n ks ps x) ∧cK (dnT sz k o n ks ps x) =cK (.mk o n ks ps) +2:=by
 simp only [FineX]at a;have d:FineXs (B+1) (ks.map (rS sz 1)) :=by rw [←mL];exact aHf a.2.2.2.2.2.2
 have b:FineX (B+1) (.mk 4 sz [] []) :=by
  simp only [FineX];exact⟨fun _=>i,by simp,fun q c=> (by cases c),fun e=> (by cases e),fun e=> (by cases e),⟨aZy,by simp,fun h=>absurd h (by decide),fun q c=> (by cases c)⟩,trivial⟩
 constructor
 · refine aHg (pV (by omega) (fineXs_iff.1 a.2.2.2.2.2.2 x (iO f))) ?_;simp only [FineX,eG,hJ];exact⟨fun e=>by have:=a.1 e;omega,a.2.1,a.2.2.1,a.2.2.2.1,a.2.2.2.2.1,a.2.2.2.2.2.1,aVT d b⟩
 · have g: (ks.map (rS sz 1))[k]?=some (rS sz 1 x) :=by rw [mZ,f];rfl
   have:=aOC (t:=.mk 4 sz [] []) g;rw [aRH,←mL,aLK,mL]at this;simp only [dnT,cK,aD]at this ⊢;omega
theorem aVU {B sz:Int}:∀ {t:XT} {s:Option Nat},FineX B t→cY t=some s→sz≤B+1→FineX (B+1) (gW sz s t) ∧cK (gW sz s t) ≤cK t+2
 | .mk o n h v,some k,i,d,hz=>by
  obtain⟨x,j⟩ :∃x,h[k]?=some x:=by
   simp only [cY]at d;by_cases g:o=7
   · rw [if_pos g]at d;split at d
     ·split at d<;>cases d
     ·cases d
   · rw [if_neg g]at d;cases f:cX h 0 (bL o h.length)with
     |none=>rw [f]at d;cases d
     | some y=>
      rw [f]at d;cases d;obtain⟨x,j,_⟩ :=aBc f (rfl:h.drop 0=h);exact⟨x,j⟩
  have:=bDT i j hz;simp only [gW,rV j];exact⟨this.1,by rw [this.2];exact Nat.le_refl _⟩
 | .mk o n h v,none,i,d,hz=>by
  have u:=i;simp only [FineX]at i;have q:o=7:=by
   simp only [cY]at d;by_cases g:o=7
   ·exact g
   · rw [if_neg g]at d;cases f:cX h 0 (bL o h.length)with
     |none=>rw [f]at d;cases d
     |some k=>rw [f]at d;cases d
  have hl:=i.2.2.2.2.1 q
  match h,hl,i,d with
  | [.mk p z r w,c],_,i,d=>
   have l:p=7:=by
    simp only [cY,if_pos q,lF,XT.op]at d;by_cases g:p=7
    ·exact g
    ·simp [g]at d
   have e:=i.2.2.2.2.2.2;simp only [FineXs,FineX]at e;have m:=e.1.2.2.2.2.1 l
   match r,m,e with
   | [a,b],_,e=>
    simp only [FineXs]at e;simp only [gW,List.getD_cons_zero,List.getD_cons_succ,XT.kids,neT];refine⟨aHg (pV (by omega) e.1.2.2.2.2.2.2.1) (aHg (pV (by omega) e.1.2.2.2.2.2.2.2.1) (aTc e.2.1)),?_⟩;simp only [cK,aD,aRH];omega
mutual
theorem aOD {B node:Int}:∀ {t:XT} {l g:Int} {f:XT},FineX B t→0≤g→g+1000* (cK t:Nat) ≤B+1→atT node t l g= .did f→FineX (B+1) f∧cK f≤cK t+2
 | .mk o n j ps,l,g,f,b,q,hz,h=>by
  have k:=b
  have c:∀a,iL node o ps j 0 (l+1) g= .did a→FineX (B+1) (.mk o n a ps) ∧cK (.mk o n a ps) ≤cK (.mk o n j ps) +2:=fun a e=>by
   simp only [FineX]at b ⊢;simp only [cK]at hz ⊢;obtain⟨u,v,p⟩ :=aJi b.2.2.1 b.2.2.2.2.2.2 q (by omega) e;rw [p];exact⟨⟨fun e=>by have:=b.1 e;omega,b.2.1,b.2.2.1,b.2.2.2.1,b.2.2.2.2.1,b.2.2.2.2.2.1,u⟩,by omega⟩
  rw [aBd]at h
  have d:∀r,qM o n ps [] r= .did f→∃a,r= .did a∧f= .mk o n a ps:=fun r hr=>by
   cases r with
   |go m=>cases hr
   |past=>cases hr
   |did a=>simp only [qM,qW]at hr;cases hr;exact⟨a,rfl,rfl⟩
  cases i:cY (.mk o n j ps)with
  | none=>
   rw [i]at h;obtain⟨a,e,rfl⟩ :=d _ h;exact c a e
  | some s=>
   rw [i]at h;dsimp only at h;split at h
   · cases h;simp only [cK]at hz;exact aVU k i (by omega)
   · split at h
     ·cases h
     · obtain⟨a,e,rfl⟩ :=d _ h;exact c a e
theorem aJi {B node:Int}{o:Int}{ps:List Pat}(f:∀q∈ps,cB q≤1000) :∀ {b:List XT} {i:Nat} {n z:Int} {a:List XT},FineXs B b→0≤z→z+1000+1000* (aD b:Nat) ≤B+1→iL node o ps b i n z= .did a→FineXs (B+1) a∧aD a≤aD b+2∧a.length=b.length
 | [],i,n,z,a,_,_,_,h=>by simp only [iL]at h;cases h
 | t ::b,i,n,z,a,c,k,hz,h=>by
  have s:=qL (o:=o) f (i:Int);simp only [FineXs]at c;simp only [aD]at hz ⊢;simp only [iL]at h;split at h
  · rename_i m e;split at h
    ·cases h
    ·cases h
    · rename_i g l;cases h;obtain⟨d,p,j⟩ :=aJi f c.2 k (by omega) l;exact⟨⟨pV (by omega) c.1,d⟩,by simp only [aD];omega,by simp [j]⟩
  ·cases h
  · rename_i r e;cases h;obtain⟨d,p⟩ :=aOD c.1 (by omega) (by omega) e;exact⟨⟨d,nP (by omega) c.2⟩,by simp only [aD];omega,rfl⟩
end
theorem aOE {B node:Int}:∀ {b:List XT} {n:Int} {a:List XT},FineXs B b→1+1000* (aD b:Nat) ≤B+1→atF node b n= .did a→FineXs (B+1) a∧aD a≤aD b+2
 | [],n,a,_,_,h=>by simp only [atF]at h;cases h
 | t ::b,n,a,c,hz,h=>by
  simp only [FineXs]at c;simp only [aD]at hz ⊢;simp only [atF]at h;split at h
  · split at h
    ·cases h
    ·cases h
    · rename_i g f;cases h;obtain⟨d,i⟩ :=aOE c.2 (by omega) f;exact⟨⟨pV (by omega) c.1,d⟩,by simp only [aD];omega⟩
  ·cases h
  · rename_i j e;cases h;obtain⟨d,i⟩ :=aOD c.1 (by omega) (by omega) e;exact⟨⟨d,nP (by omega) c.2⟩,by simp only [aD];omega⟩
def zeroV :AV:=.agg [.ilst 4 (map Node.av ([] :List Node)) true,.ilst 1 (map bU ([] :List Int)) true,.int .i64 0,.ilst 2 (map Con.av ([] :List Con)) true]
def aEq :Prog:= ⟨[],[],0,[]⟩
theorem bDU {E:Emb}{v:Value}(h:VR E zeroV v) :VR E (Prog.av aEq) v:=by
 simp only [zeroV,VR]at h;obtain⟨m,rfl,a⟩ :=h;obtain⟨l,f,rfl,c,a⟩ :=a.cons_inv;obtain⟨i,k,rfl,e,a⟩ :=a.cons_inv;obtain⟨o,n,rfl,d,a⟩ :=a.cons_inv;obtain⟨j,g,rfl,b,a⟩ :=a.cons_inv;rw [a.nil_inv];show VR E (.agg [.ilst 4 (map Node.av []) false,.ilst 1 (map bU []) false,.int .i64 0,.ilst 2 (map Con.av []) false]) _;simp only [VR];exact⟨_,rfl,VRs.cons (nM c) (VRs.cons (nM e) (VRs.cons d (VRs.cons (nM b) (VRs.nil _))))⟩
theorem aHh {E:Emb}{n:Int}{v:Value}(h:VR E (.tup [zeroV,.int .i64 n]) v) :VR E (.tup [Prog.av aEq,.int .i64 n]) v:=by
 simp only [VR]at h ⊢;obtain⟨e,rfl,a⟩ :=h;obtain⟨d,c,rfl,b,a⟩ :=a.cons_inv;exact⟨_,rfl,VRs.cons (bDU b) a⟩
mutual
theorem bDV {p:Prog}(hp:FineP p) :∀ (t:XT) (a:Int) (f:Nat),IsTree p t a→p.nodes.length-a.toNat≤f→ (pre p f a).length=cK t
 | .mk o n e l,a,f,h,d=>by
  simp only [IsTree]at h;obtain⟨m,nd,c,rfl,rfl,rfl,j⟩ :=h;have i:= (zq0.1 c).1;obtain⟨_,_,hk⟩ :=hp.node _ nd c
  match f,d with
  |0,d=>omega
  | g+1,d=>
   simp only [pre,c,cK,oK];rw [aHi hp e nd.kids g j (fun k b=>by have:=hk k b;omega)]
theorem aHi {p:Prog}(hp:FineP p) :∀ (a:List XT) (l:List Int) (g:Nat),aE p a l→ (∀k∈l,p.nodes.length-k.toNat≤g) → ((l.map (pre p g)).flatten).length=aD a
 | [],l,g,h,_=>by simp only [aE]at h;subst h;rfl
 | t::a,l,g,h,hk=>by
  simp only [aE]at h;obtain⟨k,c,rfl,e,b⟩ :=h;simp only [dJ,aED,wT,aD];rw [bDV hp t k g e (hk k (dT ..)),aHi hp a c g b (fun x d=>hk x (eD _ d))]
end
theorem qQ {p:Prog}(a:aK p=true)(b:aN p=true){ts:List XT}(d:aE p ts p.funs) :aD ts=p.nodes.length:=by
 obtain⟨e,_,_⟩ :=kG a b;obtain⟨_,c,_⟩ :=aHb a b;rw [←c,aHi e ts p.funs p.nodes.length d (fun k _=>by omega)]
theorem aOF {p:Prog}(a:aN p=true) :p.funs≠ [] :=fun e=>by
 simp only [aN,eB,cF]at a;have h:=a.1.1;simp [e,dH]at h
mutual
def stT :XT→Int→List Int
 | .mk o n ks ps,a=> (if(cY (.mk o n ks ps)).isSome then [a]else []) ++eW ks (a+1)
def eW :List XT→Int→List Int
 | [],_=>[]
 |t::ts,a=>stT t a++eW ts (a+ (cK t:Nat))
end
section
variable (B :Int)
end
end
end Go.Hb
