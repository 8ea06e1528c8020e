/- A machine on abstract values, its soundness, ways, plain laws. -/
import Derived.Test.YtnljmgihoioocaaGreatHF
import Derived.Test.YtnljmgihoioocaaGreatHG
import Derived.Test.YtnljmgihoioocaaGreatHH
import Derived.Test.YtnljmgihoioocaaGreatHK
import Derived.Test.YtnljmgihoioocaaGreatHL
set_option linter.defProp false
set_option linter.unusedVariables false
set_option linter.unusedSimpArgs false
set_option linter.unusedSectionVars false
set_option maxRecDepth 100000
set_option maxHeartbeats 1000000
namespace Go.Hb
open AV (agg frzOk frzOkL ilst keyless keylessL)
open List (drop length map replicate set take)
open Pats (av)
open Go.Proofs Tryz
noncomputable section
mutual
def eE :XT→Nat→List Node
 | .mk o n ks ps,a=> ⟨o,n,(bQ ks (a+1)).1,ps⟩ :: (bQ ks (a+1)).2
def bQ :List XT→Nat→List Int×List Node
 | [],_=> ([],[])
 |t::ts,a=> (((a:Nat) :Int) :: (bQ ts (a+ (eE t a).length)).1,eE t a++ (bQ ts (a+ (eE t a).length)).2)
end
mutual
theorem fY :∀ (t:XT) (a:Nat),(eE t a).length=cJ t
 | .mk o n b c,a=>by rw [eE,cJ,qN,nK b (a+1)]
theorem nK :∀ (b:List XT) (a:Nat),(bQ b a).2.length=aD b
 | [],a=>by rw [bQ,aD];rfl
 |t::b,a=>by rw [bQ,aD,qT,fY t _,nK b _]
end
abbrev PHc (b n:Nat)(r k:Nat)(mn:Int)(cs:List Con) :AObj:=.cells (putCells .leaf 0 [.gl b 4 0 n false,.gl r 1 0 k false,.int .i64 mn,.ilst 2 (map Con.av cs) false]) 4 [] false
abbrev PBl (fs:List Int)(mn:Int)(cs:List Con)(L:List ONode) :HL:=[(0,PHc 3 (length L) 2 (length fs) mn cs,false),(1,.cells (putCells .leaf 0 [.func 119 [] [.ptr 0 0,.ptr 1 0]]) 1 [] false,false),(2,.lst 1 (map cG fs),true),(3,OL L,true)]
def FPS (fs:List Int)(mn:Int)(cs:List Con)(t:XT)(L:List ONode)(ns:List Node) :Prop:=
 eS PP 3 (.enter 119 [XT.av t,.ptr 0 0,.ptr 1 0]) (aA (PBl fs mn cs L) 4) (.ret (.int .i64 ((length L:Nat) :Int))) (aA (PBl fs mn cs (L++map Node.o ns)) 4)
def bFg (fs:List Int)(mn:Int)(cs:List Con)(L:List ONode)(s:TS)(ns:List Node) :Prop:=Ends PP 3 s.as (.ret (.int .i64 ((length L:Nat) :Int))) (aA (PBl fs mn cs (L++map Node.o ns)) 4)
theorem aDe (fs:List Int)(mn:Int)(cs:List Con)(L:List ONode) :eY (PBl fs mn cs L) := ⟨aN _ (fun _=>rfl) _,bE4 L,trivial⟩
section
variable (fs :List Int) (mn:Int) (cs:List Con) (L:List ONode) (o n:Int) (ks:List XT) (ps:List Pat)
theorem aUU (c:Int)(l:List ONode){ix:Nat}{a b:Int}{Q:List Pat}(h:l[ix]?=some ⟨a,b,.nil,Q⟩) :LeadsM PP 3 (aYA L fs mn cs o n ks ps c l).as (aSp L fs mn cs o n ks ps c l ix a b Q).as:=
 bGG (k:=3) (e0:=4) (e:=1) aC aC (bE7 (f:=ONode.av) [.int .i64 a,.int .i64 b] [.ilst 4 (av Q) false] h rfl) aC
theorem aUV (c:Int)(l:List ONode)(d:List Int)(u:Value)(i:Int){ix:Nat}{a b:Int}{Q:List Pat}(h:l[ix]?=some ⟨a,b,.val u,Q⟩) :LeadsM PP 3 (aYB L fs mn cs o n ks ps c l d u i).as (aSq L fs mn cs o n ks ps c l d i ix a b Q).as:=
 bDG (k:=3) (b:=4) (e0:=4) (e:=1) (u:=u) (xs:=map cG d) (n:=length d) aC aC (by decide) (mR ..) (bE7 (f:=ONode.av) [.int .i64 a,.int .i64 b] [.ilst 4 (av Q) false] h rfl) aC
variable (hkl :ks.length≤1000) (ih:∀t∈ks,∀ (M:List ONode),M.length+cJ t≤1000000→FPS fs mn cs t M (eE t M.length))
include hkl ih
theorem aNz (P:List Pat) :∀ (d:List XT) (i:Nat) (u:Value) (a:List Node) (c:List Int),ks.drop i=d→c.length=i→L.length+1+a.length+aD d≤1000000 →
  bFg fs mn cs L (aDd L fs mn cs o n ks ps (L++ ⟨o,n,.val u,P⟩ ::map Node.o a) c u (i:Int)) (⟨o,n,c++ (bQ d (L.length+1+a.length)).1,P⟩ :: (a++ (bQ d (L.length+1+a.length)).2))
 | [],i,u,a,c,h,hk,_=>by
  have:=bH h;have q:=bD1 L fs mn cs o n ks ps (L++ ⟨o,n,.val u,P⟩ ::map Node.o a) c u i ⟨o,n,.val u,P⟩ sd (tA ..) rfl;rw [tB]at q;rw [bQ];simp only [rQ];exact q
 | .mk j k g p::d,i,u,a,c,h,hk,hb=>by
  obtain⟨v,s,z⟩ :=bE h;simp only [aD]at hb;have b: (L++ (⟨o,n,.val u,P⟩ :ONode) ::map Node.o a).length=L.length+1+a.length:=by simp;omega
  have e:=ih _ (jQ v) (L++ ⟨o,n,.val u,P⟩ ::map Node.o a) (by rw [b];omega);rw [b]at e;rw [bQ];have l:=fY (.mk j k g p) (L.length+1+a.length);generalize eE (.mk j k g p) (L.length+1+a.length) =f at e l ⊢;unfold FPS at e;have r:=bD0 L fs mn cs o n ks ps (L++ ⟨o,n,.val u,P⟩ ::map Node.o a) c u i j k g p f sd sd sd (qO (m:=3) (ks:=[0,1,2,3]) e aC aC (aDe ..) (aDe ..));have x: (L++ (⟨o,n,.val u,P⟩ :ONode) ::map Node.o a) ++map Node.o f=L++ ⟨o,n,.val u,P⟩ ::map Node.o (a++f) :=by simp
  rw [x,b]at r;refine(r.trans (aUV fs mn cs L o n ks ps _ _ c u i (tA L _ _))).ends ?_;refine bDW L fs mn cs o n ks ps _ _ c i (length L) o n P (by omega) (by simp;omega) (by omega) (by simp) (by simp;omega) sd (fun y w t=>?_);have:=aNz P d (i+1) (.slice y w t) (a++f) (c++ [((L.length+1+a.length:Nat) :Int)]) s (by simp [hk]) (by simp;omega);dsimp only;rw [tB];rw [qT,←Nat.add_assoc]at this;simp only [zq9,List.singleton_append]at this ⊢;exact this
theorem aYF (P:List Pat)(hb:L.length+1+aD ks≤1000000) :
  bFg fs mn cs L (aQY L fs mn cs o n ks ps (L++ [⟨o,n,.nil,P⟩])) (⟨o,n,(bQ ks (L.length+1)).1,P⟩ :: (bQ ks (L.length+1)).2) :=by
 cases a:ks with
 | nil=>
  subst a;have k:=bDZ L fs mn cs o n [] ps (L++ [⟨o,n,.nil,P⟩]) ⟨o,n,.nil,P⟩ (by simp) (tA ..) rfl;rw [tB]at k;rw [bQ];exact k
 | cons t i=>
  obtain⟨d,e,c,f⟩ :=t;have j:ks[0]?=some (.mk d e c f) :=by rw [a];rfl
  rw [←a];have b: (L++ [(⟨o,n,.nil,P⟩ :ONode)]).length=L.length+1:=by simp
  have q:cJ (.mk d e c f) +aD i=aD ks:=by rw [a,aD]
  have g:=ih _ (jQ j) (L++ [⟨o,n,.nil,P⟩]) (by rw [b];omega);rw [b]at g;have ep:bQ ks (L.length+1) =bQ (.mk d e c f::i) (L.length+1) :=by rw [a]
  rw [ep,bQ];have h:=fY (.mk d e c f) (L.length+1);generalize eE (.mk d e c f) (L.length+1) =ns at g h ⊢;unfold FPS at g;have l:=bDY L fs mn cs o n ks ps (L++ [(⟨o,n,.nil,P⟩ :ONode)]) d e c f ns (by rw [a];simp) (by omega) (by simpa using j) (qO (m:=3) (ks:=[0,1,2,3]) g aC aC (aDe ..) (aDe ..));have s: (L++ [(⟨o,n,.nil,P⟩ :ONode)]) ++map Node.o ns=L++ ⟨o,n,.nil,P⟩ ::map Node.o ns:=by simp
  rw [s,b]at l;refine(l.trans (aUU fs mn cs L o n ks ps _ _ (tA L _ _))).ends ?_;refine bDV L fs mn cs o n ks ps _ _ (length L) o n P (by omega) (by simp;omega) (by omega) (by simp) (by simp) (fun u r p=>?_);have:=aNz fs mn cs L o n ks ps hkl ih P i 1 (.slice u r p) ns [((L.length+1:Nat) :Int)] (by rw [a];rfl) rfl (by omega);dsimp only;rw [tB];exact this
end
theorem aBb :∀ (a:List Pat),(∀q∈a,cB q≤1000) →bI a≤1000*a.length
 | [],_=>by simp [bI]
 | q::a,h=>by
  have:=aBb a (fun x b=>h x (cL _ b));have:=h q (cQ ..);simp only [bI,qN];omega
mutual
theorem aNA (fs:List Int)(mn:Int)(cs:List Con){B:Int}:∀ (t:XT),FineX B t→ (∀L:List ONode,L.length+cJ t≤1000000→FPS fs mn cs t L (eE t L.length))
 | .mk o n c a,e=>fun L hb=>by
  simp only [FineX]at e;obtain⟨_,h,f,_,_,d,g⟩ :=e;simp only [cJ]at hb;have d:=d.2.1;have b:=aBb a f;have b:bI a<1000000:=by omega
  rw [eE];refine⟨(bFf L fs mn cs o n c a).as.fr,by kernel_rfl,?_⟩;refine(bDX L fs mn cs o n c a a (aNe a b) (by simp;omega)).ends ?_;exact aYF fs mn cs L o n c a h (aSr fs mn cs c g) a (by omega)
theorem aSr (fs:List Int)(mn:Int)(cs:List Con){B:Int}:∀ (b:List XT),FineXs B b→∀t∈b,∀ (M:List ONode),M.length+cJ t≤1000000→FPS fs mn cs t M (eE t M.length)
 | [],_,t,a=>by cases a
 | k::b,c,t,a=>by
  simp only [FineXs]at c;rcases zq7.1 a with e|a
  ·rw [e];exact aNA fs mn cs k c.1
  ·exact aSr fs mn cs b c.2 t a
end
def aGv :List XT→Nat→List Int×List Node:=bQ
def hN (ts:List XT)(mn:Int)(cs:List Con) :Prog:= ⟨(aGv ts 0).2,(aGv ts 0).1,mn,cs⟩
theorem aNB (ts:List XT)(mn:Int)(cs:List Con){B:Int}(hl:ts.length≤1000) :∀ (d:List XT) (i:Nat) (a:List Node) (c:List Int),ts.drop i=d→FineXs B d→a.length+aD d≤100000→c.length=i →
  Ends PP 0 (aKL ts mn cs cs (i:Int) (map Node.o a) c).as (.ret (Prog.av ⟨a++ (bQ d a.length).2,c++ (bQ d a.length).1,mn,cs⟩)) (aA [] 0)
 | [],i,a,c,h,_,_,_=>by
  have:=bH h;have e:=bD4 ts mn cs cs (i:Int) (map Node.o a) c a sd rfl (by simp);simp only [bQ,rQ];exact e
 | .mk n j g l::d,i,a,c,h,o,hb,r=>by
  obtain⟨s,q,t⟩ :=bE h;simp only [FineXs]at o;simp only [aD]at hb;have b: (map Node.o a).length=a.length:=by simp
  have f:=aNA c mn cs _ o.1 (map Node.o a) (by rw [b];omega);rw [b]at f;rw [bQ];have k:=fY (.mk n j g l) a.length;generalize eE (.mk n j g l) a.length=p at f k ⊢;unfold FPS at f;have st:=bD3 ts mn cs cs (i:Int) (map Node.o a) c n j g l p sd sd sd (qO (m:=3) (ks:=[1,2,4,3]) f aC aC (aDe ..) (aDe ..)) (by simp;omega) sd;refine st.ends ?_;rw [b,←aIx];have e:=aNB ts mn cs hl d (i+1) (a++p) (c++ [((a.length:Nat) :Int)]) q o.2 (by rw [qT];omega) (by simp [r]);rw [qT]at e;simp only [zq9,List.singleton_append]at e ⊢;exact e
theorem aUW (ts:List XT)(mn:Int)(cs:List Con){B:Int}(hl:ts.length≤1000)(hc:cs.length≤1000000)(b:FineXs B ts)(a:aD ts≤100000) :aK PP 76 [fvA ts mn cs] (Prog.av (hN ts mn cs)) :=by
 refine aG aC (by simp [keylessL,keyless,fvA]) rfl ((bD2 ts mn cs cs (aGq cs hc)).ends ?_);have e:=aNB ts mn cs hl ts 0 [] [] rfl b (by simpa using a) rfl;exact e
mutual
theorem pM {B C:Int}(h:B≤C) :∀ {t:XT},FineX B t→FineX C t
 | .mk o n c b,a=>by
  simp only [FineX]at a ⊢;exact⟨fun e=>Int.le_trans (a.1 e) h,a.2.1,a.2.2.1,a.2.2.2.1,a.2.2.2.2.1,a.2.2.2.2.2.1,nL h a.2.2.2.2.2.2⟩
theorem nL {B C:Int}(h:B≤C) :∀ {a:List XT},FineXs B a→FineXs C a
 | [],_=>trivial
 |t::a,b=> ⟨pM h b.1,nL h b.2⟩
end
theorem kP (fr:Int)(ts:List XT) : (cV fr 1 ts).length=ts.length:=by rw [mH];simp
mutual
theorem aSs {B fr:Int}:∀ {t:XT},FineX B t→FineX (B+1) (mG fr 1 t)
 | .mk o n c b,a=>by
  simp only [mG,FineX]at a ⊢;rw [kP];refine⟨fun e=>?_,a.2.1,a.2.2.1,a.2.2.2.1,a.2.2.2.2.1,a.2.2.2.2.2.1,aGw a.2.2.2.2.2.2⟩;have:=a.1 e;unfold mvN;split<;>omega
theorem aGw {B fr:Int}:∀ {a:List XT},FineXs B a→FineXs (B+1) (cV fr 1 a)
 | [],_=>trivial
 |t::a,b=> ⟨aSs b.1,aGw b.2⟩
end
mutual
theorem aQZ (fr:Int) :∀ (t:XT),cJ (mG fr 1 t) =cJ t
 | .mk o n a b=>by simp only [mG,cJ];rw [aKM fr a]
theorem aKM (fr:Int) :∀ (a:List XT),aD (cV fr 1 a) =aD a
 | [] =>rfl
 |t::a=>by simp only [cV,aD];rw [aQZ fr t,aKM fr a]
end
theorem aUX {B:Int}{ts:List XT}{i:Nat}{t:XT}(h:FineXs B ts)(a:FineX B t) :FineXs B (ts.set i t) :=fineXs_iff.2 fun x b=>by
 rcases List.mem_or_eq_of_mem_set b with g|g
 ·exact fineXs_iff.1 h x g
 ·rw [g];exact a
theorem aNC :∀ {ts:List XT} {i:Nat} {t x:XT},ts[i]?=some x→aD (ts.set i t) +cJ x=aD ts+cJ t
 | [],i,t,x,h=>by simp at h
 |y::ts,0,t,x,h=>by simp at h;subst h;simp only [List.set_cons_zero,aD];omega
 | y::ts,i+1,t,x,h=>by
  have:=aNC (ts:=ts) (i:=i) (t:=t) (x:=x) (by simpa using h);simp only [List.set_cons_succ,aD];omega
theorem bD5 :aV 7 2≤2:=by decide
theorem aYG :aV 4 0≤0:=by decide
theorem aGx {B:Int}{a b:XT}(d:FineX B a)(hb:FineX B b) :FineX B (.mk 7 0 [a,b] []) :=by
 simp only [FineX];exact⟨fun e=> (by cases e),by simp,fun q c=> (by cases c),fun e=> (by cases e),fun _=>rfl,⟨bD5,by simp,fun h=>absurd h (by decide),fun q c=> (by cases c)⟩,d,hb,trivial⟩
theorem bD6 {B sz:Int}{k:Nat}{o n:Int}{ks:List XT}{ps:List Pat}{x:XT}(a:FineX B (.mk o n ks ps))(f:ks[k]?=some x)(g:sz≤B+1) :FineX (B+1) (dnT sz k o n ks ps x) ∧cJ (dnT sz k o n ks ps x) =cJ (.mk o n ks ps) +2:=by
 simp only [FineX]at a;have d:FineXs (B+1) (ks.map (mG sz 1)) :=by rw [←mH];exact aGw a.2.2.2.2.2.2
 have b:FineX (B+1) (.mk 4 sz [] []) :=by
  simp only [FineX];exact⟨fun _=>g,by simp,fun q c=> (by cases c),fun e=> (by cases e),fun e=> (by cases e),⟨aYG,by simp,fun h=>absurd h (by decide),fun q c=> (by cases c)⟩,trivial⟩
 constructor
 · refine aGx (pM (by omega) (fineXs_iff.1 a.2.2.2.2.2.2 x (jQ f))) ?_;simp only [FineX,dZ,mR];exact⟨fun e=>by have:=a.1 e;omega,a.2.1,a.2.2.1,a.2.2.2.1,a.2.2.2.2.1,a.2.2.2.2.2.1,aUX d b⟩
 · have i: (ks.map (mG sz 1))[k]?=some (mG sz 1 x) :=by rw [tJ,f];rfl
   have:=aNC (t:=.mk 4 sz [] []) i;rw [aQZ,←mH,aKM,mH]at this;simp only [dnT,cJ,aD]at this ⊢;omega
theorem aUY {B sz:Int}:∀ {t:XT} {s:Option Nat},FineX B t→bW t=some s→sz≤B+1→FineX (B+1) (eD sz s t) ∧cJ (eD sz s t) ≤cJ t+2
 | .mk o n h r,some k,i,d,hz=>by
  obtain⟨x,j⟩ :∃x,h[k]?=some x:=by
   simp only [bW]at d;by_cases g:o=7
   · rw [if_pos g]at d;split at d
     ·split at d<;>cases d
     ·cases d
   · rw [if_neg g]at d;cases f:bR h 0 (aV o h.length)with
     |none=>rw [f]at d;cases d
     | some w=>
      rw [f]at d;cases d;obtain⟨x,j,_⟩ :=vF f (rfl:h.drop 0=h);exact⟨x,j⟩
  have:=bD6 i j hz;simp only [eD,kA j];exact⟨this.1,by rw [this.2];exact Nat.le_refl _⟩
 | .mk o n h r,none,i,d,hz=>by
  have v:=i;simp only [FineX]at i;have q:o=7:=by
   simp only [bW]at d;by_cases g:o=7
   ·exact g
   · rw [if_neg g]at d;cases f:bR h 0 (aV o h.length)with
     |none=>rw [f]at d;cases d
     |some k=>rw [f]at d;cases d
  have hl:=i.2.2.2.2.1 q
  match h,hl,i,d with
  | [.mk p y u z,c],_,i,d=>
   have m:p=7:=by
    simp only [bW,if_pos q,mM,XT.op]at d;by_cases g:p=7
    ·exact g
    ·simp [g]at d
   have e:=i.2.2.2.2.2.2;simp only [FineXs,FineX]at e;have l:=e.1.2.2.2.2.1 m
   match u,l,e with
   | [a,b],_,e=>
    simp only [FineXs]at e;simp only [eD,List.getD_cons_zero,List.getD_cons_succ,XT.kids,neT];refine⟨aGx (pM (by omega) e.1.2.2.2.2.2.2.1) (aGx (pM (by omega) e.1.2.2.2.2.2.2.2.1) (aSs e.2.1)),?_⟩;simp only [cJ,aD,aQZ];omega
mutual
theorem aND {B node:Int}:∀ {t:XT} {i g:Int} {f:XT},FineX B t→0≤g→g+1000* (cJ t:Nat) ≤B+1→atT node t i g= .did f→FineX (B+1) f∧cJ f≤cJ t+2
 | .mk o n l ps,i,g,f,b,p,hz,h=>by
  have j:=b
  have c:∀a,iD node o ps l 0 (i+1) g= .did a→FineX (B+1) (.mk o n a ps) ∧cJ (.mk o n a ps) ≤cJ (.mk o n l ps) +2:=fun a e=>by
   simp only [FineX]at b ⊢;simp only [cJ]at hz ⊢;obtain⟨u,v,q⟩ :=aIl b.2.2.1 b.2.2.2.2.2.2 p (by omega) e;rw [q];exact⟨⟨fun e=>by have:=b.1 e;omega,b.2.1,b.2.2.1,b.2.2.2.1,b.2.2.2.2.1,b.2.2.2.2.2.1,u⟩,by omega⟩
  rw [aA8]at h
  have d:∀r,qE o n ps [] r= .did f→∃a,r= .did a∧f= .mk o n a ps:=fun r hr=>by
   cases r with
   |go m=>cases hr
   |past=>cases hr
   |did a=>simp only [qE,List.nil_append]at hr;cases hr;exact⟨a,rfl,rfl⟩
  cases k:bW (.mk o n l ps)with
  | none=>
   rw [k]at h;obtain⟨a,e,rfl⟩ :=d _ h;exact c a e
  | some s=>
   rw [k]at h;dsimp only at h;split at h
   · cases h;simp only [cJ]at hz;exact aUY j k (by omega)
   · split at h
     ·cases h
     · obtain⟨a,e,rfl⟩ :=d _ h;exact c a e
theorem aIl {B node:Int}{o:Int}{ps:List Pat}(f:∀q∈ps,cB q≤1000) :∀ {b:List XT} {i:Nat} {n z:Int} {a:List XT},FineXs B b→0≤z→z+1000+1000* (aD b:Nat) ≤B+1→iD node o ps b i n z= .did a→FineXs (B+1) a∧aD a≤aD b+2∧a.length=b.length
 | [],i,n,z,a,_,_,_,h=>by simp only [iD]at h;cases h
 | t ::b,i,n,z,a,c,j,hz,h=>by
  have s:=kO (o:=o) f (i:Int);simp only [FineXs]at c;simp only [aD]at hz ⊢;simp only [iD]at h;split at h
  · rename_i m e;split at h
    ·cases h
    ·cases h
    · rename_i l p;cases h;obtain⟨d,g,k⟩ :=aIl f c.2 j (by omega) p;exact⟨⟨pM (by omega) c.1,d⟩,by simp only [aD];omega,by simp [k]⟩
  ·cases h
  · rename_i r e;cases h;obtain⟨d,g⟩ :=aND c.1 (by omega) (by omega) e;exact⟨⟨d,nL (by omega) c.2⟩,by simp only [aD];omega,rfl⟩
end
theorem aNE {B node:Int}:∀ {c:List XT} {n:Int} {a:List XT},FineXs B c→1+1000* (aD c:Nat) ≤B+1→atF node c n= .did a→FineXs (B+1) a∧aD a≤aD c+2
 | [],n,a,_,_,h=>by simp only [atF]at h;cases h
 | t ::c,n,a,b,hz,h=>by
  simp only [FineXs]at b;simp only [aD]at hz ⊢;simp only [atF]at h;split at h
  · split at h
    ·cases h
    ·cases h
    · rename_i g i;cases h;obtain⟨d,f⟩ :=aNE b.2 (by omega) i;exact⟨⟨pM (by omega) b.1,d⟩,by simp only [aD];omega⟩
  ·cases h
  · rename_i j e;cases h;obtain⟨d,f⟩ :=aND b.1 (by omega) (by omega) e;exact⟨⟨d,nL (by omega) b.2⟩,by simp only [aD];omega⟩
def zeroV :AV:=.agg [.ilst 4 (map Node.av ([] :List Node)) true,.ilst 1 (map cG ([] :List Int)) true,.int .i64 0,.ilst 2 (map Con.av ([] :List Con)) true]
def rM :Prog:= ⟨[],[],0,[]⟩
theorem bD7 {E:Emb}{v:Value}(h:VR E zeroV v) :VR E (Prog.av rM) v:=by
 simp only [zeroV,VR]at h;obtain⟨us,rfl,h2⟩ :=h;obtain⟨u1,r1,rfl,a1,h2⟩ :=h2.cons_inv;obtain⟨u2,r2,rfl,a2,h2⟩ :=h2.cons_inv;obtain⟨u3,r3,rfl,a3,h2⟩ :=h2.cons_inv;obtain⟨u4,r4,rfl,a4,h2⟩ :=h2.cons_inv;rw [h2.nil_inv];show VR E (.agg [.ilst 4 (map Node.av []) false,.ilst 1 (map cG []) false,.int .i64 0,.ilst 2 (map Con.av []) false]) _;simp only [VR];exact⟨_,rfl,VRs.cons (hY a1) (VRs.cons (hY a2) (VRs.cons a3 (VRs.cons (hY a4) (VRs.nil _))))⟩
theorem qJ {E:Emb}{n:Int}{v:Value}(h:VR E (.tup [zeroV,.int .i64 n]) v) :VR E (.tup [Prog.av rM,.int .i64 n]) v:=by
 simp only [VR]at h ⊢;obtain⟨us,rfl,h2⟩ :=h;obtain⟨u1,r1,rfl,a1,h2⟩ :=h2.cons_inv;exact⟨_,rfl,VRs.cons (bD7 a1) h2⟩
mutual
theorem bD8 {p:Prog}(hp:FineP p) :∀ (t:XT) (a:Int) (f:Nat),IsTree p t a→p.nodes.length-a.toNat≤f→ (pre p f a).length=cJ t
 | .mk o n e l,a,f,h,d=>by
  simp only [IsTree]at h;obtain⟨m,nd,c,rfl,rfl,rfl,j⟩ :=h;have i:= (zq0.1 c).1;obtain⟨_,_,hk⟩ :=hp.node _ nd c
  match f,d with
  |0,d=>omega
  | g+1,d=>
   simp only [pre,c,cJ,qN];rw [aGy hp e nd.kids g j (fun k b=>by have:=hk k b;omega)]
theorem aGy {p:Prog}(hp:FineP p) :∀ (a:List XT) (l:List Int) (g:Nat),aO p a l→ (∀k∈l,p.nodes.length-k.toNat≤g) → ((l.map (pre p g)).flatten).length=aD a
 | [],l,g,h,_=>by simp only [aO]at h;subst h;rfl
 | t::a,l,g,h,hk=>by
  simp only [aO]at h;obtain⟨k,e,rfl,d,c⟩ :=h;simp only [eU,aLg,qT,aD];rw [bD8 hp t k g d (hk k (cQ ..)),aGy hp a e g c (fun x b=>hk x (cL _ b))]
end
theorem aGz {p:Prog}(a:aJ p=true)(b:aM p=true){ts:List XT}(c:aO p ts p.funs) :aD ts=p.nodes.length:=by
 obtain⟨d,_,_⟩ :=iF a b;obtain⟨_,e,_⟩ :=aQU a b;rw [←e,aGy d ts p.funs p.nodes.length c (fun k _=>by omega)]
theorem aDU {p:Prog}(a:aM p=true) :p.funs≠ [] :=fun e=>by
 simp only [aM,eB,dS]at a;have h:=a.1.1;simp [e,dY]at h
mutual
def stT :XT→Int→List Int
 | .mk o n ks ps,a=> (if(bW (.mk o n ks ps)).isSome then [a]else []) ++dC ks (a+1)
def dC :List XT→Int→List Int
 | [],_=>[]
 |t::ts,a=>stT t a++dC ts (a+ (cJ t:Nat))
end
mutual
theorem aKN :∀ (t:XT) (a:Int),(stT t a).length≤cJ t
 | .mk o n b c,a=>by
  have:=aNF b (a+1);simp only [stT,cJ,qT];split<;>simp<;>omega
theorem aNF :∀ (b:List XT) (a:Int),(dC b a).length≤aD b
 | [],a=>by simp [dC]
 | t::b,a=>by
  have:=aKN t a;have:=aNF b (a+ (cJ t:Nat));simp only [dC,aD,qT];omega
end
section
variable (B :Int)
end
abbrev lE (a b:Int)(c:List Pat)(d:List RT):AV:=.agg [(nI a),(nI b),(iP c),(.ilst 4 (RTs.av d) false)]
abbrev aQ0 (a:List RT):AV:=.gl 2 1 0 (replicate a.length 0).length true
def bGJ(a b:Int)(c:List Pat)(d:List RT):TS:=aX PP 78 [(lE a b c d)] [] 0
def bGK(a b:Int)(c:List Pat)(d:List RT)(e:List Int):TS:=aX PP 79 [(lE a b c d),(iI e)] [] 0
def bGL(a b:Int)(c:List Pat)(d:List RT):TS:=aX PP 82 [(lE a b c d)] [] 0
def bGM(a:Node):TS:=aX PP 106 [(Node.av a)] [] 0
def bGN(a:Int):TS:=aX PP 83 [(nI a)] [] 0
def aQ1(a b:Int)(c:List Pat)(d:List RT)(e f:Int)(g:List Pat)(i:List RT):TS:=aX PP 85 [(lE a b c d),(lE e f g i)] [] 0
def bGO(a b:Int)(c:List Pat)(d:List RT)(e:Int):TS:=aX PP 84 [(lE a b c d),(nI e)] [] 0
def bGP(a b:Int)(c:List Pat)(d:List RT):TS:=aX PP 179 [(lE a b c d)] [] 0
def aEH(a b:Int)(c:List Pat)(d:List RT)(e:Int):TS:=⟨(tf 179 26 [kp 1 0,(2,(nI 0)),(3,(nI e))] [kc f179 116,kl f179 116,.inBlock 0,kc f179 15]),[],[oC 0 [(nI a),(nI b),(iP c),(.ilst 4 (RTs.av d) false)]],1⟩
def bGQ(a b:Int)(c:List Pat)(d:List RT):TS:=aX PP 139 [(lE a b c d)] [] 0
def bGR(a b:Int)(c:List Pat)(d:List RT):TS:=aX PP 140 [(lE a b c d)] [] 0
def aKO(a b:Int)(c:List Pat)(d:List RT):=tT 0 (bGJ a b c d)<|.b 11 6 (a==1) (gE 17 1 (bV true))<|.b 5 11 (a==2) (gE 12 1 (bV true))<|.b 5 16 (a==3) (gE 7 1 (bV true))<|gE 7 1 (bV (a==4))
def aYH:=fun a b c d e=>aKO a b c d|>.t e tv
def aYI:=fun a b c d e f=>aKO a b c d|>.f e|>.t f tv
def aYJ:=fun a b c d e f g=>aKO a b c d|>.f e|>.f f|>.t g tv
def aYK:=fun a b c d e f g=>aKO a b c d|>.f e|>.f f|>.f g tv
def aQ2(a b:Int)(c:List Pat)(d:List RT)(e:List Int):=tT 0 (bGK a b c d e)<|.b 12 8 (a==4) (gd 5 12 (b≥0) (gX cG 5 e b<|fun f=>gE 10 2 (lE a f c d))<|gE 8 2 (lE a b c d))<|gE 13 2 (lE a b c d)
def aYL:=fun a b c d e f g i j k=>aQ2 a b c d e|>.t g|>.t i f j k tv
def aYM:=fun a b c d e f g=>aQ2 a b c d e|>.t f|>.f g tv
def aYN:=fun a b c d e f=>aQ2 a b c d e|>.f f tv
def aYO (b e:Int)(c:List Pat)(a:List RT):=fun d f g i=>(tT 0 (bGL b e c a)<|.i [rn 19,aL a] [.q (p:=((RTs.av a).length:Int) = (a.length:Int)) (eM aE _)]<|.i [.mk a.length] [hr (a.length:Int),hr (a.length:Int),hA (a.length<100000)]<|.i [.lset 2 (jI (replicate a.length 0))] [.q (p:=replicate a.length (cG 0) = (jI (replicate a.length 0))) (aEf _ _ _)]<|.i [rn 5,.cset 1 2 (aQ0 a)] [.a ((replicate a.length 0).length=a.length) (p':=(AV.gl 2 1 0 a.length true) = (aQ0 a)) (fun h=>(bK h.symm))]<|.i [rn 1,.frz 14 2 (jI (replicate a.length 0))] [hk cG (replicate a.length 0),.q (p:=frzOk 2 1 (jI (replicate a.length 0)) (jI (replicate a.length 0)) (.agg [(nI b),(nI 0),(aQ0 a),(iP c)])) (by simp [frzOk,frzOkL,aAG])]<|gpI 0 106 [(.agg [(nI b),(nI 0),(.ilst 1 (jI (replicate a.length 0)) true),(iP c)])]<|fun d=>gE 3 3 (nI d)) f g d i tv
def hJ(a:Node):=tT 0 (bGM a)<|.b 18 5 (a.op==6) (gE 8 1 (nI 2))<|.b 6 5 (a.op==9) (gE 8 1 (nI 2))<|.b 6 5 (a.op==10) (gE 8 1 (nI 2))<|.b 6 5 (a.op==11) (gE 8 1 (nI 2))<|.b 6 5 (a.op==12) (gE 8 1 (nI 2))<|.b 6 5 (a.op==13) (gE 8 1 (nI 2))<|.b 6 5 (a.op==18) (gE 8 1 (nI 2))<|.b 5 5 (a.op==22) (gE 6 1 (nI 2))<|.b 6 14 (a.op==14) (gl 5 cG a.kids<|gE 3 1 (nI (a.kids.length:Int)))<|.b 7 19 (a.op==7) (gE 8 1 (nI 1))<|.b 6 19 (a.op==8) (gE 8 1 (nI 1))<|.b 6 19 (a.op==15) (gE 8 1 (nI 1))<|.b 6 19 (a.op==16) (gE 8 1 (nI 1))<|.b 6 19 (a.op==17) (gE 8 1 (nI 1))<|.b 6 19 (a.op==19) (gE 8 1 (nI 1))<|.b 6 19 (a.op==20) (gE 8 1 (nI 1))<|.b 6 19 (a.op==23) (gE 8 1 (nI 1))<|.b 6 19 (a.op==24) (gE 8 1 (nI 1))<|.b 5 19 (a.op==26) (gE 6 1 (nI 1))<|gE 8 1 (nI 0)
def aYP:=fun a b=>hJ a|>.t b tv
def aYQ:=fun a b c=>hJ a|>.f b|>.t c tv
def aYR:=fun a b c d=>hJ a|>.f b|>.f c|>.t d tv
def aYS:=fun a b c d e=>hJ a|>.f b|>.f c|>.f d|>.t e tv
def aYT:=fun a b c d e f=>hJ a|>.f b|>.f c|>.f d|>.f e|>.t f tv
def aYU:=fun a b c d e f g=>hJ a|>.f b|>.f c|>.f d|>.f e|>.f f|>.t g tv
def aYV:=fun a b c d e f g i=>hJ a|>.f b|>.f c|>.f d|>.f e|>.f f|>.f g|>.t i tv
def aYW:=fun a b c d e f g i j=>hJ a|>.f b|>.f c|>.f d|>.f e|>.f f|>.f g|>.f i|>.t j tv
def aYX:=fun a b c d e f g i j k=>hJ a|>.f b|>.f c|>.f d|>.f e|>.f f|>.f g|>.f i|>.f j|>.t k tv
def aYY:=fun a b c d e f g i j k l=>hJ a|>.f b|>.f c|>.f d|>.f e|>.f f|>.f g|>.f i|>.f j|>.f k|>.t l tv
def aUZ:=fun a b c d e f g i j k l m=>hJ a|>.f b|>.f c|>.f d|>.f e|>.f f|>.f g|>.f i|>.f j|>.f k|>.f l|>.t m tv
def aU0:=fun a b c d e f g i j k l m n=>hJ a|>.f b|>.f c|>.f d|>.f e|>.f f|>.f g|>.f i|>.f j|>.f k|>.f l|>.f m|>.t n tv
def aU1:=fun a b c d e f g i j k l m n o=>hJ a|>.f b|>.f c|>.f d|>.f e|>.f f|>.f g|>.f i|>.f j|>.f k|>.f l|>.f m|>.f n|>.t o tv
def aU2:=fun a b c d e f g i j k l m n o p=>hJ a|>.f b|>.f c|>.f d|>.f e|>.f f|>.f g|>.f i|>.f j|>.f k|>.f l|>.f m|>.f n|>.f o|>.t p tv
def aU3:=fun a b c d e f g i j k l m n o p q=>hJ a|>.f b|>.f c|>.f d|>.f e|>.f f|>.f g|>.f i|>.f j|>.f k|>.f l|>.f m|>.f n|>.f o|>.f p|>.t q tv
def aU4:=fun a b c d e f g i j k l m n o p q r=>hJ a|>.f b|>.f c|>.f d|>.f e|>.f f|>.f g|>.f i|>.f j|>.f k|>.f l|>.f m|>.f n|>.f o|>.f p|>.f q|>.t r tv
def aU5:=fun a b c d e f g i j k l m n o p q r s=>hJ a|>.f b|>.f c|>.f d|>.f e|>.f f|>.f g|>.f i|>.f j|>.f k|>.f l|>.f m|>.f n|>.f o|>.f p|>.f q|>.f r|>.t s tv
def aU6:=fun a b c d e f g i j k l m n o p q r s t=>hJ a|>.f b|>.f c|>.f d|>.f e|>.f f|>.f g|>.f i|>.f j|>.f k|>.f l|>.f m|>.f n|>.f o|>.f p|>.f q|>.f r|>.f s|>.t t tv
def aU7:=fun a b c d e f g i j k l m n o p q r s t u=>hJ a|>.f b|>.f c|>.f d|>.f e|>.f f|>.f g|>.f i|>.f j|>.f k|>.f l|>.f m|>.f n|>.f o|>.f p|>.f q|>.f r|>.f s|>.f t|>.t u tv
def aU8:=fun a b c d e f g i j k l m n o p q r s t u=>hJ a|>.f b|>.f c|>.f d|>.f e|>.f f|>.f g|>.f i|>.f j|>.f k|>.f l|>.f m|>.f n|>.f o|>.f p|>.f q|>.f r|>.f s|>.f t|>.f u tv
def aYZ (a:Int):=(tT 0 (bGN a)<|.i [rn 11,.cnilI 0 2 4] []<|.i [.cnilI 0 3 4] []<|gE 0 1 (.agg [(nI 4),(nI a),(.ilst 4 (av ([] :List Pat)) true),(.ilst 4 (RTs.av ([] :List RT)) true)])) tv
def aY0 (a b:Int)(c:List Pat)(d:List RT)(e f:Int)(g:List Pat)(i:List RT):=(tT 0 (aQ1 a b c d e f g i)<|.i [rn 15,.cnilI 2 2 4] []<|.E 0 4 [3] (.agg [(nI 7),(nI 0),(.ilst 4 (av ([] :List Pat)) true),(.slice 0 0 2 2 4 true)]) [oC 0 [(nI a),(nI b),(iP c),(.ilst 4 (RTs.av d) false),(nI e),(nI f),(iP g),(.ilst 4 (RTs.av i) false)]] 1) tv
def aY1 (b e:Int)(c:List Pat)(f:List RT)(d:Int):=fun a g=>(tT 0 (bGO b e c f d)<|gpI 13 121 [(.agg [(nI b),(nI 0),.nils,(iP c)]),(nI d)]<|fun a=>gE 3 1 (nI a)) a g tv
def aQ3(a b:Int)(c:List Pat)(d:List RT):=tT 0 (bGP a b c d)<|.b 12 7 (a==7) (gE 11 1 (nI (-1)))<|.b 5 11 (a==26) (gE 6 1 (nI (-1)))<|.W 9 1 [0] (aEH a b c d 0)
def aY2:=fun a b c d e=>aQ3 a b c d|>.t e tv
def aY3:=fun a b c d e f=>aQ3 a b c d|>.f e|>.t f tv
def aY4:=fun a b c d e f=>aQ3 a b c d|>.f e|>.f f tv
def aQ4(c d:Int)(e:List Pat)(b:List RT)(a:Int):=tT 0 (aEH c d e b a)<|gpI 5 82 [(lE c d e b)]<|fun k=>gd 2 15 (a<k) (.y fun f:Int=>.y fun g:Int=>.y fun i:List Pat=>.y fun j:List RT=>giF aE 9 b a (RT.mk f g i j)<|kJ 1 78 [(lE f g i j)]<|fun l=>.b 2 24 (!l) (gE 7 1 (nI a))<|gw 6 17 (a+1)<|.W 3 1 [0] (aEH c d e b (a+1)))<|gE 7 1 (nI (-1))
def aY5:=fun a b c d e f g i j k l m n o p q r=>aQ4 a b c d e f m|>.t n g i j k o p l q|>.t r tv
def aY6:=fun a b c d e f g i j k l m n o p q r s=>aQ4 a b c d e f m|>.t n g i j k o p l q|>.f r s tv
def aY7:=fun a b c d e f g i=>aQ4 a b c d e f g|>.f i tv
def aY8 (b c:Int)(d:List Pat)(e:List RT):=fun a f=>(tT 0 (bGQ b c d e)<|gpI 8 179 [(lE b c d e)]<|fun a=>gE 4 1 (bV (decide (a≥0)))) a f tv
def aY9(a d:Int)(e:List Pat)(b:List RT):=tT 0 (bGR a d e b)<|.b 11 6 (a==7) (.y fun c:Int=>.y fun f:Int=>.y fun g:List Pat=>.y fun i:List RT=>giF aE 2 b 0 (RT.mk c f g i)<|gE 7 1 (bV (c==7)))<|gE 10 1 (bV false)
def aZa:=fun a b c d e f g i j k l=>aY9 a b c d|>.t j e f g i k l tv
def aZb:=fun a b c d e=>aY9 a b c d|>.f e tv
abbrev aZc (a:List ONode)(b:List Int)(c:Int)(d:List Con)(e:List Node):=aA [oC 0 [.nils,.nils,(nI 0),.nils],oC 1 [(.gl 2 4 0 a.length false),(.gl 6 1 0 (b++ [(a.length:Int)]).length false),(nI c),(.gl 4 2 0 d.length false)],oL 4 2 (jC d),oC 5 [(nI (a.length:Int))],oL 6 1 (jI (b++ [(a.length:Int)])),oL 7 4 (map ONode.av (a++map Node.o e))] 8
abbrev aZd:AV:=.tup [(.agg [(.ilst 4 (jN ([] :List Node)) true),(.ilst 1 (jI ([] :List Int)) true),(nI 0),(.ilst 2 (jC ([] :List Con)) true)]),(nI 3)]
abbrev cT (a b:Int)(c:List Pat)(d:List RT):AV:=.agg [(nI a),(nI b),(iP c),(.ilst 4 (RTs.av d) false)]
abbrev aQ5 (a:Nat)(b:Prog):=oC a [(iN b.nodes),(iI b.funs),(nI b.main),(iC b.cons)]
abbrev yF (a:Nat)(b c:Int)(d:List Pat)(e:List RT):=oC a [(nI b),(nI c),(iP d),(.ilst 4 (RTs.av e) false)]
abbrev aKP:AV:=.gl 2 4 0 ([] :List RT).length false
abbrev aQ6 (a:Nat):=oC a [(nI 0),(nI 0),.nils,.nils]
abbrev aQ7 (a:Nat):=oC a [.nils,.nils,(nI 0),.nils]
abbrev aDf (a:Nat)(b:List ONode):=oL a 4 (map ONode.av b)
abbrev vP (a:List RT):AV:=.ilst 4 (RTs.av a) false
def bGS(a:Prog)(b:Int):TS:=aX PP 77 [(Prog.av a),(nI b)] [] 0
def aEI(a:Prog)(l c d:Int)(e:List Int)(f:List Pat)(g i:Int)(j:List Pat)(k:Int)(b:List RT):TS:=⟨(tf 77 40 [kp 2 0,kp 4 1,kp 5 2,kp 6 3,(7,(nI k))] [kc f77 244,kl f77 244,.inBlock 0,kc f77 31]),[],[aQ5 0 a,aQ6 1,oC 2 [(nI c),(nI d),(iI e),(iP f)],oC 3 [(nI g),(nI i),(iP j),(.gl 4 4 0 b.length false)],oL 4 4 (RTs.av b)],5⟩
def aZe(a:Prog):TS:=aX PP 40 [(Prog.av a)] [] 0
def aEJ(a:Prog)(c:Int)(b:List RT):TS:=⟨(tf 40 23 [kp 1 0,(2,.nils),(3,(.gl 1 4 0 b.length false)),(4,(nI c))] [kc f40 116,kl f40 116,.inBlock 0,kc f40 15]),[],[aQ5 0 a,oL 1 4 (RTs.av b)],2⟩
def aZf(a:List ONode)(b c:Int)(d:List Pat)(e:List RT):TS:=aX PP 87 [(.gl 0 4 0 a.length false),(cT b c d e)] [aDf 0 a] 1
def aKQ(a:List ONode)(b c:Int)(d:List Pat)(e:List RT):TS:=⟨(tf 87 47 [(0,(.gl 0 4 0 (a++ [(ONode.mk b c KV.nil d)]).length false)),kp 3 1,(4,.nils),(5,(nI (a.length:Int))),(6,(nI 0))] [kc f87 244,kl f87 244,.inBlock 0,kc f87 31]),[],[oL 0 4 (map ONode.av (a++ [(ONode.mk b c KV.nil d)])),yF 1 b c d e],2⟩
def rN(a:List ONode)(d e:Int)(f:List Pat)(g:List RT)(i:Int)(b:List ONode)(c:List Int):TS:=⟨(tf 87 47 [(0,(.gl 0 4 0 b.length false)),kp 3 1,(4,.nils),(5,(nI (a.length:Int))),(6,(nI i)),(36,(.gl 2 1 0 c.length false)),(38,(.ep 0 4 (0+ (a.length:Int).toNat) 2))] [ko f87 3912 13,kc f87 3913,.inBlock 1,kc f87 979,kl f87 244,.inBlock 0,kc f87 31]),[],[aDf 0 b,yF 1 d e f g,oL 2 1 (jI c)],3⟩
def aGA(a:List ONode)(f g:Int)(i:List Pat)(j:List RT)(k:Int)(b:List ONode)(l:List Int)(c:Option Addr)(d e:Nat):TS:=⟨(tf 87 47 [(0,(.gl 0 4 0 b.length false)),kp 3 1,(4,.nils),(5,(nI (a.length:Int))),(6,(nI k)),(36,(.val (Value.slice c d e))),(38,(.ep 0 4 (0+ (a.length:Int).toNat) 2))] [ko f87 3912 13,kc f87 3913,.inBlock 1,kc f87 979,kl f87 244,.inBlock 0,kc f87 31]),[],[aDf 0 b,yF 1 f g i j,(2,(.lstv (Value.slice c d e) 1 (jI l)),true)],3⟩
def aEK(b:List ONode)(c d:Int)(e:List Pat)(f:List RT)(a:List ONode)(g:List Int)(i:Value)(j:Int):TS:=⟨(tf 87 47 [(0,(.gl 0 4 0 a.length false)),kp 3 1,(4,.nils),(5,(nI (b.length:Int))),(6,(nI j))] [kc f87 244,kl f87 244,.inBlock 0,kc f87 31]),[],[aDf 0 a,yF 1 c d e f,(2,(.lstv i 1 (jI g)),true)],3⟩
def bGT(a:List RT)(b:Int)(c:List Con):TS:=aX PP 44 [(vP a),(nI b),(iC c)] [] 0
def aEL(d:List RT)(e:Int)(a:List Con)(f:Int)(b:List ONode)(c:List Int):TS:=⟨(tf 44 36 [(0,(vP d)),kp 6 0,kp 7 1,(8,(nI f))] [kc f44 116,kl f44 116,.inBlock 0,kc f44 15]),[],[aQ7 0,oC 1 [(.gl 2 4 0 b.length false),(.gl 3 1 0 c.length false),(nI e),(.gl 4 2 0 a.length false)],aDf 2 b,oL 3 1 (jI c),oL 4 2 (jC a)],5⟩
def bGU(a b:Int)(c:List Pat)(d:List RT)(e f:Int):TS:=aX PP 180 [(cT a b c d),(nI e),(nI f)] [] 0
def zX(b j:Int)(c:List Pat)(d:List RT)(e f g i:Int)(a:List RT):TS:=⟨(tf 180 44 [(1,(nI e)),(2,(nI f)),kp 3 0,kp 6 1,(7,(.gl 2 4 0 a.length false)),(8,(nI i))] [kc f180 244,kl f180 244,.inBlock 0,kc f180 31]),[],[yF 0 b g c d,aQ6 1,oL 2 4 (RTs.av a)],3⟩
def bGV(a b:Int)(c:List Pat)(d:List RT)(e:Int):TS:=aX PP 141 [(cT a b c d),(nI e)] [] 0
def aCl(b c:Int)(d:List Pat)(e:List RT)(f g i:Int)(a:List RT):TS:=⟨(tf 141 69 [(1,(nI f)),kp 2 0,kp 4 1,(6,(nI g)),(7,(.gl 2 4 0 a.length false)),(8,(nI i))] [kc f141 500,kl f141 500,.inBlock 0,kc f141 63]),[],[yF 0 b c d e,aQ6 1,oL 2 4 (RTs.av a)],3⟩
def aZg(a:Prog):TS:=aX PP 43 [(Prog.av a)] [] 0
def aEM(a:Prog)(b:List Int)(c:Int):TS:=⟨(tf 43 26 [kp 1 0,kp 2 1,(3,(nI 0)),(4,(iI b)),(5,(nI c))] [kc f43 244,kl f43 244,.inBlock 0,kc f43 31]),[],[aQ5 0 a,aQ7 1],2⟩
def aZh(a:Prog):TS:=aX PP 39 [(Prog.av a)] [] 0
def aZi (b:Prog)(c:Int):=fun a d e=>(tT 0 (bGS b c)<|gX Node.av 10 b.nodes c<|fun a=>.i [rn 23,.cnil 3 3 4] []<|gu 0 4 (RTs.av ([] :List RT))<|gv 0 3 3 (.gl 4 4 0 ([] :List RT).length false)<|.W 0 5 [0,1,2,3,4] (aEI b c a.op a.n a.kids a.pats a.op a.n a.pats 0 ([] :List RT))) a d e ⟨bT,trivial⟩
def aZj(i:Prog)(n o p:Int)(g:List Int)(q:List Pat)(j k:Int)(l:List Pat)(f:Int)(a:List RT):=tT 0 (aEI i n o p g q j k l f a)<|gl 6 cG g<|gd 2 24 (f< (g.length:Int)) (.y fun m:Int=>.y fun b:Int=>.y fun c:Int=>.y fun d:List Pat=>.y fun e:List RT=>.i [rn 4,.reg (rd 6 [.ans (.idx (cG m)),.d,.pure (cT b c d e),.d,.app (RTs.av (a++ [(RT.mk b c d e)])) (a++ [(RT.mk b c d e)]).length,.d,.d])] [hA (0≤f),.a (((g)[f.toNat]?) =some m) (bL (f:=cG)),hA (aK PP 77 [(Prog.av i),(nI m)] (cT b c d e)),.q (p:=0+a.length≤length (RTs.av a)) (iY aE _),hA (length (a++ [(RT.mk b c d e)]) ≤1000000),.q (p:=take a.length (drop 0 (RTs.av a)) ++ (RTs.av [(RT.mk b c d e)]) = (RTs.av (a++ [(RT.mk b c d e)]))) (iZ aE _ _),.q (p:=a.length+length (RTs.av [(RT.mk b c d e)]) =length (a++ [(RT.mk b c d e)])) (jA aE _ _),hr (AV.gl 4 4 0 a.length false),hr (AV.gl 4 4 0 a.length false)]<|gw 4 26 (f+1)<|.W 3 7 [0,1,2,3,6] (aEI i n o p g q j k l (f+1) (a++ [(RT.mk b c d e)])))<|.i [rn 3,.cfrz 3 3 4 (RTs.av a)] [.q (p:=keylessL (RTs.av a) =true) bT,.q (p:=frzOk 4 4 (RTs.av a) (RTs.av a) (.gl 4 4 0 a.length false)) (hX aE _)]<|gE 5 5 (cT j k l a)
def aZk:=fun a b c d e f g i j k l m n o p q r s t u v w=>aZj a b c d e f g i j k l|>.t r m n o p q s t u v w ⟨bT,trivial⟩
def aZl:=fun a b c d e f g i j k l m=>aZj a b c d e f g i j k l|>.f m tv
def aZm (a:Prog):=(tT 0 (aZe a)<|.i [rn 16,.nilL 3 4] []<|gu 0 1 (RTs.av ([] :List RT))<|gs 0 3 (.gl 1 4 0 ([] :List RT).length false)<|.W 0 2 [0,1] (aEJ a 0 ([] :List RT))) ⟨bT,trivial⟩
def aZn(f:Prog)(g:Int)(a:List RT):=tT 0 (aEJ f g a)<|gl 6 cG f.funs<|gd 2 9 (g< (f.funs.length:Int)) (.y fun i:Int=>.y fun b:Int=>.y fun c:Int=>.y fun d:List Pat=>.y fun e:List RT=>.i [rn 4,.reg (rd 5 [.ans (.idx (cG i)),.d,.pure (cT b c d e),.d,.app (RTs.av (a++ [(RT.mk b c d e)])) (a++ [(RT.mk b c d e)]).length,.d])] [hA (0≤g),.a (((f.funs)[g.toNat]?) =some i) (bL (f:=cG)),hA (aK PP 77 [(Prog.av f),(nI i)] (cT b c d e)),.q (p:=0+a.length≤length (RTs.av a)) (iY aE _),hA (length (a++ [(RT.mk b c d e)]) ≤1000000),.q (p:=take a.length (drop 0 (RTs.av a)) ++ (RTs.av [(RT.mk b c d e)]) = (RTs.av (a++ [(RT.mk b c d e)]))) (iZ aE _ _),.q (p:=a.length+length (RTs.av [(RT.mk b c d e)]) =length (a++ [(RT.mk b c d e)])) (jA aE _ _)]<|gw 4 11 (g+1)<|.W 3 4 [0,3] (aEJ f (g+1) (a++ [(RT.mk b c d e)])))<|.E 8 2 [1] (.gl 0 4 0 a.length false) [oL 0 4 (RTs.av a)] 1
def aZo:=fun a b c d e f g i j k l m n o=>aZn a b c|>.t j d e f g i k l m n o ⟨bT,trivial⟩
def aZp:=fun a b c d=>aZn a b c|>.f d ⟨bT,trivial⟩
def aZq (a:List ONode)(b c:Int)(d:List Pat)(e:List RT):=fun f=>(tT 0 (aZf a b c d e)<|ga 22 ONode.av a [(ONode.mk b c KV.nil d)]<|.W 9 4 [3,1] (aKQ a b c d e)) f ⟨(aN _ (fun _=>dU _) _),trivial⟩
def aZr(a:List ONode)(c d:Int)(e:List Pat)(f:List RT):=tT 0 (aKQ a c d e f)<|.i [rn 6,aL f] [.q (p:=((RTs.av f).length:Int) = (f.length:Int)) (eM aE _)]<|gd 2 23 (0< (f.length:Int)) (.i [rn 10,.ans (.ix)] [hA (0≤ (a.length:Int)),hA ((a.length:Int) < (((a++ [(ONode.mk c d KV.nil e)]).length:Nat) :Int))]<|.y fun b:ONode=>gj ONode.av 1 (a++ [(ONode.mk c d KV.nil e)]) ((a.length:Int).toNat) b<|.i [.set 32 .nils] [.a (b.kv=KV.nil) (congrArg KV.av)]<|.i [rn 3,.nilL 32 1] []<|gu 0 3 (jI ([] :List Int))<|gs 0 32 (.gl 3 1 0 ([] :List Int).length false)<|ga 0 cG ([] :List Int) [(((a++ [(ONode.mk c d KV.nil e)]).length:Nat) :Int)]<|.i [.ans (.ix)] [hA (0≤ (a.length:Int)),hA ((a.length:Int) < (((a++ [(ONode.mk c d KV.nil e)]).length:Nat) :Int))]<|.W 1 5 [0,1,4] (rN a c d e f 0 (a++ [(ONode.mk c d KV.nil e)]) (([] :List Int) ++ [(((a++ [(ONode.mk c d KV.nil e)]).length:Nat) :Int)])))<|.y fun b:ONode=>.i [rn 8,.lw 0 (map ONode.av (set (a++ [(ONode.mk c d KV.nil e)]) a.length (ONode.mk b.op b.n (KV.row []) b.pats)))] [.a ((a++ [(ONode.mk c d KV.nil e)])[a.length]?=some b) (p':=(map ONode.av (a++ [(ONode.mk c d KV.nil e)])) ≠ []) aJ0,.a ((a++ [(ONode.mk c d KV.nil e)])[a.length]?=some b∧b.kv=KV.nil) (p':=VW (map ONode.av (a++ [(ONode.mk c d KV.nil e)])) (map ONode.av (set (a++ [(ONode.mk c d KV.nil e)]) a.length (ONode.mk b.op b.n (KV.row []) b.pats)))) fun⟨ha,hb⟩=>(aXa ha hb)]<|.i [.set 0 (.gl 0 4 0 (set (a++ [(ONode.mk c d KV.nil e)]) a.length (ONode.mk b.op b.n (KV.row []) b.pats)).length false)] [.q (p:=(AV.gl 0 4 0 (a++ [(ONode.mk c d KV.nil e)]).length false) = (.gl 0 4 0 (set (a++ [(ONode.mk c d KV.nil e)]) a.length (ONode.mk b.op b.n (KV.row []) b.pats)).length false)) (bK (dZ ..).symm)]<|.i [.set 4 (.gl 0 4 0 (set (a++ [(ONode.mk c d KV.nil e)]) a.length (ONode.mk b.op b.n (KV.row []) b.pats)).length false)] [.q (p:=(AV.gl 0 4 0 (a++ [(ONode.mk c d KV.nil e)]).length false) = (.gl 0 4 0 (set (a++ [(ONode.mk c d KV.nil e)]) a.length (ONode.mk b.op b.n (KV.row []) b.pats)).length false)) (bK (dZ ..).symm)]<|.i [.set 46 (.gl 0 4 0 (set (a++ [(ONode.mk c d KV.nil e)]) a.length (ONode.mk b.op b.n (KV.row []) b.pats)).length false)] [.q (p:=(AV.gl 0 4 0 (a++ [(ONode.mk c d KV.nil e)]).length false) = (.gl 0 4 0 (set (a++ [(ONode.mk c d KV.nil e)]) a.length (ONode.mk b.op b.n (KV.row []) b.pats)).length false)) (bK (dZ ..).symm)]<|.E 0 2 [0] (.gl 0 4 0 (set (a++ [(ONode.mk c d KV.nil e)]) a.length (ONode.mk b.op b.n (KV.row []) b.pats)).length false) [oL 0 4 (map ONode.av (set (a++ [(ONode.mk c d KV.nil e)]) a.length (ONode.mk b.op b.n (KV.row []) b.pats)))] 1
def aZs:=fun c d e f g i j a b k l m=>aZr c d e f g|>.t j a b i k l m a b ⟨(aN _ (fun _=>dU _) _),⟨kk,trivial⟩⟩
def aZt:=fun b c d e f g i a j=>aZr b c d e f|>.f i g a ⟨a,j⟩ ⟨(aN _ (fun _=>dU _) _),trivial⟩
def aZu (e:List ONode)(j k:Int)(l:List Pat)(g:List RT)(m:Int)(f:List ONode)(n:List Int)(b:Option Addr)(c d:Nat):=fun a o p q r i s t u v w=>(tT 0 (aGA e j k l g m f n b c d)<|.y fun a:ONode=>.i [.st (ONode.av a) (ONode.av (ONode.mk a.op a.n (KV.val (Value.slice b c d)) a.pats))] [.a (((f)[(e.length:Int).toNat]?) =some a) (cI (f:=ONode.av)),hr (some (ONode.av (ONode.mk a.op a.n (KV.val (Value.slice b c d)) a.pats)))]<|.i [.lset 0 (map ONode.av (set f ((e.length:Int).toNat) (ONode.mk a.op a.n (KV.val (Value.slice b c d)) a.pats)))] [.q (p:=(map ONode.av f).set (0+ (e.length:Int).toNat) (ONode.av (ONode.mk a.op a.n (KV.val (Value.slice b c d)) a.pats)) = (map ONode.av (set f ((e.length:Int).toNat) (ONode.mk a.op a.n (KV.val (Value.slice b c d)) a.pats)))) (oH _ _ _ _)]<|.i [.set 0 (.gl 0 4 0 (set f ((e.length:Int).toNat) (ONode.mk a.op a.n (KV.val (Value.slice b c d)) a.pats)).length false)] [.q (p:=(AV.gl 0 4 0 f.length false) = (.gl 0 4 0 (set f ((e.length:Int).toNat) (ONode.mk a.op a.n (KV.val (Value.slice b c d)) a.pats)).length false)) (bK (dZ ..).symm)]<|.y fun o:Int=>.y fun p:Int=>.y fun q:List Pat=>.y fun r:List RT=>giF aE 6 g m (RT.mk o p q r)<|.y fun i:List Node=>gk 1 (.enter 87 [(.gl 0 4 0 (set f ((e.length:Int).toNat) (ONode.mk a.op a.n (KV.val (Value.slice b c d)) a.pats)).length false),(cT o p q r)]) [oL 0 4 (map ONode.av (set f ((e.length:Int).toNat) (ONode.mk a.op a.n (KV.val (Value.slice b c d)) a.pats))),yF 1 j k l g,(2,(.lstv (Value.slice b c d) 1 (jI n)),true)] 3 (.gl 3 4 0 ((set f ((e.length:Int).toNat) (ONode.mk a.op a.n (KV.val (Value.slice b c d)) a.pats)) ++map Node.o i).length false) [yF 1 j k l g,(2,(.lstv (Value.slice b c d) 1 (jI n)),true),oL 3 4 (map ONode.av ((set f ((e.length:Int).toNat) (ONode.mk a.op a.n (KV.val (Value.slice b c d)) a.pats)) ++map Node.o i))] 4<|gw 6 25 (m+1)<|.W 3 4 [3,1,2] (aEK e j k l g ((set f ((e.length:Int).toNat) (ONode.mk a.op a.n (KV.val (Value.slice b c d)) a.pats)) ++map Node.o i) n (Value.slice b c d) (m+1))) a s o p q r t u i v w ⟨(aN _ (fun _=>dU _) _),⟨kk,trivial⟩⟩
def aZv(c:List ONode)(i j:Int)(k:List Pat)(e:List RT)(b:List ONode)(d:List Int)(f:Value)(g:Int):=tT 0 (aEK c i j k e b d f g)<|.i [rn 6,aL e] [.q (p:=((RTs.av e).length:Int) = (e.length:Int)) (eM aE _)]<|gd 2 23 (g< (e.length:Int)) (.i [rn 10,.ans (.ix)] [hA (0≤ (c.length:Int)),hA ((c.length:Int) < (b.length:Int))]<|.y fun a:ONode=>gj ONode.av 1 b ((c.length:Int).toNat) a<|.i [.set 32 (.val f)] [.a (a.kv=KV.val f) (congrArg KV.av)]<|.i [.unname 32 2] [hr f]<|.i [.set 32 (.gl 2 1 0 d.length false)] [.q (p:=(AV.gl 2 1 0 (jI d).length false) = (.gl 2 1 0 d.length false)) (bK (mR ..))]<|ga 3 cG d [(b.length:Int)]<|.i [.ans (.ix)] [hA (0≤ (c.length:Int)),hA ((c.length:Int) < (b.length:Int))]<|.W 1 5 [0,1,4] (rN c i j k e g b (d++ [(b.length:Int)])))<|.y fun a:ONode=>.i [rn 8,.vfrz 2 0 (map ONode.av (set b c.length (ONode.mk a.op a.n (KV.row d) a.pats)))] [.a (b[c.length]?=some a) (p':=(map ONode.av b) ≠ []) aJ0,hk cG d,.a (b[c.length]?=some a∧a.kv=KV.val f) (p':=VQ f 1 (jI d) (map ONode.av b) (map ONode.av (set b c.length (ONode.mk a.op a.n (KV.row d) a.pats)))) fun⟨ha,hb⟩=>(aXb ha hb)]<|.i [.set 0 (.gl 0 4 0 (set b c.length (ONode.mk a.op a.n (KV.row d) a.pats)).length false)] [.q (p:=(AV.gl 0 4 0 b.length false) = (.gl 0 4 0 (set b c.length (ONode.mk a.op a.n (KV.row d) a.pats)).length false)) (bK (dZ ..).symm)]<|.i [.set 4 (.gl 0 4 0 (set b c.length (ONode.mk a.op a.n (KV.row d) a.pats)).length false)] [.q (p:=(AV.gl 0 4 0 b.length false) = (.gl 0 4 0 (set b c.length (ONode.mk a.op a.n (KV.row d) a.pats)).length false)) (bK (dZ ..).symm)]<|.i [.set 46 (.gl 0 4 0 (set b c.length (ONode.mk a.op a.n (KV.row d) a.pats)).length false)] [.q (p:=(AV.gl 0 4 0 b.length false) = (.gl 0 4 0 (set b c.length (ONode.mk a.op a.n (KV.row d) a.pats)).length false)) (bK (dZ ..).symm)]<|.E 0 3 [0] (.gl 0 4 0 (set b c.length (ONode.mk a.op a.n (KV.row d) a.pats)).length false) [oL 0 4 (map ONode.av (set b c.length (ONode.mk a.op a.n (KV.row d) a.pats)))] 1
def aZw:=fun c d e f g i j k l m n a b o p q=>aZv c d e f g i j k l|>.t n a b m o p q a b ⟨(aN _ (fun _=>dU _) _),⟨kk,trivial⟩⟩
def aZx:=fun b c d e f g i j k l m a n=>aZv b c d e f g i j k|>.f m l a ⟨a,n⟩ ⟨(aN _ (fun _=>dU _) _),trivial⟩
def aZy (b:List RT)(c:Int)(a:List Con):=fun d=>(tT 0 (bGT b c a)<|.i [rn 8,.appN (jC a) a.length] [hA (a.length≤1000000),hr (jC a),.q (p:=length (jC a) =a.length) (mR ..)]<|.i [rn 11,.cnil 2 0 4] []<|gu 0 3 (map ONode.av ([] :List ONode))<|gv 0 2 0 (.gl 3 4 0 ([] :List ONode).length false)<|.i [.cnil 2 1 1] []<|gu 0 4 (jI ([] :List Int))<|gv 0 2 1 (.gl 4 1 0 ([] :List Int).length false)<|.W 0 5 [0,2,3,4,1] (aEL b c a 0 ([] :List ONode) ([] :List Int))) d ⟨(aN _ (fun _=>dU _) _),⟨kk,⟨kk,trivial⟩⟩⟩
def aZz(e:List RT)(f:Int)(c:List Con)(g:Int)(a:List ONode)(b:List Int):=tT 0 (aEL e f c g a b)<|.i [rn 5,aL e] [.q (p:=((RTs.av e).length:Int) = (e.length:Int)) (eM aE _)]<|gd 2 16 (g< (e.length:Int)) (ga 12 cG b [(a.length:Int)]<|.y fun j:Int=>.y fun k:Int=>.y fun l:List Pat=>.y fun m:List RT=>.y fun i:List Node=>.i [rn 3,.reg (rd 4 [.ans (.idx (RT.av (RT.mk j k l m))),.d,.call (.gl 7 4 0 (a++map Node.o i).length false) (aZc a b f c i),.d,.d])] [hA (0≤g),.a (((e)[g.toNat]?) =some (RT.mk j k l m)) (dL aE),hA (Spec PP (.enter 87 [(.gl 2 4 0 a.length false),(cT j k l m)]) (aA [aQ7 0,oC 1 [(.gl 2 4 0 a.length false),(.gl 6 1 0 (b++ [(a.length:Int)]).length false),(nI f),(.gl 4 2 0 c.length false)],aDf 2 a,oL 4 2 (jC c),oC 5 [(nI (a.length:Int))],oL 6 1 (jI (b++ [(a.length:Int)]))] 7) (.ret (.gl 7 4 0 (a++map Node.o i).length false)) (aZc a b f c i))]<|gw 4 18 (g+1)<|.W 3 8 [0,1,7,6,4] (aEL e f c (g+1) (a++map Node.o i) (b++ [(a.length:Int)])))<|.y fun d:List Node=>.i [rn 3,.lset 2 (jN d)] [.a (a=map Node.o d) (p':=(map ONode.av a) = (jN d)) aGu]<|.i [.cset 1 0 (.gl 2 4 0 d.length false)] [.a (d.length=a.length) (p':=(AV.gl 2 4 0 a.length false) = (.gl 2 4 0 d.length false)) (fun h=>(bK h.symm))]<|gy 0 1 0 2 4 Node.av d false<|gy 0 1 1 3 1 cG b false<|.E 5 5 [4] (.agg [(iN d),(iI b),(nI f),(.gl 0 2 0 c.length false)]) [oL 0 2 (jC c)] 1
def aZA:=fun a b c d e f g i j k l m n o p q r=>aZz a b c d e f|>.t m n g i j k l o p q r ⟨(aN _ (fun _=>dU _) _),⟨kk,⟨kk,trivial⟩⟩⟩
def aZB:=fun a b c d e f g i j k=>aZz a b c d e f|>.f i g j k ⟨kk,trivial⟩
def aQ8(c a:Int)(e:List Pat)(f:List RT)(d b:Int):=tT 0 (bGU c a e f d b)<|.b 12 12 (c==4) (gd 6 17 (a≥d) (gw 6 21 (a+b)<|.i [rn 14,.nilL 7 4] []<|gu 0 2 (RTs.av ([] :List RT))<|gs 0 7 aKP<|.W 0 3 [0,1,2] (zX c a e f d b (a+b) 0 ([] :List RT)))<|.i [rn 13,.nilL 7 4] []<|gu 0 2 (RTs.av ([] :List RT))<|gs 0 7 aKP<|.W 0 3 [0,1,2] (zX c a e f d b a 0 ([] :List RT)))<|.i [rn 19,.nilL 7 4] []<|gu 0 2 (RTs.av ([] :List RT))<|gs 0 7 aKP<|.W 0 3 [0,1,2] (zX c a e f d b a 0 ([] :List RT))
def aZC:=fun a b c d e f g i j=>aQ8 a b c d e f|>.t g|>.t i j ⟨bT,trivial⟩
def aZD:=fun a b c d e f g i=>aQ8 a b c d e f|>.t g|>.f i ⟨bT,trivial⟩
def aZE:=fun a b c d e f g=>aQ8 a b c d e f|>.f g ⟨bT,trivial⟩
def aZF(i n:Int)(j:List Pat)(f:List RT)(k l m g:Int)(a:List RT):=tT 0 (zX i n j f k l m g a)<|.i [rn 6,aL f] [.q (p:=((RTs.av f).length:Int) = (f.length:Int)) (eM aE _)]<|gd 2 27 (g< (f.length:Int)) (.y fun o:Int=>.y fun p:Int=>.y fun q:List Pat=>.y fun r:List RT=>giF aE 9 f g (RT.mk o p q r)<|.y fun b:Int=>.y fun c:Int=>.y fun d:List Pat=>.y fun e:List RT=>gp 3 180 [(cT o p q r),(nI k),(nI l)] (cT b c d e)<|.i [rn 1,.app (RTs.av (a++ [(RT.mk b c d e)])) (a++ [(RT.mk b c d e)]).length] [.q (p:=0+a.length≤length (RTs.av a)) (iY aE _),hA (length (a++ [(RT.mk b c d e)]) ≤1000000),.q (p:=take a.length (drop 0 (RTs.av a)) ++ (RTs.av [(RT.mk b c d e)]) = (RTs.av (a++ [(RT.mk b c d e)]))) (iZ aE _ _),.q (p:=a.length+length (RTs.av [(RT.mk b c d e)]) =length (a++ [(RT.mk b c d e)])) (jA aE _ _)]<|gw 6 29 (g+1)<|.W 3 5 [0,1,4] (zX i n j f k l m (g+1) (a++ [(RT.mk b c d e)])))<|.i [rn 14,.cfrz 1 3 2 (RTs.av a)] [.q (p:=keylessL (RTs.av a) =true) bT,.q (p:=frzOk 2 4 (RTs.av a) (RTs.av a) (.gl 2 4 0 a.length false)) (hX aE _)]<|gE 0 3 (cT i m j a)
def aZG:=fun a b c d e f g i j k l m n o p q r s t u v w x=>aZF a b c d e f g i j|>.t s k l m n t u o p q r v w x ⟨bT,trivial⟩
def aZH:=fun a b c d e f g i j k=>aZF a b c d e f g i j|>.f k tv
def aZI(l m:Int)(n:List Pat)(b:List RT)(o:Int):=tT 0 (bGV l m n b o)<|kJ 9 140 [(cT l m n b)]<|fun G=>.b 1 11 G (.y fun H:Int=>.y fun I:Int=>.y fun J:List Pat=>.y fun a:List RT=>giF aE 5 b (0:Int) (RT.mk H I J a)<|.y fun c:Int=>.y fun d:Int=>.y fun e:List Pat=>.y fun f:List RT=>.y fun g:Int=>.y fun i:Int=>.y fun j:List Pat=>.y fun k:List RT=>.y fun p:Int=>.y fun q:Int=>.y fun r:List Pat=>.y fun s:List RT=>.y fun t:Int=>.y fun u:Int=>.y fun v:List Pat=>.y fun w:List RT=>.y fun x:Int=>.y fun y:Int=>.y fun z:List Pat=>.y fun A:List RT=>.y fun B:Int=>.y fun C:Int=>.y fun D:List Pat=>.y fun F:List RT=>.i [rn 5,.reg (.d::.d::.ans (.idx (RT.av (RT.mk c d e f)))::rd 3 (.ans (.idx (RT.av (RT.mk g i j k)))::rd 3 [.ans (.idx (RT.av (RT.mk p q r s))),.d,.d,.pure (cT t u v w),.pure (cT x y z A),.pure (cT B C D F),.d]))] [hA (0≤ (0:Int)),.a (((a)[(0:Int).toNat]?) =some (RT.mk c d e f)) (dL aE),hA (0≤ (1:Int)),.a (((a)[(1:Int).toNat]?) =some (RT.mk g i j k)) (dL aE),hA (0≤ (1:Int)),.a (((b)[(1:Int).toNat]?) =some (RT.mk p q r s)) (dL aE),hA (aK PP 180 [(cT p q r s),(nI o),(nI 1)] (cT t u v w)),hA (aK PP 85 [(cT g i j k),(cT t u v w)] (cT x y z A)),hA (aK PP 85 [(cT c d e f),(cT x y z A)] (cT B C D F)),hr (agg [(nI g),(nI i),(iP j),(vP k)]),hr (agg [(nI g),(nI i),(iP j),(vP k)]),hr (ilst 4 (RTs.av a) false),hr (ilst 4 (RTs.av a) false),hr (agg [(nI c),(nI d),(iP e),(vP f)]),hr (agg [(nI c),(nI d),(iP e),(vP f)]),hr (agg [(nI c),(nI d),(iP e),(vP f)]),hr (ilst 4 (RTs.av a) false),hr (ilst 4 (RTs.av a) false),hr (ilst 4 (RTs.av a) false)]<|gE 1 3 (cT B C D F))<|gpI 5 179 [(cT l m n b)]<|fun K=>.i [rn 13,.nilL 7 4] []<|gu 0 2 (RTs.av ([] :List RT))<|gs 0 7 aKP<|.W 0 3 [0,1,2] (aCl l m n b o K 0 ([] :List RT))
def aZJ:=fun c d e f g i j k l m n o p q r s t u v w x y z A B C D F G H I J K L M N a O Q b R S T U V=>aZI c d e f g i M|>.t N j k l m a O n o p q r s t u v w x y z A B C D F G H I J K L a Q b R b S T U V tv
def aZK:=fun a b c d e f g i j k=>aZI a b c d e f i|>.f j g k ⟨bT,trivial⟩
def aQ9(m n:Int)(o:List Pat)(k:List RT)(p q l:Int)(a:List RT):=tT 0 (aCl m n o k p q l a)<|.i [rn 6,aL k] [.q (p:=((RTs.av k).length:Int) = (k.length:Int)) (eM aE _)]<|gd 2 38 (l< (k.length:Int)) (.b 10 43 (l==q) (.y fun b:Int=>.y fun c:Int=>.y fun d:List Pat=>.y fun e:List RT=>gp 4 83 [(nI p)] (cT b c d e)<|.i [rn 1,.app (RTs.av (a++ [(RT.mk b c d e)])) (a++ [(RT.mk b c d e)]).length] [.q (p:=0+a.length≤length (RTs.av a)) (iY aE _),hA (length (a++ [(RT.mk b c d e)]) ≤1000000),.q (p:=take a.length (drop 0 (RTs.av a)) ++ (RTs.av [(RT.mk b c d e)]) = (RTs.av (a++ [(RT.mk b c d e)]))) (iZ aE _ _),.q (p:=a.length+length (RTs.av [(RT.mk b c d e)]) =length (a++ [(RT.mk b c d e)])) (jA aE _ _)]<|gw 6 40 (l+1)<|.W 3 5 [0,1,4] (aCl m n o k p q (l+1) (a++ [(RT.mk b c d e)])))<|.y fun b:Int=>.y fun c:Int=>.y fun d:List Pat=>.y fun e:List RT=>giF aE 6 k l (RT.mk b c d e)<|.y fun f:Int=>.y fun g:Int=>.y fun i:List Pat=>.y fun j:List RT=>gp 2 180 [(cT b c d e),(nI p),(nI 1)] (cT f g i j)<|.i [rn 1,.app (RTs.av (a++ [(RT.mk f g i j)])) (a++ [(RT.mk f g i j)]).length] [.q (p:=0+a.length≤length (RTs.av a)) (iY aE _),hA (length (a++ [(RT.mk f g i j)]) ≤1000000),.q (p:=take a.length (drop 0 (RTs.av a)) ++ (RTs.av [(RT.mk f g i j)]) = (RTs.av (a++ [(RT.mk f g i j)]))) (iZ aE _ _),.q (p:=a.length+length (RTs.av [(RT.mk f g i j)]) =length (a++ [(RT.mk f g i j)])) (jA aE _ _)]<|gw 6 40 (l+1)<|.W 3 5 [0,1,4] (aCl m n o k p q (l+1) (a++ [(RT.mk f g i j)])))<|.y fun b:Int=>.y fun c:Int=>.y fun d:List Pat=>.y fun e:List RT=>giF aE 7 k q (RT.mk b c d e)<|.i [rn 14,.frz 67 2 (RTs.av a)] [.q (p:=keylessL (RTs.av a) =true) bT,.q (p:=frzOk 2 4 (RTs.av a) (RTs.av a) (.agg [(nI m),(nI n),(iP o),(.gl 2 4 0 a.length false)])) (by simp [frzOk,frzOkL,dP,aE,aAG])]<|.y fun f:Int=>.y fun g:Int=>.y fun i:List Pat=>.y fun j:List RT=>gp 0 85 [(cT b c d e),(cT m n o a)] (cT f g i j)<|gE 3 4 (cT f g i j)
def aZL:=fun a b c d e f g i j k l m n o p q r=>aQ9 a b c d e f g i|>.t n|>.t o j k l m p q r ⟨bT,trivial⟩
def aZM:=fun a b c d e f g i j k l m n o p q r s t u v w x=>aQ9 a b c d e f g i|>.t r|>.f s j k l m t u n o p q v w x ⟨bT,trivial⟩
def aZN:=fun a b c d e f g i j k l m n o p q r s t u=>aQ9 a b c d e f g i|>.f r j k l m s t n o p q u tv
def aZO(a:Prog):=tT 0 (aZg a)<|gl 11 Node.av a.nodes<|gd 2 9 ((a.nodes.length:Int) >300) (.i [rn 8,.cnilI 1 0 4] []<|.i [.cnilI 1 1 1] []<|.i [.cnilI 1 3 2] []<|gE 0 2 aZd)<|.y fun b:List Int=>gp 5 86 [(Prog.av a)] (iI b)<|.W 9 2 [0,1] (aEM a b 0)
def aZP:=fun a b=>aZO a|>.t b tv
def aZQ:=fun a b c d=>aZO a|>.f c b d tv
def aKR(c:Prog)(a:List Int)(b:Int):=tT 0 (aEM c a b)<|gl 5 cG a<|gd 2 16 (b< (a.length:Int)) (gX cG 8 a b<|fun d=>gd 3 23 (d>30) (.i [rn 8,.cnilI 1 0 4] []<|.i [.cnilI 1 1 1] []<|.i [.cnilI 1 3 2] []<|gE 0 2 aZd)<|gw 6 18 (b+1)<|.W 3 2 [0,1] (aEM c a (b+1)))<|gE 9 2 (.tup [(Prog.av c),(nI 0)])
def aZR:=fun a b c d e f g i=>aKR a b c|>.t e d f g|>.t i tv
def aZS:=fun a b c d e f g i j=>aKR a b c|>.t e d f g|>.f i j tv
def aZT:=fun a b c d=>aKR a b c|>.f d tv
def aKS(a:Prog):=tT 0 (aZh a)<|kJ 9 27 [(Prog.av a)]<|fun b=>.b 2 5 (!b) (gE 6 1 (nI 2))<|kJ 6 58 [(Prog.av a)]<|fun c=>.b 2 8 (!c) (gE 6 1 (nI 7))<|gE 7 1 (nI 0)
def aZU:=fun a b c d=>aKS a b c|>.t d tv
def aZV:=fun a b c d e f g=>aKS a b d|>.f e c f|>.t g tv
def aZW:=fun a b c d e f g=>aKS a b d|>.f e c f|>.f g tv
mutual
theorem aNG {p:Prog}(c:aGf p) :∀ (t:XT) (a:Int),IsTree p t a→aK PP 77 [Prog.av p,.int .i64 a] (RT.av t)
 | .mk o n e i,a,h=>by
  simp only [IsTree]at h;obtain⟨d,nd,b,rfl,rfl,rfl,g⟩ :=h;obtain⟨f,_⟩ :=c nd (jQ b);refine aG aC rfl (mA _) ((aZi p a nd d b).ends ?_);exact aNH c a nd.op nd.n nd.kids nd.pats f e [] 0 (by simpa using g) rfl
theorem aNH {p:Prog}(j:aGf p)(a o n:Int)(kids:List Int)(ps:List Pat)(hk:kids.length<1000000) :∀ (c b:List XT) (i:Nat),aO p c (kids.drop i) →b.length=i →
  Ends PP 0 (aEI p a o n kids ps o n ps (i:Int) b).as (.ret (RT.av (.mk o n (b++c) ps))) (aA [] 0)
 | [],b,i,h,l=>by
  simp only [aO]at h;have t:=bH h;rw [rQ];exact aZl p a o n kids ps o n ps (i:Int) b sd
 | .mk g f e d::c,b,i,h,l=>by
  simp only [aO]at h;obtain⟨k,w,q,r,s⟩ :=h;obtain⟨u,m,v⟩ :=bE q;refine(aZk p a o n kids ps o n ps (i:Int) b k g f d e sd sd sd (aNG j (.mk g f e d) k r) (by simp;omega) sd).ends ?_;have:=aNH j a o n kids ps hk c (b++ [.mk g f e d]) (i+1) (by rw [m];exact s) (by simp [l]);rw [zq9]at this;exact this
end
theorem aNI {p:Prog}(j:aGf p)(hl:p.funs.length≤1000) :∀ (b a:List XT) (i:Nat),aO p b (p.funs.drop i) →a.length=i →
  Ends PP 0 (aEJ p (i:Int) a).as (.ret (.gl 0 4 0 (length (a++b)) false)) (aA [(0,(.lst 4 (RTs.av (a++b))),true)] 1)
 | [],a,i,h,g=>by
  simp only [aO]at h;have s:=bH h;rw [rQ];exact aZp p (i:Int) a sd
 | .mk d c f e::b,a,i,h,g=>by
  simp only [aO]at h;obtain⟨k,t,m,n,o⟩ :=h;obtain⟨q,l,r⟩ :=bE m;refine(aZo p (i:Int) a k d c e f sd sd sd (aNG j (.mk d c f e) k n) (by simp;omega) sd).ends ?_;have:=aNI j hl b (a++ [.mk d c f e]) (i+1) (by rw [l];exact o) (by simp [g]);rw [zq9]at this;exact this
theorem aNJ {p:Prog}(a:aGf p)(hl:p.funs.length≤1000){ts:List XT}(h:aO p ts p.funs) :eS PP 0 (.enter 40 [Prog.av p]) (aA [] 0) (.ret (.gl 0 4 0 (length ts) false)) (aA [(0,(.lst 4 (RTs.av ts)),true)] 1) :=
 ⟨(aZe p).as.fr,by kernel_rfl,(aZm p).ends (by simpa using aNI a hl ts [] 0 (by simpa using h) rfl)⟩
theorem bGW {fr o n:Int}(h:0≤fr) :mvN fr 1 o n=if o=4 then(if n≥fr then n+1 else n)else n:=by
 unfold mvN;by_cases a:o=4
 · by_cases b:n≥fr
   ·rw [if_pos ⟨a,by omega,b⟩,if_pos a,if_pos b]
   ·rw [if_neg (fun g=>b g.2.2),if_pos a,if_neg b]
 ·rw [if_neg (fun g=>a g.1),if_neg a]
mutual
theorem aGB {fr:Int}(f:0≤fr) :∀ (t:XT),OkT t→aK PP 180 [RT.av t,.int .i64 fr,.int .i64 1] (RT.av (mG fr 1 t))
 | .mk o n d e,h=>by
  simp only [OkT]at h;obtain⟨g,j,i⟩ :=h;refine aG aC (by simp [keylessL,keyless,mA]) (mA _) ?_;have c:=aNK f o n d e j (mvN fr 1 o n) d [] 0 rfl rfl i;simp only [mG];rw [bGW f]at c ⊢;by_cases a:o=4
  · rw [if_pos a]at c ⊢;by_cases b:n≥fr
    · rw [if_pos b]at c ⊢;have:=g a;exact(aZC o n e d fr 1 (by simpa using a) sd sd).ends c
    · rw [if_neg b]at c ⊢;exact(aZD o n e d fr 1 (by simpa using a) sd).ends c
  · rw [if_neg a]at c ⊢;exact(aZE o n e d fr 1 (by simpa using a)).ends c
theorem aNK {fr:Int}(m:0≤fr)(o n:Int)(ks:List XT)(ps:List Pat)(hk:ks.length<1000000)(d:Int) :∀ (c a:List XT) (i:Nat),ks.drop i=c→a.length=i→aD4 c →
  Ends PP 0 (zX o n ps ks fr 1 d (i:Int) a).as (.ret (RT.av (.mk o d (a++cV fr 1 c) ps))) (aA [] 0)
 | [],a,i,h,l,_=>by
  have s:=bH h;simp only [cV,rQ];exact aZH o n ps ks fr 1 d (i:Int) a sd
 | .mk b e g f::c,a,i,h,l,j=>by
  simp only [aD4]at j;obtain⟨q,p,r⟩ :=bE h;have k:=aGB m (.mk b e g f) j.1;simp only [mG]at k;refine(aZG o n ps ks fr 1 d (i:Int) a b e f g b (mvN fr 1 b e) f (cV fr 1 g) sd sd sd k (by simp;omega) sd).ends ?_;have:=aNK m o n ks ps hk d c (a++ [.mk b (mvN fr 1 b e) (cV fr 1 g) f]) (i+1) p (by simp [l]) j.2;rw [zq9]at this;simp only [cV,mG];exact this
end
theorem aCm (t:XT) :aK PP 78 [RT.av t] (.bool (bJ t)) :=by
 obtain⟨o,n,f,d⟩ :=t;refine aG aC (by simp [keylessL,mA]) rfl ?_;show Ends PP 0 _ (.ret (.bool (decide (o=1) ||decide (o=2) ||decide (o=3) ||decide (o=4)))) _;by_cases a:o=1
 · rw [show(decide (o=1) ||decide (o=2) ||decide (o=3) ||decide (o=4)) =true by simp [a]];exact aYH o n d f (by simpa using a)
 by_cases b:o=2
 · rw [show(decide (o=1) ||decide (o=2) ||decide (o=3) ||decide (o=4)) =true by simp [b]];exact aYI o n d f (by simpa using a) (by simpa using b)
 by_cases c:o=3
 · rw [show(decide (o=1) ||decide (o=2) ||decide (o=3) ||decide (o=4)) =true by simp [c]];exact aYJ o n d f (by simpa using a) (by simpa using b) (by simpa using c)
 have e:=aYK o n d f (by simpa using a) (by simpa using b) (by simpa using c);rw [show(decide (o=1) ||decide (o=2) ||decide (o=3) ||decide (o=4)) = (o== (4:Int))by simp [a,b,c,Bool.beq_eq_decide_eq]];exact e
def cX (o:Int)(l:Nat) :Nat:=if o=6∨o=9∨o=10∨o=11∨o=12∨o=13∨o=18∨o=22 then 2 else if o=14 then l else if o=7∨o=8∨o=15∨o=16∨o=17∨o=19∨o=20∨o=23∨o=24∨o=26 then 1 else 0
theorem aU9 (x:Node) :aK PP 106 [Node.av x] (.int .i64 ((cX x.op x.kids.length:Nat) :Int)) :=by
 refine aG aC rfl rfl ?_;by_cases c:x.op=6
 · have e:cX x.op x.kids.length=2:=by unfold cX;simp [c]
   rw [e];exact aYP x (by simpa using c)
 by_cases d:x.op=9
 · have e:cX x.op x.kids.length=2:=by unfold cX;simp [d]
   rw [e];exact aYQ x (by simpa using c) (by simpa using d)
 by_cases g:x.op=10
 · have e:cX x.op x.kids.length=2:=by unfold cX;simp [g]
   rw [e];exact aYR x (by simpa using c) (by simpa using d) (by simpa using g)
 by_cases i:x.op=11
 · have e:cX x.op x.kids.length=2:=by unfold cX;simp [i]
   rw [e];exact aYS x (by simpa using c) (by simpa using d) (by simpa using g) (by simpa using i)
 by_cases j:x.op=12
 · have e:cX x.op x.kids.length=2:=by unfold cX;simp [j]
   rw [e];exact aYT x (by simpa using c) (by simpa using d) (by simpa using g) (by simpa using i) (by simpa using j)
 by_cases l:x.op=13
 · have e:cX x.op x.kids.length=2:=by unfold cX;simp [l]
   rw [e];exact aYU x (by simpa using c) (by simpa using d) (by simpa using g) (by simpa using i) (by simpa using j) (by simpa using l)
 by_cases m:x.op=18
 · have e:cX x.op x.kids.length=2:=by unfold cX;simp [m]
   rw [e];exact aYV x (by simpa using c) (by simpa using d) (by simpa using g) (by simpa using i) (by simpa using j) (by simpa using l) (by simpa using m)
 by_cases n:x.op=22
 · have e:cX x.op x.kids.length=2:=by unfold cX;simp [n]
   rw [e];exact aYW x (by simpa using c) (by simpa using d) (by simpa using g) (by simpa using i) (by simpa using j) (by simpa using l) (by simpa using m) (by simpa using n)
 by_cases p:x.op=14
 · have e:cX x.op x.kids.length=x.kids.length:=by unfold cX;simp [p]
   rw [e];exact aYX x (by simpa using c) (by simpa using d) (by simpa using g) (by simpa using i) (by simpa using j) (by simpa using l) (by simpa using m) (by simpa using n) (by simpa using p)
 by_cases q:x.op=7
 · have e:cX x.op x.kids.length=1:=by unfold cX;simp [q]
   rw [e];exact aYY x (by simpa using c) (by simpa using d) (by simpa using g) (by simpa using i) (by simpa using j) (by simpa using l) (by simpa using m) (by simpa using n) (by simpa using p) (by simpa using q)
 by_cases a:x.op=8
 · have e:cX x.op x.kids.length=1:=by unfold cX;simp [a]
   rw [e];exact aUZ x (by simpa using c) (by simpa using d) (by simpa using g) (by simpa using i) (by simpa using j) (by simpa using l) (by simpa using m) (by simpa using n) (by simpa using p) (by simpa using q) (by simpa using a)
 by_cases b:x.op=15
 · have e:cX x.op x.kids.length=1:=by unfold cX;simp [b]
   rw [e];exact aU0 x (by simpa using c) (by simpa using d) (by simpa using g) (by simpa using i) (by simpa using j) (by simpa using l) (by simpa using m) (by simpa using n) (by simpa using p) (by simpa using q) (by simpa using a) (by simpa using b)
 by_cases f:x.op=16
 · have e:cX x.op x.kids.length=1:=by unfold cX;simp [f]
   rw [e];exact aU1 x (by simpa using c) (by simpa using d) (by simpa using g) (by simpa using i) (by simpa using j) (by simpa using l) (by simpa using m) (by simpa using n) (by simpa using p) (by simpa using q) (by simpa using a) (by simpa using b) (by simpa using f)
 by_cases h:x.op=17
 · have e:cX x.op x.kids.length=1:=by unfold cX;simp [h]
   rw [e];exact aU2 x (by simpa using c) (by simpa using d) (by simpa using g) (by simpa using i) (by simpa using j) (by simpa using l) (by simpa using m) (by simpa using n) (by simpa using p) (by simpa using q) (by simpa using a) (by simpa using b) (by simpa using f) (by simpa using h)
 by_cases k:x.op=19
 · have e:cX x.op x.kids.length=1:=by unfold cX;simp [k]
   rw [e];exact aU3 x (by simpa using c) (by simpa using d) (by simpa using g) (by simpa using i) (by simpa using j) (by simpa using l) (by simpa using m) (by simpa using n) (by simpa using p) (by simpa using q) (by simpa using a) (by simpa using b) (by simpa using f) (by simpa using h) (by simpa using k)
 by_cases o:x.op=20
 · have e:cX x.op x.kids.length=1:=by unfold cX;simp [o]
   rw [e];exact aU4 x (by simpa using c) (by simpa using d) (by simpa using g) (by simpa using i) (by simpa using j) (by simpa using l) (by simpa using m) (by simpa using n) (by simpa using p) (by simpa using q) (by simpa using a) (by simpa using b) (by simpa using f) (by simpa using h) (by simpa using k) (by simpa using o)
 by_cases r:x.op=23
 · have e:cX x.op x.kids.length=1:=by unfold cX;simp [r]
   rw [e];exact aU5 x (by simpa using c) (by simpa using d) (by simpa using g) (by simpa using i) (by simpa using j) (by simpa using l) (by simpa using m) (by simpa using n) (by simpa using p) (by simpa using q) (by simpa using a) (by simpa using b) (by simpa using f) (by simpa using h) (by simpa using k) (by simpa using o) (by simpa using r)
 by_cases s:x.op=24
 · have e:cX x.op x.kids.length=1:=by unfold cX;simp [s]
   rw [e];exact aU6 x (by simpa using c) (by simpa using d) (by simpa using g) (by simpa using i) (by simpa using j) (by simpa using l) (by simpa using m) (by simpa using n) (by simpa using p) (by simpa using q) (by simpa using a) (by simpa using b) (by simpa using f) (by simpa using h) (by simpa using k) (by simpa using o) (by simpa using r) (by simpa using s)
 by_cases t:x.op=26
 · have e:cX x.op x.kids.length=1:=by unfold cX;simp [t]
   rw [e];exact aU7 x (by simpa using c) (by simpa using d) (by simpa using g) (by simpa using i) (by simpa using j) (by simpa using l) (by simpa using m) (by simpa using n) (by simpa using p) (by simpa using q) (by simpa using a) (by simpa using b) (by simpa using f) (by simpa using h) (by simpa using k) (by simpa using o) (by simpa using r) (by simpa using s) (by simpa using t)
 have e:cX x.op x.kids.length=0:=by unfold cX;simp [c,d,g,i,j,l,m,n,p,q,a,b,f,h,k,o,r,s,t]
 rw [e];exact aU8 x (by simpa using c) (by simpa using d) (by simpa using g) (by simpa using i) (by simpa using j) (by simpa using l) (by simpa using m) (by simpa using n) (by simpa using p) (by simpa using q) (by simpa using a) (by simpa using b) (by simpa using f) (by simpa using h) (by simpa using k) (by simpa using o) (by simpa using r) (by simpa using s) (by simpa using t)
theorem aNL (o n:Int)(ks:List XT)(ps:List Pat)(hl:ks.length≤1000) :aK PP 82 [RT.av (.mk o n ks ps)] (.int .i64 ((cX o ks.length:Nat) :Int)) :=by
 refine aG aC (by simp [keylessL,mA]) rfl ?_;have h:=aU9 ⟨o,0,replicate ks.length 0,ps⟩;simp only [aLh]at h;refine aYO o n ps ks _ (by omega) (by simp) (aIk h rfl (fun E i a p c d b e=>?_))
 match i,d,b with
 | 0,d,b=>
  simp only [mM,Option.some.injEq]at d b;subst d b;simp only [VR]at e;obtain⟨r,rfl,b⟩ :=e;obtain⟨l,k,rfl,j,b⟩ :=b.cons_inv;obtain⟨t,s,rfl,f,b⟩ :=b.cons_inv;obtain⟨q,m,rfl,g,b⟩ :=b.cons_inv;show VR E (.agg [.int .i64 o,.int .i64 0,.ilst 1 (map cG (replicate ks.length 0)) false,.ilst 4 (av ps) false]) _;simp only [VR];exact⟨_,rfl,VRs.cons (by simpa only [VR]using j) (VRs.cons (by simpa only [VR]using f) (VRs.cons (hY g) b))⟩
 |i+1,d,b=>simp at d
theorem aVa {E:Emb}{v:Value}(h:VR E .nils v) :VR E (.ilst 1 (map cG []) false) v:=by
 simp only [VR]at h ⊢;subst h;exact⟨[],by simp [VRs],fun _ a=>by(cases a),.inl ⟨rfl,none,0,rfl,fun _=>rfl,fun h=>by(cases h)⟩⟩
theorem aNM (o n:Int)(ks:List XT)(ps:List Pat)(u:∀q∈ps,cB q≤1000)(v:∀q∈ps,bnm q=rnm q)(k:Int)(hk:0≤k∧k≤1000)(s:o=7→k≤1)(hp:o=15→0<k→∃q,ps[(k-1).toNat]?=some q) :aK PP 84 [RT.av (.mk o n ks ps),.int .i64 k] (.int .i64 (aT o ps k)) :=by
 have x :aK PP 121 [Node.av ⟨o,0,[],ps⟩,.int .i64 k] (.int .i64 (aT o ps k)) :=by
  refine aG aC rfl rfl ?_;refine aA7 o ps k (fun z=>Ends PP 0 _ (.ret (.int .i64 z)) _) (fun h=>?_) (fun h m w q j=>?_) hp (fun h G=>?_)
  · by_cases a:o=5
    ·exact aH3 ⟨o,0,[],ps⟩ k (by simpa using a)
    · by_cases b:o=27
      ·exact aH4 ⟨o,0,[],ps⟩ k (by simpa using a) (by simpa using b)
      · have c:o=7∧k=1:=by omega
        have e:=aC1 ⟨o,0,[],ps⟩ k (by simpa using a) (by simpa using b) (by simpa using c.1);rw [c.2]at e;rw [c.2];exact e
  · obtain⟨a,b,c,d⟩ :=q;have:=u _ (jQ j);rw [v _ (jQ j)];exact aH5 ⟨o,0,[],ps⟩ k a b c d _ (by simp;omega) (by simp;omega) (by simp;omega) (by simpa using m) sd sd (by omega) j (xY (.mk a b c d) (by omega))
  · have a:¬o=5:=fun e=>h (.inl e);have b:¬o=27:=fun e=>h (.inr (.inl e));by_cases c:o=7
    · have d:¬k=1:=fun e=>h (.inr (.inr ⟨c,e⟩));have p:k=0:=by have:=s c;omega
      have e:=aC1 ⟨o,0,[],ps⟩ k (by simpa using a) (by simpa using b) (by simpa using c);rw [p]at e;rw [p];exact e
    · by_cases e:o=15
      ·exact aH6 ⟨o,0,[],ps⟩ k (by simpa using a) (by simpa using b) (by simpa using c) (by simpa using e) (by simp;omega)
      ·exact aH7 ⟨o,0,[],ps⟩ k (by simpa using a) (by simpa using b) (by simpa using c) (by simpa using e)
 refine aG aC (by simp [keylessL,keyless,mA]) rfl ?_;refine aY1 o n ps ks k _ (aIk x rfl (fun E i a F c g f l=>?_))
 match i,g,f with
 | 0,g,f=>
  simp only [mM,Option.some.injEq]at g f;subst g f;simp only [VR]at l;obtain⟨C,rfl,f⟩ :=l;obtain⟨I,H,rfl,y,f⟩ :=f.cons_inv;obtain⟨D,J,rfl,t,f⟩ :=f.cons_inv;obtain⟨B,A,rfl,r,f⟩ :=f.cons_inv;show VR E (.agg [.int .i64 o,.int .i64 0,.ilst 1 (map cG []) false,.ilst 4 (av ps) false]) _;simp only [VR];exact⟨_,rfl,VRs.cons (by simpa only [VR]using y) (VRs.cons (by simpa only [VR]using t) (VRs.cons (aVa r) f))⟩
 |1,g,f=>simp at g f;subst g f;exact l
 |i+2,g,f=>simp at g
def aKT :Option Nat→Int
 |some k=> (k:Int)
 |none=> -1
theorem aGC {o:Int}{l:Nat}(h:fJ o=true→o≠14→l=2)(i:o≠7)(g:o≠26) :cX o l=aV o l:=by
 unfold cX aV;by_cases a:o=6∨o=9∨o=10∨o=11∨o=12∨o=13∨o=18∨o=22
 · have e:fJ o=true:=by unfold fJ;rcases a with a|a|a|a|a|a|a|a<;>subst a<;>rfl
   have d:dR o=false:=by rcases a with a|a|a|a|a|a|a|a<;>subst a<;>rfl
   have f:o≠14:=by omega
   rw [if_pos a,d,e,h e f];rfl
 · rw [if_neg a];by_cases b:o=14
   ·subst b;rfl
   · rw [if_neg b];have e:fJ o=false:=by unfold fJ;simp;omega
     by_cases c:o=7∨o=8∨o=15∨o=16∨o=17∨o=19∨o=20∨o=23∨o=24∨o=26
     · have d:dR o=true:=by unfold dR;simp;omega
       rw [if_pos c,d];rfl
     · have d:dR o=false:=by unfold dR;simp;omega
       rw [if_neg c,d,e];rfl
theorem aNN (o n:Int)(ks:List XT)(ps:List Pat)(hl:ks.length≤1000)(m:Nat)(hm:m≤ks.length)(k:aK PP 82 [RT.av (.mk o n ks ps)] (.int .i64 (m:Int))) :∀ (f:List XT) (i r:Nat),ks.drop i=f→i+r=m →
  Ends PP 0 (aEH o n ps ks (i:Int)).as (.ret (.int .i64 (aKT (bR f i r)))) (aA [] 0)
 | f,i,0,h,hr=>by
  have e:bR f i 0=none:=by cases f<;>rfl
  rw [e];exact aY7 o n ps ks (i:Int) _ k sd
 | [],i,r+1,h,hr=>by have:=bH h;omega
 | .mk a b c d::f,i,r+1,h,hr=>by
  obtain⟨p,l,q⟩ :=bE h;have g:=aCm (.mk a b c d);cases j:bJ (.mk a b c d)
  case false=>
   rw [j]at g;have e:bR (.mk a b c d::f) i (r+1) =some i:=by simp [bR,j]
   rw [e];exact aY5 o n ps ks (i:Int) _ a b d c false k sd sd sd g rfl
  rw [j]at g;have e:bR (.mk a b c d::f) i (r+1) =bR f (i+1) r:=by simp [bR,j]
  rw [e];refine(aY6 o n ps ks (i:Int) _ a b d c true k sd sd sd g rfl sd).ends ?_;exact aNN o n ks ps hl m hm k f (i+1) r l (by omega)
def aKU :XT→Option Nat
 | .mk o _ ks _=>if o=7 then none else bR ks 0 (aV o ks.length)
theorem aNO {B:Int}:∀ {t:XT},FineX B t→aK PP 179 [RT.av t] (.int .i64 (aKT (aKU t)))
 | .mk o n c d,i=>by
  simp only [FineX]at i;obtain⟨_,h,k,m,q,f,p⟩ :=i;refine aG aC (by simp [keylessL,mA]) rfl ?_;simp only [aKU];by_cases a:o=7
  ·rw [if_pos a];exact aY2 o n d c (by simpa using a)
  · rw [if_neg a];by_cases b:o=26
    · have e:bR c 0 (aV o c.length) =none:=by subst b;cases c<;>rfl
      rw [e];exact aY3 o n d c (by simpa using a) (by simpa using b)
    · have j:=aGC (l:=c.length) f.2.2.1 a b;have g:=aNL o n c d h;rw [j]at g;exact(aY4 o n d c (by simpa using a) (by simpa using b)).ends (aNN o n c d h _ f.1 g c 0 _ rfl (by omega))
theorem zY {P:Program}{m:Nat}{s:AS}{v v':AV}{h h':Hp}(e:Ends P m s (.ret v) h)(z:lW m h h' v v') :Ends P m s (.ret v') h':=fun b E fr c w f fs r q a=>by
 obtain⟨j,d,o,k,⟨g,rfl,i⟩,p,n⟩ :=e b E fr c w f fs r q a;obtain⟨l,y,x,t,u⟩ :=z o d p;exact⟨_,d,l,k,⟨g,rfl,u g i⟩,x,n.trans t⟩
theorem aRa {m:Nat}{h h':Hp}{a b c v v':AV}(z:lW m h h' v v') :lW m h h' (.agg [a,b,c,v]) (.agg [a,b,c,v']) :=fun E w r=>by
 obtain⟨g,e,l,i,k⟩ :=z E w r;refine⟨g,e,l,i,fun C d=>?_⟩;simp only [VR]at d ⊢;obtain⟨x,rfl,d⟩ :=d;obtain⟨q,p,rfl,o,d⟩ :=d.cons_inv;obtain⟨B,A,rfl,f,d⟩ :=d.cons_inv;obtain⟨u,s,rfl,n,d⟩ :=d.cons_inv;obtain⟨y,t,rfl,j,d⟩ :=d.cons_inv;rw [d.nil_inv];exact⟨_,rfl,VRs.cons (o.mono e) (VRs.cons (f.mono e) (VRs.cons (n.mono e) (VRs.cons (k _ j) (VRs.nil _))))⟩
theorem aIm {E:Emb}{o n:Int}{xs ys:List AV}{v:Value}(h:VR E (.agg [.int .i64 o,.int .i64 n,.ilst 4 xs true,.ilst 4 ys true]) v) :VR E (.agg [.int .i64 o,.int .i64 n,.ilst 4 xs false,.ilst 4 ys false]) v:=by
 simp only [VR]at h;obtain⟨l,rfl,a⟩ :=h;obtain⟨g,f,rfl,e,a⟩ :=a.cons_inv;obtain⟨q,p,rfl,b,a⟩ :=a.cons_inv;obtain⟨k,i,rfl,d,a⟩ :=a.cons_inv;obtain⟨m,j,rfl,c,a⟩ :=a.cons_inv;rw [a.nil_inv];show VR E (.agg [.int .i64 o,.int .i64 n,.ilst 4 xs false,.ilst 4 ys false]) _;simp only [VR];exact⟨_,rfl,VRs.cons (by simpa only [VR]using e) (VRs.cons (by simpa only [VR]using b) (VRs.cons (hY d) (VRs.cons (hY c) (VRs.nil _))))⟩
theorem aIn (n:Int) :aK PP 83 [.int .i64 n] (RT.av (.mk 4 n [] [])) :=by
 refine aG aC rfl (mA _) ?_;exact Ends.val (aYZ n) (fun E a h=>aIm h)
theorem zZ (a b:XT) :aK PP 85 [RT.av a,RT.av b] (RT.av (.mk 7 0 [a,b] [])) :=by
 refine aG aC (by simp [keylessL,mA]) (mA _) ?_;obtain⟨r,p,j,i⟩ :=a;obtain⟨q,d,o,f⟩ :=b;have e:=aY0 r p i j q d f o
 have y:=aRa (a:=.int .i64 7) (b:=.int .i64 0) (c:=.ilst 4 (av []) true) (yW (m:=0) (h:=aA [(0,(.cells (putCells .leaf 0 [(.int .i64 r),(.int .i64 p),(.ilst 4 (av i) false),(.ilst 4 (RTs.av j) false),(.int .i64 q),(.int .i64 d),(.ilst 4 (av f) false),(.ilst 4 (RTs.av o) false)]) 8 [] false),false)] 1)
  (b:=0) (n:=2) (c:=2) (e:=4) (k:=8) (x:=true) (g:=true) (t:=putCells .leaf 0 [(.int .i64 r),(.int .i64 p),(.ilst 4 (av i) false),(.ilst 4 (RTs.av j) false),(.int .i64 q),(.int .i64 d),(.ilst 4 (av f) false),(.ilst 4 (RTs.av o) false)]) (cs:=[(.int .i64 r),(.int .i64 p),(.ilst 4 (av i) false),(.ilst 4 (RTs.av j) false),(.int .i64 q),(.int .i64 d),(.ilst 4 (av f) false),(.ilst 4 (RTs.av o) false)]) aC aC rfl (fun h=>by cases h) (Nat.zero_le _))
 have A:=zY e y
 have w:=lK (m:=0) (h:= (aA [(0,(.cells (putCells .leaf 0 [(.int .i64 r),(.int .i64 p),(.ilst 4 (av i) false),(.ilst 4 (RTs.av j) false),(.int .i64 q),(.int .i64 d),(.ilst 4 (av f) false),(.ilst 4 (RTs.av o) false)]) 8 [] false),false)] 1).set 0 (.lst 4 (RTs.av [.mk r p j i,.mk q d o f])))
  (b:=0) (e:=4) (xs:=RTs.av [.mk r p j i,.mk q d o f]) (ys:=RTs.av [.mk r p j i,.mk q d o f]) (v:=.agg [.int .i64 7,.int .i64 0,.ilst 4 (av []) true,.gl 0 4 0 2 true]) aC (mB _) (by simp [frzOk,frzOkL,RTs.av]) (Nat.zero_le _)
 have z:=zY A w;have s:Ends PP 0 (aQ1 r p i j q d f o).as (.ret (.agg [.int .i64 7,.int .i64 0,.ilst 4 (av []) true,.ilst 4 (RTs.av [.mk r p j i,.mk q d o f]) true])) (aA [] 1) :=Eq.mp aC z;have u:Ends PP 0 (aQ1 r p i j q d f o).as (.ret (.agg [.int .i64 7,.int .i64 0,.ilst 4 (av []) true,.ilst 4 (RTs.av [.mk r p j i,.mk q d o f]) true])) (aA [] 0) :=dW (ks:=[]) (l:=[]) (nb:=0) s aC aC aC trivial;exact Ends.val u (fun E B h=>aIm h)
theorem aVb {B:Int}{t:XT}(d:FineX B t) :aK PP 139 [RT.av t] (.bool (aKU t).isSome) :=by
 have h:=aNO d;obtain⟨o,n,c,a⟩ :=t;refine aG aC (by simp [keylessL,mA]) rfl ?_;have e:=aY8 o n a c _ h;cases b:aKU (.mk o n c a)with
 |none=>rw [b]at e;exact e
 | some k=>
  rw [b]at e;have:decide (aKT (some k) ≥ (0:Int)) =true:=by simp [aKT]
  rw [this]at e;exact e
def aGD :XT→Bool
 | .mk o _ ks _=>decide (o=7) && (match ks[0]? with|some t=>decide (t.op=7) |none=>false)
theorem aIo {B:Int}{t:XT}(g:FineX B t) :aK PP 140 [RT.av t] (.bool (aGD t)) :=by
 obtain⟨o,n,b,c⟩ :=t;simp only [FineX]at g;refine aG aC (by simp [keylessL,mA]) rfl ?_;by_cases a:o=7
 · have hl:=g.2.2.2.2.1 a;obtain⟨⟨f,i,h,j⟩,hk⟩ :∃t0,b[0]?=some t0:= ⟨_,kX (by omega)⟩;have e:=aZa o n c b f i j h (by simpa using a) (by omega) hk;have d:aGD (.mk o n b c) = (f== (7:Int)) :=by simp only [aGD,hk,XT.op,a,decide_true,mL];rfl
   rw [d];exact e
 · have d:aGD (.mk o n b c) =false:=by simp [aGD,a]
   rw [d];exact aZb o n c b (by simpa using a)
theorem aNP (t:XT) :bW t=if aGD t then some none else(aKU t).map some:=by
 obtain⟨o,n,b,c⟩ :=t;simp only [bW,aGD,aKU];by_cases a:o=7
 · rw [if_pos a,if_pos a];have hc:b[0]?=none∨∃t,b[0]?=some t:=by cases b[0]?<;>simp
   rcases hc with h| ⟨t,h⟩
   ·simp [a,h]
   · by_cases g:t.op=7
     ·simp [a,h,g]
     ·simp [a,h,g]
 ·rw [if_neg a,if_neg a];simp [a]
theorem aNQ (o n:Int)(ks:List XT)(ps:List Pat)(k:Nat)(sz:Int)(v:0≤sz)(x:XT)(w:ks[k]?=some x)(hl:ks.length≤1000)(c:aD4 ks) :∀ (p:List XT) (i:Nat),ks.drop i=p→i≤ks.length →
  Ends PP 0 (aCl o n ps ks sz (k:Int) (i:Int) (((ks.map (mG sz 1)).set k (.mk 4 sz [] [])).take i)).as (.ret (RT.av (dnT sz k o n ks ps x))) (aA [] 0)
 | [],i,h,z=>by
  have:=bH h;obtain⟨m,r,s,q⟩ :=x;have hk:k<ks.length:= (zq0.1 w).1;have g: ((ks.map (mG sz 1)).set k (.mk 4 sz [] [])).length=ks.length:=by simp
  rw [aAG (by omega)];exact aZN o n ps ks sz (k:Int) (i:Int) _ m r q s 7 0 [] [XT.mk m r s q,XT.mk o n ((ks.map (mG sz 1)).set k (XT.mk 4 sz [] [])) ps] sd sd sd (zZ (.mk m r s q) (.mk o n ((ks.map (mG sz 1)).set k (.mk 4 sz [] [])) ps))
 | .mk a b f d::p,i,h,z=>by
  obtain⟨u,y,A⟩ :=bE h;have j:=aNQ o n ks ps k sz v x w hl c p (i+1) y (by omega);have g: ((ks.map (mG sz 1)).set k (.mk 4 sz [] [])).length=ks.length:=by simp
  by_cases e:i=k
  · have l: ((ks.map (mG sz 1)).set k (.mk 4 sz [] []))[i]?=some (.mk 4 sz [] []) :=by rw [List.getElem?_set,if_pos e.symm,if_pos (by simp;omega)]
    rw [←take_succ' l]at j;refine(aZL o n ps ks sz (k:Int) (i:Int) _ 4 sz [] [] sd (by simp [e]) (aIn sz) (by simp;omega) sd).ends ?_;exact j
  · have hm:OkT (.mk a b f d) :=okTs_iff.1 c _ (jQ u);have l: ((ks.map (mG sz 1)).set k (.mk 4 sz [] []))[i]?=some (mG sz 1 (.mk a b f d)) :=by rw [List.getElem?_set,if_neg (fun h=>e h.symm),tJ,u];rfl
    have t:=aGB v (.mk a b f d) hm;simp only [mG]at l t;rw [←take_succ' l]at j;refine(aZM o n ps ks sz (k:Int) (i:Int) _ a b d f a (mvN sz 1 a b) d (cV sz 1 f) sd (by simp;omega) sd sd t (by simp;omega) sd).ends ?_;exact j
theorem aZX {B:Int}(hB:B≤1000000){t:XT}(c:FineX B t){s:Option Nat}(O:bW t=some s)(sz:Int)(N:0≤sz) :aK PP 141 [RT.av t,.int .i64 sz] (RT.av (eD sz s t)) :=by
 have b:=aIo c;have p:=aNO c;have d:=aNP t;obtain⟨o,n,a,f⟩ :=t;have V:=c;simp only [FineX]at c;refine aG aC (by simp [keylessL,keyless,mA]) (mA _) ?_;rw [O]at d;cases hc:aGD (.mk o n a f)
 case true=>
  rw [hc,if_pos rfl]at d;cases d;rw [hc]at b;have R:o=7:=by
   simp only [aGD,dS,decide_eq_true_eq]at hc;exact hc.1
  have hl:=c.2.2.2.2.1 R;obtain⟨⟨M,Q,J,W⟩,e⟩ :∃t0,a[0]?=some t0:= ⟨_,kX (by omega)⟩;obtain⟨⟨h,i,j,m⟩,g⟩ :∃t1,a[1]?=some t1:= ⟨_,kX (by omega)⟩;have I:M=7:=by
   simp only [aGD,e,XT.op,dS,decide_eq_true_eq]at hc;exact of_decide_eq_true hc.2
  have r:=fineXs_iff.1 c.2.2.2.2.2.2 _ (jQ e);have H:=fineXs_iff.1 c.2.2.2.2.2.2 _ (jQ g);simp only [FineX]at r;have S:=r.2.2.2.2.1 I;obtain⟨⟨K,G,D,C⟩,L⟩ :∃t1,J[0]?=some t1:= ⟨_,kX (by omega)⟩;obtain⟨⟨y,u,w,v⟩,hb⟩ :∃t1,J[1]?=some t1:= ⟨_,kX (by omega)⟩;have A:eD sz none (.mk o n a f) =neT sz (.mk K G D C) (.mk y u w v) (.mk h i j m) :=by
   simp only [eD,kA e,kA g,XT.kids,kA L,kA hb]
  rw [A];have U:=aGB N (.mk h i j m) (H.ok hB);have F:=zZ (.mk y u w v) (mG sz 1 (.mk h i j m));have T:=zZ (.mk K G D C) (.mk 7 0 [.mk y u w v,mG sz 1 (.mk h i j m)] []);exact aZJ o n f a sz true M Q W J K G C D y u v w h i m j h (mvN sz 1 h i) m (cV sz 1 j) 7 0 [] _ 7 0 [] _ b rfl (by omega) e L (by omega) hb g U F T
 rw [hc]at d b;simp only [qP,if_false]at d;cases l:aKU (.mk o n a f)with
 |none=>rw [l]at d;cases d
 | some k=>
  rw [l]at d p;cases d;have z:bR a 0 (aV o a.length) =some k:=by
   simp only [aKU]at l;split at l
   ·cases l
   ·exact l
  obtain⟨x,q,_⟩ :=vF z (rfl:a.drop 0=a);have A:eD sz (some k) (.mk o n a f) =dnT sz k o n a f x:=by simp only [eD,kA q]
  rw [A];refine(aZK o n f a sz false _ b rfl p).ends ?_;have:=aNQ o n a f k sz N x q c.2.1 (c.2.2.2.2.2.2.ok hB) a 0 rfl (Nat.zero_le _);exact this
abbrev aKV (a:Nat):=oC a [(nI 0),(nI 0),.nils,.nils]
abbrev aZY (a b:Int)(c d:List Int)(e:Bool)(f g:Int)(h:List Pat)(i j:List RT):=aA [oC 0 [(nI a),(nI b),(.gl 6 1 0 (c++d).length false),(bV e)],oC 1 [(nI f),(nI g),(iP h),(.ilst 4 (RTs.av i) false)],aKV 2,oL 3 4 (RTs.av j),oL 6 1 (jI (c++d))] 7
abbrev yG (a:List RT)(b c d:Int)(e:List Pat)(f:List RT):AV:=.gl 3 4 0 (set a b.toNat (RT.mk c d e f)).length false
abbrev oR (a b:Int)(c:List Pat)(d:List RT):AV:=.agg [(nI a),(nI b),(iP c),(.ilst 4 (RTs.av d) false)]
abbrev aBc (a:Nat)(b:Prog):=oC a [(iN b.nodes),(iI b.funs),(nI b.main),(iC b.cons)]
abbrev aGE (a:Nat):=oC a [.nils,.nils,(nI 0),.nils]
abbrev aGF (a:List RT):AV:=.ilst 4 (RTs.av a) false
abbrev aRb (a:List RT):AV:=.gl 3 4 0 a.length false
def aZZ(b c:Int)(a:List Int)(d:Bool)(e f:Int)(g:List Pat)(i:List RT)(j:Int):TS:=aX PP 97 [(.ptr 0 0),(oR e f g i),(nI j)] [oC 0 [(nI b),(nI c),(.gl 1 1 0 a.length false),(bV d)],oL 1 1 (jI a)] 2
def pI(c d:Int)(o:List Int)(p:Bool)(e f:Int)(g:List Pat)(i:List RT)(j:Int)(k:Bool)(a:List Int)(l m:Int)(n:Bool)(b:List RT):TS:=⟨(tf 97 78 [kp 0 0,(2,(nI j)),kp 4 1,kp 6 2,(7,(nI c)),(8,(bV k)),(9,(aRb b)),(10,(nI l))] [kc f97 2036,kl f97 2036,.inBlock 0,kc f97 255]),[],[oC 0 [(nI m),(nI d),(.gl 4 1 0 a.length false),(bV n)],oC 1 [(nI e),(nI f),(iP g),(aGF i)],aKV 2,oL 3 4 (RTs.av b),oL 4 1 (jI a)],5⟩
def aZ0(a:Prog):TS:=aX PP 49 [(Prog.av a)] [] 0
def aCn(a:Prog)(b:List RT)(d e:Int)(f:Bool)(c:List Int):TS:=⟨(tf 54 38 [kp 2 0,kp 4 1,(5,.nilp),kp 6 2,(7,(aRb b)),(8,(nI d))] [kc f54 244,kl f54 244,.inBlock 0,kc f54 31]),[(tf 49 14 [(2,.nils),(6,(Prog.av a))] [ko f49 6 1,kc f49 7])],[aBc 0 a,aGE 1,oC 2 [(nI e),(nI (-1)),(.gl 4 1 0 c.length false),(bV f)],oL 3 4 (RTs.av b),oL 4 1 (jI c)],5⟩
def aZ1(a:Prog):TS:=aX PP 15 [(Prog.av a)] [] 0
def aRc(a i:Int)(b:List Int)(c:Bool)(d e:Int)(f:List Pat)(g:List RT)(j:Int):=tT 1 (aZZ a i b c d e f g j)<|gw 20 19 (a+1)<|kJ 7 139 [(oR d e f g)]<|fun l=>.b 1 24 l (ga 19 cG b [a]<|.i [rn 15,.nilL 9 4] []<|gu 0 6 (RTs.av ([] :List RT))<|gs 0 9 (.gl 6 4 0 ([] :List RT).length false)<|.W 0 7 [2,3,6,5] (pI a i b c d e f g j true (b++ [a]) 0 (a+1) c ([] :List RT)))<|kJ 1 140 [(oR d e f g)]<|fun k=>.b 8 28 k (ga 9 cG b [a]<|.i [rn 15,.nilL 9 4] []<|gu 0 6 (RTs.av ([] :List RT))<|gs 0 9 (.gl 6 4 0 ([] :List RT).length false)<|.W 0 7 [2,3,6,5] (pI a i b c d e f g j k (b++ [a]) 0 (a+1) c ([] :List RT)))<|.i [rn 13,.nilL 9 4] []<|gu 0 4 (RTs.av ([] :List RT))<|gs 0 9 (.gl 4 4 0 ([] :List RT).length false)<|.W 0 5 [2,3,4,1] (pI a i b c d e f g j k b 0 (a+1) c ([] :List RT))
def aZ2:=fun a b c d e f g i j k l m n o=>aRc a b c d e f g i j l k m|>.t n o ⟨bT,⟨kk,trivial⟩⟩
def aZ3:=fun a b c d e f g i j k l m n o p q r=>aRc a b c d e f g i j m k n|>.f o l p|>.t q r ⟨bT,⟨kk,trivial⟩⟩
def aZ4:=fun a b c d e f g i j k l m n o p q=>aRc a b c d e f g i j m k n|>.f o l p|>.f q ⟨bT,⟨kk,trivial⟩⟩
def aKW(v i:Int)(A:List Int)(B:Bool)(j k:Int)(l:List Pat)(b:List RT)(u:Int)(r:Bool)(c:List Int)(q s:Int)(w:Bool)(a:List RT):=tT 1 (pI v i A B j k l b u r c q s w a)<|.i [rn 6,aL b] [.q (p:=((RTs.av b).length:Int) = (b.length:Int)) (eM aE _)]<|gd 2 43 (q< (b.length:Int)) (.y fun m:Int=>.y fun n:Int=>.y fun o:List Pat=>.y fun p:List RT=>.y fun x:Int=>.y fun t:List Int=>.y fun y:Int=>.y fun z:Bool=>.y fun d:Int=>.y fun e:Int=>.y fun f:List Pat=>.y fun g:List RT=>.i [rn 4,.reg (rd 5 (.ans (.idx (RT.av (RT.mk m n o p)))::rd 4 [.pure (nI x),.d,.call (oR d e f g) (aZY y i c t z j k l b a),.d,.app (RTs.av (a++ [(RT.mk d e f g)])) (a++ [(RT.mk d e f g)]).length,.d]))] [hA (0≤q),.a (((b)[q.toNat]?) =some (RT.mk m n o p)) (dL aE),hA (aK PP 84 [(oR j k l b),(nI q)] (nI x)),hA (Spec PP (.enter 97 [(.ptr 0 0),(oR m n o p),(nI (IntKind.i64.wrap (u+x)))]) (aA [oC 0 [(nI s),(nI i),(.gl 4 1 0 c.length false),(bV w)],oC 1 [(nI j),(nI k),(iP l),(aGF b)],aKV 2,oL 3 4 (RTs.av a),oL 4 1 (jI c)] 6) (.ret (oR d e f g)) (aZY y i c t z j k l b a)),.q (p:=0+a.length≤length (RTs.av a)) (iY aE _),hA (length (a++ [(RT.mk d e f g)]) ≤1000000),.q (p:=take a.length (drop 0 (RTs.av a)) ++ (RTs.av [(RT.mk d e f g)]) = (RTs.av (a++ [(RT.mk d e f g)]))) (iZ aE _ _),.q (p:=a.length+length (RTs.av [(RT.mk d e f g)]) =length (a++ [(RT.mk d e f g)])) (jA aE _ _),hr (agg [(nI m),(nI n),(iP o),(aGF p)]),hr (agg [(nI m),(nI n),(iP o),(aGF p)]),hr (ilst 4 (RTs.av b) false),hr (ilst 4 (RTs.av b) false)]<|gw 4 45 (q+1)<|.W 3 8 [1,2,7,6] (pI v i A B j k l b u r (c++t) (q+1) y z (a++ [(RT.mk d e f g)])))<|.b 12 66 (v==i) (.b 13 71 r (.y fun m:Int=>.y fun n:Int=>.y fun o:List Pat=>.y fun p:List RT=>gp 5 141 [(oR j k l b),(nI u)] (oR m n o p)<|.E 3 5 [4] (oR m n o p) [oC 0 [(nI s),(nI i),(.gl 1 1 0 c.length false),(bV r)],oL 1 1 (jI c)] 2)<|.E 14 5 [3,4] (.agg [(nI j),(nI k),(iP l),(.gl 1 4 0 a.length false)]) [oC 0 [(nI s),(nI i),(.gl 2 1 0 c.length false),(bV r)],oL 1 4 (RTs.av a),oL 2 1 (jI c)] 3)<|.E 14 5 [3,4] (.agg [(nI j),(nI k),(iP l),(.gl 1 4 0 a.length false)]) [oC 0 [(nI s),(nI i),(.gl 2 1 0 c.length false),(bV w)],oL 1 4 (RTs.av a),oL 2 1 (jI c)] 3
def aZ5:=fun a b c d e f g i j k l m n o p q r s t u v w x y z A B C D F G H I J=>aKW a b c d e f g i j k l m n o p|>.t C q r s t u v w x y z A B D F G H I J ⟨bT,⟨kk,trivial⟩⟩
def aZ6:=fun a b c d e f g i j k l m n o p q r s t u v w x=>aKW a b c d e f g i j k l m n o p|>.f u|>.t v|>.t w q r s t x ⟨kk,trivial⟩
def aZ7:=fun a b c d e f g i j k l m n o p q r s=>aKW a b c d e f g i j k l m n o p|>.f q|>.t r|>.f s ⟨bT,⟨kk,trivial⟩⟩
def aZ8:=fun a b c d e f g i j k l m n o p q r=>aKW a b c d e f g i j k l m n o p|>.f q|>.f r ⟨bT,⟨kk,trivial⟩⟩
def aZ9 (a:Prog):=fun b c=>(tT 0 (aZ0 a)<|.y fun b:List RT=>gk 25 (.enter 40 [(Prog.av a)]) [aBc 0 a,aBc 1 a,aGE 2,oC 3 [(nI 0),(nI (-1)),.nils,(bV false)]] 4 (.gl 4 4 0 b.length false) [aBc 0 a,aBc 1 a,aGE 2,oC 3 [(nI 0),(nI (-1)),.nils,(bV false)],oL 4 4 (RTs.av b)] 5<|.i [rn 9,.cnil 3 2 1] []<|gu 0 5 (jI ([] :List Int))<|gv 0 3 2 (.gl 5 1 0 ([] :List Int).length false)<|.W 0 6 [1,2,3,4,5] (aCn a b 0 0 false ([] :List Int))) b c ⟨bT,⟨kk,trivial⟩⟩
def bAa(g:Prog)(a:List RT)(b o:Int)(p:Bool)(i:List Int):=tT 0 (aCn g a b o p i)<|gd 8 18 (b< (a.length:Int)) (.i [rn 9,.ans (.ix)] [hA (0≤b),hA (b< (a.length:Int))]<|.y fun j:Int=>.y fun k:Int=>.y fun l:List Pat=>.y fun m:List RT=>gjF aE 0 a b.toNat (RT.mk j k l m)<|.y fun n:List Int=>.y fun q:Int=>.y fun r:Bool=>.y fun c:Int=>.y fun d:Int=>.y fun e:List Pat=>.y fun f:List RT=>gk 0 (.enter 97 [(.ptr 2 0),(oR j k l m),(nI 1)]) [aBc 0 g,aGE 1,oC 2 [(nI o),(nI (-1)),(.gl 4 1 0 i.length false),(bV p)],oL 3 4 (RTs.av a),oL 4 1 (jI i)] 5 (oR c d e f) [aBc 0 g,aGE 1,oC 2 [(nI q),(nI (-1)),(.gl 5 1 0 (i++n).length false),(bV r)],oL 3 4 (RTs.av a),oL 5 1 (jI (i++n))] 6<|.i [rn 7,.ans (.ix)] [hA (0≤b),hA (b< (a.length:Int))]<|.i [.st (RT.av (RT.mk j k l m)) (RT.av (RT.mk c d e f))] [.a (((a)[b.toNat]?) =some (RT.mk j k l m)) (aCQ aE),hr (some (RT.av (RT.mk c d e f)))]<|.i [.lset 3 (RTs.av (set a b.toNat (RT.mk c d e f)))] [.q (p:=(RTs.av a).set (0+b.toNat) (RT.av (RT.mk c d e f)) = (RTs.av (set a b.toNat (RT.mk c d e f)))) (aHJ aE _ _ _)]<|.i [.set 7 (yG a b c d e f)] [.q (p:=(AV.gl 3 4 0 a.length false) = (yG a b c d e f)) (bK (dZ ..).symm)]<|.i [.set 16 (yG a b c d e f)] [.q (p:=(AV.gl 3 4 0 a.length false) = (yG a b c d e f)) (bK (dZ ..).symm)]<|.i [.set 22 (yG a b c d e f)] [.q (p:=(AV.gl 3 4 0 a.length false) = (yG a b c d e f)) (bK (dZ ..).symm)]<|.i [.set 27 (yG a b c d e f)] [.q (p:=(AV.gl 3 4 0 a.length false) = (yG a b c d e f)) (bK (dZ ..).symm)]<|gw 5 20 (b+1)<|.W 3 7 [0,1,2,3,5] (aCn g (set a b.toNat (RT.mk c d e f)) (b+1) q r (i++n)))<|.i [rn 3,.frz 7 3 (RTs.av a)] [.q (p:=keylessL (RTs.av a) =true) bT,.q (p:=frzOk 3 4 (RTs.av a) (RTs.av a) (aRb a)) (hX aE _)]<|.y fun s:Prog=>gp 6 44 [(aGF a),(nI g.main),(iC g.cons)] (Prog.av s)<|gz 22 2 4 1 cG i false<|gE 0 6 (iI i)
def bAb:=fun d e f g i j k l m n o p q r s t u v a b c w x=>bAa d e f g i j|>.t v a b k l m n c o p q r s t u w a b c x ⟨bT,⟨kk,trivial⟩⟩
def bAc:=fun a b c d e f g i j=>bAa a b c d e f|>.f i g j tv
def bAd(a:Prog):=tT 0 (aZ1 a)<|gpI 9 39 [(Prog.av a)]<|fun c=>.b 8 8 (c != 0) (gE 8 1 (.tup [(bV false),(nI c)]))<|.y fun b:List Int=>gp 5 49 [(Prog.av a)] (iI b)<|gl 0 cG b<|gE 5 1 (.tup [(bV ((b.length:Int) ==0)),(nI 0)])
def aNR:=fun a b c d=>bAd a b c|>.t d tv
def bAe:=fun a b c d e f=>bAd a b d|>.f e c f tv
end
end Go.Hb
