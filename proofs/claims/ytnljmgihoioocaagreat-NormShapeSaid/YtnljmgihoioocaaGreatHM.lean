/- A machine on abstract values, its soundness, ways, plain laws. -/
import Derived.Test.YtnljmgihoioocaaGreatHF
import Derived.Test.YtnljmgihoioocaaGreatHG
import Derived.Test.YtnljmgihoioocaaGreatHH
import Derived.Test.YtnljmgihoioocaaGreatHK
import Derived.Test.YtnljmgihoioocaaGreatHL
set_option linter.defProp false
set_option linter.unusedVariables false
set_option linter.unusedSimpArgs false
set_option linter.unusedSectionVars false
set_option maxRecDepth 100000
set_option maxHeartbeats 1000000
namespace Go.Hb
open List (length map)
open Go.Proofs Tryz
noncomputable section
mutual
def dQ :XT→Nat→List Node
 | .mk o n ks ps,a=> ⟨o,n,(aW ks (a+1)).1,ps⟩ :: (aW ks (a+1)).2
def aW :List XT→Nat→List Int×List Node
 | [],_=> ([],[])
 |t::ts,a=> (((a:Nat) :Int) :: (aW ts (a+ (dQ t a).length)).1,dQ t a++ (aW ts (a+ (dQ t a).length)).2)
end
mutual
theorem bB :∀ (t:XT) (a:Nat),(dQ t a).length=cB t
 | .mk o n b c,a=>by rw [dQ,cB,mO,pK b (a+1)]
theorem pK :∀ (b:List XT) (a:Nat),(aW b a).2.length=aD b
 | [],a=>by rw [aW,aD];rfl
 |t::b,a=>by rw [aW,aD,vP,bB t _,pK b _]
end
abbrev PHc (b n:Nat)(r k:Nat)(mn:Int)(cs:List Con) :AObj:=.cells (putCells .leaf 0 [.gl b 4 0 n false,.gl r 1 0 k false,.int .i64 mn,.ilst 2 (map Con.av cs) false]) 4 [] false
abbrev PBl (fs:List Int)(mn:Int)(cs:List Con)(L:List ONode) :HL:=[(0,PHc 3 (length L) 2 (length fs) mn cs,false),(1,.cells (putCells .leaf 0 [.func 119 [] [.ptr 0 0,.ptr 1 0]]) 1 [] false,false),(2,.lst 1 (map cC fs),true),(3,OL L,true)]
def FPS (fs:List Int)(mn:Int)(cs:List Con)(t:XT)(L:List ONode)(ns:List Node) :Prop:=
 gI PP 3 (.enter 119 [XT.av t,.ptr 0 0,.ptr 1 0]) (aA (PBl fs mn cs L) 4) (.ret (.int .i64 ((length L:Nat) :Int))) (aA (PBl fs mn cs (L++map Node.o ns)) 4)
def bD1 (fs:List Int)(mn:Int)(cs:List Con)(L:List ONode)(s:TS)(ns:List Node) :Prop:=Ends PP 3 s.as (.ret (.int .i64 ((length L:Nat) :Int))) (aA (PBl fs mn cs (L++map Node.o ns)) 4)
theorem aC9 (fs:List Int)(mn:Int)(cs:List Con)(L:List ONode) :fG (PBl fs mn cs L) := ⟨aH _ (fun _=>rfl) _,aXY L,trivial⟩
section
variable (fs :List Int) (mn:Int) (cs:List Con) (L:List ONode) (o n:Int) (ks:List XT) (ps:List Pat)
theorem aUy (c:Int)(l:List ONode){ix:Nat}{a b:Int}{Q:List Pat}(h:l[ix]?=some ⟨a,b,.nil,Q⟩) :LeadsM PP 3 (aYt L fs mn cs o n ks ps c l).as (aRZ L fs mn cs o n ks ps c l ix a b Q).as:=
 bFn (k:=3) (e0:=4) (e:=1) aC aC (bDS (f:=ONode.av) [.int .i64 a,.int .i64 b] [.ilst 4 (Pats.av Q) false] h rfl) aC
theorem aUz (c:Int)(l:List ONode)(d:List Int)(u:Value)(i:Int){ix:Nat}{a b:Int}{Q:List Pat}(h:l[ix]?=some ⟨a,b,.val u,Q⟩) :LeadsM PP 3 (aYu L fs mn cs o n ks ps c l d u i).as (aR0 L fs mn cs o n ks ps c l d i ix a b Q).as:=
 bCr (k:=3) (b:=4) (e0:=4) (e:=1) (u:=u) (xs:=map cC d) (n:=length d) aC aC (by decide) (lB ..) (bDS (f:=ONode.av) [.int .i64 a,.int .i64 b] [.ilst 4 (Pats.av Q) false] h rfl) aC
variable (hkl :ks.length≤1000) (ih:∀t∈ks,∀ (M:List ONode),M.length+cB t≤1000000→FPS fs mn cs t M (dQ t M.length))
include hkl ih
theorem aNq (P:List Pat) :∀ (d:List XT) (i:Nat) (u:Value) (a:List Node) (c:List Int),ks.drop i=d→c.length=i→L.length+1+a.length+aD d≤1000000 →
  bD1 fs mn cs L (aC8 L fs mn cs o n ks ps (L++ ⟨o,n,.val u,P⟩ ::map Node.o a) c u (i:Int)) (⟨o,n,c++ (aW d (L.length+1+a.length)).1,P⟩ :: (a++ (aW d (L.length+1+a.length)).2))
 | [],i,u,a,c,h,hk,_=>by
  have:=bL h;have r:=bCM L fs mn cs o n ks ps (L++ ⟨o,n,.val u,P⟩ ::map Node.o a) c u i ⟨o,n,.val u,P⟩ sd (sZ ..) rfl;rw [tA]at r;rw [aW];simp only [vZ];exact r
 | .mk p j l k::d,i,u,a,c,h,hk,hb=>by
  obtain⟨s,w,z⟩ :=bI h;simp only [aD]at hb;have b: (L++ (⟨o,n,.val u,P⟩ :ONode) ::map Node.o a).length=L.length+1+a.length:=by simp;omega
  have f:=ih _ (kS s) (L++ ⟨o,n,.val u,P⟩ ::map Node.o a) (by rw [b];omega);rw [b]at f;rw [aW];have g:=bB (.mk p j l k) (L.length+1+a.length);generalize dQ (.mk p j l k) (L.length+1+a.length) =e at f g ⊢;unfold FPS at f;have q:=bCL L fs mn cs o n ks ps (L++ ⟨o,n,.val u,P⟩ ::map Node.o a) c u i p j l k e sd sd sd (vD (m:=3) (ks:=[0,1,2,3]) f aC aC (aC9 ..) (aC9 ..));have x: (L++ (⟨o,n,.val u,P⟩ :ONode) ::map Node.o a) ++map Node.o e=L++ ⟨o,n,.val u,P⟩ ::map Node.o (a++e) :=by simp
  rw [x,b]at q;refine(q.trans (aUz fs mn cs L o n ks ps _ _ c u i (sZ L _ _))).ends ?_;refine bCH L fs mn cs o n ks ps _ _ c i (length L) o n P (by omega) (by simp;omega) (by omega) (by simp) (by simp;omega) sd (fun y v t=>?_);have:=aNq P d (i+1) (.slice y v t) (a++e) (c++ [((L.length+1+a.length:Nat) :Int)]) w (by simp [hk]) (by simp;omega);dsimp only;rw [tA];rw [vP,←Nat.add_assoc]at this;simp only [zq9,List.singleton_append]at this ⊢;exact this
theorem aYy (P:List Pat)(hb:L.length+1+aD ks≤1000000) :
  bD1 fs mn cs L (aQF L fs mn cs o n ks ps (L++ [⟨o,n,.nil,P⟩])) (⟨o,n,(aW ks (L.length+1)).1,P⟩ :: (aW ks (L.length+1)).2) :=by
 cases a:ks with
 | nil=>
  subst a;have l:=bCK L fs mn cs o n [] ps (L++ [⟨o,n,.nil,P⟩]) ⟨o,n,.nil,P⟩ (by simp) (sZ ..) rfl;rw [tA]at l;rw [aW];exact l
 | cons t i=>
  obtain⟨f,c,e,d⟩ :=t;have j:ks[0]?=some (.mk f c e d) :=by rw [a];rfl
  rw [←a];have b: (L++ [(⟨o,n,.nil,P⟩ :ONode)]).length=L.length+1:=by simp
  have q:cB (.mk f c e d) +aD i=aD ks:=by rw [a,aD]
  have g:=ih _ (kS j) (L++ [⟨o,n,.nil,P⟩]) (by rw [b];omega);rw [b]at g;have ep:aW ks (L.length+1) =aW (.mk f c e d::i) (L.length+1) :=by rw [a]
  rw [ep,aW];have h:=bB (.mk f c e d) (L.length+1);generalize dQ (.mk f c e d) (L.length+1) =ns at g h ⊢;unfold FPS at g;have k:=bCJ L fs mn cs o n ks ps (L++ [(⟨o,n,.nil,P⟩ :ONode)]) f c e d ns (by rw [a];simp) (by omega) (by simpa using j) (vD (m:=3) (ks:=[0,1,2,3]) g aC aC (aC9 ..) (aC9 ..));have s: (L++ [(⟨o,n,.nil,P⟩ :ONode)]) ++map Node.o ns=L++ ⟨o,n,.nil,P⟩ ::map Node.o ns:=by simp
  rw [s,b]at k;refine(k.trans (aUy fs mn cs L o n ks ps _ _ (sZ L _ _))).ends ?_;refine bCG L fs mn cs o n ks ps _ _ (length L) o n P (by omega) (by simp;omega) (by omega) (by simp) (by simp) (fun u r p=>?_);have:=aNq fs mn cs L o n ks ps hkl ih P i 1 (.slice u r p) ns [((L.length+1:Nat) :Int)] (by rw [a];rfl) rfl (by omega);dsimp only;rw [tA];exact this
end
theorem vN :∀ (a:List Pat),(∀q∈a,bZ q≤1000) →bG a≤1000*a.length
 | [],_=>by simp [bG]
 | q::a,h=>by
  have:=vN a (fun x b=>h x (cH _ b));have:=h q (cQ ..);simp only [bG,mO];omega
mutual
theorem aNr (fs:List Int)(mn:Int)(cs:List Con){B:Int}:∀ (t:XT),FineX B t→ (∀L:List ONode,L.length+cB t≤1000000→FPS fs mn cs t L (dQ t L.length))
 | .mk o n c a,e=>fun L hb=>by
  simp only [FineX]at e;obtain⟨_,h,g,_,_,d,f⟩ :=e;simp only [cB]at hb;have d:=d.2.1;have b:=vN a g;have b:bG a<1000000:=by omega
  rw [dQ];refine⟨(bD0 L fs mn cs o n c a).as.fr,by kernel_rfl,?_⟩;refine(bCI L fs mn cs o n c a a (aM4 a b) (by simp;omega)).ends ?_;exact aYy fs mn cs L o n c a h (aR1 fs mn cs c f) a (by omega)
theorem aR1 (fs:List Int)(mn:Int)(cs:List Con){B:Int}:∀ (b:List XT),FineXs B b→∀t∈b,∀ (M:List ONode),M.length+cB t≤1000000→FPS fs mn cs t M (dQ t M.length)
 | [],_,t,a=>by cases a
 | k::b,c,t,a=>by
  simp only [FineXs]at c;rcases zq7.1 a with e|a
  ·rw [e];exact aNr fs mn cs k c.1
  ·exact aR1 fs mn cs b c.2 t a
end
def aQG :List XT→Nat→List Int×List Node:=aW
def cO (ts:List XT)(mn:Int)(cs:List Con) :Prog:= ⟨(aQG ts 0).2,(aQG ts 0).1,mn,cs⟩
theorem aNs (ts:List XT)(mn:Int)(cs:List Con){B:Int}(hl:ts.length≤1000) :∀ (d:List XT) (i:Nat) (a:List Node) (c:List Int),ts.drop i=d→FineXs B d→a.length+aD d≤100000→c.length=i →
  Ends PP 0 (aKS ts mn cs cs (i:Int) (map Node.o a) c).as (.ret (Prog.av ⟨a++ (aW d a.length).2,c++ (aW d a.length).1,mn,cs⟩)) (aA [] 0)
 | [],i,a,c,h,_,_,_=>by
  have:=bL h;have e:=bCP ts mn cs cs (i:Int) (map Node.o a) c a sd rfl (by simp);simp only [aW,vZ];exact e
 | .mk n k j l::d,i,a,c,h,o,hb,q=>by
  obtain⟨s,r,t⟩ :=bI h;simp only [FineXs]at o;simp only [aD]at hb;have b: (map Node.o a).length=a.length:=by simp
  have f:=aNr c mn cs _ o.1 (map Node.o a) (by rw [b];omega);rw [b]at f;rw [aW];have g:=bB (.mk n k j l) a.length;generalize dQ (.mk n k j l) a.length=p at f g ⊢;unfold FPS at f;have st:=bCO ts mn cs cs (i:Int) (map Node.o a) c n k j l p sd sd sd (vD (m:=3) (ks:=[1,2,4,3]) f aC aC (aC9 ..) (aC9 ..)) (by simp;omega) sd;refine st.ends ?_;rw [b,←aG2];have e:=aNs ts mn cs hl d (i+1) (a++p) (c++ [((a.length:Nat) :Int)]) r o.2 (by rw [vP];omega) (by simp [q]);rw [vP]at e;simp only [zq9,List.singleton_append]at e ⊢;exact e
theorem aUA (ts:List XT)(mn:Int)(cs:List Con){B:Int}(hl:ts.length≤1000)(hc:cs.length≤1000000)(b:FineXs B ts)(a:aD ts≤100000) :aM PP 76 [fvA ts mn cs] (Prog.av (cO ts mn cs)) :=by
 refine aJ aC (by simp [AV.keylessL,AV.keyless,fvA]) rfl ((bCN ts mn cs cs (aGs cs hc)).ends ?_);have e:=aNs ts mn cs hl ts 0 [] [] rfl b (by simpa using a) rfl;exact e
mutual
theorem pL {B C:Int}(h:B≤C) :∀ {t:XT},FineX B t→FineX C t
 | .mk o n b c,a=>by
  simp only [FineX]at a ⊢;exact⟨fun e=>Int.le_trans (a.1 e) h,a.2.1,a.2.2.1,a.2.2.2.1,a.2.2.2.2.1,a.2.2.2.2.2.1,nJ h a.2.2.2.2.2.2⟩
theorem nJ {B C:Int}(h:B≤C) :∀ {a:List XT},FineXs B a→FineXs C a
 | [],_=>trivial
 |t::a,b=> ⟨pL h b.1,nJ h b.2⟩
end
theorem kQ (fr:Int)(ts:List XT) : (dU fr 1 ts).length=ts.length:=by rw [mH];simp
mutual
theorem aR2 {B fr:Int}:∀ {t:XT},FineX B t→FineX (B+1) (rD fr 1 t)
 | .mk o n b c,a=>by
  simp only [rD,FineX]at a ⊢;rw [kQ];refine⟨fun e=>?_,a.2.1,a.2.2.1,a.2.2.2.1,a.2.2.2.2.1,a.2.2.2.2.2.1,aGw a.2.2.2.2.2.2⟩;have:=a.1 e;unfold mvN;split<;>omega
theorem aGw {B fr:Int}:∀ {a:List XT},FineXs B a→FineXs (B+1) (dU fr 1 a)
 | [],_=>trivial
 |t::a,b=> ⟨aR2 b.1,aGw b.2⟩
end
mutual
theorem aQH (fr:Int) :∀ (t:XT),cB (rD fr 1 t) =cB t
 | .mk o n a b=>by simp only [rD,cB];rw [aKT fr a]
theorem aKT (fr:Int) :∀ (a:List XT),aD (dU fr 1 a) =aD a
 | [] =>rfl
 |t::a=>by simp only [dU,aD];rw [aQH fr t,aKT fr a]
end
theorem aUB {B:Int}{ts:List XT}{i:Nat}{t:XT}(h:FineXs B ts)(b:FineX B t) :FineXs B (ts.set i t) :=fineXs_iff.2 fun x a=>by
 rcases List.mem_or_eq_of_mem_set a with g|g
 ·exact fineXs_iff.1 h x g
 ·rw [g];exact b
theorem aNt :∀ {ts:List XT} {i:Nat} {t x:XT},ts[i]?=some x→aD (ts.set i t) +cB x=aD ts+cB t
 | [],i,t,x,h=>by simp at h
 |y::ts,0,t,x,h=>by simp at h;subst h;simp only [List.set_cons_zero,aD];omega
 | y::ts,i+1,t,x,h=>by
  have:=aNt (ts:=ts) (i:=i) (t:=t) (x:=x) (by simpa using h);simp only [List.set_cons_succ,aD];omega
theorem bCQ :aT 7 2≤2:=by decide
theorem aYz :aT 4 0≤0:=by decide
theorem aGx {B:Int}{a b:XT}(d:FineX B a)(hb:FineX B b) :FineX B (.mk 7 0 [a,b] []) :=by
 simp only [FineX];exact⟨fun e=> (by cases e),by simp,fun q c=> (by cases c),fun e=> (by cases e),fun _=>rfl,⟨bCQ,by simp,fun h=>absurd h (by decide),fun q c=> (by cases c)⟩,d,hb,trivial⟩
theorem bCR {B sz:Int}{k:Nat}{o n:Int}{ks:List XT}{ps:List Pat}{x:XT}(a:FineX B (.mk o n ks ps))(f:ks[k]?=some x)(i:sz≤B+1) :FineX (B+1) (dnT sz k o n ks ps x) ∧cB (dnT sz k o n ks ps x) =cB (.mk o n ks ps) +2:=by
 simp only [FineX]at a;have b:FineXs (B+1) (ks.map (rD sz 1)) :=by rw [←mH];exact aGw a.2.2.2.2.2.2
 have d:FineX (B+1) (.mk 4 sz [] []) :=by
  simp only [FineX];exact⟨fun _=>i,by simp,fun q c=> (by cases c),fun e=> (by cases e),fun e=> (by cases e),⟨aYz,by simp,fun h=>absurd h (by decide),fun q c=> (by cases c)⟩,trivial⟩
 constructor
 · refine aGx (pL (by omega) (fineXs_iff.1 a.2.2.2.2.2.2 x (kS f))) ?_;simp only [FineX,fN,lB];exact⟨fun e=>by have:=a.1 e;omega,a.2.1,a.2.2.1,a.2.2.2.1,a.2.2.2.2.1,a.2.2.2.2.2.1,aUB b d⟩
 · have g: (ks.map (rD sz 1))[k]?=some (rD sz 1 x) :=by rw [rM,f];rfl
   have:=aNt (t:=.mk 4 sz [] []) g;rw [aQH,←mH,aKT,mH]at this;simp only [dnT,cB,aD]at this ⊢;omega
theorem aUC {B sz:Int}:∀ {t:XT} {s:Option Nat},FineX B t→cG t=some s→sz≤B+1→FineX (B+1) (gW sz s t) ∧cB (gW sz s t) ≤cB t+2
 | .mk o n h r,some k,i,d,hz=>by
  obtain⟨x,j⟩ :∃x,h[k]?=some x:=by
   simp only [cG]at d;by_cases g:o=7
   · rw [if_pos g]at d;split at d
     ·split at d<;>cases d
     ·cases d
   · rw [if_neg g]at d;cases f:cX h 0 (aT o h.length)with
     |none=>rw [f]at d;cases d
     | some y=>
      rw [f]at d;cases d;obtain⟨x,j,_⟩ :=aAZ f (rfl:h.drop 0=h);exact⟨x,j⟩
  have:=bCR i j hz;simp only [gW,rG j];exact⟨this.1,by rw [this.2];exact Nat.le_refl _⟩
 | .mk o n h r,none,i,d,hz=>by
  have v:=i;simp only [FineX]at i;have p:o=7:=by
   simp only [cG]at d;by_cases g:o=7
   ·exact g
   · rw [if_neg g]at d;cases f:cX h 0 (aT o h.length)with
     |none=>rw [f]at d;cases d
     |some k=>rw [f]at d;cases d
  have hl:=i.2.2.2.2.1 p
  match h,hl,i,d with
  | [.mk q z u w,c],_,i,d=>
   have l:q=7:=by
    simp only [cG,if_pos p,jK,XT.op]at d;by_cases g:q=7
    ·exact g
    ·simp [g]at d
   have e:=i.2.2.2.2.2.2;simp only [FineXs,FineX]at e;have m:=e.1.2.2.2.2.1 l
   match u,m,e with
   | [a,b],_,e=>
    simp only [FineXs]at e;simp only [gW,List.getD_cons_zero,List.getD_cons_succ,XT.kids,neT];refine⟨aGx (pL (by omega) e.1.2.2.2.2.2.2.1) (aGx (pL (by omega) e.1.2.2.2.2.2.2.2.1) (aR2 e.2.1)),?_⟩;simp only [cB,aD,aQH];omega
mutual
theorem aNu {B node:Int}:∀ {t:XT} {l g:Int} {f:XT},FineX B t→0≤g→g+1000* (cB t:Nat) ≤B+1→atT node t l g= .did f→FineX (B+1) f∧cB f≤cB t+2
 | .mk o n j ps,l,g,f,b,p,hz,h=>by
  have k:=b
  have d:∀a,iM node o ps j 0 (l+1) g= .did a→FineX (B+1) (.mk o n a ps) ∧cB (.mk o n a ps) ≤cB (.mk o n j ps) +2:=fun a e=>by
   simp only [FineX]at b ⊢;simp only [cB]at hz ⊢;obtain⟨u,v,q⟩ :=aIo b.2.2.1 b.2.2.2.2.2.2 p (by omega) e;rw [q];exact⟨⟨fun e=>by have:=b.1 e;omega,b.2.1,b.2.2.1,b.2.2.2.1,b.2.2.2.2.1,b.2.2.2.2.2.1,u⟩,by omega⟩
  rw [aA0]at h
  have c:∀r,qE o n ps [] r= .did f→∃a,r= .did a∧f= .mk o n a ps:=fun r hr=>by
   cases r with
   |go m=>cases hr
   |past=>cases hr
   |did a=>simp only [qE,List.nil_append]at hr;cases hr;exact⟨a,rfl,rfl⟩
  cases i:cG (.mk o n j ps)with
  | none=>
   rw [i]at h;obtain⟨a,e,rfl⟩ :=c _ h;exact d a e
  | some s=>
   rw [i]at h;dsimp only at h;split at h
   · cases h;simp only [cB]at hz;exact aUC k i (by omega)
   · split at h
     ·cases h
     · obtain⟨a,e,rfl⟩ :=c _ h;exact d a e
theorem aIo {B node:Int}{o:Int}{ps:List Pat}(f:∀q∈ps,bZ q≤1000) :∀ {b:List XT} {i:Nat} {n z:Int} {a:List XT},FineXs B b→0≤z→z+1000+1000* (aD b:Nat) ≤B+1→iM node o ps b i n z= .did a→FineXs (B+1) a∧aD a≤aD b+2∧a.length=b.length
 | [],i,n,z,a,_,_,_,h=>by simp only [iM]at h;cases h
 | t ::b,i,n,z,a,c,j,hz,h=>by
  have r:=oH (o:=o) f (i:Int);simp only [FineXs]at c;simp only [aD]at hz ⊢;simp only [iM]at h;split at h
  · rename_i m e;split at h
    ·cases h
    ·cases h
    · rename_i g p;cases h;obtain⟨d,k,l⟩ :=aIo f c.2 j (by omega) p;exact⟨⟨pL (by omega) c.1,d⟩,by simp only [aD];omega,by simp [l]⟩
  ·cases h
  · rename_i s e;cases h;obtain⟨d,k⟩ :=aNu c.1 (by omega) (by omega) e;exact⟨⟨d,nJ (by omega) c.2⟩,by simp only [aD];omega,rfl⟩
end
theorem aNv {B node:Int}:∀ {c:List XT} {n:Int} {a:List XT},FineXs B c→1+1000* (aD c:Nat) ≤B+1→atF node c n= .did a→FineXs (B+1) a∧aD a≤aD c+2
 | [],n,a,_,_,h=>by simp only [atF]at h;cases h
 | t ::c,n,a,b,hz,h=>by
  simp only [FineXs]at b;simp only [aD]at hz ⊢;simp only [atF]at h;split at h
  · split at h
    ·cases h
    ·cases h
    · rename_i f i;cases h;obtain⟨d,g⟩ :=aNv b.2 (by omega) i;exact⟨⟨pL (by omega) b.1,d⟩,by simp only [aD];omega⟩
  ·cases h
  · rename_i j e;cases h;obtain⟨d,g⟩ :=aNu b.1 (by omega) (by omega) e;exact⟨⟨d,nJ (by omega) b.2⟩,by simp only [aD];omega⟩
def zeroV :AV:=.agg [.ilst 4 (map Node.av ([] :List Node)) true,.ilst 1 (map cC ([] :List Int)) true,.int .i64 0,.ilst 2 (map Con.av ([] :List Con)) true]
def aGy :Prog:= ⟨[],[],0,[]⟩
theorem bCS {E:Emb}{v:Value}(h:VR E zeroV v) :VR E (Prog.av aGy) v:=by
 simp only [zeroV,VR]at h;obtain⟨j,rfl,a⟩ :=h;obtain⟨k,o,rfl,d,a⟩ :=a.cons_inv;obtain⟨g,m,rfl,e,a⟩ :=a.cons_inv;obtain⟨f,l,rfl,b,a⟩ :=a.cons_inv;obtain⟨n,i,rfl,c,a⟩ :=a.cons_inv;rw [a.nil_inv];show VR E (.agg [.ilst 4 (map Node.av []) false,.ilst 1 (map cC []) false,.int .i64 0,.ilst 2 (map Con.av []) false]) _;simp only [VR];exact⟨_,rfl,VRs.cons (qD d) (VRs.cons (qD e) (VRs.cons b (VRs.cons (qD c) (VRs.nil _))))⟩
theorem aGz {E:Emb}{n:Int}{v:Value}(h:VR E (.tup [zeroV,.int .i64 n]) v) :VR E (.tup [Prog.av aGy,.int .i64 n]) v:=by
 simp only [VR]at h ⊢;obtain⟨c,rfl,a⟩ :=h;obtain⟨d,e,rfl,b,a⟩ :=a.cons_inv;exact⟨_,rfl,VRs.cons (bCS b) a⟩
mutual
theorem bCT {p:Prog}(hp:FineP p) :∀ (t:XT) (a:Int) (f:Nat),IsTree p t a→p.nodes.length-a.toNat≤f→ (pre p f a).length=cB t
 | .mk o n j l,a,f,h,d=>by
  simp only [IsTree]at h;obtain⟨m,nd,b,rfl,rfl,rfl,e⟩ :=h;have i:= (zq0.1 b).1;obtain⟨_,_,hk⟩ :=hp.node _ nd b
  match f,d with
  |0,d=>omega
  | g+1,d=>
   simp only [pre,b,cB,mO];rw [aGA hp j nd.kids g e (fun k c=>by have:=hk k c;omega)]
theorem aGA {p:Prog}(hp:FineP p) :∀ (a:List XT) (l:List Int) (g:Nat),aN p a l→ (∀k∈l,p.nodes.length-k.toNat≤g) → ((l.map (pre p g)).flatten).length=aD a
 | [],l,g,h,_=>by simp only [aN]at h;subst h;rfl
 | t::a,l,g,h,hk=>by
  simp only [aN]at h;obtain⟨k,d,rfl,b,e⟩ :=h;simp only [eI,aCv,vP,aD];rw [bCT hp t k g b (hk k (cQ ..)),aGA hp a d g e (fun x c=>hk x (cH _ c))]
end
theorem aA5 {p:Prog}(a:aF p=true)(b:aK p=true){ts:List XT}(e:aN p ts p.funs) :aD ts=p.nodes.length:=by
 obtain⟨c,_,_⟩ :=kC a b;obtain⟨_,d,_⟩ :=aA4 a b;rw [←d,aGA c ts p.funs p.nodes.length e (fun k _=>by omega)]
theorem aDR {p:Prog}(a:aK p=true) :p.funs≠ [] :=fun e=>by
 simp only [aK,eA,cP]at a;have h:=a.1.1;simp [e,eB]at h
mutual
def stT :XT→Int→List Int
 | .mk o n ks ps,a=> (if(cG (.mk o n ks ps)).isSome then [a]else []) ++eE ks (a+1)
def eE :List XT→Int→List Int
 | [],_=>[]
 |t::ts,a=>stT t a++eE ts (a+ (cB t:Nat))
end
section
variable (B :Int)
end
def bFq(a:Node):TS:=cA PP 106 [(Node.av a)] [] 0
def iE(a:Node):=tT 0 (bFq a)<|.b 18 5 (a.op==6) (gE 8 1 (nI 2))<|.b 6 5 (a.op==9) (gE 8 1 (nI 2))<|.b 6 5 (a.op==10) (gE 8 1 (nI 2))<|.b 6 5 (a.op==11) (gE 8 1 (nI 2))<|.b 6 5 (a.op==12) (gE 8 1 (nI 2))<|.b 6 5 (a.op==13) (gE 8 1 (nI 2))<|.b 6 5 (a.op==18) (gE 8 1 (nI 2))<|.b 5 5 (a.op==22) (gE 6 1 (nI 2))<|.b 6 14 (a.op==14) (gl 5 cC a.kids<|gE 3 1 (nI (a.kids.length:Int)))<|.b 7 19 (a.op==7) (gE 8 1 (nI 1))<|.b 6 19 (a.op==8) (gE 8 1 (nI 1))<|.b 6 19 (a.op==15) (gE 8 1 (nI 1))<|.b 6 19 (a.op==16) (gE 8 1 (nI 1))<|.b 6 19 (a.op==17) (gE 8 1 (nI 1))<|.b 6 19 (a.op==19) (gE 8 1 (nI 1))<|.b 6 19 (a.op==20) (gE 8 1 (nI 1))<|.b 6 19 (a.op==23) (gE 8 1 (nI 1))<|.b 6 19 (a.op==24) (gE 8 1 (nI 1))<|.b 5 19 (a.op==26) (gE 6 1 (nI 1))<|gE 8 1 (nI 0)
def aYA:=fun a b=>iE a|>.t b tv
def aYB:=fun a b c=>iE a|>.f b|>.t c tv
def aYC:=fun a b c d=>iE a|>.f b|>.f c|>.t d tv
def aYD:=fun a b c d e=>iE a|>.f b|>.f c|>.f d|>.t e tv
def aYE:=fun a b c d e f=>iE a|>.f b|>.f c|>.f d|>.f e|>.t f tv
def aYF:=fun a b c d e f g=>iE a|>.f b|>.f c|>.f d|>.f e|>.f f|>.t g tv
def aYG:=fun a b c d e f g i=>iE a|>.f b|>.f c|>.f d|>.f e|>.f f|>.f g|>.t i tv
def aYH:=fun a b c d e f g i j=>iE a|>.f b|>.f c|>.f d|>.f e|>.f f|>.f g|>.f i|>.t j tv
def aYI:=fun a b c d e f g i j k=>iE a|>.f b|>.f c|>.f d|>.f e|>.f f|>.f g|>.f i|>.f j|>.t k tv
def aYJ:=fun a b c d e f g i j k l=>iE a|>.f b|>.f c|>.f d|>.f e|>.f f|>.f g|>.f i|>.f j|>.f k|>.t l tv
def aUD:=fun a b c d e f g i j k l m=>iE a|>.f b|>.f c|>.f d|>.f e|>.f f|>.f g|>.f i|>.f j|>.f k|>.f l|>.t m tv
def aUE:=fun a b c d e f g i j k l m n=>iE a|>.f b|>.f c|>.f d|>.f e|>.f f|>.f g|>.f i|>.f j|>.f k|>.f l|>.f m|>.t n tv
def aUF:=fun a b c d e f g i j k l m n o=>iE a|>.f b|>.f c|>.f d|>.f e|>.f f|>.f g|>.f i|>.f j|>.f k|>.f l|>.f m|>.f n|>.t o tv
def aUG:=fun a b c d e f g i j k l m n o p=>iE a|>.f b|>.f c|>.f d|>.f e|>.f f|>.f g|>.f i|>.f j|>.f k|>.f l|>.f m|>.f n|>.f o|>.t p tv
def aUH:=fun a b c d e f g i j k l m n o p q=>iE a|>.f b|>.f c|>.f d|>.f e|>.f f|>.f g|>.f i|>.f j|>.f k|>.f l|>.f m|>.f n|>.f o|>.f p|>.t q tv
def aUI:=fun a b c d e f g i j k l m n o p q r=>iE a|>.f b|>.f c|>.f d|>.f e|>.f f|>.f g|>.f i|>.f j|>.f k|>.f l|>.f m|>.f n|>.f o|>.f p|>.f q|>.t r tv
def aUJ:=fun a b c d e f g i j k l m n o p q r s=>iE a|>.f b|>.f c|>.f d|>.f e|>.f f|>.f g|>.f i|>.f j|>.f k|>.f l|>.f m|>.f n|>.f o|>.f p|>.f q|>.f r|>.t s tv
def aUK:=fun a b c d e f g i j k l m n o p q r s t=>iE a|>.f b|>.f c|>.f d|>.f e|>.f f|>.f g|>.f i|>.f j|>.f k|>.f l|>.f m|>.f n|>.f o|>.f p|>.f q|>.f r|>.f s|>.t t tv
def aUL:=fun a b c d e f g i j k l m n o p q r s t u=>iE a|>.f b|>.f c|>.f d|>.f e|>.f f|>.f g|>.f i|>.f j|>.f k|>.f l|>.f m|>.f n|>.f o|>.f p|>.f q|>.f r|>.f s|>.f t|>.t u tv
def aUM:=fun a b c d e f g i j k l m n o p q r s t u=>iE a|>.f b|>.f c|>.f d|>.f e|>.f f|>.f g|>.f i|>.f j|>.f k|>.f l|>.f m|>.f n|>.f o|>.f p|>.f q|>.f r|>.f s|>.f t|>.f u tv
def dL (o:Int)(l:Nat) :Nat:=if o=6∨o=9∨o=10∨o=11∨o=12∨o=13∨o=18∨o=22 then 2 else if o=14 then l else if o=7∨o=8∨o=15∨o=16∨o=17∨o=19∨o=20∨o=23∨o=24∨o=26 then 1 else 0
theorem aUN (x:Node) :aM PP 106 [Node.av x] (.int .i64 ((dL x.op x.kids.length:Nat) :Int)) :=by
 refine aJ aC rfl rfl ?_;by_cases c:x.op=6
 · have e:dL x.op x.kids.length=2:=by unfold dL;simp [c]
   rw [e];exact aYA x (by simpa using c)
 by_cases d:x.op=9
 · have e:dL x.op x.kids.length=2:=by unfold dL;simp [d]
   rw [e];exact aYB x (by simpa using c) (by simpa using d)
 by_cases g:x.op=10
 · have e:dL x.op x.kids.length=2:=by unfold dL;simp [g]
   rw [e];exact aYC x (by simpa using c) (by simpa using d) (by simpa using g)
 by_cases i:x.op=11
 · have e:dL x.op x.kids.length=2:=by unfold dL;simp [i]
   rw [e];exact aYD x (by simpa using c) (by simpa using d) (by simpa using g) (by simpa using i)
 by_cases j:x.op=12
 · have e:dL x.op x.kids.length=2:=by unfold dL;simp [j]
   rw [e];exact aYE x (by simpa using c) (by simpa using d) (by simpa using g) (by simpa using i) (by simpa using j)
 by_cases l:x.op=13
 · have e:dL x.op x.kids.length=2:=by unfold dL;simp [l]
   rw [e];exact aYF x (by simpa using c) (by simpa using d) (by simpa using g) (by simpa using i) (by simpa using j) (by simpa using l)
 by_cases m:x.op=18
 · have e:dL x.op x.kids.length=2:=by unfold dL;simp [m]
   rw [e];exact aYG x (by simpa using c) (by simpa using d) (by simpa using g) (by simpa using i) (by simpa using j) (by simpa using l) (by simpa using m)
 by_cases o:x.op=22
 · have e:dL x.op x.kids.length=2:=by unfold dL;simp [o]
   rw [e];exact aYH x (by simpa using c) (by simpa using d) (by simpa using g) (by simpa using i) (by simpa using j) (by simpa using l) (by simpa using m) (by simpa using o)
 by_cases p:x.op=14
 · have e:dL x.op x.kids.length=x.kids.length:=by unfold dL;simp [p]
   rw [e];exact aYI x (by simpa using c) (by simpa using d) (by simpa using g) (by simpa using i) (by simpa using j) (by simpa using l) (by simpa using m) (by simpa using o) (by simpa using p)
 by_cases r:x.op=7
 · have e:dL x.op x.kids.length=1:=by unfold dL;simp [r]
   rw [e];exact aYJ x (by simpa using c) (by simpa using d) (by simpa using g) (by simpa using i) (by simpa using j) (by simpa using l) (by simpa using m) (by simpa using o) (by simpa using p) (by simpa using r)
 by_cases a:x.op=8
 · have e:dL x.op x.kids.length=1:=by unfold dL;simp [a]
   rw [e];exact aUD x (by simpa using c) (by simpa using d) (by simpa using g) (by simpa using i) (by simpa using j) (by simpa using l) (by simpa using m) (by simpa using o) (by simpa using p) (by simpa using r) (by simpa using a)
 by_cases b:x.op=15
 · have e:dL x.op x.kids.length=1:=by unfold dL;simp [b]
   rw [e];exact aUE x (by simpa using c) (by simpa using d) (by simpa using g) (by simpa using i) (by simpa using j) (by simpa using l) (by simpa using m) (by simpa using o) (by simpa using p) (by simpa using r) (by simpa using a) (by simpa using b)
 by_cases f:x.op=16
 · have e:dL x.op x.kids.length=1:=by unfold dL;simp [f]
   rw [e];exact aUF x (by simpa using c) (by simpa using d) (by simpa using g) (by simpa using i) (by simpa using j) (by simpa using l) (by simpa using m) (by simpa using o) (by simpa using p) (by simpa using r) (by simpa using a) (by simpa using b) (by simpa using f)
 by_cases h:x.op=17
 · have e:dL x.op x.kids.length=1:=by unfold dL;simp [h]
   rw [e];exact aUG x (by simpa using c) (by simpa using d) (by simpa using g) (by simpa using i) (by simpa using j) (by simpa using l) (by simpa using m) (by simpa using o) (by simpa using p) (by simpa using r) (by simpa using a) (by simpa using b) (by simpa using f) (by simpa using h)
 by_cases k:x.op=19
 · have e:dL x.op x.kids.length=1:=by unfold dL;simp [k]
   rw [e];exact aUH x (by simpa using c) (by simpa using d) (by simpa using g) (by simpa using i) (by simpa using j) (by simpa using l) (by simpa using m) (by simpa using o) (by simpa using p) (by simpa using r) (by simpa using a) (by simpa using b) (by simpa using f) (by simpa using h) (by simpa using k)
 by_cases n:x.op=20
 · have e:dL x.op x.kids.length=1:=by unfold dL;simp [n]
   rw [e];exact aUI x (by simpa using c) (by simpa using d) (by simpa using g) (by simpa using i) (by simpa using j) (by simpa using l) (by simpa using m) (by simpa using o) (by simpa using p) (by simpa using r) (by simpa using a) (by simpa using b) (by simpa using f) (by simpa using h) (by simpa using k) (by simpa using n)
 by_cases q:x.op=23
 · have e:dL x.op x.kids.length=1:=by unfold dL;simp [q]
   rw [e];exact aUJ x (by simpa using c) (by simpa using d) (by simpa using g) (by simpa using i) (by simpa using j) (by simpa using l) (by simpa using m) (by simpa using o) (by simpa using p) (by simpa using r) (by simpa using a) (by simpa using b) (by simpa using f) (by simpa using h) (by simpa using k) (by simpa using n) (by simpa using q)
 by_cases s:x.op=24
 · have e:dL x.op x.kids.length=1:=by unfold dL;simp [s]
   rw [e];exact aUK x (by simpa using c) (by simpa using d) (by simpa using g) (by simpa using i) (by simpa using j) (by simpa using l) (by simpa using m) (by simpa using o) (by simpa using p) (by simpa using r) (by simpa using a) (by simpa using b) (by simpa using f) (by simpa using h) (by simpa using k) (by simpa using n) (by simpa using q) (by simpa using s)
 by_cases t:x.op=26
 · have e:dL x.op x.kids.length=1:=by unfold dL;simp [t]
   rw [e];exact aUL x (by simpa using c) (by simpa using d) (by simpa using g) (by simpa using i) (by simpa using j) (by simpa using l) (by simpa using m) (by simpa using o) (by simpa using p) (by simpa using r) (by simpa using a) (by simpa using b) (by simpa using f) (by simpa using h) (by simpa using k) (by simpa using n) (by simpa using q) (by simpa using s) (by simpa using t)
 have e:dL x.op x.kids.length=0:=by unfold dL;simp [c,d,g,i,j,l,m,o,p,r,a,b,f,h,k,n,q,s,t]
 rw [e];exact aUM x (by simpa using c) (by simpa using d) (by simpa using g) (by simpa using i) (by simpa using j) (by simpa using l) (by simpa using m) (by simpa using o) (by simpa using p) (by simpa using r) (by simpa using a) (by simpa using b) (by simpa using f) (by simpa using h) (by simpa using k) (by simpa using n) (by simpa using q) (by simpa using s) (by simpa using t)
theorem aYK {o:Int}{l:Nat}(h:gU o=true→o≠14→l=2)(i:o≠7)(g:o≠26) :dL o l=aT o l:=by
 unfold dL aT;by_cases a:o=6∨o=9∨o=10∨o=11∨o=12∨o=13∨o=18∨o=22
 · have e:gU o=true:=by unfold gU;rcases a with a|a|a|a|a|a|a|a<;>subst a<;>rfl
   have d:eD o=false:=by rcases a with a|a|a|a|a|a|a|a<;>subst a<;>rfl
   have f:o≠14:=by omega
   rw [if_pos a,d,e,h e f];rfl
 · rw [if_neg a];by_cases b:o=14
   ·subst b;rfl
   · rw [if_neg b];have e:gU o=false:=by unfold gU;simp;omega
     by_cases c:o=7∨o=8∨o=15∨o=16∨o=17∨o=19∨o=20∨o=23∨o=24∨o=26
     · have d:eD o=true:=by unfold eD;simp;omega
       rw [if_pos c,d];rfl
     · have d:eD o=false:=by unfold eD;simp;omega
       rw [if_neg c,d,e];rfl
end
end Go.Hb
