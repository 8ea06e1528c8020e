/- A machine on abstract values, its soundness, ways, plain laws. -/
import Derived.Test.YtnljmgihoioocaaGreatHF
import Derived.Test.YtnljmgihoioocaaGreatHG
import Derived.Test.YtnljmgihoioocaaGreatHH
import Derived.Test.YtnljmgihoioocaaGreatHJ
import Derived.Test.YtnljmgihoioocaaGreatHL
import Derived.Test.YtnljmgihoioocaaGreatHM
import Derived.Test.YtnljmgihoioocaaGreatHN
import Derived.Test.YtnljmgihoioocaaGreatHO
set_option linter.defProp false
set_option linter.unusedVariables false
set_option linter.unusedSimpArgs false
set_option linter.unusedSectionVars false
set_option maxRecDepth 100000
set_option maxHeartbeats 2000000
namespace Go.Hb
open AV (ilst keyless keylessL)
open List (any_cons countP length map replicate set)
open Nat (le_refl zero_le)
open Go.Proofs Tryz
noncomputable section
structure FlOk (p:Prog) (t:XT) (to:List Int) (z:Int) :Prop where
 fine:FineX 1000000 t
 wx:WX p t
 sc:rA t (to.length:Nat)
 sz:cK t≤900
 tl:to.length+1000*cK t≤900100
 z0:0≤z
 z1:z+3000* (cK t:Nat) ≤100000000
section
variable {p :Prog} {o n:Int} {ks:List XT} {ps:List Pat} {to:List Int} {z:Int}
end
section
variable {P :Program}
def bHc (P:Program)(is:List Ins)(s:TS) :Option (AV×Nat×List Prop) :=
 match rO P is s.as with
 | some (s1,ps) =>match s1.cs,s1.fr.kind,s1.fr.mode,s1.fr.roundOf,s1.fr.defers with
  | [],.normal,.ret,none,[] =>match P.funcs[s1.fr.fn]? with
   | some fd=>match mA P s1.h s1.fr.tm fd.results.toList with
    |some [v] =>some (v,s1.fr.fn,ps)
    |_=>none
   |none=>none
  |_,_,_,_,_=>none
 |none=>none
theorem aL6 {f : Nat} {args : List AV} {is : List Ins}{b:Bool}{ps:List Prop}{cargs:List Value}(hb:vC P f=true)(hk:keylessL args=true)(d:bHc P is (start P f args) =some (.bool b,f,ps))(y:AllP ps)(w:World)(U:VRs (embOf w) args cargs) :
  Calls P f ⟨cargs⟩ w fun e w'=>e= .returned (.bool b) ∧GrownO w w':=by
 intro k;unfold vC at hb;split at hb
 · rename_i fn G;split at hb
   · rename_i c hc;have I:dV P f args .normal=some ⟨f,eO .leaf 0 args,max fn.ntmps args.length,[.code c],[],.run,.normal,none⟩ :=by simp [dV,G,hc]
     have fr':FR (embOf w) _ (Frame.enter P f ⟨cargs⟩ .normal) :=kD I U;have O:FR (embOf w) (start P f args).as.fr (Frame.enter P f ⟨cargs⟩ .normal) :=by
      have N: (start P f args).as.fr= ⟨f,dO ((List.range args.length).zip args),max fn.ntmps args.length,[.code c],[],.run,.normal,none⟩ :=by simp [start,G,hc,TS.as,TF.fr]
      rw [N];refine⟨fr'.fn,⟨fr'.tm.1,fun t a e=>?_⟩,fr'.todo,fr'.defers,fr'.mode,fr'.kind,fr'.round⟩;have m:=aMF (aDf e);have s:= (zq0.1 m).1;have R: (eO .leaf 0 args).at t=some a:=by
       unfold eO;rw [bH,if_pos s];exact m
      exact fr'.tm.2 t a R
     have e2 : (start P f args).as.cs = [] := by unfold start;split; · split<;>rfl
                                                 ·rfl
     have e3 : (start P f args).as.h = ⟨.leaf, 0⟩ := by unfold start;split; · split<;>rfl
                                                        ·rfl
     unfold bHc at d;split at d
     · rename_i s1 qs m;split at d
       · rename_i u A B M C;split at d
         · rename_i V F;split at d
           · rename_i v n;simp only [Option.some.injEq,Prod.mk.injEq]at d;obtain⟨rfl,z,rfl⟩ :=d;have hl:LeadsM P 0 (start P f args).as s1:=iD m (fun p D=>y.mem p D);obtain⟨X,g,J,w',S,h,j,W,x⟩ :=hl (by rw [e3];exact le_refl _) (embOf w) _ [] w k O (by rw [e2];rfl) (by rw [e3];exact aT8 w);rw [u]at j;have:=j.nil_inv;subst this;obtain⟨Y,Q,H⟩ :=yG W h.tm n;simp only [aCY,VR]at H;subst H;have q:=h.mode;rw [B]at q;simp only [MR]at q;have l:=h.defers;rw [C]at l;rw [e3]at x;have r:∀ {b o},¬ (⟨.leaf,0⟩ :Hp).look b=some o:=fun {b o} e=>by simp [Hp.look,T.at_leaf]at e
             refine⟨.returned (.bool b),w',g,⟨rfl,⟨x.os,x.output,fun i K=>?_⟩,x.froz,x.size⟩,S,by rw [h.fn,z],q,l.nil_inv,by rw [h.kind,A],V,by rw [h.fn];exact F,Q⟩;have:=x.keep i K (fun b o L e=>absurd e r);rw [this];cases w.heap[i]? with
             |none=>rfl
             |some ob=>cases ob<;>simp
           ·cases d
         ·cases d
       ·cases d
     ·cases d
   ·cases hb
 ·cases hb
theorem cW {f:Nat}{args:List AV}{b:Bool}{cargs:List Value}(L:List Pf)(is:List Ins)(w:World)(hv:VRs (embOf w) args cargs)(hb:vC P f=true:=by kernel_rfl)(hk:keylessL args=true:=by kernel_rfl)(h0:bHc P is (start P f args) =some (.bool b,f,L.map Pf.p) :=by kernel_rfl) :
    Calls P f ⟨cargs⟩ w fun e w'=>e= .returned (.bool b) ∧GrownO w w':=aL6 hb hk h0 (bE3 L) w hv
end
def NI (p:Prog)(q:List XT)(ts:List XT) :Prop:=NInv p q ts∧qR (aLN p.cons) ts
theorem aTL {p:Prog}{q:List XT}:∀a,NI p q a→FineXs 1000000 a∧aD a≤100000∧a.length≤1000:=fun _ h=>aZU h.1
theorem aL7 {p:Prog}{q:List XT}:∀ (b:List XT) (a:Int) (l:List Int) (ts':List XT),NI p q b→eW b 0=a::l→atF a b 0= .did ts'→NI p q ts':=fun _ _ _ _ h d c=> ⟨aOO h.1 d c,(aTe h.2 c).1⟩
theorem aTM {p:Prog}(a:aK p=true)(c:aN p=true)(hc: (eC p).1=true){ts:List XT}(b:aE p ts p.funs) :NI p (ts.map pW) ts:=by
 obtain⟨d,_,_⟩ :=kG a c;exact⟨aZW a c hc b,aDD d ts p.funs b⟩
theorem aR6 {p:Prog}{q ts:List XT}(h:NI p q ts) :∃m,aBh 1000 ts=some (q,m) ∧NI p q q∧eW q 0= [] ∧m.length≤1000:=by
 obtain⟨m,hm⟩ :=aTs 1000 ts h.1 (by have:=h.1.fs;omega);obtain⟨c,a,b⟩ :=aHt (I:=NI p q) aL7 1000 ts q m h hm;exact⟨m,hm,c,a,b⟩
structure Way (p:Prog) (q ts:List XT) :Prop where
 len:ts.length=p.funs.length
 wx:jJ p ts
 sc:∀t∈ts,rA t 1
 nf:ts.map pW=q
 fits:tP 30 p.cons ts=true
section
variable {p :Prog} (hp:Fs p) {q:List XT}
include hp in
theorem Way.fs {ts:List XT}(h:Way p q ts) :Fs (dU ts p.main p.cons) ∧ (eC (dU ts p.main p.cons)).1=true:=aLW hp.hd h.len h.wx h.sc h.fits
end
def fN :List Bool→Int→List Int
 | [],_=>[]
 |b::t,n=>n::fN t (if b=true then n+1 else n)
theorem aJx :∀ (a:List Bool) (n:Int),(fN a n).length=a.length
 | [],_=>rfl
 |b::t,n=>by rw [fN,oK,aJx t,oK]
def dD {α:Type}:List Bool→List α→List α
 |true::bs,x::t=>x::dD bs t
 |false::bs,_::t=>dD bs t
 |_,_=>[]
structure Nok (p:Prog) (ts:List XT) :Prop where
 fs:Fs p
 cl: (eC p).1=true
 ht:aE p ts p.funs
 fits:tP 30 p.cons (ts.map pW) =true
def nfP (p:Prog)(ts:List XT) :Prog:=dU (ts.map pW) p.main p.cons
section
variable {p :Prog} {ts:List XT}
theorem Nok.wx (h:Nok p ts) :jJ p ts:=zE (fun i x hx=> (h.fs.node i x hx).1) ts p.funs h.ht
theorem Nok.inv (h:Nok p ts) :NI p (ts.map pW) ts:=aTM h.fs.sm h.fs.fo h.cl h.ht
theorem Nok.sc (h:Nok p ts) :∀t∈ts,rA t 1:=h.inv.1.sc
theorem Nok.norm (h:Nok p ts) :aJ PP 12 [Prog.av p] (.tup [Prog.av (nfP p ts),.int .i64 0]) :=by
 obtain⟨m,hr,_⟩ :=aR6 h.inv;have a1:=aJm h.fs.sm (I:=NI p (ts.map pW)) (ts:=ts) aTL aL7 (fun _ _=> ⟨h.ht,h.inv,hr⟩);unfold aEr at a1;rw [h.fs.fo,h.cl,h.fits]at a1;exact a1
mutual
theorem bEl (hn:∀ (i:Nat) (x:Node),p.nodes[i]?=some x→aM p x=true) :∀ (t:XT) (a:Int),IsTree p t a→Pl t
 | .mk o n ks ps,a,h=>by
  simp only [IsTree]at h;obtain⟨h0,nd,h1,rfl,rfl,rfl,h5⟩ :=h;have hok:=hn _ nd h1;refine⟨fun e=>?_,aHL hn ks nd.kids h5⟩;simp only [aM,dC,bO,cF,e]at hok;have g1:=hok.1.1.1;simp [dH]at g1;omega
theorem aHL (hn:∀ (i:Nat) (x:Node),p.nodes[i]?=some x→aM p x=true) :∀ (ts:List XT) (l:List Int),aE p ts l→Pls ts
 | [],_,_=>trivial
 | t::ts,l,h=>by
  simp only [aE]at h;obtain⟨k,l',_,h1,h2⟩ :=h;exact⟨bEl hn t k h1,aHL hn ts l' h2⟩
end
theorem Nok.pl (h:Nok p ts) :Pls ts:=aHL (fun i x hx=> (h.fs.node i x hx).1) ts p.funs h.ht
theorem aR7 {Z:Prog}(hz:Hd Z)(hl:ts.length=Z.funs.length)(hw:jJ Z ts)(hs:∀t∈ts,rA t 1)(hp:Pls ts)(hf:tP 30 Z.cons (ts.map pW) =true) :Nok (dU ts Z.main Z.cons) ts:=by
 have hf':=hf;simp only [tP,cF,yZ,decide_eq_true_eq]at hf';obtain⟨h1,h2⟩ :=aAP hz hl hw hs hp (by have:= (aCI hw).1;omega);exact⟨h1,h2,aEv ..,hf⟩
theorem Nok.nf (h:Nok p ts) :Nok (nfP p ts) (ts.map pW) :=by
 obtain⟨m,_,h2,h3,_⟩ :=aR6 h.inv
 exact aR7 h.fs.hd (by rw [hJ];exact cC h.ht) h2.1.wx h2.1.sc (pls_iff.2 fun t ht=>aRS t 1 (h2.1.sc t ht) (by
  have hf:=h.fits;simp only [tP,cF]at hf;exact zq27.1 hf.1.1 t ht)) (by rw [aAm h2.1.wx h2.1.sc h3];exact h.fits)
theorem Nok.fit (h:Nok p ts) :FitP p:=by
 have:=h.fs.fine.small;have:=h.fs.fine.fsmall;have:=h.fs.cons;refine⟨by omega,by omega,by omega,fun x hx=>?_⟩;obtain⟨i,hi⟩ :=List.getElem?_of_mem hx;exact h.fs.fit i x hi
theorem aCP {α β:Type}(f:α→β) :∀ (is:List Bool) (l:List α),(dD is l).map f=dD is (l.map f)
 | [],l=>by simp [dD]
 |true::bs,[] =>by simp [dD]
 |false::bs,[] =>by simp [dD]
 |true::bs,x::t=>by rw [dD,dJ,dJ,dD,aCP f bs t]
 |false::bs,x::t=>by rw [dD,dJ,dD,aCP f bs t]
theorem aCQ {α:Type}:∀ (is:List Bool) (l:List α),(dD is l).Sublist l
 | [],l=>by simp [dD]
 |true::bs,[] =>by simp [dD]
 |false::bs,[] =>by simp [dD]
 |true::bs,x::t=>by rw [dD];exact(aCQ bs t).cons_cons x
 |false::bs,x::t=>by rw [dD];exact(aCQ bs t).cons x
theorem aHM {α:Type}:∀ (is:List Bool) (l:List α) (x:α),x∈dD is l→∃d:Nat,is[d]?=some true∧l[d]?=some x
 | [],l,x,h=>by simp [dD]at h
 |true::bs,[],x,h=>by simp [dD]at h
 |false::bs,[],x,h=>by simp [dD]at h
 | true::bs,y::t,x,h=>by
  rw [dD]at h;rcases zq7.1 h with rfl|h
  ·exact⟨0,rfl,rfl⟩
  · obtain⟨d,h1,h2⟩ :=aHM bs t x h;exact⟨d+1,h1,h2⟩
 | false::bs,y::t,x,h=>by
  rw [dD]at h;obtain⟨d,h1,h2⟩ :=aHM bs t x h;exact⟨d+1,h1,h2⟩
theorem aBo :∀ (is:List Bool) (ts:List XT) (l:List Int),aE p ts l→aE p (dD is ts) (dD is l)
 | [],ts,l,_=>by simp [dD,aE]
 |true::bs,[],l,h=>by simp only [aE]at h;subst h;simp [dD,aE]
 |false::bs,[],l,h=>by simp only [aE]at h;subst h;simp [dD,aE]
 | true::bs,t::ts,l,h=>by
  simp only [aE]at h;obtain⟨c,l',rfl,h1,h2⟩ :=h;simp only [dD,aE];exact⟨c,_,rfl,h1,aBo bs ts l' h2⟩
 | false::bs,t::ts,l,h=>by
  simp only [aE]at h;obtain⟨c,l',rfl,h1,h2⟩ :=h;simp only [dD];exact aBo bs ts l' h2
theorem aO3 :∀ {a b:List XT},a.Sublist b→aD a≤aD b:=fun h=>by
 induction h with
 |slnil=>exact le_refl _
 |cons a _ ih=>simp only [aD];omega
 |cons_cons a _ ih=>simp only [aD];omega
theorem aL8 :∀ (is:List Bool) (l:List XT) (n:Int) (d:Nat),is.length=l.length→is[d]?=some true→∃r,(fN is n)[d]?=some r∧n≤r∧r<n+ (dD is l).length
 | [],l,n,d,_,h=>by simp at h
 |b::t,[],n,d,h,_=>by simp at h
 | b::t,y::l,n,0,hl,h=>by
  simp only [lF,Option.some.injEq]at h;subst h;exact⟨n,rfl,Int.le_refl _,by rw [dD,oK];omega⟩
 | b::t,y::l,n,d+1,hl,h=>by
  simp only [lV]at h;obtain⟨r,h1,h2,h3⟩ :=aL8 t l (if b=true then n+1 else n) d (by simpa using hl) h;refine⟨r,by rw [fN,lV];exact h1,?_⟩;cases b
  case true=>simp only [if_true]at h2 h3;rw [dD,oK];omega
  simp only [tZ,if_false]at h2 h3;rw [dD];omega
theorem aCR :∀ (is:List Bool) (n:Int),∀g∈fN is n,n≤g∧g≤n+is.length
 | [],n,g,h=>by simp [fN]at h
 | b ::t,n,g,h=>by
  rw [fN]at h;simp only [oK];rcases zq7.1 h with rfl|h
  ·omega
  · have:=aCR t _ g h;split at this<;>omega
theorem aR8 {F C:List Int}{n r:Int}(h0:n<0)(hn: -1000000≤n)(h:F[(-1-n).toNat]?=some r)(hb: -1000000000≤r∧r≤1000000000) :sS F C 4 n= -1-r:=by
 unfold sS mN;rw [if_pos ⟨rfl,h0⟩,h];simp only;rw [if_pos (by omega)];rfl
def sA (p:Prog)(ts:List XT) :List XT:=dD (bG p) (cZ (fN (bG p) 0) (numsL 0 p.cons.length) ts)
def aCS (p:Prog) :Int:= ((fN (bG p) 0)[p.main.toNat]?).getD 0
def aHN (p:Prog)(ts:List XT) :Prog:=dU (sA p ts) (aCS p) p.cons
theorem aJy (h:Nok p ts) : (fN (bG p) 0)[p.main.toNat]?=some (aCS p) ∧0≤aCS p∧aCS p< (sA p ts).length:=by
 have hl: (bG p).length= (cZ (fN (bG p) 0) (numsL 0 p.cons.length) ts).length:=by rw [lL,cP,hJ,cC h.ht]
 obtain⟨r,h1,h2,h3⟩ :=aL8 (bG p) (cZ (fN (bG p) 0) (numsL 0 p.cons.length) ts) 0 p.main.toNat hl ((tV h.fs h.ht _).2 .main);unfold aCS;rw [h1];exact⟨rfl,h2,by simpa [sA]using h3⟩
theorem aTN (h:Nok p ts) : (sA p ts).map pW=sA (nfP p ts) (ts.map pW) :=by
 have hr:bG (nfP p ts) =bG p:=aBn h.fs h.nf.fs h.ht h.nf.ht rfl;have hF:Nn (fN (bG p) 0) :=fun g hg=> (aCR _ 0 g hg).1;unfold sA;rw [hr,aCP,cP,cP,aMh,aMh];congr 1;exact bFV fun t _=>aZ8 hF t
theorem aO4 (h:Nok p ts) :Nok (aHN p ts) (sA p ts) :=by
 obtain⟨m1,m2,m3⟩ :=aJy h;have hd:=h.fs.hd;have hF:Nn (fN (bG p) 0) :=fun g hg=> (aCR _ 0 g hg).1
 have hm:∀t∈sA p ts,∃d:Nat,(bG p)[d]?=some true∧∃u,ts[d]?=some u∧t=jF (fN (bG p) 0) (numsL 0 p.cons.length) u:=fun t ht=>by
  obtain⟨d,h1,h2⟩ :=aHM _ _ t ht;rw [cP,mZ]at h2;cases e:ts[d]? with
  |none=>rw [e]at h2;cases h2
  |some u=>rw [e]at h2;cases h2;exact⟨d,h1,u,e,rfl⟩
 have hz:Hd ⟨[],replicate (sA p ts).length 0,aCS p,p.cons⟩ := ⟨by simp;omega,m2,by simpa using m3,hd.c20,hd.ok,hd.scons,hd.names⟩;refine aR7 hz (by simp) (wxs_iff.2 fun t ht=>?_) (fun t ht=>?_) (pls_iff.2 fun t ht=>?_) ?_
 · obtain⟨d,h1,u,h2,rfl⟩ :=hm t ht;refine aL4 ⟨fV ..,fun i c hc=> ⟨i,?_,by omega,by rw [oM];exact hc⟩,by simp;omega⟩ u (wxs_iff.1 h.wx u (iO h2)) (fun n hn=>?_)
   ·rw [fW 0 (zq0.1 hc).1];simp
   · have h0:=aR0 hn;have hr:= (tV h.fs h.ht _).2 (.step ((tV h.fs h.ht _).1 h1) h2 hn);obtain⟨r,r1,r2,r3⟩ :=aL8 (bG p) (cZ (fN (bG p) 0) (numsL 0 p.cons.length) ts) 0 (-1-n).toNat (by rw [lL,cP,hJ,cC h.ht]) hr;have hb:=aCR _ 0 r (iO r1);have hl:=h.fs.fine.fsmall;rw [lL]at hb;have hlow:=aL2 u (wxs_iff.1 h.wx u (iO h2)) n hn;rw [aR8 h0 (by omega) r1 (by omega)];have e: (dD (bG p) (cZ (fN (bG p) 0) (numsL 0 p.cons.length) ts)).length= (sA p ts).length:=rfl;rw [e]at r3;simp only [aAs];omega
 · obtain⟨d,h1,u,h2,rfl⟩ :=hm t ht;exact aR3 hF u 1 (by decide) (h.sc u (iO h2))
 · obtain⟨d,h1,u,h2,rfl⟩ :=hm t ht;exact aR4 hF u (pls_iff.1 h.pl u (iO h2))
 · have hf:=h.fits;rw [aTN h];have hr:bG (nfP p ts) =bG p:=aBn h.fs h.nf.fs h.ht h.nf.ht rfl;simp only [tP,cF,yZ,decide_eq_true_eq]at hf ⊢;obtain⟨⟨f1,f2⟩,f3⟩ :=hf;have hs:=aCQ (bG p) (cZ (fN (bG p) 0) (numsL 0 p.cons.length) (ts.map pW));have hx:=aO3 hs;rw [aCM]at hx;unfold sA;rw [hr];refine⟨⟨zq27.2 fun t ht=>?_,by show((aD (dD (bG p) (cZ (fN (bG p) 0) (numsL 0 p.cons.length) (ts.map pW))) :Nat) :Int) ≤300;omega⟩,f3⟩;have:=hs.subset ht;rw [cP]at this;obtain⟨u,hu,rfl⟩ :=zq24.1 this;rw [aL5];exact zq27.1 f1 u hu
end
theorem aJz :∀ (a b:List XT) (n:Nat),aW (a++b) n= ((aW a n).1++ (aW b (n+aD a)).1,(aW a n).2++ (aW b (n+aD a)).2)
 | [],b,n=>by simp [aW,aD]
 | t::a,b,n=>by
  rw [sT,aW,aW,aJz a b,bM,aD,show n+cK t+aD a=n+ (cK t+aD a)by omega];simp
def aHO (pc:List Con) :List Con→List Con→List Int→Option (List Con×List Int)
 | [],al,to=>some (al,to)
 | c::t,al,to=>
  if cN c.name pc 0<0 then aHO pc t (al++ [c]) (to++ [((al.length:Nat) :Int)])
  else match pc[(cN c.name pc 0).toNat]? with
   |some d=>if d.args=c.args then aHO pc t al (to++ [cN c.name pc 0])else none
   |none=>none
theorem aHP {z:List Con}:∀ (t A:List Con) (k:List Int),(t.map Con.name).Nodup→ (∀c∈t,c.name∉A.map Con.name) →
  aHO z t (z++A) k=if clash z t then none else some (z++A++pR z t,k++t.map fun c=>cN c.name (z++A++pR z t) 0)
 | [],A,k,_,_=>by simp [aHO,clash,pR]
 | c :: t,A,k,hd,hA=>by
  have f:=List.nodup_cons.1 (by simpa using hd: (c.name::t.map Con.name).Nodup);have hc:=hA c (dT ..);have h:∀d∈t,d.name∉A.map Con.name:=fun d a=>hA d (eD _ a);rw [aHO];by_cases hk:cN c.name z 0<0
  · have b:=conIx_neg.1 hk;have l:clash z (c::t) =clash z t:=by
     unfold clash;rw [any_cons];have:aBk z c=false:=by unfold aBk;split<;>simp;omega
     rw [this,Bool.false_or]
    have m:pR z (c::t) =c::pR z t:=by unfold pR;rw [List.filter_cons,if_pos (by simpa using hk)]
    rw [if_pos hk,l,m,zq9,aHP t (A++ [c]) _ f.2 (fun d a=>by
     rw [wX,zq28,not_or];refine⟨h d a,fun e=>?_⟩;simp only [dJ,List.map_nil,zq32]at e;exact f.1 (e ▸ zq24.2 ⟨d,a,rfl⟩))]
    have o:z++ (A++ [c]) ++pR z t=z++A++ (c::pR z t) :=by simp
    have p:cN c.name (z++A++c::pR z t) 0= (((z++A).length:Nat) :Int) :=by
     rw [aEu c.name _ (z++A) 0 (by rw [wX,zq28,not_or];exact⟨b,hc⟩),cN,if_pos rfl,Int.zero_add]
    rw [o,dJ,p];simp only [zq9,List.singleton_append,sT,qW]
  · rw [if_neg hk];have b:=conIx_mem.1 (show 0≤cN c.name z 0 by omega);have m:pR z (c::t) =pR z t:=by unfold pR;rw [List.filter_cons,if_neg (by simpa using hk)]
    rcases jZ c.name z 0 (Int.le_refl _)with g| ⟨_,q,d,i,r⟩
    ·omega
    · have i:z[(cN c.name z 0).toNat]?=some d:=by simpa using i
      rw [i,m];simp only;have l:clash z (c::t) = (decide (d.args≠c.args) ||clash z t) :=by
       unfold clash;rw [any_cons];have:aBk z c=decide (d.args≠c.args) :=by unfold aBk;rw [i];simp only;rw [decide_eq_true (show 0≤cN c.name z 0 by omega),mY]
       rw [this]
      rw [l];by_cases j:d.args=c.args
      · have n:cN c.name (z++A++pR z t) 0=cN c.name z 0:=by
         rw [zq9,aBl c.name _ z 0 b]
        rw [if_pos j,aHP t A _ f.2 h,dJ,n,zq9];simp [j]
      · rw [if_neg j];simp [j]
def wR (p q:Prog) :List Int:=q.cons.map fun c=>cN c.name (wS p q) 0
def aCT (p q:Prog)(ts us:List XT) :List XT:=ts++cZ (numsL (p.funs.length:Int) q.funs.length) (wR p q) us
def aEA (p q:Prog)(ts us:List XT) :Prog:=dU (aCT p q ts us) p.main (wS p q)
section
variable {p q:Prog} {ts us:List XT}
theorem aL9 (a n:Nat) :Nn (numsL (a:Int) n) :=fun x c=>by
 obtain⟨i,b⟩ :=List.getElem?_of_mem c;have hl:= (zq0.1 b).1;rw [fV]at hl;rw [fW _ hl]at b;cases b;omega
theorem aTO (hp:Nok p ts)(b:Nok q us) : (aCT p q ts us).map pW=aCT (nfP p ts) (nfP q us) (ts.map pW) (us.map pW) :=by
 have c: (nfP p ts).funs.length=p.funs.length:=by rw [nfP,wH,hJ,cC hp.ht]
 have a: (nfP q us).funs.length=q.funs.length:=by rw [nfP,wH,hJ,cC b.ht]
 unfold aCT;rw [c,a,wX,cP,cP,aMh,aMh];congr 1;exact bFV fun t _=>aZ8 (aL9 _ _) t
theorem aO5 (hp:Nok p ts)(d:Nok q us)(hc:clash p.cons q.cons=false)(k: (wS p q).length≤20)(g:aD (ts.map pW) +aD (us.map pW) ≤300) :Nok (aEA p q ts us) (aCT p q ts us) :=by
 have b:=hp.fs.hd;have l:=d.fs.hd;have s:=cC hp.ht;have w:=cC d.ht;have y:=hp.fs.fine.fsmall;have x:=d.fs.fine.fsmall
 have hz:Hd ⟨[],replicate (p.funs.length+q.funs.length) 0,p.main,wS p q⟩ := ⟨by have:=b.one;simp;omega,b.m0,by have:=b.m1;simp;omega,k,fun c hm=>by
   rcases zq28.1 hm with hm|hm
   ·exact b.ok c hm
   ·exact l.ok c (mem_newC.1 hm).1,fun c hm=>by
   rcases zq28.1 hm with hm|hm
   ·exact b.scons c hm
   ·exact l.scons c (mem_newC.1 hm).1,aJq b.names l.names⟩
 refine aR7 hz (by simp [aCT,cP,s,w]) (wxs_iff.2 fun t a=>?_) (fun t a=>?_) (pls_iff.2 fun t a=>?_) ?_
 · rcases zq28.1 a with a|a
   · have h:=wxs_iff.1 hp.wx t a;have e:=bAc (p:=p) (by omega) t h;rw [←e];refine aL4 ⟨fV ..,fun i c hc=> ⟨i,?_,by omega,?_⟩,by have:=b.one;simp;omega⟩ t h (fun n g=>?_)
     ·rw [fW 0 (zq0.1 hc).1];simp
     · rw [oM];show(p.cons++pR p.cons q.cons)[i]?=some c;rw [iQ (zq0.1 hc).1];exact hc
     · have m:=aR0 g;have v:=aL2 t h n g;rw [aR8 m (by omega) (fW 0 (by omega)) (by omega)];simp only [aAs];omega
   · rw [cP]at a;obtain⟨u,f,rfl⟩ :=zq24.1 a;have h:=wxs_iff.1 d.wx u f;refine aL4 (Z:= ⟨[],replicate (p.funs.length+q.funs.length) 0,p.main,wS p q⟩) ⟨by simp [wR],fun i c j=> ⟨cN c.name (wS p q) 0,by simp [wR,j],bG6 b.names l.names hc (iO j)⟩,by have:=b.one;simp;omega⟩ u h (fun n g=>?_);have m:=aR0 g;have v:=aL2 u h n g;rw [aR8 m (by omega) (fW _ (by omega)) (by omega)];simp only [aAs];omega
 · rcases zq28.1 a with a|a
   ·exact hp.sc t a
   · rw [cP]at a;obtain⟨u,f,rfl⟩ :=zq24.1 a;exact aR3 (aL9 _ _) u 1 (by decide) (d.sc u f)
 · rcases zq28.1 a with a|a
   ·exact pls_iff.1 hp.pl t a
   · rw [cP]at a;obtain⟨u,f,rfl⟩ :=zq24.1 a;exact aR4 (aL9 _ _) u (pls_iff.1 d.pl u f)
 · have o:=hp.fits;have r:=d.fits;rw [aTO hp d];simp only [tP,cF,yZ,decide_eq_true_eq]at o r ⊢;refine⟨⟨zq27.2 fun t a=>?_,?_⟩,k⟩
   · rcases zq28.1 a with a|a
     ·exact zq27.1 o.1.1 t a
     · rw [cP]at a;obtain⟨u,f,rfl⟩ :=zq24.1 a;rw [aL5];exact zq27.1 r.1.1 u f
   · unfold aCT;rw [lU,aCM];omega
end
abbrev aR9:AV:=.agg [(.ilst 4 (jN ([] :List Node)) true),(.ilst 1 (jI ([] :List Int)) true),(nI 0),(.ilst 2 (jC ([] :List Con)) true)]
abbrev bAg (a b:Prog)(c:List Node)(d:List Int)(e:Int)(f:List Con)(g:List Node):=aA [oC 0 [(iN a.nodes),(iI a.funs),(nI a.main),(iC a.cons)],oC 1 [(iN b.nodes),(iI b.funs),(nI b.main),(iC b.cons)],oC 2 [.nils,.nils,(nI 0),.nils],oC 3 [(.gl 4 4 0 c.length false),(.gl 5 1 0 d.length false),(nI e),(iC f)],oL 5 1 (jI d),oL 6 4 (jN (c++g))] 7
abbrev bAh:AV:=.tup [aR9,(nI 2)]
abbrev bAi:AV:=.tup [aR9,(nI 3)]
abbrev aSa (a:Nat)(b:List Node)(c:List Int)(d:Int)(e:List Con):=oC a [(.gl 4 4 0 b.length false),(.gl 5 1 0 c.length false),(nI d),(iC e)]
abbrev mQ (a:Nat)(b:Prog):=oC a [(iN b.nodes),(iI b.funs),(nI b.main),(iC b.cons)]
abbrev aBp (a:Nat):=oC a [.nils,.nils,(nI 0),.nils]
def bIx(a:List Con)(b:cA):TS:=cO PP 68 [(iC a),(dP b)] [] 0
def aMa(a:List Con)(b:cA)(c:Int):TS:=⟨(tf 68 20 [(0,(iC a)),(1,(dP b)),(4,(nI 0)),(5,(nI c))] [kc f68 52,kl f68 52,.inBlock 0,kc f68 7]),[],[],0⟩
def bAj(a b:Prog):TS:=cO PP 30 [(Prog.av a),(Prog.av b)] [] 0
def qV(a b:Prog)(e:Int)(c:List Con)(d:List Int):TS:=⟨(tf 30 122 [kp 2 0,kp 3 1,kp 4 2,(5,(nI 0)),(6,(.gl 3 2 0 c.length false)),(7,(.gl 4 1 0 d.length false)),(8,(nI e))] [kc f30 500,kl f30 500,.inBlock 0,kc f30 63]),[],[mQ 0 a,mQ 1 b,aBp 2,oL 3 2 (jC c),oL 4 1 (jI d)],5⟩
def bAk(a b:Prog)(c:List Con)(d:List Int):TS:=⟨(tf 30 122 [kp 2 0,kp 3 1,kp 4 2,(5,(nI 0)),(6,(iC c)),(7,(iI d))] [kc f30 254,kc f30 255]),[],[mQ 0 a,mQ 1 b,aBp 2],3⟩
def aHQ(a b:Prog)(e:List Int)(f:Int)(g:List Con)(c:List Node)(d:List Int)(i:Int):TS:=⟨(tf 30 122 [kp 2 0,kp 3 1,kp 4 2,(5,(nI 0)),(7,(iI e)),kp 10 3,(11,(nI i))] [kc f30 8180,kl f30 8180,.inBlock 2,kc f30 1023]),[],[mQ 0 a,mQ 1 b,aBp 2,aSa 3 c d f g,oL 4 4 (jN c),oL 5 1 (jI d)],6⟩
def bAl(a b:Prog)(e:List Int)(f:Int)(g:List Con)(c:List Node)(d:List Int)(i:Int):TS:=⟨(tf 30 122 [kp 2 0,kp 3 1,kp 4 2,(5,(nI 0)),(7,(iI e)),kp 10 3,(11,(nI i))] [kc f30 130889,.inBlock 3,kc f30 32723,kl f30 8180,.inBlock 2,kc f30 1023]),[],[mQ 0 a,mQ 1 b,aBp 2,aSa 3 c d f g,oL 4 4 (jN c),oL 5 1 (jI d)],6⟩
def bEm (a:List Con)(b:cA):=(tT 0 (bIx a b)<|.W 11 0 [] (aMa a b 0)) tv
def aSb(b:List Con)(c:cA)(a:Int):=tT 0 (aMa b c a)<|gl 5 Con.av b<|gd 2 9 (a< (b.length:Int)) (gX Con.av 8 b a<|fun d=>.b 5 18 (jL d.name.length (aF d.name) c.length (aF c)) (gE 7 0 (nI a))<|gw 6 11 (a+1)<|.W 3 0 [] (aMa b c (a+1)))<|gE 7 0 (nI (-1))
def bEn:=fun a b c d e f g i=>aSb a b c|>.t e d f g|>.t i tv
def bEo:=fun a b c d e f g i j=>aSb a b c|>.t e d f g|>.f i j tv
def bEp:=fun a b c d=>aSb a b c|>.f d tv
def bAm (a:Prog)(d:Int)(e:List Con)(f:Int)(b:List Node)(c:List Int):=fun g=>(tT 0 (aDG a d e f b c)<|gl 6 bU a.funs<|gd 2 11 (f< (a.funs.length:Int)) .x<|.E 8 5 [3,4] (.agg [(.gl 0 4 0 b.length false),(.gl 1 1 0 c.length false),(nI d),(iC e)]) [oL 0 4 (jN b),oL 1 1 (jI c)] 2)|>.f g ⟨kk,⟨kk,trivial⟩⟩
def bHd(a b:Prog):=tT 0 (bAj a b)<|lW 11 27 [(Prog.av a)]<|fun c=>.b 2 15 (!c) (.i [rn 13,.cnilI 2 0 4] []<|.i [.cnilI 2 1 1] []<|.i [.cnilI 2 3 2] []<|gE 0 3 bAh)<|lW 1 27 [(Prog.av b)]<|fun d=>.b 3 19 (!d) (.i [rn 8,.cnilI 2 0 4] []<|.i [.cnilI 2 1 1] []<|.i [.cnilI 2 3 2] []<|gE 0 3 bAh)<|.i [rn 6,.appN (jC a.cons) a.cons.length] [hA (a.cons.length≤1000000),hr (jC a.cons),.q (p:=length (jC a.cons) =a.cons.length) (hJ ..)]<|.i [rn 13,.nilL 7 1] []<|gu 0 4 (jI ([] :List Int))<|gs 0 7 (.gl 4 1 0 ([] :List Int).length false)<|.W 0 5 [0,1,2,3,4] (qV a b 0 a.cons ([] :List Int))
def bEq:=fun a b c d e f g i j=>bHd a b c e|>.f f d g|>.f i j ⟨kk,⟨kk,trivial⟩⟩
def aDL(c a:Prog)(b:Int)(d:List Con)(f:List Int):=tT 0 (qV c a b d f)<|gl 6 Con.av a.cons<|gd 2 28 (b< (a.cons.length:Int)) (.y fun e:Con=>.y fun g:Int=>.i [rn 5,.reg (rd 5 [.ans (.idx (Con.av e)),.d,.d,.pure (nI g),.d])] [hA (0≤b),.a (((a.cons)[b.toNat]?) =some e) (bP (f:=Con.av)),hA (aJ PP 68 [(iC c.cons),(dP e.name)] (nI g))]<|gd 6 41 (g<0) (gi Con.av 12 a.cons b e<|ga 2 Con.av d [e]<|ga 6 bU f [(d.length:Int)]<|gw 6 30 (b+1)<|.W 3 9 [0,1,2,6,8] (qV c a (b+1) (d++ [e]) (f++ [(d.length:Int)])))<|.y fun i:Con=>.i [rn 2,.reg (rd 3 (.ans (.idx (Con.av i))::rd 5 (.ans (.idx (Con.av e))::rd 3 [])))] [hA (0≤g),.a (((c.cons)[g.toNat]?) =some i) (bP (f:=Con.av)),hA (0≤b),.a (((a.cons)[b.toNat]?) =some e) (bP (f:=Con.av))]<|.b 0 64 (i.args != e.args) (.i [rn 8,.cnilI 2 0 4] []<|.i [.cnilI 2 1 1] []<|.i [.cnilI 2 3 2] []<|gE 0 5 (.tup [aR9,(nI 7)]))<|ga 6 bU f [g]<|gw 6 30 (b+1)<|.W 3 7 [0,1,2,3,6] (qV c a (b+1) d (f++ [g])))<|gd 9 73 ((d.length:Int) >20) (.i [rn 18,.cnilI 2 0 4] []<|.i [.cnilI 2 1 1] []<|.i [.cnilI 2 3 2] []<|gE 0 5 bAi)<|gl 2 Node.av c.nodes<|gl 2 Node.av a.nodes<|gw 1 80 ((c.nodes.length:Int) + (a.nodes.length:Int))<|gd 3 82 (((c.nodes.length:Int) + (a.nodes.length:Int)) >300) (.i [rn 8,.cnilI 2 0 4] []<|.i [.cnilI 2 1 1] []<|.i [.cnilI 2 3 2] []<|gE 0 5 bAi)<|gz 3 6 3 2 Con.av d false<|gz 0 7 4 1 bU f false<|.W 0 5 [0,1,2] (bAk c a d f)
def bEr:=fun c d e f g i j k a b l m n o p=>aDL c d e f g|>.t k i j a b l|>.t m a b n o p ⟨kk,⟨kk,trivial⟩⟩
def bEs:=fun c d e f g i j k l a b m n o p q=>aDL c d e f g|>.t l i j a b m|>.f n k o p a b|>.t q tv
def bEt:=fun c d e f g i j k l a b m n o p q r s=>aDL c d e f g|>.t l i j a b m|>.f n k o p a b|>.f q r s ⟨kk,⟨kk,trivial⟩⟩
def bEu:=fun a b c d e f g=>aDL a b c d e|>.f f|>.t g tv
def bEv:=fun a b c d e f g i j=>aDL a b c d e|>.f f|>.f g i|>.t j tv
def bEw:=fun a b c d e f g i j=>aDL a b c d e|>.f f|>.f g i|>.f j tv
def bEx (a b:Prog)(g:List Con)(i:List Int):=fun c d e f j=>(tT 0 (bAk a b g i)<|.y fun c:List Node=>.y fun d:List Int=>.y fun e:Int=>.y fun f:List Con=>gk 2 (.enter 26 [(Prog.av a)]) [mQ 0 a,mQ 1 b,aBp 2] 3 (.agg [(.gl 3 4 0 c.length false),(.gl 4 1 0 d.length false),(nI e),(iC f)]) [mQ 0 a,mQ 1 b,aBp 2,oL 3 4 (jN c),oL 4 1 (jI d)] 5<|.W 16 6 [0,1,2,5,3,4] (aHQ a b i e g c d 0)) c d e f j ⟨kk,⟨kk,trivial⟩⟩
def bAn(g c:Prog)(i:List Int)(d:Int)(e:List Con)(a:List Node)(b:List Int)(f:Int):=tT 0 (aHQ g c i d e a b f)<|gl 6 bU c.funs<|gd 2 92 (f< (c.funs.length:Int)) (ga 12 bU b [(a.length:Int)]<|.W 3 8 [0,1,2,3,4,7] (bAl g c i d e a (b++ [(a.length:Int)]) f))<|gy 3 3 0 4 4 Node.av a false<|gy 0 3 1 5 1 bU b false<|gE 6 6 (.tup [(.agg [(iN a),(iI b),(nI d),(iC e)]),(nI 0)])
def bEy:=fun a b c d e f g i j k=>bAn a b c d e f g i|>.t j k ⟨kk,⟨kk,trivial⟩⟩
def bEz:=fun a b c d e f g i j=>bAn a b c d e f g i|>.f j tv
def bEA (b a:Prog)(l:List Int)(g:Int)(i:List Con)(c:List Node)(d:List Int)(j:Int):=fun e k f m n o p q=>(tT 0 (bAl b a l g i c d j)<|.y fun e:Int=>.y fun k:List Int=>.y fun f:List Node=>.i [.reg (rd 6 (.ans (.idx (bU e))::rd 3 [.ans (.len (b.funs.length:Int)),.d,.d,.ans (.len (a.funs.length:Int)),.pure (iI k),.d,.call (.gl 6 4 0 (c++f).length false) (bAg b a c d g i f),.d,.d]))] [hA (0≤j),.a (((a.funs)[j.toNat]?) =some e) (bP (f:=bU)),hl bU b.funs,hl bU a.funs,hA (aJ PP 61 [(nI (b.funs.length:Int)),(nI (a.funs.length:Int))] (iI k)),hA (Spec PP (.enter 60 [(.gl 4 4 0 c.length false),(Prog.av a),(nI e),(iI k),(iI l)]) (aA [mQ 0 b,mQ 1 a,aBp 2,aSa 3 c d g i,oL 4 4 (jN c),oL 5 1 (jI d)] 6) (.ret (.gl 6 4 0 (c++f).length false)) (bAg b a c d g i f)),hr (nI e),hr (nI e),hr (ilst 1 (jI a.funs) false),hr (ilst 1 (jI a.funs) false),hr (Prog.av a),hr (Prog.av a),hr (AV.gl 4 4 0 c.length false),hr (AV.gl 4 4 0 c.length false)]<|gw 4 94 (j+1)<|.W 3 7 [0,1,2,3,6,5] (aHQ b a l g i (c++f) d (j+1))) e k f m n o p q ⟨kk,⟨kk,trivial⟩⟩
theorem aO6 (l:List Con)(s:cA)(hl:l.length<1000000) :∀ (t:List Con) (i:Nat),l.drop i=t→Ends PP 0 (aMa l s (i:Int)).as (.ret (.int .i64 (cN s t i))) (aA [] 0)
 | [],i,h=>by
  have:=bJ h;exact bEp l s i sd
 | c ::t,i,h=>by
  obtain⟨d,a,b⟩ :=bE h;simp only [cN];split
  · rename_i e;exact bEn l s i c sd sd sd (by rw [qF];simpa using e)
  · rename_i e;exact(bEo l s i c sd sd sd (by rw [qF];simpa using e) sd).ends (aO6 l s hl t (i+1) a)
theorem bAo (l:List Con)(s:cA)(hl:l.length<1000000) :aJ PP 68 [.ilst 2 (map Con.av l) false,dP s] (.int .i64 (cN s l 0)) :=
 aO aC (by simp [keylessL,keyless,dP]) (by simp [keyless]) ((bEm l s).ends (aO6 l s hl l 0 rfl))
abbrev GN (b:Nat)(l:List Node) :AV:=.gl b 4 0 (length l) false
abbrev GI (b:Nat)(l:List Int) :AV:=.gl b 1 0 (length l) false
abbrev JE :Nat×AObj×Bool:= (2,.cells (putCells .leaf 0 [.nils,.nils,.int .i64 0,.nils]) 4 [] false,false)
abbrev JO (l:List Node)(fs:List Int)(mn:Int)(al:List Con)(b:Nat) :Nat×AObj×Bool:= (3,.cells (putCells .leaf 0 [.gl b 4 0 (length l) false,.gl 5 1 0 (length fs) false,.int .i64 mn,.ilst 2 (map Con.av al) false]) 4 [] false,false)
theorem aV0 {p q:Prog}{k:Nat}(b:p.funs.length<1000000)(hc:p.cons.length<1000000)(h:aFk p k=some q) :
  aSu PP (.enter 26 [PA p]) (aA [] 0) (.ret (.agg [GN 0 q.nodes,GI 1 q.funs,.int .i64 q.main,.ilst 2 (map Con.av q.cons) false])) (aA [(0,.lst 4 (map Node.av q.nodes),true),(1,.lst 1 (map bU q.funs),true)] 2) :=by
 unfold aFk at h;split at h
 · rename_i a r hm;cases h;exact⟨(bFI p).as.fr,by kernel_rfl,Eq.mp aC (((bEe p p.main p.cons (aOq (by omega))).trans (aOS p k p.main p.cons b hc p.funs 0 [] [] a r rfl rfl (zero_le _) hm)).ends (bAm p p.main p.cons _ _ _ (by simp)))⟩
 ·cases h
def ConsGoal (p q:Prog)(i:Int)(al:List Con)(to:List Int) :Option (List Con×List Int) →Prop
 |none=>Ends PP 0 (qV p q i al to).as (.ret (.tup [aAk,.int .i64 7])) (aA [] 0)
 |some r=>LeadsM PP 0 (qV p q i al to).as (qV p q ((q.cons.length:Nat) :Int) r.1 r.2).as
theorem ConsGoal.of {p q:Prog}{i c:Int}{b a:List Con}{to to':List Int}(h:LeadsM PP 0 (qV p q i b to).as (qV p q c a to').as) :∀ {r:Option (List Con×List Int)},ConsGoal p q c a to' r→ConsGoal p q i b to r
 |none,g=>h.ends g
 |some _,g=>h.trans g
theorem aHR (p q:Prog)(hp:p.cons.length≤25)(l:q.cons.length≤25) :∀ (t:List Con) (i:Nat) (a:List Con) (b:List Int),q.cons.drop i=t→i≤q.cons.length→a.length≤25+i→b.length≤i →
  ConsGoal p q (i:Int) a b (aHO p.cons t a b)
 | [],i,a,b,h,n,r,o=>by
  have:=bJ h;obtain rfl:i=q.cons.length:=by omega
  exact LeadsM.refl _
 | c :: t,i,a,b,h,n,r,o=>by
  obtain⟨v,m,u⟩ :=bE h;have e:=bAo p.cons c.name (by omega);simp only [aHO];split
  · rename_i hk;have j:=bEr p q i a b c _ sd sd sd e (by simpa using hk) (by simp;omega) (by simp;omega) sd;have k:=aHR p q hp l t (i+1) (a++ [c]) (b++ [((a.length:Nat) :Int)]) m (by omega) (by simp;omega) (by simp;omega);exact ConsGoal.of j k
  · rename_i hk;rcases jZ c.name p.cons 0 (by omega)with g| ⟨s,x,d,f,w⟩
    ·omega
    · have f:p.cons[(cN c.name p.cons 0).toNat]?=some d:=by simpa using f
      rw [f];simp only;split
      · rename_i hd;have j:=bEt p q i a b c _ d sd sd sd e (by simpa using hk) (by omega) f (by simp [hd]) (by simp;omega) sd;have k:=aHR p q hp l t (i+1) a (b++ [cN c.name p.cons 0]) m (by omega) (by omega) (by simp;omega);exact ConsGoal.of j k
      · rename_i hd;exact bEs p q i a b c _ d sd sd sd e (by simpa using hk) (by omega) f (by simpa using hd)
theorem bEB {p q:Prog}{F C:List Int}{k:Nat}{l b:List Node}{c:Int}(h:gV q F C k l.length c=some b)(mn:Int)(a:List Con)(fs:List Int) :
  Spec PP (.enter 60 [GN 4 l,PA q,.int .i64 c,.ilst 1 (map bU F) false,.ilst 1 (map bU C) false])
   (aA [(0,lT p,false),(1,lT q,false),JE,JO l fs mn a 4,(4,.lst 4 (map Node.av l),true),(5,.lst 1 (map bU fs),true)] 6)
   (.ret (GN 6 (l++b))) (aA [(0,lT p,false),(1,lT q,false),JE,JO l fs mn a 4,(5,.lst 1 (map bU fs),true),(6,.lst 4 (map Node.av (l++b)),true)] 7) :=
 Eq.mp aC (aBY (ks:=[4]) (n2:=6) (lc:=[(0,lT p,false),(1,lT q,false),JE,JO l fs mn a 4,(4,.lst 4 (map Node.av l),true),(5,.lst 1 (map bU fs),true)])
  (x:=[(0,lT p,false),(1,lT q,false),JE,JO l fs mn a 4,(5,.lst 1 (map bU fs),true)])
  (args':=[GN 4 l,PA q,.int .i64 c,.ilst 1 (map bU F) false,.ilst 1 (map bU C) false])
  (aJb h) aC aC aC ⟨aG _ (fun _=>rfl) _,trivial⟩ aC aC aC aC ⟨aG _ (fun _=>rfl) _,trivial⟩ aC)
theorem aJA (p q:Prog)(k:Nat)(to:List Int)(mn:Int)(b:List Con)(hp:p.funs.length≤320)(n:q.funs.length≤320) :∀ (t:List Int) (i:Nat) (l:List Node) (fs d:List Int) (r:List Node),q.funs.drop i=t→i≤q.funs.length→fs.length≤320+i →
  mU (gV q (numsL (p.funs.length:Int) q.funs.length) to k) l.length t=some (d,r) →
  LeadsM PP 0 (aHQ p q to mn b l fs (i:Int)).as (aHQ p q to mn b (l++r) (fs++d) ((q.funs.length:Nat) :Int)).as
 | [],i,l,fs,d,r,h,m,hl,hm=>by
  have:=bJ h;obtain rfl:i=q.funs.length:=by omega
  cases hm;rw [oS,oS];exact LeadsM.refl _
 | c ::t,i,l,fs,d,r,h,m,hl,hm=>by
  obtain⟨u,v,x⟩ :=bE h;simp only [mU]at hm;split at hm
  · rename_i f e;split at hm
    · rename_i a j g;cases hm;have w:=bEy p q to mn b l fs i sd (by simp;omega);have s:=bEA p q to mn b l (fs++ [((l.length:Nat) :Int)]) i c _ f sd (by simpa using u) (aAi (p.funs.length:Int) q.funs.length (by omega) (by omega) (by omega)) (bEB e mn b _) sd;have o:=aJA p q k to mn b hp n t (i+1) (l++f) (fs++ [((l.length:Nat) :Int)]) a j v (by omega) (by simp;omega) (by rw [wT];exact g);rw [show fs++ ((l.length:Nat) :Int) ::a= (fs++ [((l.length:Nat) :Int)]) ++a by simp,←zq9 l f j];exact w.trans (s.trans o)
    ·cases hm
  ·cases hm
theorem aHS {p q:Prog}{ts us:List XT}(hp:Fs p)(a:Fs q)(k:aE p ts p.funs)(r:aE q us q.funs) :
  (clash p.cons q.cons=true→aJ PP 30 [PA p,PA q] (.tup [aAk,.int .i64 7])) ∧
  (clash p.cons q.cons=false→ (20< (wS p q).length∨300<p.nodes.length+q.nodes.length→aJ PP 30 [PA p,PA q] (.tup [aAk,.int .i64 3])) ∧
   ((wS p q).length≤20→p.nodes.length+q.nodes.length≤300→aJ PP 30 [PA p,PA q] (.tup [PA (aEA p q ts us),.int .i64 0]))) :=by
 have n:=vM p hp.sm;have m:=vM q a.sm;rw [hp.fo]at n;rw [a.fo]at m;have I:=hp.cons;have B:=a.cons;have u:=hp.fine.fsmall;have L:=a.fine.fsmall;have N:=hp.fine.small;have O:=a.fine.small;have Q:=cC k;have hE:=bEq p q true true n rfl m rfl (by omega);have hC:=aHR p q I B q.cons 0 p.cons [] rfl (zero_le _) (by omega) (zero_le _);have d:∀v,keyless v=true→Ends PP 0 (bAj p q).as (.ret v) (aA [] 0) →aJ PP 30 [PA p,PA q] v:=fun v J h=>yX (s:=bAj p q) aC aC (by simp [keylessL,keyless]) J h;have t:=aHP (z:=p.cons) q.cons [] [] a.names (fun c _=>by simp);simp only [oS,qW]at t;rw [t]at hC;cases b:clash p.cons q.cons
 case true=>
  rw [b,if_pos rfl]at hC;exact⟨fun _=>d _ (by simp [keylessL,keyless]) (hE.ends hC),fun h=>by cases h⟩
 rw [b,if_neg (by decide)]at hC;have hC:LeadsM PP 0 (qV p q ((0:Nat) :Int) p.cons []).as (qV p q ((q.cons.length:Nat) :Int) (wS p q) (wR p q)).as:=hC;refine⟨fun h=> (by cases h),fun _=> ⟨fun l=>?_,fun j o=>?_⟩⟩
 · by_cases j: (wS p q).length>20
   ·exact d _ (by simp [keylessL,keyless]) (hE.ends (hC.ends (bEu p q _ _ _ (by simp) (by simp;omega))))
   ·exact d _ (by simp [keylessL,keyless]) (hE.ends (hC.ends (bEv p q _ _ _ (by simp) (by simp;omega) sd (by simp;omega))))
 · have w:=qQ hp.sm hp.fo k;have G:=qQ a.sm a.fo r;have e:=aDH hp ts p.funs (aD ts) 0 k (le_refl _) (by omega);have M:aFk p (aD ts) =some (dU ts p.main p.cons) :=by
    unfold aFk;rw [e];rfl
   have hm:=aAn a (F:=numsL (p.funs.length:Int) q.funs.length) (C:=wR p q) (fV ..) (by simp [wR]) (fun g A=>by
    obtain⟨i,f⟩ :=List.getElem?_of_mem A;have hl:= (zq0.1 f).1;rw [fV]at hl;rw [fW _ hl]at f;cases f;omega) us q.funs (aD us) (dU ts p.main p.cons).nodes.length r (le_refl _) (by rw [rY];omega)
   have H:=bEw p q ((q.cons.length:Nat) :Int) (wS p q) (wR p q) (by simp) (by simp;omega) sd (by simp;omega)
   have D:=bEx p q (wS p q) (wR p q) (dU ts p.main p.cons).nodes (dU ts p.main p.cons).funs p.main p.cons (Eq.mp aC (aBY (ks:=[]) (n2:=3) (lc:=[(0,lT p,false),(1,lT q,false),JE]) (x:=[(0,lT p,false),(1,lT q,false),JE])
    (args':=[PA p]) (aV0 (by omega) (by omega) M) aC aC aC trivial aC aC aC aC ⟨aG _ (fun _=>rfl) _,aG _ (fun _=>rfl) _,trivial⟩ aC))
   have K:=aJA p q (aD us) (wR p q) p.main (wS p q) u L q.funs 0 (dU ts p.main p.cons).nodes (dU ts p.main p.cons).funs _ _ rfl (zero_le _) (by rw [wH];omega) hm;have:=d _ (by simp [keylessL,keyless]) (hE.ends (hC.ends (H.ends (D.ends (K.ends (bEz p q (wR p q) p.main (wS p q) _ _ ((q.funs.length:Nat) :Int) (by simp)))))));have y:aEA p q ts us= ⟨(dU ts p.main p.cons).nodes++ (aW (cZ (numsL (p.funs.length:Int) q.funs.length) (wR p q) us) (dU ts p.main p.cons).nodes.length).2,(dU ts p.main p.cons).funs++ (aW (cZ (numsL (p.funs.length:Int) q.funs.length) (wR p q) us) (dU ts p.main p.cons).nodes.length).1,p.main,wS p q⟩ :=by
    rw [rY];unfold aEA aCT dU aVR;rw [aJz,eX]
   rw [y];exact this
abbrev bAp (a:Prog)(b:List Node)(c:List Int)(d:Int)(e:List Con)(f:List Node):=aA [oC 0 [(iN a.nodes),(iI a.funs),(nI a.main),(iC a.cons)],oC 1 [.nils,.nils,(nI 0),.nils],oC 2 [(.gl 3 4 0 b.length false),(.gl 4 1 0 c.length false),(nI d),(iC e)],oL 4 1 (jI c),oL 5 4 (jN (b++f))] 6
abbrev aDM (a:Prog):AV:=.gl 1 1 0 (set (replicate a.funs.length false) a.main.toNat true).length true
abbrev aSc (a:Nat)(b:List Node)(c:List Int)(d:Int)(e:List Con):=oC a [(.gl 3 4 0 b.length false),(.gl 4 1 0 c.length false),(nI d),(iC e)]
abbrev bAq (a:Prog):AV:=.gl 1 1 0 (replicate a.nodes.length (0:Int)).length true
abbrev bAr (a:Prog):AV:=.gl 1 1 0 (replicate a.funs.length false).length true
abbrev wL (a:Nat)(b:Prog):=oC a [(iN b.nodes),(iI b.funs),(nI b.main),(iC b.cons)]
abbrev aDN (a:List Int)(b c:Int):AV:=.gl 1 1 0 (set a b.toNat c).length true
abbrev aMb (a:Nat):=oC a [.nils,.nils,(nI 0),.nils]
abbrev aMc (a:List Bool):AV:=.ilst 1 (map kU a) false
def aMd(a:Prog)(c:Int)(b:List Int):TS:=⟨(tf 107 60 [kp 1 0,(2,.nils),(3,(.gl 1 1 0 b.length true)),(4,(nI c))] [kc f107 116,kl f107 116,.inBlock 0,kc f107 15]),[],[wL 0 a,oL 1 1 (jI b)],2⟩
def aHT(a:Prog)(b:List Int)(c:Int):TS:=⟨(tf 107 60 [kp 1 0,(2,.nils),(3,(.gl 1 1 0 b.length true)),(5,(nI c))] [kc f107 244,kl f107 244,.inBlock 2,kc f107 31]),[],[wL 0 a,oL 1 1 (jI b)],2⟩
def aMe(a:Prog)(b:List Int)(c d:Int):TS:=⟨(tf 107 60 [kp 1 0,(2,.nils),(3,(.gl 1 1 0 b.length true)),(5,(nI d)),(6,(nI c))] [kc f107 15652,kl f107 15652,.inBlock 4,.inBlock 3,kc f107 979,kl f107 244,.inBlock 2,kc f107 31]),[],[wL 0 a,oL 1 1 (jI b)],2⟩
def aHU(a:Prog)(c:List Int)(d:Int)(b:List Bool):TS:=⟨(tf 67 60 [kp 1 0,(2,.nils),(3,(.gl 1 1 0 b.length true)),(4,(iI c)),(5,(nI d))] [kc f67 500,kl f67 500,.inBlock 0,kc f67 63]),[],[wL 0 a,oL 1 1 (map kU b)],2⟩
def aBq(a:Prog)(c:List Int)(d:Int)(b:List Bool)(e:Int):TS:=⟨(tf 67 60 [kp 1 0,(2,.nils),(3,(.gl 1 1 0 b.length true)),(4,(iI c)),(5,(nI e)),(6,(nI d))] [kc f67 32036,kl f67 32036,.inBlock 2,.inBlock 1,kc f67 2003,kl f67 500,.inBlock 0,kc f67 63]),[],[wL 0 a,oL 1 1 (map kU b)],2⟩
def bAs(a:Prog):TS:=cO PP 29 [(Prog.av a)] [] 0
def aDO(a:Prog)(c:List Bool)(d e:Int)(b:List Int):TS:=⟨(tf 29 75 [kp 1 0,kp 2 1,(3,(nI 0)),(4,(aMc c)),(5,(.gl 2 1 0 b.length false)),(6,(nI d)),(7,(nI e))] [kc f29 1012,kl f29 1012,.inBlock 0,kc f29 127]),[],[wL 0 a,aMb 1,oL 2 1 (jI b)],3⟩
def aDP(a:Prog)(d:List Bool)(e:Int)(f:List Con)(g:List Int)(i:Int)(b:List Node)(c:List Int):TS:=⟨(tf 29 75 [kp 1 0,kp 2 1,(3,(nI 0)),(4,(aMc d)),(5,(iI g)),kp 8 2,(9,(nI i))] [kc f29 8180,kl f29 8180,.inBlock 2,kc f29 1023]),[],[wL 0 a,aMb 1,aSc 2 b c e f,oL 3 4 (jN b),oL 4 1 (jI c)],5⟩
def bAt(a:Prog)(d:List Bool)(e:List Int)(f:Int)(g:List Con)(i:Int)(b:List Node)(c:List Int):TS:=⟨(tf 29 75 [kp 1 0,kp 2 1,(3,(nI 0)),(4,(aMc d)),(5,(iI e)),kp 8 2,(9,(nI i))] [kc f29 523557,.inBlock 3,kc f29 32723,kl f29 8180,.inBlock 2,kc f29 1023]),[],[wL 0 a,aMb 1,aSc 2 b c f g,oL 3 4 (jN b),oL 4 1 (jI c)],5⟩
def bEC (a:Prog):=fun b=>(tT 0 (start PP 107 [(Prog.av a)])<|gl 9 Node.av a.nodes<|.i [.mk a.nodes.length] [hr ((a.nodes.length:Nat) :Int),hr ((a.nodes.length:Nat) :Int),hA (a.nodes.length<100000)]<|.i [.lset 1 (jI (replicate a.nodes.length (0:Int)))] [.q (p:=replicate a.nodes.length (bU (0:Int)) = (jI (replicate a.nodes.length (0:Int)))) (aEU _ _ _)]<|.i [.set 10 (bAq a)] [.q (p:=(AV.gl 1 1 0 a.nodes.length true) = (bAq a)) (bT (aAs ..).symm)]<|.W 9 2 [0,1] (aMd a 0 (replicate a.nodes.length (0:Int)))) b ⟨kk,trivial⟩
def bAu(d:Prog)(a:Int)(b:List Int):=tT 0 (aMd d a b)<|gl 6 bU d.funs<|gd 2 15 (a< (d.funs.length:Int)) (gX bU 9 d.funs a<|fun c=>.i [rn 2,.ans (.ix)] [hA (0≤c),hA (c< (b.length:Int))]<|.y fun e:Int=>.i [.st (bU e) (bU a)] [.a (((b)[c.toNat]?) =some e) (cU (f:=bU)),hr (some (bU a))]<|.i [.lset 1 (jI (set b c.toNat a))] [.q (p:=(jI b).set (0+c.toNat) (bU a) = (jI (set b c.toNat a))) (mE _ _ _ _)]<|.i [.set 3 (.gl 1 1 0 (set b c.toNat a).length true)] [.q (p:=(AV.gl 1 1 0 b.length true) = (.gl 1 1 0 (set b c.toNat a).length true)) (bT (eG ..).symm)]<|.i [.set 18 (.gl 1 1 0 (set b c.toNat a).length true)] [.q (p:=(AV.gl 1 1 0 b.length true) = (.gl 1 1 0 (set b c.toNat a).length true)) (bT (eG ..).symm)]<|gw 5 17 (a+1)<|.W 3 2 [0,1] (aMd d (a+1) (set b c.toNat a)))<|.W 9 2 [0,1] (aHT d b 0)
def bED:=fun a b c d e f g i j k l m=>bAu a b c|>.t f d g i j k e l m ⟨kk,trivial⟩
def bEE:=fun a b c d=>bAu a b c|>.f d ⟨kk,trivial⟩
def bAv(a:Prog)(b:List Int)(c:Int):=tT 0 (aHT a b c)<|gl 6 Node.av a.nodes<|gd 2 30 (c< (a.nodes.length:Int)) (.W 10 2 [0,1] (aMe a b 0 c))<|gz 8 2 1 1 bU b true<|gE 0 2 (.ilst 1 (jI b) true)
def bEF:=fun a b c d=>bAv a b c|>.t d ⟨kk,trivial⟩
def bEG:=fun a b c d=>bAv a b c|>.f d tv
def bAw(f:Prog)(a:List Int)(e d:Int):=tT 0 (aMe f a e d)<|gX Node.av 7 f.nodes d<|fun g=>gl 2 bU g.kids<|gd 2 41 (e< (g.kids.length:Int)) (.y fun b:Int=>.y fun c:Int=>.y fun i:Int=>.i [rn 4,.reg (rd 4 (.ans (.idx (Node.av g))::rd 3 (.ans (.idx (bU b))::rd 3 [.ans (.ix),.ans (.idx (bU c)),.ans (.ix),.st (bU i) (bU c)])))] [hA (0≤d),.a (((f.nodes)[d.toNat]?) =some g) (bP (f:=Node.av)),hA (0≤e),.a (((g.kids)[e.toNat]?) =some b) (bP (f:=bU)),hA (0≤d),hA (d< (a.length:Int)),.a (((a)[d.toNat]?) =some c) (cU (f:=bU)),hA (0≤b),hA (b< (a.length:Int)),.a (((a)[b.toNat]?) =some i) (cU (f:=bU)),hr (some (bU c))]<|.i [.lset 1 (jI (set a b.toNat c))] [.q (p:=(jI a).set (0+b.toNat) (bU c) = (jI (set a b.toNat c))) (mE _ _ _ _)]<|.i [.set 3 (aDN a b c)] [.q (p:=(AV.gl 1 1 0 a.length true) = (aDN a b c)) (bT (eG ..).symm)]<|.i [.set 44 (aDN a b c)] [.q (p:=(AV.gl 1 1 0 a.length true) = (aDN a b c)) (bT (eG ..).symm)]<|.i [.set 54 (aDN a b c)] [.q (p:=(AV.gl 1 1 0 a.length true) = (aDN a b c)) (bT (eG ..).symm)]<|gw 4 43 (e+1)<|.W 3 2 [0,1] (aMe f (set a b.toNat c) (e+1) d))<|gw 6 32 (d+1)<|.W 3 2 [0,1] (aHT f a (d+1))
def bEH:=fun c d e f g i j k a b l m n o p q r s t=>bAw c d e f g a b|>.t l i j k a b m n a o p q r s t ⟨kk,trivial⟩
def bEI:=fun a b c d e f g i j=>bAw a b c d e f g|>.f i j ⟨kk,trivial⟩
def bEJ (a:Prog):=fun b c d e f g i=>(tT 0 (start PP 67 [(Prog.av a)])<|gl 9 bU a.funs<|.i [.mk a.funs.length] [hr (a.funs.length:Int),hr (a.funs.length:Int),hA (a.funs.length<100000)]<|.i [.lset 1 (map kU (replicate a.funs.length false))] [.q (p:=replicate a.funs.length (kU false) = (map kU (replicate a.funs.length false))) (aEU _ _ _)]<|.i [.set 11 (bAr a)] [.q (p:=(AV.gl 1 1 0 a.funs.length true) = (bAr a)) (bT (aAs ..).symm)]<|.i [rn 7,.ans (.ix)] [hA (0≤a.main),hA (a.main< (((replicate a.funs.length false).length:Nat) :Int))]<|.y fun b:Bool=>.i [.st (kU b) (kU true)] [.a ((((replicate a.funs.length false))[a.main.toNat]?) =some b) (cU (f:=kU)),hr (some (kU true))]<|.i [.lset 1 (map kU (set (replicate a.funs.length false) a.main.toNat true))] [.q (p:=(map kU (replicate a.funs.length false)).set (0+a.main.toNat) (kU true) = (map kU (set (replicate a.funs.length false) a.main.toNat true))) (mE _ _ _ _)]<|.i [.set 11 (aDM a)] [.q (p:=(AV.gl 1 1 0 (replicate a.funs.length false).length true) = (aDM a)) (bT (eG ..).symm)]<|.i [.set 3 (aDM a)] [.q (p:=(AV.gl 1 1 0 (replicate a.funs.length false).length true) = (aDM a)) (bT (eG ..).symm)]<|.i [.set 12 (aDM a)] [.q (p:=(AV.gl 1 1 0 (replicate a.funs.length false).length true) = (aDM a)) (bT (eG ..).symm)]<|.y fun c:List Int=>gp 4 107 [(Prog.av a)] (iI c)<|.W 9 2 [0,1] (aHU a c 0 (set (replicate a.funs.length false) a.main.toNat true))) d e f b g c i ⟨kk,trivial⟩
def bAx(a:Prog)(d:List Int)(c:Int)(b:List Bool):=tT 0 (aHU a d c b)<|gl 6 bU a.funs<|gd 2 22 (c< (a.funs.length:Int)) (.W 10 2 [0,1] (aBq a d 0 b c))<|gz 8 2 1 1 kU b true<|gE 0 2 (.ilst 1 (map kU b) true)
def bEK:=fun a b c d e=>bAx a b c d|>.t e ⟨kk,trivial⟩
def bEL:=fun a b c d e=>bAx a b c d|>.f e tv
def aHV(d:Prog)(e:List Int)(c:Int)(a:List Bool)(f:Int):=tT 0 (aBq d e c a f)<|gl 6 Node.av d.nodes<|gd 2 29 (c< (d.nodes.length:Int)) (gX Node.av 9 d.nodes c<|fun b=>.b 10 40 (b.op==4) (gd 5 45 (b.n<0) (gX bU 3 e c<|fun g=>.i [rn 1,.ans (.ix)] [hA (0≤g),hA (g< (a.length:Int))]<|.y fun i:Bool=>gj kU 0 a g.toNat i<|.b 2 53 i (gw 6 57 ((-1:Int) -b.n)<|.i [.ans (.ix)] [hA (0≤ ((-1:Int) -b.n)),hA (((-1:Int) -b.n) < (a.length:Int))]<|.y fun j:Bool=>.i [.st (kU j) (kU true)] [.a (((a)[((-1:Int) -b.n).toNat]?) =some j) (cU (f:=kU)),hr (some (kU true))]<|.i [.lset 1 (map kU (set a (((-1:Int) -b.n).toNat) true))] [.q (p:=(map kU a).set (0+ ((-1:Int) -b.n).toNat) (kU true) = (map kU (set a (((-1:Int) -b.n).toNat) true))) (mE _ _ _ _)]<|.i [.set 3 (.gl 1 1 0 (set a (((-1:Int) -b.n).toNat) true).length true)] [.q (p:=(AV.gl 1 1 0 a.length true) = (.gl 1 1 0 (set a (((-1:Int) -b.n).toNat) true).length true)) (bT (eG ..).symm)]<|.i [.set 46 (.gl 1 1 0 (set a (((-1:Int) -b.n).toNat) true).length true)] [.q (p:=(AV.gl 1 1 0 a.length true) = (.gl 1 1 0 (set a (((-1:Int) -b.n).toNat) true).length true)) (bT (eG ..).symm)]<|.i [.set 54 (.gl 1 1 0 (set a (((-1:Int) -b.n).toNat) true).length true)] [.q (p:=(AV.gl 1 1 0 a.length true) = (.gl 1 1 0 (set a (((-1:Int) -b.n).toNat) true).length true)) (bT (eG ..).symm)]<|gw 5 31 (c+1)<|.W 3 3 [0,1] (aBq d e (c+1) (set a (((-1:Int) -b.n).toNat) true) f))<|gw 6 31 (c+1)<|.W 3 3 [0,1] (aBq d e (c+1) a f))<|gw 15 31 (c+1)<|.W 3 3 [0,1] (aBq d e (c+1) a f))<|gw 20 31 (c+1)<|.W 3 3 [0,1] (aBq d e (c+1) a f))<|gw 6 24 (f+1)<|.W 3 2 [0,1] (aHU d e (f+1) a)
def bEM:=fun b c d e f g i j k l a m n o p q r s t u v w x y=>aHV b c d e f|>.t l g a m|>.t n|>.t o i a p q r j s|>.t t u v w k x y ⟨kk,trivial⟩
def bEN:=fun b c d e f g i j k a l m n o p q r s t=>aHV b c d e f|>.t k g a l|>.t m|>.t n i a o p q j r|>.f s t ⟨kk,trivial⟩
def bEO:=fun a b c d e f g i j k l m=>aHV a b c d e|>.t g f i j|>.t k|>.f l m ⟨kk,trivial⟩
def bEP:=fun a b c d e f g i j k l=>aHV a b c d e|>.t g f i j|>.f k l ⟨kk,trivial⟩
def bEQ:=fun a b c d e f g=>aHV a b c d e|>.f f g ⟨kk,trivial⟩
def bHe(a:Prog):=tT 0 (bAs a)<|lW 10 27 [(Prog.av a)]<|fun c=>.b 2 12 (!c) (.i [rn 8,.cnilI 1 0 4] []<|.i [.cnilI 1 1 1] []<|.i [.cnilI 1 3 2] []<|gE 0 2 (.tup [(.agg [(.ilst 4 (jN ([] :List Node)) true),(.ilst 1 (jI ([] :List Int)) true),(nI 0),(.ilst 2 (jC ([] :List Con)) true)]),(nI 2)]))<|.y fun b:List Bool=>gp 5 67 [(Prog.av a)] (aMc b)<|.i [rn 17,.nilL 5 1] []<|gu 0 2 (jI ([] :List Int))<|gs 0 5 (.gl 2 1 0 ([] :List Int).length false)<|.W 0 3 [0,1,2] (aDO a b 0 0 ([] :List Int))
def bER:=fun a b c d e f=>bHe a b d|>.f e c f ⟨kk,trivial⟩
def aSd(e:Prog)(a:List Bool)(b c:Int)(d:List Int):=tT 0 (aDO e a b c d)<|gl 5 kU a<|gd 2 19 (c< (a.length:Int)) (ga 9 bU d [b]<|gX kU 6 a c<|fun g=>.b 2 29 g (gw 4 31 (b+1)<|gw 6 21 (c+1)<|.W 3 5 [0,1,4] (aDO e a (b+1) (c+1) (d++ [b])))<|gw 6 21 (c+1)<|.W 3 5 [0,1,4] (aDO e a b (c+1) (d++ [b])))<|gz 3 5 2 1 bU d false<|.y fun i:Int=>.y fun f:List Con=>gp 2 59 [(Prog.av e)] (.agg [.nils,.nils,(nI i),(iC f)])<|gX bU 8 d e.main<|fun j=>.i [rn 11,.cnil 3 0 4] []<|gu 0 4 (jN ([] :List Node))<|gv 0 3 0 (.gl 4 4 0 ([] :List Node).length false)<|.i [.cnil 3 1 1] []<|gu 0 5 (jI ([] :List Int))<|gv 0 3 1 (.gl 5 1 0 ([] :List Int).length false)<|.W 0 6 [0,1,3,4,5] (aDP e a j f d 0 ([] :List Node) ([] :List Int))
def bES:=fun a b c d e f g i j k l m n=>aSd a b c d e|>.t g i f j k|>.t l m n ⟨kk,trivial⟩
def bET:=fun a b c d e f g i j k l m=>aSd a b c d e|>.t g i f j k|>.f l m ⟨kk,trivial⟩
def bEU:=fun a b c d e f g i j k l m=>aSd a b c d e|>.f j f g k i l m ⟨kk,⟨kk,trivial⟩⟩
def aSe(d:Prog)(e:List Bool)(f:Int)(g:List Con)(i:List Int)(b:Int)(a:List Node)(c:List Int):=tT 0 (aDP d e f g i b a c)<|gl 6 bU d.funs<|gd 2 44 (b< (d.funs.length:Int)) (gX kU 8 e b<|fun j=>.b 2 50 j (ga 9 bU c [(a.length:Int)]<|.W 3 7 [0,1,2,3,6] (bAt d e i f g b a (c++ [(a.length:Int)])))<|gw 6 46 (b+1)<|.W 3 5 [0,1,2,3,4] (aDP d e f g i (b+1) a c))<|gy 3 2 0 3 4 Node.av a false<|gy 0 2 1 4 1 bU c false<|gE 6 5 (.tup [(.agg [(iN a),(iI c),(nI f),(iC g)]),(nI 0)])
def bEV:=fun a b c d e f g i j k l m n o=>aSe a b c d e f g i|>.t k j l m|>.t n o ⟨kk,⟨kk,trivial⟩⟩
def bEW:=fun a b c d e f g i j k l m n o=>aSe a b c d e f g i|>.t k j l m|>.f n o ⟨kk,⟨kk,trivial⟩⟩
def bEX:=fun a b c d e f g i j=>aSe a b c d e f g i|>.f j tv
def bEY (a:Prog)(l:List Bool)(k:List Int)(f:Int)(g:List Con)(i:Int)(b:List Node)(c:List Int):=fun d j e m n o p q=>(tT 0 (bAt a l k f g i b c)<|.y fun d:Int=>.y fun j:List Int=>.y fun e:List Node=>.i [.reg (rd 6 (.ans (.idx (bU d))::rd 4 [.ans (.len (a.cons.length:Int)),.pure (iI j),.call (.gl 5 4 0 (b++e).length false) (bAp a b c f g e),.d,.d]))] [hA (0≤i),.a (((a.funs)[i.toNat]?) =some d) (bP (f:=bU)),hl Con.av a.cons,hA (aJ PP 61 [(nI 0),(nI (a.cons.length:Int))] (iI j)),hA (Spec PP (.enter 60 [(.gl 3 4 0 b.length false),(Prog.av a),(nI d),(iI k),(iI j)]) (aA [wL 0 a,aMb 1,aSc 2 b c f g,oL 3 4 (jN b),oL 4 1 (jI c)] 5) (.ret (.gl 5 4 0 (b++e).length false)) (bAp a b c f g e)),hr (nI d),hr (nI d),hr (ilst 1 (jI a.funs) false),hr (ilst 1 (jI a.funs) false),hr (Prog.av a),hr (Prog.av a),hr (AV.gl 3 4 0 b.length false),hr (AV.gl 3 4 0 b.length false)]<|gw 4 46 (i+1)<|.W 3 6 [0,1,2,5,4] (aDP a l f g k (i+1) (b++e) c)) d j e m n o p q ⟨kk,⟨kk,trivial⟩⟩
theorem bIy {p:Prog}(hp:FineP p){i:Nat}{x:Node}(a:p.nodes[i]?=some x) :∀ (t:List Int) (j:Nat) (l:List Int),l.length=p.nodes.length→x.kids.drop j=t →
  LeadsM PP 0 (aMe p l (j:Int) (i:Int)).as (aHT p (aHG i t l) ((i:Int) +1)).as
 | [],j,l,hl,h=>by
  have:=bJ h;have d:= (zq0.1 a).1;have e:=hp.small;exact bEI p l j i x sd sd sd sd
 | k::t,j,l,hl,h=>by
  obtain⟨f,n,r⟩ :=bE h;obtain⟨q,c,b⟩ :=hp.node _ _ a;have m:=b k (iO f);have d:= (zq0.1 a).1;have e:=hp.small;have o:l[i]?=some (l.getD i 0) :=by rw [hQ,kH (by omega)];rfl
  obtain⟨y,g⟩ :∃y,l[k.toNat]?=some y:= ⟨_,kH (by omega)⟩
  exact(bEH p l j i x k (l.getD i 0) y sd sd sd sd sd (by omega) sd (by omega) (by omega) g sd).trans
   (bIy hp a t (j+1) _ (by simpa using hl) n)
theorem bIz {p:Prog}(hp:FineP p) :∀ (t:List Node) (i:Nat) (l:List Int),l.length=p.nodes.length→p.nodes.drop i=t →
  Ends PP 0 (aHT p l (i:Int)).as (.ret (.ilst 1 (map bU (aEJ t i l)) true)) (aA [] 0)
 | [],i,l,hl,h=>by
  have:=bJ h;exact bEG p l i sd
 | x::t,i,l,hl,h=>by
  obtain⟨b,a,c⟩ :=bE h;exact(bEF p l i sd).ends ((bIy hp b x.kids 0 l hl rfl).ends (bIz hp t (i+1) _ (by rw [aCN,hl]) a))
theorem bIA {p:Prog}(hp:FineP p) :∀ (t:List Int) (i:Nat) (l:List Int),l.length=p.nodes.length→p.funs.drop i=t →
  Ends PP 0 (aMd p (i:Int) l).as (.ret (.ilst 1 (map bU (aEJ p.nodes 0 (aIl t i l))) true)) (aA [] 0)
 | [],i,l,hl,h=>by
  have:=bJ h;exact(bEE p i l sd).ends (bIz hp p.nodes 0 l hl rfl)
 | a::t,i,l,hl,h=>by
  obtain⟨b,c,f⟩ :=bE h;have e:=hp.funs a (iO b);have g:=hp.fsmall;obtain⟨y,d⟩ :∃y,l[a.toNat]?=some y:= ⟨_,kH (by omega)⟩;exact(bED p i l a y sd sd sd (by omega) (by omega) d sd).ends (bIA hp t (i+1) _ (by simpa using hl) c)
theorem bAy {p:Prog}(hp:FineP p) :aJ PP 107 [PA p] (.ilst 1 (map bU (wI p)) false) :=by
 refine aO aC rfl rfl ?_;have a:=hp.small;refine Ends.val ?_ (fun E b=>nM);exact(bEC p (by omega)).ends (bIA hp p.funs 0 _ (by simp) rfl)
theorem bAz {p:Prog}{own:List Int}(hp:OwnsP p own)(r:Int)(hr:0≤r∧r<1000) :∀ (t:List Node) (i:Nat) (l:List Bool),l.length=p.funs.length→p.nodes.drop i=t →
  LeadsM PP 0 (aBq p own (i:Int) l r).as (aHU p own (r+1) (kX own t i l)).as
 | [],i,l,hl,h=>by
  have:=bJ h;exact bEQ p own i l r sd sd
 | x :: t,i,l,hl,h=>by
  obtain⟨n,d,m⟩ :=bE h;have u:=hp.small;have s:=hp.fsmall;have g:=hp.len;obtain⟨f,k⟩ :=hp.own i m;have e:own[i]?=some (own.getD i 0) :=by rw [hQ,kH (by omega)];rfl
  rw [kX];generalize own.getD i 0=o at e f k ⊢;have c:l[o.toNat]?=some (l.getD o.toNat false) :=by rw [hQ,kH (by omega)];rfl
  by_cases a:x.op=4
  · by_cases b:x.n<0
    · have j:=hp.name i x n a b;cases hb:l.getD o.toNat false
      case true=>
       rw [if_pos ⟨a,b,rfl⟩];obtain⟨y,q⟩ :∃y,l[(-1-x.n).toNat]?=some y:= ⟨_,kH (by omega)⟩
       exact(bEM p own i l r x o true y sd sd sd (by simp [a]) (by simpa using b) sd f (by omega) (hb ▸ c) rfl sd (by omega) (by omega) q sd).trans
        (bAz hp r hr t (i+1) _ (by simpa using hl) d)
      rw [if_neg (by simp)]
      exact(bEN p own i l r x o false sd sd sd (by simp [a]) (by simpa using b) sd f (by omega) (hb ▸ c) rfl sd).trans
       (bAz hp r hr t (i+1) _ hl d)
    · rw [if_neg (by simp [b])];exact(bEO p own i l r x sd sd sd (by simp [a]) (by simpa using b) sd).trans (bAz hp r hr t (i+1) _ hl d)
  · rw [if_neg (by simp [a])];exact(bEP p own i l r x sd sd sd (by simpa using a) sd).trans (bAz hp r hr t (i+1) _ hl d)
theorem bIB {p:Prog}{own:List Int}(hp:OwnsP p own) :∀ (k r:Nat) (l:List Bool),r+k=p.funs.length→l.length=p.funs.length →
  Ends PP 0 (aHU p own (r:Int) l).as (.ret (.ilst 1 (map kU (rZ p own k l)) true)) (aA [] 0)
 |0,r,l,h,hl=>bEL p own r l sd
 | k+1,r,l,h,hl=>by
  have a:=hp.fsmall;exact(bEK p own r l sd).ends ((bAz hp (r:Int) (by omega) p.nodes 0 l hl rfl).ends (bIB hp k (r+1) _ (by omega) (by rw [aAp,hl])))
theorem aSf {p:Prog}(hp:FineP p)(a:OwnsP p (wI p)) :aJ PP 67 [PA p] (.ilst 1 (map kU (bG p)) false) :=by
 refine aO aC rfl rfl ?_;have e:=hp.fsmall;obtain⟨c,b⟩ :=a.main;refine Ends.val ?_ (fun E d=>nM)
 exact(bEJ p false (wI p) (by omega) c (by simpa using b) (by rw [List.getElem?_replicate,if_pos (by omega)]) (bAy hp)).ends
  (bIB a p.funs.length 0 _ (by omega) (by simp))
theorem bHf (p:Prog)(is:List Bool)(a:is.length≤320) :∀ (t:List Bool) (i:Nat) (n:Int) (l:List Int),is.drop i=t→i≤is.length→l.length=i→0≤n→n≤i →
  LeadsM PP 0 (aDO p is n (i:Int) l).as (aDO p is (n+ (t.countP (· =true) :Nat)) ((is.length:Nat) :Int) (l++fN t n)).as
 | [],i,n,l,h,f,hl,g,j=>by
  have:=bJ h;obtain rfl:i=is.length:=by omega
  simp only [fN,oS,List.countP_nil];rw [show n+ ((0:Nat) :Int) =n by omega];exact LeadsM.refl _
 | b::t,i,n,l,h,f,hl,g,j=>by
  obtain⟨d,e,k⟩ :=bE h;cases b
  case true=>
   have c:=bHf p is a t (i+1) (n+1) (l++ [n]) e (by omega) (by simp [hl]) (by omega) (by omega);rw [zq9]at c;simp only [fN,if_true];rw [show n+ (countP (· =true) (true::t) :Nat) =n+1+ (countP (· =true) t:Nat)by simp;omega];exact(bES p is n i l true sd (by simp [hl];omega) (by omega) d rfl sd sd).trans c
  have c:=bHf p is a t (i+1) n (l++ [n]) e (by omega) (by simp [hl]) (by omega) (by omega);rw [zq9]at c;simp only [fN,tZ,if_false];rw [show n+ (countP (· =true) (false::t) :Nat) =n+ (countP (· =true) t:Nat)by simp];exact(bET p is n i l false sd (by simp [hl];omega) (by omega) d rfl sd).trans c
theorem bHg (p:Prog)(is:List Bool)(k:Nat)(to:List Int)(mn:Int)(cs:List Con)(o:p.funs.length≤320)(hc:p.cons.length≤320)(e:is.length=p.funs.length) :∀ (t:List Int) (b:List Bool) (i:Nat) (l:List Node) (fs d:List Int) (r:List Node),p.funs.drop i=t→is.drop i=b→i≤p.funs.length→fs.length≤i →
  mU (gV p to (numsL 0 p.cons.length) k) l.length (dD b t) =some (d,r) →
  LeadsM PP 0 (aDP p is mn cs to (i:Int) l fs).as (aDP p is mn cs to ((p.funs.length:Nat) :Int) (l++r) (fs++d)).as
 | [],b,i,l,fs,d,r,h,hb,v,hl,hm=>by
  have:=bJ h;obtain rfl:i=p.funs.length:=by omega
  obtain rfl:b= [] :=by rw [←hb];exact List.drop_eq_nil_iff.2 (by omega)
  cases hm;rw [oS,oS];exact LeadsM.refl _
 | c :: t,b,i,l,fs,d,r,h,hb,v,hl,hm=>by
  obtain⟨x,u,z⟩ :=bE h;cases b with
  |nil=>have:=bJ hb;omega
  |cons b bt=>
  obtain⟨n,s,A⟩ :=bE hb;cases b
  case true=>
   simp only [dD,mU]at hm;split at hm
   · rename_i j g;split at hm
     · rename_i a q m;cases hm;have f:=bEV p is mn cs to i l fs true sd (by omega) n rfl (by simp;omega);have w:=bEY p is to mn cs i l (fs++ [((l.length:Nat) :Int)]) c _ j (by omega) x (aAi 0 p.cons.length (by omega) (by omega) (by omega)) (aOr g mn cs _) sd;have y:=bHg p is k to mn cs o hc e t bt (i+1) (l++j) (fs++ [((l.length:Nat) :Int)]) a q u s (by omega) (by simp;omega) (by rw [wT];exact m);rw [show fs++ ((l.length:Nat) :Int) ::a= (fs++ [((l.length:Nat) :Int)]) ++a by simp,←zq9 l j q];exact f.trans (w.trans y)
     ·cases hm
   ·cases hm
  simp only [dD]at hm;have f:=bEW p is mn cs to i l fs false sd (by omega) n rfl sd;exact f.trans (bHg p is k to mn cs o hc e t bt (i+1) l fs d r u s (by omega) (by omega) hm)
theorem bAA {p:Prog}{k:Nat}{is:List Bool}{ks:List Int}{r:List Node}{m:Int}(hp:p.cons.length≤320∧p.funs.length≤320)(hm:0≤p.main)(g:aJ PP 27 [PA p] (.bool true))(e:aJ PP 67 [PA p] (.ilst 1 (map kU is) false))
  (a:is.length=p.funs.length) (b: (fN is 0)[p.main.toNat]?=some m)
  (hk:mU (gV p (fN is 0) (numsL 0 p.cons.length) k) 0 (dD is p.funs) =some (ks,r)) :
  aJ PP 29 [PA p] (.tup [PA ⟨r,ks,m,p.cons⟩,.int .i64 0]) :=by
 have l:∀v,keyless v=true→Ends PP 0 (bAs p).as (.ret v) (aA [] 0) →aJ PP 29 [PA p] v:=fun v j h=>yX (s:=bAs p) aC aC (by simp [keylessL,keyless]) j h;refine l _ (by simp [keylessL,keyless]) ?_;have f:=bER p true is g rfl e;have c:=bHf p is (by omega) is 0 0 [] rfl (zero_le _) rfl (by omega) (by omega);rw [qW]at c;have i:=bEU p is (0+ ((is.countP (· =true) :Nat) :Int)) ((is.length:Nat) :Int) (fN is 0) p.main p.cons m (by simp) (aOq (by omega)) hm b;have d:=bHg p is k (fN is 0) m p.cons hp.2 hp.1 a p.funs is 0 [] [] ks r rfl rfl (zero_le _) (zero_le _) hk;rw [qW,qW]at d;exact f.ends (c.ends (i.ends (d.ends (bEX p is m p.cons (fN is 0) _ r ks (by simp)))))
theorem aHW {p:Prog}{ts:List XT}(h:Nok p ts) :aJ PP 29 [PA p] (.tup [PA (aHN p ts),.int .i64 0]) :=by
 have a:=vM p h.fs.sm;rw [h.fs.fo]at a;have j:=aCO h.fs.sm h.fs.fo (fun i x b=> (h.fs.node i x b).1) ⟨h.fs.head.2.2.2.1,h.fs.head.2.2.2.2.1⟩;have hr:=aSf h.fs.fine j;have f:=h.fs.fine.fsmall;have hl:=lL p;have b:=aO3 (aCQ (bG p) ts);have k:=qQ h.fs.sm h.fs.fo h.ht;have l:=h.fs.head.1
 have e:=aAn h.fs (F:=fN (bG p) 0) (C:=numsL 0 p.cons.length) (by rw [aJx,hl]) (fV ..) (fun g c=>by
  have:=aCR _ 0 g c;omega) (dD (bG p) ts) (dD (bG p) p.funs) (aD (dD (bG p) ts)) 0 (aBo _ _ _ h.ht) (le_refl _) (by omega)
 have:=bAA ⟨by have:=h.fs.cons;omega,f⟩ h.fs.head.2.2.2.1 a hr hl (aJy h).1 e;have d:sA p ts=cZ (fN (bG p) 0) (numsL 0 p.cons.length) (dD (bG p) ts) :=by
  unfold sA;rw [cP,cP,aCP]
 unfold aHN;rw [d];exact this
abbrev bD (a:Prog)(b:Int):AV:=.tup [(Prog.av a),(nI b)]
theorem bAB (p q:Prog)(b c:Bool)(f:aJ PP 10 [(Prog.av p)] (bV b))(h1: (!b) =true)(h2:aJ PP 11 [] (bV c)) :
  ∀ (w:World) (a:List Value),VRs (embOf w) [(Prog.av p),(Prog.av q)] a→Calls PP 9 ⟨a⟩ w fun e w'=>e= .returned (.bool c) ∧GrownO w w':=
 fun w a d=>cW [qp f,qp h1,qp h2] [rn 10,pB b,rn 2,bt 24,rn 8,pB c,rn 3] w d
theorem bAC (p q:Prog)(b c d:Bool)(h:aJ PP 10 [(Prog.av p)] (bV b))(h1: (!b) =false)(h2:aJ PP 10 [(Prog.av q)] (bV c))(i: (!c) =true)(g:aJ PP 11 [] (bV d)) :
  ∀ (w:World) (a:List Value),VRs (embOf w) [(Prog.av p),(Prog.av q)] a→Calls PP 9 ⟨a⟩ w fun e w'=>e= .returned (.bool d) ∧GrownO w w':=
 fun w a f=>cW [qp h,qp h1,qp h2,qp i,qp g] [rn 10,pB b,rn 2,bf 24,rn 1,pB c,rn 3,bt 28,rn 3,pB d,rn 3] w f
theorem aO7 (p q:Prog)(c d:Bool)(h:Prog)(b:Int)(i:Prog)(g:Int)(f:Bool)(l:aJ PP 10 [(Prog.av p)] (bV c))(h1: (!c) =false)(h2:aJ PP 10 [(Prog.av q)] (bV d))(m: (!d) =false)(o:aJ PP 12 [(Prog.av p)] (bD h b))(k:aJ PP 12 [(Prog.av q)] (bD i g))(r: (b != (0:Int)) =true)(n:aJ PP 11 [] (bV f)) :
  ∀ (w:World) (a:List Value),VRs (embOf w) [(Prog.av p),(Prog.av q)] a→Calls PP 9 ⟨a⟩ w fun e w'=>e= .returned (.bool f) ∧GrownO w w':=
 fun w a j=>cW [qp l,qp h1,qp h2,qp m,qp o,qp k,qp r,qp n] [rn 10,pB c,rn 2,bf 24,rn 1,pB d,rn 3,bf 28,rn 5,.pure (bD h b),rn 10,.pure (bD i g),rn 13,bt 42,rn 17,pB f,rn 3] w j
theorem bAD (p q:Prog)(c f:Bool)(h:Prog)(b:Int)(i:Prog)(d:Int)(g:Bool)(l:aJ PP 10 [(Prog.av p)] (bV c))(h1: (!c) =false)(h2:aJ PP 10 [(Prog.av q)] (bV f))(m: (!f) =false)(o:aJ PP 12 [(Prog.av p)] (bD h b))(k:aJ PP 12 [(Prog.av q)] (bD i d))(s: (b != (0:Int)) =false)(n: (d != (0:Int)) =true)(r:aJ PP 11 [] (bV g)) :
  ∀ (w:World) (a:List Value),VRs (embOf w) [(Prog.av p),(Prog.av q)] a→Calls PP 9 ⟨a⟩ w fun e w'=>e= .returned (.bool g) ∧GrownO w w':=
 fun w a j=>cW [qp l,qp h1,qp h2,qp m,qp o,qp k,qp s,qp n,qp r] [rn 10,pB c,rn 2,bf 24,rn 1,pB f,rn 3,bf 28,rn 5,.pure (bD h b),rn 10,.pure (bD i d),rn 13,bf 42,rn 4,bt 46,rn 13,pB g,rn 3] w j
theorem aDQ (p q:Prog)(r K:Bool)(l:Prog)(o:Int)(n:Prog)(v:Int)(H A:Bool)(M:Prog)(z:Int)(g:Prog)(i:Int)(d:Prog)(c:Int)(h:Bool)(m:Prog)(f:Int)(j:Prog)(k:Int)(b:Bool)(Q:aJ PP 10 [(Prog.av p)] (bV r))(h1: (!r) =false)(h2:aJ PP 10 [(Prog.av q)] (bV K))(U: (!K) =false)(V:aJ PP 12 [(Prog.av p)] (bD l o))(O:aJ PP 12 [(Prog.av q)] (bD n v))(S: (o != (0:Int)) =false)(R: (v != (0:Int)) =false)(W:aJ PP 10 [(Prog.av l)] (bV H))(X: (!H) =false)(y:aJ PP 10 [(Prog.av n)] (bV A))(t: (!A) =false)(s:aJ PP 29 [(Prog.av p)] (bD M z))(I:aJ PP 29 [(Prog.av l)] (bD g i))(C:aJ PP 12 [(Prog.av M)] (bD d c))(B: (z != (0:Int)) =false)(u: (i != (0:Int)) =false)(x: (c != (0:Int)) =false)(D:aJ PP 16 [(Prog.av g),(Prog.av d)] (bV h))(N: (!h) =false)(F:aJ PP 30 [(Prog.av p),(Prog.av q)] (bD m f))(J:aJ PP 30 [(Prog.av l),(Prog.av n)] (bD j k))(G: (f != (0:Int)) =true)(L:aJ PP 11 [] (bV b)) :
  ∀ (w:World) (a:List Value),VRs (embOf w) [(Prog.av p),(Prog.av q)] a→Calls PP 9 ⟨a⟩ w fun e w'=>e= .returned (.bool b) ∧GrownO w w':=
 fun w a T=>cW [qp Q,qp h1,qp h2,qp U,qp V,qp O,qp S,qp R,qp W,qp X,qp y,qp t,qp s,qp I,qp C,qp B,qp u,qp x,qp D,qp N,qp F,qp J,qp G,qp L] [rn 10,pB r,rn 2,bf 24,rn 1,pB K,rn 3,bf 28,rn 5,.pure (bD l o),rn 10,.pure (bD n v),rn 13,bf 42,rn 4,bf 46,rn 1,pB H,rn 3,bf 51,rn 1,pB A,rn 3,bf 55,rn 5,.pure (bD M z),rn 10,.pure (bD g i),rn 10,.pure (bD d c),rn 13,bf 74,rn 4,bf 78,rn 4,bf 82,rn 2,pB h,rn 3,bf 87,rn 6,.pure (bD m f),rn 11,.pure (bD j k),rn 13,bt 102,rn 7,pB b,rn 3] w T
theorem aV1 (p q:Prog)(r L:Bool)(l:Prog)(o:Int)(n:Prog)(x:Int)(I B:Bool)(N:Prog)(A:Int)(h:Prog)(j:Int)(d:Prog)(c:Int)(i:Bool)(m:Prog)(f:Int)(k:Prog)(g:Int)(b:Bool)(R:aJ PP 10 [(Prog.av p)] (bV r))(h1: (!r) =false)(h2:aJ PP 10 [(Prog.av q)] (bV L))(V: (!L) =false)(W:aJ PP 12 [(Prog.av p)] (bD l o))(Q:aJ PP 12 [(Prog.av q)] (bD n x))(T: (o != (0:Int)) =false)(S: (x != (0:Int)) =false)(X:aJ PP 10 [(Prog.av l)] (bV I))(Y: (!I) =false)(z:aJ PP 10 [(Prog.av n)] (bV B))(u: (!B) =false)(s:aJ PP 29 [(Prog.av p)] (bD N A))(J:aJ PP 29 [(Prog.av l)] (bD h j))(D:aJ PP 12 [(Prog.av N)] (bD d c))(C: (A != (0:Int)) =false)(v: (j != (0:Int)) =false)(y: (c != (0:Int)) =false)(F:aJ PP 16 [(Prog.av h),(Prog.av d)] (bV i))(O: (!i) =false)(G:aJ PP 30 [(Prog.av p),(Prog.av q)] (bD m f))(K:aJ PP 30 [(Prog.av l),(Prog.av n)] (bD k g))(H: (f != (0:Int)) =false)(M: (g != (0:Int)) =true)(t:aJ PP 11 [] (bV b)) :
  ∀ (w:World) (a:List Value),VRs (embOf w) [(Prog.av p),(Prog.av q)] a→Calls PP 9 ⟨a⟩ w fun e w'=>e= .returned (.bool b) ∧GrownO w w':=
 fun w a U=>cW [qp R,qp h1,qp h2,qp V,qp W,qp Q,qp T,qp S,qp X,qp Y,qp z,qp u,qp s,qp J,qp D,qp C,qp v,qp y,qp F,qp O,qp G,qp K,qp H,qp M,qp t] [rn 10,pB r,rn 2,bf 24,rn 1,pB L,rn 3,bf 28,rn 5,.pure (bD l o),rn 10,.pure (bD n x),rn 13,bf 42,rn 4,bf 46,rn 1,pB I,rn 3,bf 51,rn 1,pB B,rn 3,bf 55,rn 5,.pure (bD N A),rn 10,.pure (bD h j),rn 10,.pure (bD d c),rn 13,bf 74,rn 4,bf 78,rn 4,bf 82,rn 2,pB i,rn 3,bf 87,rn 6,.pure (bD m f),rn 11,.pure (bD k g),rn 13,bf 102,rn 4,bt 105,rn 3,pB b,rn 3] w U
theorem aV2 (p q:Prog)(u S:Bool)(r:Prog)(t:Int)(s:Prog)(A:Int)(N G:Bool)(U:Prog)(D:Int)(j:Prog)(n:Int)(f:Prog)(c:Int)(l:Bool)(k:Prog)(g:Int)(d:Prog)(h:Int)(b:Prog)(m:Int)(o i:Bool)(Y:aJ PP 10 [(Prog.av p)] (bV u))(h1: (!u) =false)(h2:aJ PP 10 [(Prog.av q)] (bV S))(h3: (!S) =false)(h4:aJ PP 12 [(Prog.av p)] (bD r t))(X:aJ PP 12 [(Prog.av q)] (bD s A))(h6: (t != (0:Int)) =false)(Z: (A != (0:Int)) =false)(h8:aJ PP 10 [(Prog.av r)] (bV N))(h9: (!N) =false)(C:aJ PP 10 [(Prog.av s)] (bV G))(y: (!G) =false)(v:aJ PP 29 [(Prog.av p)] (bD U D))(O:aJ PP 29 [(Prog.av r)] (bD j n))(J:aJ PP 12 [(Prog.av U)] (bD f c))(I: (D != (0:Int)) =false)(z: (n != (0:Int)) =false)(B: (c != (0:Int)) =false)(K:aJ PP 16 [(Prog.av j),(Prog.av f)] (bV l))(V: (!l) =false)(L:aJ PP 30 [(Prog.av p),(Prog.av q)] (bD k g))(Q:aJ PP 30 [(Prog.av r),(Prog.av s)] (bD d h))(M: (g != (0:Int)) =false)(T: (h != (0:Int)) =false)(x:aJ PP 12 [(Prog.av k)] (bD b m))(R: (m== (0:Int)) =true)(F:aJ PP 16 [(Prog.av d),(Prog.av b)] (bV o))(H:o=true)(W:aJ PP 11 [] (bV i)) :
  ∀ (w:World) (a:List Value),VRs (embOf w) [(Prog.av p),(Prog.av q)] a→Calls PP 9 ⟨a⟩ w fun e w'=>e= .returned (.bool i) ∧GrownO w w':=
 fun w a hv=>cW [qp Y,qp h1,qp h2,qp h3,qp h4,qp X,qp h6,qp Z,qp h8,qp h9,qp C,qp y,qp v,qp O,qp J,qp I,qp z,qp B,qp K,qp V,qp L,qp Q,qp M,qp T,qp x,qp R,qp F,qp H,qp W] [rn 10,pB u,rn 2,bf 24,rn 1,pB S,rn 3,bf 28,rn 5,.pure (bD r t),rn 10,.pure (bD s A),rn 13,bf 42,rn 4,bf 46,rn 1,pB N,rn 3,bf 51,rn 1,pB G,rn 3,bf 55,rn 5,.pure (bD U D),rn 10,.pure (bD j n),rn 10,.pure (bD f c),rn 13,bf 74,rn 4,bf 78,rn 4,bf 82,rn 2,pB l,rn 3,bf 87,rn 6,.pure (bD k g),rn 11,.pure (bD d h),rn 13,bf 102,rn 4,bf 105,rn 5,.pure (bD b m),rn 12,bt 114,rn 2,pB o,rn 2,bt 119,pB i,rn 4] w hv
theorem aDR {p:Prog}(c:aK p=true) : (∃e:Int,(e != 0) =true∧aJ PP 12 [PA p] (.tup [PA aEq,.int .i64 e])) ∨∃ts,Nok p ts:=by
 have d:∀e:Int,(e != 0) =true→ (∃ts:List XT,∃m:List Int,(aN p=true→ (eC p).1=true→aE p ts p.funs∧NI p (ts.map pW) ts∧aBh 1000 ts=some (ts.map pW,m)) ∧aEr p (ts.map pW) = (aEq,e)) → (∃e:Int,(e != 0) =true∧aJ PP 12 [PA p] (.tup [PA aEq,.int .i64 e])) ∨∃ts,Nok p ts:=fun e he ⟨ts,m,k,j⟩ =>by
  have g:=aJm c (I:=NI p (ts.map pW)) aTL aL7 k;rw [j]at g;exact .inl ⟨e,he,g⟩
 cases a:aN p
 case false=>exact d 2 rfl ⟨[],[],fun h=> (by rw [a]at h;cases h),by unfold aEr;rw [if_pos a]⟩
 cases hc: (eC p).1
 case false=>exact d 7 rfl ⟨[],[],fun _ h=> (by rw [hc]at h;cases h),by unfold aEr;rw [if_neg (by rw [a];decide),if_pos hc]⟩
 have i:=Fs.of c a;obtain⟨ts,f⟩ :=aY3 i.fine;have b:=aTM c a hc f;obtain⟨m,hm,_⟩ :=aR6 b;cases hz:tP 30 p.cons (ts.map pW)
 case false=>exact d 3 rfl ⟨ts,m,fun _ _=> ⟨f,b,hm⟩,by unfold aEr;rw [a,hc,hz];rfl⟩
 exact .inr ⟨ts,i,hc,f,hz⟩
theorem aCU {p:Prog}{ts:List XT}(h:Nok p ts) :p.nodes.length=aD ts∧aD ts≤aD (ts.map pW) := ⟨(qQ h.fs.sm h.fs.fo h.ht).symm,(aCI h.wx).1⟩
theorem nParts_calls (p q:Prog)(hk:aJ PP 11 [] (.bool true)) :
  ∀ (w:World) (j:List Value),VRs (embOf w) [Prog.av p,Prog.av q] j→Calls PP 9 ⟨j⟩ w fun e w'=>e= .returned (.bool true) ∧GrownO w w':=by
 have i:=lB p;cases C:aK p with
 |false=>rw [C]at i;exact bAB p q false true i rfl hk
 |true=>
 have l:=lB q;rw [C]at i;cases n:aK q with
 |false=>rw [n]at l;exact bAC p q true false true i rfl l rfl hk
 |true=>
 rw [n]at l;rcases aDR C with⟨e,he,O⟩ | ⟨c,a⟩
 · rcases aDR n with⟨f,D,B⟩ | ⟨m,d⟩
   ·exact aO7 p q true true _ e _ f true i rfl l rfl O B he hk
   ·exact aO7 p q true true _ e _ 0 true i rfl l rfl O d.norm he hk
 rcases aDR n with⟨f,D,B⟩ | ⟨m,d⟩
 ·exact bAD p q true true _ 0 _ f true i rfl l rfl a.norm B rfl D hk
 have s:=lB (nfP p c);rw [a.nf.fs.sm]at s;have r:=lB (nfP q m);rw [d.nf.fs.sm]at r;have v:=aHW a;have u:=aHW a.nf;have t:= (aO4 a).norm;have R:nfP (aHN p c) (sA p c) =aHN (nfP p c) (c.map pW) :=by
  have hr:bG (nfP p c) =bG p:=aBn a.fs a.nf.fs a.ht a.nf.ht rfl;have hm:aCS (nfP p c) =aCS p:=by unfold aCS;rw [hr];rfl
  unfold aHN;rw [←aTN a,hm];rfl
 rw [R]at t;have z:=aHd (aHN (nfP p c) (c.map pW)) (aO4 a.nf).fit;obtain⟨Q,T⟩ :=aHS a.fs d.fs a.ht d.ht;obtain⟨F,A⟩ :=aHS a.nf.fs d.nf.fs a.nf.ht d.nf.ht;obtain⟨p1,p2⟩ :=aCU a;obtain⟨Y,q2⟩ :=aCU d;obtain⟨X,_⟩ :=aCU a.nf;obtain⟨Z,_⟩ :=aCU d.nf;have S:clash (nfP p c).cons (nfP q m).cons=clash p.cons q.cons:=rfl;have G:wS (nfP p c) (nfP q m) =wS p q:=rfl;rw [S]at F A;rw [G]at A;have b:∀ (x y:Prog) (e:Int),aJ PP 30 [PA x,PA y] (.tup [aAk,.int .i64 e]) →aJ PP 30 [PA x,PA y] (.tup [PA ⟨[],[],0,[]⟩,.int .i64 e]) :=fun x y e h=>aVO h (fun E cv h=>bDH h);cases g:clash p.cons q.cons
 case true=>exact aDQ p q true true _ 0 _ 0 true true _ 0 _ 0 _ 0 true _ 7 _ 7 true i rfl l rfl a.norm d.norm rfl rfl s rfl r rfl v u t rfl rfl rfl z rfl (b _ _ _ (Q g)) (b _ _ _ (F g)) rfl hk
 obtain⟨I,L⟩ :=T g;obtain⟨H,W⟩ :=A g;by_cases k: (wS p q).length≤20
 · by_cases o:aD (c.map pW) +aD (m.map pW) ≤300
   · have J:=L k (by omega);have K:=W k (by omega);have N:= (aO5 a d g k o).norm;have M:nfP (aEA p q c m) (aCT p q c m) =aEA (nfP p c) (nfP q m) (c.map pW) (m.map pW) :=by
      unfold aEA;rw [G,←aTO a d];rfl
     rw [M]at N;have fit:FitP (aEA (nfP p c) (nfP q m) (c.map pW) (m.map pW)) :=by rw [←M];exact(aO5 a d g k o).nf.fit
     have U:=aHd _ fit;exact aV2 p q true true _ 0 _ 0 true true _ 0 _ 0 _ 0 true _ 0 _ 0 _ 0 true true i rfl l rfl a.norm d.norm rfl rfl s rfl r rfl v u t rfl rfl rfl z rfl J K rfl rfl N rfl U rfl hk
   · have K:=b _ _ _ (H (.inr (by omega)));by_cases V:p.nodes.length+q.nodes.length≤300
     ·exact aV1 p q true true _ 0 _ 0 true true _ 0 _ 0 _ 0 true _ 0 _ 3 true i rfl l rfl a.norm d.norm rfl rfl s rfl r rfl v u t rfl rfl rfl z rfl (L k V) K rfl rfl hk
     ·exact aDQ p q true true _ 0 _ 0 true true _ 0 _ 0 _ 0 true _ 3 _ 3 true i rfl l rfl a.norm d.norm rfl rfl s rfl r rfl v u t rfl rfl rfl z rfl (b _ _ _ (I (.inr (by omega)))) K rfl hk
 ·exact aDQ p q true true _ 0 _ 0 true true _ 0 _ 0 _ 0 true _ 3 _ 3 true i rfl l rfl a.norm d.norm rfl rfl s rfl r rfl v u t rfl rfl rfl z rfl (b _ _ _ (I (.inl (by omega)))) (b _ _ _ (H (.inl (by omega)))) rfl hk
end
end Go.Hb
