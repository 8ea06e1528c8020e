/- A machine on abstract values, its soundness, ways, plain laws. -/
import Derived.Test.YtnljmgihoioocaaGreatHF
import Derived.Test.YtnljmgihoioocaaGreatHG
import Derived.Test.YtnljmgihoioocaaGreatHH
import Derived.Test.YtnljmgihoioocaaGreatHJ
set_option linter.defProp false
set_option linter.unusedVariables false
set_option linter.unusedSimpArgs false
set_option linter.unusedSectionVars false
set_option maxRecDepth 100000
set_option maxHeartbeats 8000000
namespace Go.Hb
open AV (ilst keyless keylessL)
open List (all_cons length map set set_set)
open Go.Proofs Tryz
noncomputable section
theorem aKu (l:List ONode)(y:ONode)(r:List ONode) : (l++y::r)[((length l:Nat) :Int).toNat]?=some y:=by simp
theorem tA (l:List ONode)(y:ONode)(r:List ONode) : (l++y::r)[length l]?=some y:=by simp
theorem aSe (l:List ONode)(y z:ONode)(r:List ONode) :set (l++y::r) (((length l:Nat) :Int).toNat) z=l++z::r:=by simp
theorem tB (l:List ONode)(y z:ONode)(r:List ONode) :set (l++y::r) (length l) z=l++z::r:=by simp
theorem EndsL.of {s:TS}{L L':List ONode}(h:EndsL s L)(e:L=L') :EndsL s L':=e ▸ h
section
variable (p :Prog) (funs cons:List Int) (k:Nat) (ih:∀ (L:List ONode) (c:Int) (ns:List Node),aYc p funs cons k L.length c=some ns→bDr p funs cons c L ns)
 (l:List ONode) (at0 op n':Int) (ps':List Pat) (kids:List Int) (hkids:kids.length<1000000)
include ih hkids
end
theorem oI {f:Nat}{a:List AV}{v:AV}{s:TS}(e: (start PP f a).as=s.as)(hb:uR PP f=true)(hk:keylessL a=true)(b:keyless v=true)(he:Ends PP 0 s.as (.ret v) (aA [] 0)) :aK PP f a v:=
 aG hb hk b (by rw [e];exact he)
abbrev aYd (a:Nat)(b:Prog):=oC a [(iN b.nodes),(iI b.funs),(nI b.main),(iC b.cons)]
abbrev bGA (a:Nat)(b:List XT)(c:Int)(d:List Con):=oC a [(.gl 1 1 0 b.length false),(nI c),(iC d)]
def aSf(a:Prog):TS:=aX PP 34 [(Prog.av a)] [] 0
def aQN(a:Prog):=tT 0 (aSf a)<|gpI 10 45 [(Prog.av a)]<|fun f=>.b 2 8 (f != 0) (gE 7 1 (.tup [.nilp,(nI 2)]))<|.y fun c:Bool=>.y fun g:Int=>gp 6 46 [(Prog.av a)] (.tup [(bV c),(nI g)])<|.b 11 15 (!c) (gE 7 1 (.tup [.nilp,(nI 7)]))<|.y fun b:List XT=>.y fun d:Int=>.y fun e:List Con=>gk 5 (.enter 48 [(Prog.av a)]) [aYd 0 a] 1 (.ptr 1 0) [aYd 0 a,oC 1 [(.gl 2 1 0 b.length false),(nI d),(iC e)],(2,gh,false),(3,(.zone true [2] (cH b)),false)] 4<|.E 4 4 [1,2,3] (.tup [(.ptr 0 0),(nI 0)]) [bGA 0 b d e,(1,gh,false),(2,(.zone true [1] (cH b)),false)] 3
def bDs:=fun a b c d=>aQN a b c|>.t d tv
def bDt:=fun a b c d e f g i=>aQN a b e|>.f f c d g|>.t i tv
def bDu:=fun a b c d e f g i j k l m=>aQN a b i|>.f j c d k|>.f l e f g m tv
def bE5(a:List Con):TS:=aX PP 90 [(iC a)] [] 0
def bIc(a:List Con):TS:=⟨(tf 90 8 [(0,(iC a)),(2,.nils),(3,(iC a))] [ko f90 12 1,kc f90 13,kc f90 7]),[],[],0⟩
def bGB(a:List Con):TS:=⟨(tf 90 8 [(0,(iC a)),(2,.nils),(3,.nils)] [ko f90 12 1,kc f90 13,kc f90 7]),[],[],0⟩
def bGC(a:List Con)(b:Addr)(c d:Nat):TS:=⟨(tf 90 8 [(0,(iC a)),(2,.nils),(3,(.val (Value.slice (some b) c d)))] [ko f90 12 1,kc f90 13,kc f90 7]),[],[],0⟩
def bId (a:List Con):=(tT 0 (bE5 a)<|.W 8 0 [] (bIc a)) tv
def bIe (a:List Con):=(tT 0 (bGB a)<|.i [rn 8,.nilI 2 2] []<|gE 0 0 (.ilst 2 (jC ([] :List Con)) true)) tv
def bIf (a:List Con)(b:Addr)(c d:Nat):=fun e=>(tT 0 (bGC a b c d)<|.i [rn 8,.toL 5 true []] [.q (p:=getCells (putCells .leaf 0 []) 0 (0*2) =some []) rfl,hr true]<|gu 0 0 (jC ([] :List Con))<|gs 0 5 (.gl 0 2 0 ([] :List Con).length true)<|.i [.weak 5] []<|ga 0 Con.av ([] :List Con) a<|gz 3 2 1 2 Con.av (([] :List Con) ++a) false<|gE 0 2 (iC (([] :List Con) ++a))) e tv
theorem aQO {P:Program}{m:Nat}{s:AS}{v v':AV}{h':Hp}(h:Ends P m s (.ret v) h')(b:∀ (E:Emb) (a:Value),VR E v a→VR E v' a) :Ends P m s (.ret v') h':=Ends.val h b
theorem aGq (xs:List Con)(h:xs.length≤1000000) :aK PP 90 [.ilst 2 (map Con.av xs) false] (.ilst 2 (map Con.av xs) false) :=by
 refine oI (s:=bE5 xs) aC aC (by simp [keylessL,keyless]) (by simp [keyless]) ((bId xs).ends ?_);refine aVP (j:=3) (e:=2) (ex:=false) (xs:=map Con.av xs) aC (fun d=>?_) (fun a n c=>?_)
 · have d:xs= [] :=by simpa using d
   subst d;have b:=aQO (bIe []) (fun E g f=>hY f);exact Eq.mp aC b
 · have b:=bIf xs a n c (by simpa using h);rw [List.nil_append]at b;exact Eq.mp aC b
abbrev OFl (n:Nat)(mn:Int)(cs:List Con)(us:List (Nat×Nat))(ts:List XT) :HL:=[(0,(.cells (putCells .leaf 0 [(.gl 1 1 0 n false),(.int .i64 mn),(.ilst 2 (map Con.av cs) false)]) 3 [] false),false),(1,(.lst 1 (map aW us)),true),(2,(.zone true [] (ZV us (ts.map some))),false)]
abbrev OFm (n:Nat)(mn:Int)(cs:List Con)(ts:List XT) :HL:=[(0,(.cells (putCells .leaf 0 [(.gl 1 1 0 n false),(.int .i64 mn),(.ilst 2 (map Con.av cs) false)]) 3 [] false),false),(1,gh,false),(3,(.zone true [1] (cH ts)),false)]
theorem aYe {s:AS}{n:Nat}{mn:Int}{cs:List Con}{us:List (Nat×Nat)}{ts:List XT}(a:ts≠ [])(e:Ends PP 0 s (.ret (.ptr 0 0)) (aA (OFl n mn cs us ts) 3)) :Ends PP 0 s (.ret (.ptr 0 0)) (aA (FHl n mn cs ts) 3) :=by
 have z:kN (aA (OFl n mn cs us ts) 3) (aA (OFm n mn cs ts) 4) :=
  aCU (h:=aA (OFl n mn cs us ts) 3) (h':=aA (OFm n mn cs ts) 4) (k:=1) (g:=2) (us:=us) (ts:=ts) aC aC a (Nat.le_refl _)
   (bC ⟨.inr (.inr ⟨by decide,by decide,by kernel_rfl⟩),.inl ⟨rfl,rfl⟩,.inr (.inl ⟨rfl,rfl⟩),trivial⟩)
 exact dW (ks:=[0,1,3]) (rF e z (Nat.zero_le _)) aC aC aC trivial
section
variable {p :Prog} (hf:aGf p)
theorem aSg (g:aGf p)(hl:p.funs.length≤1000) :∀ (d a:List XT) (b:List (Nat×Nat)) (i:Nat),aO p d (p.funs.drop i) →a.length=i→b.length=i→a++d≠ [] →
  Ends PP 0 (aGh p p.cons (i:Int) b (a.map some)).as (.ret (.ptr 0 0)) (aA (FHl (a++d).length p.main p.cons (a++d)) 3)
 | [],a,b,i,h,e,f,c=>by
  simp only [aO]at h;have s:=bH h;rw [rQ]at c ⊢;rw [show a.length=b.length by omega];exact aYe c (bCL p p.cons (i:Int) b (a.map some) sd)
 | t::d,a,b,i,h,e,f,c=>by
  simp only [aO]at h;obtain⟨k,v,l,n,o⟩ :=h;obtain⟨q,j,r⟩ :=bE l;refine(bCH p p.cons (i:Int) b (a.map some) k t sd sd sd (qO (m:=0) (ks:=[]) (aIa g t k n) aC aC trivial trivial) (by omega)).ends (bGs p p.cons t (i:Int) b (a.map some) fun u=>?_);refine(bCM p p.cons t (i:Int) b (a.map some) u sd).ends ?_;have:=aSg g hl d (a++ [t]) (b++ [u]) (i+1) (by rw [j];exact o) (by simp [e]) (by simp [f]) (by simp);rw [zq9,aIx]at this;exact this
theorem aSh (b:aGf p)(hl:p.funs.length≤1000)(hc:p.cons.length≤1000000){ts:List XT}(h:aO p ts p.funs)(a:ts≠ []) :eS PP 0 (.enter 48 [Prog.av p]) (aA [] 0) (.ret (.ptr 0 0)) (aA (FHl ts.length p.main p.cons ts) 3) :=by
 refine⟨(bEU p).as.fr,by kernel_rfl,?_⟩;have:=aSg b hl ts [] [] 0 (by simpa using h) rfl rfl (by simpa using a);exact((bCJ p p.cons (aGq _ hc)).trans ((bGr p p.cons).trans (bCK p p.cons))).ends this
end
theorem vW {p:Prog}(a:aM p=true) :∀ (i:Nat) (x:Node),p.nodes[i]?=some x→bG p x=true:=by
 simp only [aM,dS]at a;obtain⟨_,a⟩ :=a;split at a
 · unfold allT at a;split at a
   · rename_i v c;exact fun i x b=> (mJ c i x b).1
   ·cases a
 ·cases a
theorem aEF {p:Prog}(b:aJ p=true) :aGf p:=fun nd e=>by
 simp only [aJ,dS,decide_eq_true_eq]at b;have h:=zq27.1 b.2 nd e;simp only [bO,dS,decide_eq_true_eq]at h;obtain⟨⟨g,f⟩,c⟩ :=h;refine⟨by omega,?_⟩
 have:∀l:List Pat,gU l=true→bI l≤16*l.length:=fun l=>by
  induction l with
  |nil=>intro _;simp [bI]
  | cons q l d=>
   intro a;simp only [gU,all_cons,dS]at a;have:=d a.2;simp only [xT,dS,decide_eq_true_eq]at a;simp only [bI,qN];omega
 have:=this _ c;omega
theorem bGD {p:Prog}{x:Node}(h:bG p x=true) :aV x.op x.kids.length≤x.kids.length:=by
 simp only [bG,dS,decide_eq_true_eq]at h;obtain⟨_,b⟩ :=h;unfold aV;split
 · rename_i a;simp only [dR,Bool.or_eq_true,decide_eq_true_eq]at a;have:1≤cK x.op x.pats.length (iM p x) :=by
    rcases a with((((((h|h) |h) |h) |h) |h) |h) |h<;>rw [h] <;>simp [cK] <;>omega
   omega
 ·split<;>omega
theorem bDv {p:Prog}{x:Node}(h:bG p x=true)(h1:fJ x.op=true)(h2:x.op≠14) :x.kids.length=2:=by
 simp only [bG,dS,decide_eq_true_eq]at h;obtain⟨_,a⟩ :=h;simp only [fJ,Bool.or_eq_true,decide_eq_true_eq]at h1;have:cK x.op x.pats.length (iM p x) =2:=by
  rcases h1 with(((((((h|h) |h) |h) |h) |h) |h) |h) |h
  all_goals first|exact absurd h h2| (rw [h];simp [cK])
 omega
mutual
theorem aUR {p:Prog}(hp:FineP p)(m:∀ (i:Nat) (x:Node),p.nodes[i]?=some x→bG p x=true) :∀ (t:XT) (c:Int),IsTree p t c→FineX 400 t
 | .mk o n r z,c,h=>by
  simp only [IsTree]at h;obtain⟨A,nd,j,rfl,rfl,rfl,s⟩ :=h;have b:=m _ nd j;obtain⟨f,B,_⟩ :=hp.node _ nd j;have a:r.length=nd.kids.length:=by
   have:∀ (d:List XT) (l:List Int),aO p d l→d.length=l.length:=fun d=>by
    induction d with
    |nil=>intro l h;simp only [aO]at h;rw [h];rfl
    |cons t d w=>intro l h;simp only [aO]at h;obtain⟨k,C,rfl,_,y⟩ :=h;simp [w _ y]
   exact this _ _ s
  simp only [FineX];refine⟨fun e=>?_,by omega,fun q g=>by have:= (f.pats q g).1;omega,fun e=>by rw [a];exact f.mat e,fun e=>by rw [a];exact f.let2 e,⟨by rw [a];exact bGD b,?_,fun v u=>by rw [a];exact bDv b v u,fun q g=>aW2 p.cons q (f.pats q g).2⟩,vJ hp m r nd.kids s⟩
  · simp only [bG,iL,dS]at b;have:=b.1.1.1;rw [e]at this;simp [eG,dY]at this;omega
  · simp only [bG,iL,dS]at b;have:=b.1.1.2;split at this
    ·simp [dY]at this;omega
    ·simp at this;simp [this]
theorem vJ {p:Prog}(hp:FineP p)(b:∀ (i:Nat) (x:Node),p.nodes[i]?=some x→bG p x=true) :∀ (a:List XT) (l:List Int),aO p a l→FineXs 400 a
 | [],_,_=>trivial
 | t::a,l,h=>by
  simp only [aO]at h;obtain⟨k,e,rfl,d,c⟩ :=h;exact⟨aUR hp b t k d,vJ hp b a e c⟩
end
theorem yD {p:Prog}:∀ (l:List Int),(∀k∈l,∃t,IsTree p t k) →∃b,aO p b l
 | [],_=> ⟨[],rfl⟩
 | k::l,h=>by
  obtain⟨t,c⟩ :=h k (cQ ..);obtain⟨b,a⟩ :=yD l (fun x d=>h x (cL _ d));exact⟨t::b,by simp only [aO];exact⟨k,l,rfl,c,a⟩⟩
theorem aSi {p:Prog}(hp:FineP p) :∀ (d:Nat) (k:Int),0≤k→k<p.nodes.length→p.nodes.length-k.toNat≤d→∃t,IsTree p t k
 |0,k,e,h,g=>by omega
 | d+1,k,e,h,g=>by
  obtain⟨nd,a⟩ :∃nd,p.nodes[k.toNat]?=some nd:= ⟨_,kX (by omega)⟩;obtain⟨_,_,hk⟩ :=hp.node _ nd a
  obtain⟨f,b⟩ :=yD (p:=p) nd.kids (fun c hc=>by
   have:=hk c hc;exact aSi hp d c (by omega) this.2 (by omega))
  exact⟨.mk nd.op nd.n f nd.pats,by simp only [IsTree];exact⟨e,nd,a,rfl,rfl,rfl,b⟩⟩
theorem aYf {p:Prog}(hp:FineP p) :∃a,aO p a p.funs:=yD p.funs (fun k hk=>by
 have:=hp.funs k hk;exact aSi hp p.nodes.length k this.1 this.2 (by omega))
theorem eQ {p:Prog}:∀ {a:List XT} {l:List Int},aO p a l→a.length=l.length
 | [],l,h=>by simp only [aO]at h;rw [h];rfl
 |t::a,l,h=>by simp only [aO]at h;obtain⟨k,c,rfl,_,b⟩ :=h;simp [eQ b]
theorem bIg {p:Prog}(a:aJ p=true)(b:aM p=false) :eS PP 0 (.enter 34 [Prog.av p]) (aA [] 0) (.ret (.tup [.nilp,.int .i64 2])) (aA [] 0) :=by
 have hc:=yC a;rw [b]at hc;exact⟨(aSf p).as.fr,by kernel_rfl,bDs p _ hc (by rfl)⟩
theorem bDw {p:Prog}(b:aJ p=true)(d:aM p=true)(a: (cP p).1=false) :eS PP 0 (.enter 34 [Prog.av p]) (aA [] 0) (.ret (.tup [.nilp,.int .i64 7])) (aA [] 0) :=by
 have hc:=yC b;rw [d]at hc;have c:=vI b;rw [a]at c;exact⟨(aSf p).as.fr,by kernel_rfl,bDt p _ false _ hc (by rfl) c rfl⟩
theorem bGE {p:Prog}(a:aJ p=true)(f:aM p=true)(c: (cP p).1=true){ts:List XT}(e:aO p ts p.funs)(b:ts≠ []) :eS PP 0 (.enter 34 [Prog.av p]) (aA [] 0) (.ret (.tup [.ptr 0 0,.int .i64 0])) (aA (FHl ts.length p.main p.cons ts) 3) :=by
 have hc:=yC a;rw [f]at hc;have d:=vI a;rw [c]at d;have hb:=a;simp only [aJ,dS,decide_eq_true_eq]at hb;exact⟨(aSf p).as.fr,by kernel_rfl,bDu p _ true _ ts p.main p.cons hc (by rfl) d rfl (qO (m:=0) (ks:=[]) (aSh (aEF a) (by omega) (by omega) e b) aC aC trivial trivial)⟩
abbrev aCg (a:List XT):AV:=.ilst 1 (XTs.av a) false
abbrev aKv (a:Nat)(b c d e:Int)(f:List XT)(g:List Pat):=oC a [(nI b),(nI c),(.iptr [(.iptr [(nI d),(nI e),(aCg f),(iP g)])])]
abbrev aEG (a:Nat)(b:List XT)(c:Int)(d:List Con):=oC a [(.iptr [(aCg b),(nI c),(iC d)])]
abbrev aYg (a:List XT)(b:Int)(c:List Con)(d e f g h:Int)(i:List XT)(j:List Pat):=aA [(0,(.loop .done (some .ret) 93 (dK [kp 2 6]) 19 [6] (kd f93 28) (kd f93 29) 2),false),aEG 1 a b c,(2,(.defd false),false),oC 3 [(nI d)],(4,(.loop .done (some .ret) 47 (dK [kp 2 3]) 9 [6] (kd f47 52) (kd f47 53) 5),false),(5,(.defd false),false),oC 6 [(.yield 4)],aKv 7 e f g h i j] 8
abbrev aKw (a:List XT)(b:Int)(c:List Con)(d e f g:Int)(h:List XT)(i:List Pat):=aA [(0,(.loop .ready none 93 (dK [kp 2 6]) 19 [6] (kd f93 28) (kd f93 29) 2),false),aEG 1 a b c,(2,(.defd false),false),oC 3 [(nI 0)],(4,(.loop .ready none 47 (dK [kp 2 3]) 9 [6] (kd f47 52) (kd f47 53) 5),false),(5,(.defd false),false),oC 6 [(.yield 4)],aKv 7 d e f g h i] 8
abbrev aYh (a:List XT)(b:Int)(c:List Con)(d e f g h i:Int)(j:List XT)(k:List Pat):=aA [(0,(.loop .done (some .ret) 75 (dK [kp 3 5,kp 4 2,kp 5 3]) 26 [9] (kd f75 116) (kd f75 117) 4),false),aEG 1 a b c,oC 2 [(bV false)],oC 3 [(nI d)],(4,(.defd false),false),oC 5 [(nI e)],aKv 6 f g h i j k] 7
abbrev aKx (a:List XT)(b:Int)(c:List Con)(d e f g h i:Int)(j:List XT)(k:List Pat):=aA [(0,(.loop .ready none 75 (dK [kp 3 5,kp 4 2,kp 5 3]) 26 [9] (kd f75 116) (kd f75 117) 4),false),aEG 1 a b c,oC 2 [(bV false)],oC 3 [(nI d)],(4,(.defd false),false),oC 5 [(nI e)],aKv 6 f g h i j k] 7
abbrev aKy (a b c d e:Int)(f:List XT)(g:List Pat):AV:=.agg [(nI a),(nI (IntKind.i64.wrap (b+c))),(.iptr [(.iptr [(nI d),(nI e),(aCg f),(iP g)])])]
abbrev aKz (a b c:Int)(d:List XT)(e:List Pat):AV:=.agg [(nI a),(nI 1),(.iptr [(.iptr [(nI b),(nI c),(aCg d),(iP e)])])]
abbrev fC (a:Nat)(b:List XT)(c:Int)(d:List Con):=oC a [(.iptr [(aCg b),(nI c),(iC d)])]
abbrev kG (a:List XT):AV:=.ilst 1 (XTs.av a) false
def bIh(a:List XT)(b:Int)(c:List Con):TS:=aX PP 47 [(.iptr [(kG a),(nI b),(iC c)])] [] 0
def aKA(a:List XT)(b:Int)(c:List Con)(d e:Int):TS:=⟨(tf 135 26 [(0,(.yield 0)),kp 1 1,(3,(nI d)),(9,(nI (a.length:Int))),(10,(nI e))] [kc f135 28,kl f135 28,.inBlock 0]),[(tf 93 19 [] [.inRF 0,.inBlock 0] (defers:=[.col 2])),(tf 47 9 [kp 2 3] [.inRF 4,.inBlock 0,kc f47 7] (defers:=[.col 5]))],[(0,(.loop .ready none 93 (dK [kp 2 6]) 19 [6] (kd f93 28) (kd f93 29) 2),false),fC 1 a b c,(2,(.defd false),false),oC 3 [(nI 0)],(4,(.loop .ready none 47 (dK [kp 2 3]) 9 [6] (kd f47 52) (kd f47 53) 5),false),(5,(.defd false),false),oC 6 [(.yield 4)]],7⟩
def aYi(a:List XT)(b:Int)(c:List Con)(d e f g:Int)(i:List XT)(j:List Pat):TS:=aX PP 136 [(.agg [(nI d),(nI e),(.iptr [(.iptr [(nI f),(nI g),(kG i),(iP j)])])]),(.yield 0)] [(0,(.loop .ready none 93 (dK [kp 2 6]) 19 [6] (kd f93 28) (kd f93 29) 2),false),fC 1 a b c,(2,(.defd false),false),oC 3 [(nI 0)],(4,(.loop .ready none 47 (dK [kp 2 3]) 9 [6] (kd f47 52) (kd f47 53) 5),false),(5,(.defd false),false),oC 6 [(.yield 4)]] 7
def aCh(e:List XT)(f:Int)(g:List Con)(i j b c:Int)(a:List XT)(d:List Pat)(k l:Int):TS:=⟨(tf 136 48 [(1,(.yield 0)),kp 2 7,(4,(nI 0)),(5,(nI k)),(6,(.iptr [(nI b),(nI c),(kG a),(iP d)])),(23,(nI (a.length:Int))),(24,(nI l))] [kc f136 500,kl f136 500,.inBlock 0,kc f136 63]),[],[(0,(.loop .ready none 93 (dK [kp 2 6]) 19 [6] (kd f93 28) (kd f93 29) 2),false),fC 1 e f g,(2,(.defd false),false),oC 3 [(nI 0)],(4,(.loop .ready none 47 (dK [kp 2 3]) 9 [6] (kd f47 52) (kd f47 53) 5),false),(5,(.defd false),false),oC 6 [(.yield 4)],oC 7 [(nI i),(nI j),(.iptr [(.iptr [(nI b),(nI c),(kG a),(iP d)])])]],8⟩
def bIi(a:List XT)(b:Int)(c:List Con)(d:Int):TS:=aX PP 75 [(.iptr [(kG a),(nI b),(iC c)]),(nI d)] [] 0
def aKB(a:List XT)(b:Int)(c:List Con)(d e f g:Int):TS:=⟨(tf 135 26 [(0,(.yield 0)),kp 1 1,(3,(nI e)),(9,(nI (a.length:Int))),(10,(nI f))] [kc f135 28,kl f135 28,.inBlock 0]),[(tf 75 26 [(0,(.iptr [(kG a),(nI b),(iC c)])),kp 4 2,kp 5 3] [.inRF 0,.inBlock 0,kc f75 15] (defers:=[.col 4]))],[(0,(.loop .ready none 75 (dK [kp 3 5,kp 4 2,kp 5 3]) 26 [9] (kd f75 116) (kd f75 117) 4),false),fC 1 a b c,oC 2 [(bV false)],oC 3 [(nI g)],(4,(.defd false),false),oC 5 [(nI d)]],6⟩
def aYj(a:List XT)(b:Int)(c:List Con)(d e f g i j:Int)(k:List XT)(l:List Pat):TS:=aX PP 136 [(.agg [(nI f),(nI g),(.iptr [(.iptr [(nI i),(nI j),(kG k),(iP l)])])]),(.yield 0)] [(0,(.loop .ready none 75 (dK [kp 3 5,kp 4 2,kp 5 3]) 26 [9] (kd f75 116) (kd f75 117) 4),false),fC 1 a b c,oC 2 [(bV false)],oC 3 [(nI e)],(4,(.defd false),false),oC 5 [(nI d)]] 6
def aCi(e:List XT)(f:Int)(g:List Con)(i o j k b c:Int)(a:List XT)(d:List Pat)(l m n:Int):TS:=⟨(tf 136 48 [(1,(.yield 0)),kp 2 6,(4,(nI 0)),(5,(nI l)),(6,(.iptr [(nI b),(nI c),(kG a),(iP d)])),(23,(nI (a.length:Int))),(24,(nI m))] [kc f136 500,kl f136 500,.inBlock 0,kc f136 63]),[],[(0,(.loop .ready none 75 (dK [kp 3 5,kp 4 2,kp 5 3]) 26 [9] (kd f75 116) (kd f75 117) 4),false),fC 1 e f g,oC 2 [(bV false)],oC 3 [(nI n)],(4,(.defd false),false),oC 5 [(nI i)],oC 6 [(nI j),(nI k),(.iptr [(.iptr [(nI b),(nI c),(kG a),(iP d)])])]],7⟩
def bDx (a:List XT)(b:Int)(c:List Con):=(tT 0 (bIh a b c)<|.i [rn 24,.lkeep 3 [2]] []<|.i [rn 23,.lkeep 7 [2]] []<|.i [rn 10,aL a] [.q (p:=((XTs.av a).length:Int) = (a.length:Int)) (eM cR _)]<|.W 4 8 [7,5,6,0,3,2,4] (aKA a b c 0 0)) tv
def aQP(a:List XT)(b:Int)(c:List Con)(e d:Int):=tT 0 (aKA a b c e d)<|gd 5 11 (d< (a.length:Int)) (.y fun f:Int=>.y fun g:Int=>.y fun i:List XT=>.y fun j:List Pat=>giF cR 17 a d (XT.mk f g i j)<|.o (.y fun l:Int=>gk 2 (.enter 136 [(aKz e f g i j),(.yield 0)]) [(0,(.loop .ready none 93 (dK [kp 2 6]) 19 [6] (kd f93 28) (kd f93 29) 2),false),fC 1 a b c,(2,(.defd false),false),oC 3 [(nI 0)],(4,(.loop .ready none 47 (dK [kp 2 3]) 9 [6] (kd f47 52) (kd f47 53) 5),false),(5,(.defd false),false),oC 6 [(.yield 4)]] 7 (nI (-1)) [(0,(.loop .done (some .ret) 93 (dK [kp 2 6]) 19 [6] (kd f93 28) (kd f93 29) 2),false),fC 1 a b c,(2,(.defd false),false),oC 3 [(nI l)],(4,(.loop .done (some .ret) 47 (dK [kp 2 3]) 9 [6] (kd f47 52) (kd f47 53) 5),false),(5,(.defd false),false),oC 6 [(.yield 4)]] 7<|gE 17 7 (nI l))<|.y fun k:Int=>gk 2 (.enter 136 [(aKz e f g i j),(.yield 0)]) [(0,(.loop .ready none 93 (dK [kp 2 6]) 19 [6] (kd f93 28) (kd f93 29) 2),false),fC 1 a b c,(2,(.defd false),false),oC 3 [(nI 0)],(4,(.loop .ready none 47 (dK [kp 2 3]) 9 [6] (kd f47 52) (kd f47 53) 5),false),(5,(.defd false),false),oC 6 [(.yield 4)]] 7 (nI k) [(0,(.loop .ready none 93 (dK [kp 2 6]) 19 [6] (kd f93 28) (kd f93 29) 2),false),fC 1 a b c,(2,(.defd false),false),oC 3 [(nI 0)],(4,(.loop .ready none 47 (dK [kp 2 3]) 9 [6] (kd f47 52) (kd f47 53) 5),false),(5,(.defd false),false),oC 6 [(.yield 4)]] 7<|gd 7 24 (k<0) (gE 16 7 (nI (-1)))<|gw 5 25 (d+1)<|.W 3 7 [0,1,2,3,4,5,6] (aKA a b c k (d+1)))<|gE 17 7 (nI (-1))
def bDy:=fun a b c d e f g i j k l m n o=>aQP a b c d e|>.t l f g i j m n|>.1 k o tv
def bDz:=fun a b c d e f g i j k l m n o p q=>aQP a b c d e|>.t l f g i j m n|>.2 k o|>.f p q tv
def bDA:=fun a b c d e f=>aQP a b c d e|>.f f tv
def aQQ(f:List XT)(g:Int)(i:List Con)(b j c d:Int)(a:List XT)(e:List Pat):=tT 7 (aYi f g i b j c d a e)<|.o (.y fun k:Int=>gp 23 95 [(.iptr [(nI c),(nI d),(kG a),(iP e)])] (.iface 193 (nI k))<|.E 31 10 [] (nI (-1)) [(0,(.loop .done (some .ret) 93 (dK [kp 2 6]) 19 [6] (kd f93 28) (kd f93 29) 2),false),fC 1 f g i,(2,(.defd false),false),oC 3 [(nI b)],(4,(.loop .done (some .ret) 47 (dK [kp 2 3]) 9 [6] (kd f47 52) (kd f47 53) 5),false),(5,(.defd false),false),oC 6 [(.yield 4)]] 7)<|.o (gp 23 95 [(.iptr [(nI c),(nI d),(kG a),(iP e)])] (.iface 191 (.agg []))<|.E 31 10 [] (nI (-1)) [(0,(.loop .done (some .ret) 93 (dK [kp 2 6]) 19 [6] (kd f93 28) (kd f93 29) 2),false),fC 1 f g i,(2,(.defd false),false),oC 3 [(nI b)],(4,(.loop .done (some .ret) 47 (dK [kp 2 3]) 9 [6] (kd f47 52) (kd f47 53) 5),false),(5,(.defd false),false),oC 6 [(.yield 4)]] 7)<|gp 23 95 [(.iptr [(nI c),(nI d),(kG a),(iP e)])] (.nili)<|gw 21 14 (b+1)<|.i [rn 17,aL a] [.q (p:=((XTs.av a).length:Int) = (a.length:Int)) (eM cR _)]<|.W 4 9 [7] (aCh f g i b j c d a e (b+1) 0)
def aYk:=fun a b c d e f g i j k l=>aQQ a b c d e f g i j|>.1 k l tv
def aYl:=fun a b c d e f g i j k=>aQQ a b c d e f g i j|>.2|>.1 k tv
def aYm:=fun a b c d e f g i j k l=>aQQ a b c d e f g i j|>.2|>.2 k l tv
def aQR(c:List XT)(d:Int)(e:List Con)(k b f g:Int)(a:List XT)(i:List Pat)(r j:Int):=tT 7 (aCh c d e k b f g a i r j)<|gd 5 25 (j< (a.length:Int)) (.o (.y fun l:Int=>.y fun m:Int=>.y fun n:Int=>.y fun o:List XT=>.y fun p:List Pat=>.y fun s:Int=>.i [rn 10,.reg (rd 5 (.pure (nI l)::rd 6 [.ans (.idx (XT.av (XT.mk m n o p))),.d,.d,.call (nI (-1)) (aYg c d e s k b f g a i),.d]))] [hA (aK PP 178 [(.iptr [(nI f),(nI g),(kG a),(iP i)]),(nI j)] (nI l)),hA (0≤j),.a (((a)[j.toNat]?) =some (XT.mk m n o p)) (dL cR),hA (Spec PP (.enter 136 [(aKy r b l m n o p),(.yield 0)]) (aKw c d e k b f g a i) (.ret (nI (-1))) (aYg c d e s k b f g a i)),hr (ilst 1 (XTs.av a) false),hr (ilst 1 (XTs.av a) false),hr (nI b),hr (nI b)]<|.E 12 8 [] (nI (-1)) [(0,(.loop .done (some .ret) 93 (dK [kp 2 6]) 19 [6] (kd f93 28) (kd f93 29) 2),false),fC 1 c d e,(2,(.defd false),false),oC 3 [(nI s)],(4,(.loop .done (some .ret) 47 (dK [kp 2 3]) 9 [6] (kd f47 52) (kd f47 53) 5),false),(5,(.defd false),false),oC 6 [(.yield 4)]] 7)<|.y fun l:Int=>.y fun m:Int=>.y fun n:Int=>.y fun o:List XT=>.y fun p:List Pat=>.y fun q:Int=>.i [rn 10,.reg (rd 5 (.pure (nI l)::rd 6 [.ans (.idx (XT.av (XT.mk m n o p))),.d,.d,.call (nI q) (aKw c d e k b f g a i),.d]))] [hA (aK PP 178 [(.iptr [(nI f),(nI g),(kG a),(iP i)]),(nI j)] (nI l)),hA (0≤j),.a (((a)[j.toNat]?) =some (XT.mk m n o p)) (dL cR),hA (Spec PP (.enter 136 [(aKy r b l m n o p),(.yield 0)]) (aKw c d e k b f g a i) (.ret (nI q)) (aKw c d e k b f g a i)),hr (ilst 1 (XTs.av a) false),hr (ilst 1 (XTs.av a) false),hr (nI b),hr (nI b)]<|gd 5 44 (q<0) (.E 7 8 [] (nI q) [(0,(.loop .ready none 93 (dK [kp 2 6]) 19 [6] (kd f93 28) (kd f93 29) 2),false),fC 1 c d e,(2,(.defd false),false),oC 3 [(nI 0)],(4,(.loop .ready none 47 (dK [kp 2 3]) 9 [6] (kd f47 52) (kd f47 53) 5),false),(5,(.defd false),false),oC 6 [(.yield 4)]] 7)<|gw 5 46 (j+1)<|.W 3 8 [7] (aCh c d e k b f g a i q (j+1)))<|.E 8 8 [] (nI r) [(0,(.loop .ready none 93 (dK [kp 2 6]) 19 [6] (kd f93 28) (kd f93 29) 2),false),fC 1 c d e,(2,(.defd false),false),oC 3 [(nI 0)],(4,(.loop .ready none 47 (dK [kp 2 3]) 9 [6] (kd f47 52) (kd f47 53) 5),false),(5,(.defd false),false),oC 6 [(.yield 4)]] 7
def aYn:=fun a b c d e f g i j k l m n o p q r s t u v w=>aQR a b c d e f g i j k l|>.t s|>.1 m n o p q r t u v w tv
def aYo:=fun a b c d e f g i j k l m n o p q r s t u v w x y=>aQR a b c d e f g i j k l|>.t s|>.2 m n o p q r t u v w|>.f x y tv
def aYp:=fun a b c d e f g i j k l m=>aQR a b c d e f g i j k l|>.f m tv
def bDB (a:List XT)(b:Int)(c:List Con)(d:Int):=(tT 0 (bIi a b c d)<|.i [rn 30,.lkeep 5 [3,4,5]] []<|.i [rn 10,aL a] [.q (p:=((XTs.av a).length:Int) = (a.length:Int)) (eM cR _)]<|.W 4 6 [5,3,1,2,4,0] (aKB a b c d 0 0 0)) tv
def aKC(b:List XT)(c:Int)(a:List Con)(d i e g:Int):=tT 0 (aKB b c a d i e g)<|gd 5 11 (e< (b.length:Int)) (.y fun j:Int=>.y fun k:Int=>.y fun l:List XT=>.y fun m:List Pat=>giF cR 17 b e (XT.mk j k l m)<|.o (.y fun f:Int=>gk 2 (.enter 136 [(aKz i j k l m),(.yield 0)]) [(0,(.loop .ready none 75 (dK [kp 3 5,kp 4 2,kp 5 3]) 26 [9] (kd f75 116) (kd f75 117) 4),false),fC 1 b c a,oC 2 [(bV false)],oC 3 [(nI g)],(4,(.defd false),false),oC 5 [(nI d)]] 6 (nI (-1)) [(0,(.loop .done (some .ret) 75 (dK [kp 3 5,kp 4 2,kp 5 3]) 26 [9] (kd f75 116) (kd f75 117) 4),false),fC 1 b c a,oC 2 [(bV false)],oC 3 [(nI f)],(4,(.defd false),false),oC 5 [(nI d)]] 6<|gE 13 6 (bV false))<|.y fun f:Int=>.y fun n:Int=>gk 2 (.enter 136 [(aKz i j k l m),(.yield 0)]) [(0,(.loop .ready none 75 (dK [kp 3 5,kp 4 2,kp 5 3]) 26 [9] (kd f75 116) (kd f75 117) 4),false),fC 1 b c a,oC 2 [(bV false)],oC 3 [(nI g)],(4,(.defd false),false),oC 5 [(nI d)]] 6 (nI n) [(0,(.loop .ready none 75 (dK [kp 3 5,kp 4 2,kp 5 3]) 26 [9] (kd f75 116) (kd f75 117) 4),false),fC 1 b c a,oC 2 [(bV false)],oC 3 [(nI f)],(4,(.defd false),false),oC 5 [(nI d)]] 6<|gd 7 24 (n<0) (gd 10 18 (f≤300) (gl 4 Con.av a<|gE 6 6 (bV (decide ((a.length:Int) ≤20))))<|gE 11 6 (bV false))<|gw 5 25 (e+1)<|.W 3 6 [0,1,2,3,4,5] (aKB b c a d n (e+1) f))<|gd 11 18 (g≤300) (gl 4 Con.av a<|gE 6 6 (bV (decide ((a.length:Int) ≤20))))<|gE 11 6 (bV false)
def bDC:=fun a b c d e f g i j k l m n o p q=>aKC a b c d e f g|>.t n i j k l o p|>.1 m q tv
def bDD:=fun a b c d e f g i j k l m n o p q r s t=>aKC a b c d e f g|>.t o i j k l p q|>.2 m n r|>.f s t tv
def bDE:=fun a b c d e f g i j=>aKC a b c d e f g|>.f i|>.t j tv
def bDF:=fun a b c d e f g i j=>aKC a b c d e f g|>.f i|>.f j tv
def aYq(e:List XT)(f:Int)(g:List Con)(c a d i j k:Int)(b:List XT)(l:List Pat):=tT 6 (aYj e f g c a d i j k b l)<|gw 21 11 (a+1)<|gd 9 15 (i>c) (.E 14 8 [] (nI (-1)) [(0,(.loop .done (some .ret) 75 (dK [kp 3 5,kp 4 2,kp 5 3]) 26 [9] (kd f75 116) (kd f75 117) 4),false),fC 1 e f g,oC 2 [(bV false)],oC 3 [(nI (a+1))],(4,(.defd false),false),oC 5 [(nI c)]] 6)<|gw 13 14 (d+1)<|.i [rn 17,aL b] [.q (p:=((XTs.av b).length:Int) = (b.length:Int)) (eM cR _)]<|.W 4 8 [6] (aCi e f g c a d i j k b l (d+1) 0 (a+1))
def aYr:=fun a b c d e f g i j k l m n=>aYq a b c d e f g i j k l m|>.t n tv
def aYs:=fun a b c d e f g i j k l m n o=>aYq a b c d e f g i j k l m|>.f n o tv
def aQS(c:List XT)(d:Int)(e:List Con)(f v l b g i:Int)(a:List XT)(j:List Pat)(t k u:Int):=tT 6 (aCi c d e f v l b g i a j t k u)<|gd 5 25 (k< (a.length:Int)) (.o (.y fun n:Int=>.y fun o:Int=>.y fun p:Int=>.y fun q:List XT=>.y fun r:List Pat=>.y fun m:Int=>.i [rn 10,.reg (rd 5 (.pure (nI n)::rd 6 [.ans (.idx (XT.av (XT.mk o p q r))),.d,.d,.call (nI (-1)) (aYh c d e m f l b g i a j),.d]))] [hA (aK PP 178 [(.iptr [(nI g),(nI i),(kG a),(iP j)]),(nI k)] (nI n)),hA (0≤k),.a (((a)[k.toNat]?) =some (XT.mk o p q r)) (dL cR),hA (Spec PP (.enter 136 [(aKy t b n o p q r),(.yield 0)]) (aKx c d e u f l b g i a j) (.ret (nI (-1))) (aYh c d e m f l b g i a j)),hr (ilst 1 (XTs.av a) false),hr (ilst 1 (XTs.av a) false),hr (nI b),hr (nI b)]<|.E 12 7 [] (nI (-1)) [(0,(.loop .done (some .ret) 75 (dK [kp 3 5,kp 4 2,kp 5 3]) 26 [9] (kd f75 116) (kd f75 117) 4),false),fC 1 c d e,oC 2 [(bV false)],oC 3 [(nI m)],(4,(.defd false),false),oC 5 [(nI f)]] 6)<|.y fun n:Int=>.y fun o:Int=>.y fun p:Int=>.y fun q:List XT=>.y fun r:List Pat=>.y fun m:Int=>.y fun s:Int=>.i [rn 10,.reg (rd 5 (.pure (nI n)::rd 6 [.ans (.idx (XT.av (XT.mk o p q r))),.d,.d,.call (nI s) (aKx c d e m f l b g i a j),.d]))] [hA (aK PP 178 [(.iptr [(nI g),(nI i),(kG a),(iP j)]),(nI k)] (nI n)),hA (0≤k),.a (((a)[k.toNat]?) =some (XT.mk o p q r)) (dL cR),hA (Spec PP (.enter 136 [(aKy t b n o p q r),(.yield 0)]) (aKx c d e u f l b g i a j) (.ret (nI s)) (aKx c d e m f l b g i a j)),hr (ilst 1 (XTs.av a) false),hr (ilst 1 (XTs.av a) false),hr (nI b),hr (nI b)]<|gd 5 44 (s<0) (.E 7 7 [] (nI s) [(0,(.loop .ready none 75 (dK [kp 3 5,kp 4 2,kp 5 3]) 26 [9] (kd f75 116) (kd f75 117) 4),false),fC 1 c d e,oC 2 [(bV false)],oC 3 [(nI m)],(4,(.defd false),false),oC 5 [(nI f)]] 6)<|gw 5 46 (k+1)<|.W 3 7 [6] (aCi c d e f v l b g i a j s (k+1) m))<|.E 8 7 [] (nI t) [(0,(.loop .ready none 75 (dK [kp 3 5,kp 4 2,kp 5 3]) 26 [9] (kd f75 116) (kd f75 117) 4),false),fC 1 c d e,oC 2 [(bV false)],oC 3 [(nI u)],(4,(.defd false),false),oC 5 [(nI f)]] 6
def aYt:=fun a b c d e f g i j k l m n o p q r s t u v w x y z=>aQS a b c d e f g i j k l m n o|>.t v|>.1 p q r s t u w x y z tv
def aYu:=fun a b c d e f g i j k l m n o p q r s t u v w x y z A B C=>aQS a b c d e f g i j k l m n o|>.t w|>.2 p q r s t u v x y z A|>.f B C tv
def aYv:=fun a b c d e f g i j k l m n o p=>aQS a b c d e f g i j k l m n o|>.f p tv
theorem aNs (o n:Int)(ks:List XT)(ps:List Pat)(i:∀q∈ps,cB q≤1000)(k:Int)(hk:0≤k∧k≤1000)(hp:o=15→0<k→∃q,ps[(k-1).toNat]?=some q) :aK PP 178 [XT.av (.mk o n ks ps),.int .i64 k] (.int .i64 (aT o ps k)) :=by
 refine aG aC (by simp [keylessL,keyless,aLW]) rfl ?_;refine aA7 o ps k (fun z=>Ends PP 0 _ (.ret (.int .i64 z)) _) (fun h=>?_) (fun h g j q f=>?_) hp (fun h l=>?_)
 · by_cases a:o=5
   ·exact bBT o n ks ps k (by simpa using a)
   · by_cases b:o=27
     ·exact bBU o n ks ps k (by simpa using a) (by simpa using b)
     · have c:o=7∧k=1:=by omega
       exact bBV o n ks ps k (by simpa using a) (by simpa using b) (by simpa using c.1) (by simpa using c.2)
 · obtain⟨a,b,c,d⟩ :=q;have:=i _ (jQ f);exact bBX o n ks ps k a b c d _ (by simp;omega) (by simp;omega) (by simp;omega) (by simpa using g) sd sd (by omega) f (aGm (.mk a b c d) (by omega))
 · have a:¬o=5:=fun e=>h (.inl e);have b:¬o=27:=fun e=>h (.inr (.inl e));by_cases c:o=7
   · have d:¬k=1:=fun e=>h (.inr (.inr ⟨c,e⟩));exact bBW o n ks ps k (by simpa using a) (by simpa using b) (by simpa using c) (by simpa using d) (by simp;omega)
   · by_cases e:o=15
     ·exact bBY o n ks ps k (by simpa using a) (by simpa using b) (by simpa using c) (by simpa using e) (by simp;omega)
     ·exact bBZ o n ks ps k (by simpa using a) (by simpa using b) (by simpa using c) (by simpa using e)
mutual
def zOk (mo:Int) :XT→Int→Bool
 | .mk o _ ks ps,z=>decide (z≤mo) &&aKD mo o ps ks 0 z
def aKD (mo:Int)(o:Int)(ps:List Pat) :List XT→Nat→Int→Bool
 | [],_,_=>true
 |t::ts,i,z=>zOk mo t (z+aT o ps (i:Int)) &&aKD mo o ps ts (i+1) z
end
def vK (n:Int) :Bool:=decide (n≤300)
def aAE (mo:Int)(cs:List Con)(ts:List XT) :Bool:= (ts.all fun t=>zOk mo t 1) &&vK (aD ts:Nat) &&decide (cs.length≤20)
abbrev FTl (s1:LoopState)(p1:Option Code)(ts:List XT)(mn:Int)(cs:List Con)(mo:Int)(b:Bool)(c:Int) :HL:=[(0,(.loop s1 p1 75 (dK [(3,(.ptr 5 0)),(4,(.ptr 2 0)),(5,(.ptr 3 0))]) 26 [9] (cd Tryz.f75 [1,1,0,1,0,0]) (cd Tryz.f75 [1,1,0,1,0,1]) 4),false),(1,(.cells (putCells .leaf 0 [(.iptr [(.ilst 1 (XTs.av ts) false),(.int .i64 mn),(.ilst 2 (map Con.av cs) false)])]) 1 [] false),false),(2,(.cells (putCells .leaf 0 [(.bool b)]) 1 [] false),false),(3,(.cells (putCells .leaf 0 [(.int .i64 c)]) 1 [] false),false),(4,(.defd false),false),(5,(.cells (putCells .leaf 0 [(.int .i64 mo)]) 1 [] false),false)]
section
variable (F :List XT) (mn:Int) (cs:List Con) (mo:Int) (B:Int) (b0:Bool)
mutual
theorem aSj :∀ (t:XT),FineX B t→∀ (c a b:Int),0≤c→c+ (cJ t:Nat) ≤1000000→0≤a→a+ (cJ t:Nat) ≤1000000→0≤b→b+1000* (cJ t:Nat) ≤1000000000 →
  (zOk mo t b=true→eS PP 6 (.enter 136 [.agg [.int .i64 a,.int .i64 b,.iptr [XT.av t]],.yield 0]) (aA (FTl .ready none F mn cs mo false c) 6) (.ret (.int .i64 (a+ (cJ t:Nat)))) (aA (FTl .ready none F mn cs mo false (c+ (cJ t:Nat))) 6)) ∧
  (zOk mo t b=false→∃i,eS PP 6 (.enter 136 [.agg [.int .i64 a,.int .i64 b,.iptr [XT.av t]],.yield 0]) (aA (FTl .ready none F mn cs mo false c) 6) (.ret (.int .i64 (-1))) (aA (FTl .done (some .ret) F mn cs mo false i) 6))
 | .mk o n d g,k,c,a,b,C,u,A,s,v,r=>by
  simp only [FineX]at k;obtain⟨_,w,l,p,z,x,q⟩ :=k;simp only [cJ]at u s r;have f:dG PP (aA (FTl .ready none F mn cs mo false c) 6) (.enter 136 [.agg [.int .i64 a,.int .i64 b,.iptr [XT.av (.mk o n d g)]],.yield 0]) =some (aYj F mn cs mo c a b o n d g).as.fr:=by kernel_rfl
  have y:∀m:Int,a+1+m=a+ (1+m) :=fun m=>by omega
  simp only [zOk,cJ];by_cases hz:b≤mo
  · have st:=aYs F mn cs mo c a b o n d g sd (by simp;omega) sd;have j:=aSk c a b o n d g w l p v d 0 (a+1) (c+1) rfl q (by omega) (by omega) (by omega) (by omega) (by omega);rw [decide_eq_true hz,mL];refine⟨fun h=> ⟨_,f,?_⟩,fun h=>?_⟩
    · have:=st.ends (j.1 h);rw [show a+1+ ((aD d:Nat) :Int) =a+ ((aD d+1:Nat) :Int)by omega,show c+1+ ((aD d:Nat) :Int) =c+ ((aD d+1:Nat) :Int)by omega]at this;exact this
    · obtain⟨i,e⟩ :=j.2 h;exact⟨i,_,f,st.ends e⟩
  · rw [decide_eq_false hz,Bool.false_and];refine⟨fun h=> (by cases h),fun _=> ⟨c+1,_,f,?_⟩⟩;exact aYr F mn cs mo c a b o n d g sd (by simp;omega)
theorem aSk (k g d:Int)(o n:Int)(ks:List XT)(ps:List Pat)(L:ks.length≤1000)(u:∀q∈ps,cB q≤1000)(y:o=15→ks.length=1+ps.length)(h2:0≤d) :
  ∀ (b:List XT) (i:Nat) (a c:Int),ks.drop i=b→FineXs B b→0≤c→c+ (aD b:Nat) ≤1000000→0≤a→a+ (aD b:Nat) ≤1000000→d+1000+1000* (aD b:Nat) ≤1000000000 →
  (aKD mo o ps b i d=true→Ends PP 6 (aCi F mn cs mo k g d o n ks ps a (i:Int) c).as (.ret (.int .i64 (a+ (aD b:Nat)))) (aA (FTl .ready none F mn cs mo false (c+ (aD b:Nat))) 6)) ∧
  (aKD mo o ps b i d=false→∃j,Ends PP 6 (aCi F mn cs mo k g d o n ks ps a (i:Int) c).as (.ret (.int .i64 (-1))) (aA (FTl .done (some .ret) F mn cs mo false j) 6))
 | [],i,a,c,h,_,_,_,_,_,_=>by
  have:=bH h;simp only [aKD,aD];refine⟨fun _=>?_,fun h=> (by cases h)⟩;have e:=aYv F mn cs mo k g d o n ks ps a (i:Int) c sd;rw [show a+ ((0:Nat) :Int) =a by omega,show c+ ((0:Nat) :Int) =c by omega];exact e
 | .mk s r p l::b,i,a,c,h,v,K,C,M,D,z=>by
  obtain⟨Q,I,R⟩ :=bE h;simp only [FineXs]at v;simp only [aD]at C D z ⊢;have O:=kO (o:=o) u (i:Int);have G:IntKind.i64.wrap (d+aT o ps (i:Int)) =d+aT o ps (i:Int) :=wrap64 (by omega) (by omega)
  have J:o=15→0< (i:Int) →∃q,ps[((i:Int) -1).toNat]?=some q:=fun w N=>by
   have:=y w;exact⟨_,kX (by omega)⟩
  have t:=aSj (.mk s r p l) v.1 c a (d+aT o ps (i:Int)) K (by omega) M (by omega) (by omega) (by omega);have H:=aNs o n ks ps u (i:Int) ⟨by omega,by omega⟩ J;simp only [aKD];generalize S:cJ (.mk s r p l) =f at t C D z ⊢;cases hz:zOk mo (.mk s r p l) (d+aT o ps (i:Int))
  case false=>
   rw [Bool.false_and];refine⟨fun h=> (by cases h),fun _=>?_⟩;obtain⟨j,e⟩ :=t.2 hz;exact⟨j,aYt F mn cs mo k g d o n ks ps a (i:Int) c _ s r p l j sd H sd sd (bCQ G (qO (m:=6) (ks:=[0,1,2,3,4,5]) e aC aC trivial trivial))⟩
  rw [mL];have e:=t.1 hz;have st:=aYu F mn cs mo k g d o n ks ps a (i:Int) c _ s r p l (c+ (f:Nat)) (a+ (f:Nat)) sd H sd sd (bCQ G (qO (m:=6) (ks:=[0,1,2,3,4,5]) e aC aC trivial trivial)) (by simp;omega) sd;have A:=aSk k g d o n ks ps L u y h2 b (i+1) (a+ (f:Nat)) (c+ (f:Nat)) I v.2 (by omega) (by omega) (by omega) (by omega) (by omega);refine⟨fun h=>?_,fun h=>?_⟩
  · have x:=st.ends (A.1 h);rw [show a+ ((f+aD b:Nat) :Int) =a+ (f:Nat) + ((aD b:Nat) :Int)by omega,show c+ ((f+aD b:Nat) :Int) =c+ (f:Nat) + ((aD b:Nat) :Int)by omega];exact x
  · obtain⟨j,x⟩ :=A.2 h;exact⟨j,st.ends x⟩
end
end
theorem aIg (ts:List XT)(mn:Int)(cs:List Con)(mo B:Int)(hl:ts.length≤1000) :∀ (a:List XT) (i:Nat) (n c:Int),ts.drop i=a→FineXs B a→0≤c→c+ (aD a:Nat) ≤100000→0≤n→n+ (aD a:Nat) ≤100000 →
  Ends PP 0 (aKB ts mn cs mo n (i:Int) c).as (.ret (.bool ((a.all fun t=>zOk mo t 1) &&vK (c+ (aD a:Nat)) &&decide (cs.length≤20)))) (aA [] 0)
 | [],i,n,c,h,_,_,_,_,_=>by
  have:=bH h;simp only [List.all_nil,mL,aD];rw [show c+ ((0:Nat) :Int) =c by omega];by_cases g:c≤300
  · rw [show vK c=true from decide_eq_true g,mL];have e:=bDE ts mn cs mo n (i:Int) c sd sd;have s:decide (((length cs:Nat) :Int) ≤ (20:Int)) =decide (cs.length≤20) :=by simp;omega
    rw [s]at e;exact e
  · rw [show vK c=false from decide_eq_false g,Bool.false_and];exact bDF ts mn cs mo n (i:Int) c sd sd
 | .mk k j f d::a,i,n,c,h,o,x,p,w,q=>by
  obtain⟨y,r,z⟩ :=bE h;simp only [FineXs]at o;simp only [aD]at p q ⊢;have l:=aSj ts mn cs mo B (.mk k j f d) o.1 c n 1 x (by omega) w (by omega) (by omega) (by omega);generalize A:cJ (.mk k j f d) =b at l p q ⊢;simp only [all_cons];cases hz:zOk mo (.mk k j f d) 1
  case false=>
   obtain⟨u,e⟩ :=l.2 hz;rw [Bool.false_and,Bool.false_and,Bool.false_and];exact bDC ts mn cs mo n (i:Int) c k j f d u sd sd sd (qO (m:=6) (ks:=[0,1,2,3,4,5]) e aC aC trivial trivial)
  have e:=l.1 hz;rw [mL];refine(bDD ts mn cs mo n (i:Int) c k j f d (c+ (b:Nat)) (n+ (b:Nat)) sd sd sd (qO (m:=6) (ks:=[0,1,2,3,4,5]) e aC aC trivial trivial) (by simp;omega) sd).ends ?_;have v:=aIg ts mn cs mo B hl a (i+1) (n+ (b:Nat)) (c+ (b:Nat)) r o.2 (by omega) (by omega) (by omega) (by omega);rw [show c+ ((b+aD a:Nat) :Int) =c+ (b:Nat) + ((aD a:Nat) :Int)by omega];exact v
theorem aUS (ts:List XT)(mn:Int)(cs:List Con)(mo B:Int)(hl:ts.length≤1000)(a:FineXs B ts)(b:aD ts≤100000) :aK PP 75 [fvA ts mn cs,.int .i64 mo] (.bool (aAE mo cs ts)) :=by
 refine aG aC (by simp [keylessL,keyless,fvA]) rfl ((bDB ts mn cs mo).ends ?_);have e:=aIg ts mn cs mo B hl ts 0 0 0 rfl a (by omega) (by omega) (by omega) (by omega);rw [Int.zero_add]at e;exact e
section
variable {P :Program}
end
inductive Typ where
 |mk (sort n:Int) (text:cF) (parts:List Typ)
mutual
def Typ.av :Typ→AV
 | .mk f n t ps=>.agg [.int .i64 f,.int .i64 n,dP t,.ilst 4 (Typs.av ps) false]
def Typs.av :List Typ→List AV
 | [] =>[]
 |p::ps=>Typ.av p::Typs.av ps
end
inductive Term where
 |mk (op n:Int) (text:cF) (kids:List Term) (pats:List Pat)
mutual
def Term.av :Term→AV
 | .mk o n t ks ps=>.agg [.int .i64 o,.int .i64 n,dP t,.ilst 5 (Terms.av ks) false,.ilst 4 (Pats.av ps) false]
def Terms.av :List Term→List AV
 | [] =>[]
 |p::ps=>Term.av p::Terms.av ps
end
structure ConD where
 name:cF
 args:List Typ
def ConD.av (c:ConD) :AV:=.agg [dP c.name,.ilst 4 (Typs.av c.args) false]
structure DataD where
 name:cF
 cons:List ConD
def DataD.av (d:DataD) :AV:=.agg [dP d.name,.ilst 2 (map ConD.av d.cons) false]
inductive FunD where
 |mk (name param:cF) (frm to:Typ) (body:Term)
def FunD.av :FunD→AV
 | .mk n p (.mk f0 f1 f2 f3) (.mk g0 g1 g2 g3) (.mk b0 b1 b2 b3 b4) =>.agg [dP n,dP p,.int .i64 f0,.int .i64 f1,dP f2,.ilst 4 (Typs.av f3) false,.int .i64 g0,.int .i64 g1,dP g2,.ilst 4 (Typs.av g3) false,.int .i64 b0,.int .i64 b1,dP b2,.ilst 5 (Terms.av b3) false,.ilst 4 (Pats.av b4) false]
def FunDs.av (l:List FunD) :List AV:=map FunD.av l
structure Mod where
 name:cF
 datas:List DataD
 funs:List FunD
def Mod.av (m:Mod) :AV:=.agg [dP m.name,.ilst 2 (map DataD.av m.datas) false,.ilst 15 (FunDs.av m.funs) false]
inductive Part where
 |data (d:DataD)
 |fn (f:FunD)
section
variable {P :Program}
theorem aCj {E E':Emb}(c:E.le E') :∀ {f:List AV} {i:Nat} {y:AV} {e:List Value} {v:Value},VRs E f e→e[i]?=some v→VR E' y v→VRs E' (f.set i y) e
 | [],i,y,e,v,b,d,_=>by simp only [VRs]at b;subst b;simp at d
 | a::f,0,y,e,v,b,d,j=>by
  simp only [VRs]at b;obtain⟨u,g,rfl,k,h⟩ :=b;simp at d;subst d;simp only [List.set_cons_zero,VRs];exact⟨_,g,rfl,j,h.mono c⟩
 | a::f,i+1,y,e,v,b,d,j=>by
  simp only [VRs]at b;obtain⟨u,g,rfl,k,h⟩ :=b;simp only [rR]at d;simp only [List.set_cons_succ,VRs];exact⟨u,g,rfl,k.mono c,aCj c h d j⟩
theorem aNt {E:Emb}{c:List AV}{o:Nat}{v:AV}(hc:c[o]?=some v){cv:Value}(h:VR E (.agg c) cv) :∃a w,cv= .agg a.toArray∧VRs E c a∧a[o]?=some w∧VR E v w:=by
 rw [VR]at h;obtain⟨a,rfl,h⟩ :=h;obtain⟨w,d,b⟩ :=h.get _ _ hc;exact⟨a,w,rfl,h,d,b⟩
theorem aDT {m:Nat}{fr:AFrame}{cs:List AFrame}{h h1:Hp}{k e i o:Nat}{b c:List AV}{v v':AV}(hk:h.look k=some (.lst e b))(d:h1.look k=some (.lst e b))(p:b[i]?=some (.agg c))(hc:c[o]?=some v)(u:m≤h.nb→lW m h h1 v v') :
  LeadsM P m ⟨fr,cs,h⟩ ⟨fr,cs,h1.set k (.lst e (b.set i (.agg (c.set o v'))))⟩ :=fun hm E F l w s f fs r=>by
 obtain⟨t,a,y,D,j⟩ :=u hm E w r;have g:kL (.lst e b) =false:=by
  cases b with
  |nil=>simp at p
  |cons _ _=>rfl
 have hr:Rel t (h1.set k (.lst e (b.set i (.agg (c.set o v'))))) w.heap:=by
  refine y.reobj d g (fun L J=>?_) rfl rfl rfl;obtain⟨S,hE,C,Q,G,A,O,n,K,H⟩ :=r.obj _ _ hk g;have:=a.1 _ _ hE;rw [J]at this;cases this;obtain⟨R,M,x⟩ :=n.get _ _ p;obtain⟨B,q,rfl,N,I,z⟩ :=aNt hc x;refine⟨C,Q,G,A,O,aCj a n M ?_,K,H⟩;rw [VR];exact⟨B,rfl,aCj a N I (j q z)⟩
 exact⟨t,F,l,w,Steps.refl _ _,f.mono a,fs.mono a,hr,jW D d⟩
def LQ (zs:List AV)(i o:Nat)(v v':AV)(ys:List AV) :Prop:=∃c,zs[i]?=some (.agg c) ∧c[o]?=some v∧ys=zs.set i (.agg (c.set o v'))
theorem bDG {m:Nat}{s t:TS}{k b e0 e i o n:Nat}{u:Value}{xs d ys:List AV}(hk:s.as.h.look k=some (.lst e0 d))(hb:s.as.h.look b=some (.lstv u e xs))(a:k≠b)(g:xs.length=n)(h:LQ d i o (.val u) (.gl b e 0 n false) ys)
  (f:t.as= ⟨s.as.fr,s.as.cs,(s.as.h.set b (.lst e xs)).set k (.lst e0 ys)⟩) :LeadsM P m s.as t.as:=by
 subst g;obtain⟨c,j,l,rfl⟩ :=h;rw [f];exact aDT hk (by rw [bA,if_neg a];exact hk) j l (aBJ hb)
theorem bGG {m:Nat}{s t:TS}{k e0 e i o:Nat}{b ys:List AV}(hk:s.as.h.look k=some (.lst e0 b))(a:Nat.blt k s.as.h.nb=true)(f:LQ b i o .nils (.gl s.as.h.nb e 0 0 false) ys)
  (d:t.as= ⟨s.as.fr,s.as.cs,(s.as.h.new (.lst e [])).set k (.lst e0 ys)⟩) :LeadsM P m s.as t.as:=by
 obtain⟨c,h,g,rfl⟩ :=f;rw [d];rw [dD]at a;have:=of_decide_eq_true a;exact aDT hk (by rw [cM,if_neg (by omega)];exact hk) h g (aCJ e)
def NQ (zs:List AV)(i o b e n:Nat)(u:Value)(ys:List AV) :Prop:=0<n∧∃c ex,zs[i]?=some (.agg c) ∧c[o]?=some (.gl b e 0 n ex) ∧ys=zs.set i (.agg (c.set o (.val u)))
theorem aQT {m:Nat}{h:AS}{k b e0 e i o:Nat}{t xs:List AV}{ys:Value→List AV}{y:Res}{h':Hp}(A:h.h.look k=some (.lst e0 t))(l:h.h.look b=some (.lst e xs))(H:k≠b)(B:∀u,NQ t i o b e xs.length u (ys u))
  (hk:∀O S R,Ends P m ⟨h.fr,h.cs,(h.h.set b (.lstv (.slice O S R) e xs)).set k (.lst e0 (ys (.slice O S R)))⟩ y h') :Ends P m h y h':=by
 obtain⟨s,c,ex,hz,hc,_⟩ :=B (.slice none 0 0);intro hm E V K w f fs r W p;have v:kL (.lst e0 t) =false:=by
  cases t with
  |nil=>simp at hz
  |cons _ _=>rfl
 have x:kL (.lst e xs) =false:=by
  cases xs with
  |nil=>simp at s
  |cons _ _=>rfl
 obtain⟨L0,J,C,el,X,T,o2,N,o4,Y⟩ :=r.obj _ _ A v;obtain⟨cv,g1,g2⟩ :=N.get _ _ hz;obtain⟨U,q,rfl,g3,Z,Q⟩ :=aNt hc g2;simp only [VR]at Q;rcases Q with⟨z,_⟩ | ⟨L,a,d,hE,rfl,a1,_,a3⟩
 ·omega
 · obtain⟨_,c',ex',n,hc',D⟩ :=B (.slice (some ⟨L.blk,a,none⟩) xs.length d);rw [hz]at n;cases n
   have r1:Rel E (h.h.set b (.lstv (.slice (some ⟨L.blk,a,none⟩) xs.length d) e xs)) w.heap:=r.reobj l x (fun L' g=>by
    obtain⟨C',F,M,p1,p2,p3,p4,p5⟩ :=r.objL l g;rw [hE]at g;cases g;exact⟨C',F,M,p1,p2,p3,p4,p5,a,d,rfl,by omega,fun hc=>by have:=a3 hc;exact⟨by omega,this.2⟩⟩) rfl rfl rfl
   have j: (h.h.set b (.lstv (.slice (some ⟨L.blk,a,none⟩) xs.length d) e xs)).look k=some (.lst e0 t) :=by rw [bA,if_neg H];exact A
   have r2:Rel E ((h.h.set b (.lstv (.slice (some ⟨L.blk,a,none⟩) xs.length d) e xs)).set k (.lst e0 (ys (.slice (some ⟨L.blk,a,none⟩) xs.length d)))) w.heap:=r1.reobj j v (fun L' g=>by
    rw [J]at g;cases g;refine⟨C,el,X,T,o2,?_,o4,Y⟩;rw [D];refine aCj (Emb.le.refl E) N g1 ?_;rw [VR];exact⟨U,rfl,aCj (Emb.le.refl E) g3 Z (by simp only [VR])⟩) rfl rfl rfl
   obtain⟨G,w',E',I,gg,rr,xx⟩ :=hk (some ⟨L.blk,a,none⟩) xs.length d hm _ V K w f fs r2 W p;exact⟨G,w',E',I,gg,rr,(jW (jW (ExtM.refl hm) l) j).trans xx⟩
theorem aUT {m:Nat}{s:AS}{t:TS}{ks:List Nat}(h2:s.sum (fK m t.nb s.h.nb ks) t=t.want (fK m t.nb s.h.nb ks))(c:dH m t ks=true)(a:eY t.hp) :LeadsM P m s t.as:=by
 simp only [AS.sum,TS.want,Sum.mk.injEq]at h2;obtain⟨k,e,j,h⟩ :=h2;intro hm E fr b w d f fs r;obtain⟨g,i⟩ :=lX (l:=t.hp) (nb:=t.nb) (by simpa [dH]using c) h a r;exact⟨_,fr,b,w,Steps.refl _ _,aEd k f,yZ e j fs,g,i⟩
def bGH (P:Program)(m:Nat)(is:List Ins)(s:TS)(k b i o:Nat)(ys:List AV)(u:Value)(is2:List Ins)(t:TS)(ks:List Nat) :Option (Nat×Sum×List Prop) :=
 match rD P is s.as with
 | some (s1,ps) =>match s1.h.look k,s1.h.look b with
  | some (.lst e0 zs),some (.lst e xs) =>bif Nat.beq k b then none else
   match rD P is2 ⟨s1.fr,s1.cs,(s1.h.set b (.lstv u e xs)).set k (.lst e0 ys)⟩with
   |some (s3,qs) =>some (s3.h.nb,AS.sum s3 (fK m t.nb s3.h.nb ks) t,NQ zs i o b e xs.length u ys:: (ps++qs))
   |none=>none
  |_,_=>none
 |none=>none
theorem aGr {m:Nat}{is:List Ins}{s:TS}{t:Value→TS}{k b i o:Nat}{ys:Value→List AV}{is2:Value→List Ins}{ks:List Nat}{n1:Nat}{ps:Value→List Prop}
  (F:∀u,bGH P m is s k b i o (ys u) u (is2 u) (t u) ks=some (n1,(t u).want (fK m (t u).nb n1 ks),ps u)) (B:∀u,dH m (t u) ks=true) (z:∀u,eY (t u).hp) (hp:∀u,AllP (ps u))
  {l:Res} {h':Hp} (hk:∀x w n,Ends P m (t (.slice x w n)).as l h') :Ends P m s.as l h':=by
 have d:=F (.slice none 0 0);unfold bGH at d;split at d
 · rename_i y qs D;split at d
   · rename_i I J e C v p;cases h:Nat.beq k b
     case true=>rw [h]at d;cases d
     have r:k≠b:=fun g=>by subst g;simp at h
     have j:∀u,∃f c,rD P (is2 u) ⟨y.fr,y.cs,(y.h.set b (.lstv u e C)).set k (.lst I (ys u))⟩ =some (f,c) ∧f.h.nb=n1∧f.sum (fK m (t u).nb f.h.nb ks) (t u) = (t u).want (fK m (t u).nb n1 ks) ∧NQ J i o b e C.length u (ys u) :: (qs++c) =ps u:=fun u=>by
      have a:=F u;unfold bGH at a;rw [D]at a;simp only [v,p,h,cond]at a;split at a
      · rename_i f c H;simp only [Option.some.injEq,Prod.mk.injEq]at a;exact⟨f,c,H,a.1,a.2.1,a.2.2⟩
      ·cases a
     refine(hM D (fun q A=>?_)).ends (aQT (i:=i) (o:=o) v p r (ys:=ys) (fun u=>?_) (fun x w n=>?_))
     · obtain⟨f,c,_,_,_,g⟩ :=j (.slice none 0 0);exact(hp (.slice none 0 0)).mem q (by rw [←g];exact cL _ (aGX _ A))
     · obtain⟨f,c,_,_,_,g⟩ :=j u;exact(hp u).mem _ (by rw [←g];exact cQ ..)
     · obtain⟨f,c,K,G,L,g⟩ :=j (.slice x w n);subst G;exact((hM K (fun q A=> (hp (.slice x w n)).mem q (by rw [←g];exact cL _ (aIw _ A)))).trans (aUT L (B _) (z _))).ends (hk x w n)
   ·cases d
 ·cases d
end
inductive KVD where
 |row (l:List ConD)
 |nil
 |val (u:Value)
def KVD.av :KVD→AV
 | .row l=>.ilst 2 (map ConD.av l) false
 | .nil=>.nils
 | .val u=>.val u
structure ODat where
 name:cF
 kv:KVD
def ODat.av (x:ODat) :AV:=.agg [dP x.name,x.kv.av]
def DataD.o (x:DataD) :ODat:= ⟨x.name,.row x.cons⟩
theorem aKE {b:Type}{f:b→AV}{l:List b}{ix T:Nat}{Y:AV}(h:T=ix)(a:ix<length l) : (set (map f l) ix Y)[0+T]?=some Y:=by
 subst h;rw [fE,List.getElem?_set_self (by simpa using a)]
theorem aYw {a:Type}{f:a→AV}{l:List a}{ix T:Nat}{Y Y':AV}(h:T=ix) : (set (map f l) ix Y).set (0+T) Y'=set (map f l) ix Y':=by
 subst h;rw [fE,set_set]
theorem bE6 {g:Type}{f:g→AV}{l:List g}{ix:Nat}(pre a:List AV){b e n d:Nat}{ex:Bool}{u:Value}{y:g}(c:ix<length l)(i:d=n)(h:0<d)(j:f y= .agg (pre++ .val u::a)) :
  NQ (set (map f l) ix (.agg (pre++ .gl b e 0 n ex::a))) ix pre.length b e d u (map f (set l ix y)) :=by
 subst i;refine⟨h,_,ex,List.getElem?_set_self (by simpa using c),by simp,?_⟩;rw [set_set,List.map_set,j];simp
theorem bE7 {b:Type}{f:b→AV}{l:List b}{ix:Nat}(pre a:List AV){v v':AV}{y:b}(h:l[ix]?=some y)(c:f y= .agg (pre++v::a)) :
  LQ (map f l) ix pre.length v v' (set (map f l) ix (.agg (pre++v'::a))) :=by
 refine⟨pre++v::a,by rw [tJ,h];simp [c],by simp,by simp⟩
end
end Go.Hb
