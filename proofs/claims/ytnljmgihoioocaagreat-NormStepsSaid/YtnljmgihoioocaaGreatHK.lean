/- A machine on abstract values, its soundness, ways, plain laws. -/
import Derived.Test.YtnljmgihoioocaaGreatHF
import Derived.Test.YtnljmgihoioocaaGreatHG
import Derived.Test.YtnljmgihoioocaaGreatHH
import Derived.Test.YtnljmgihoioocaaGreatHI
import Derived.Test.YtnljmgihoioocaaGreatHJ
set_option linter.defProp false
set_option linter.unusedVariables false
set_option linter.unusedSimpArgs false
set_option linter.unusedSectionVars false
set_option maxRecDepth 100000
set_option maxHeartbeats 4000000
namespace Go.Hb
open AV (ilst keyless keylessL)
open Bool (and_eq_true)
open List (all_cons length map set set_set)
open Go.Proofs Tryz
noncomputable section
def bFk (cons:List Int)(f n:Int) :Option Int:=if f=6 then(if 0≤n then cons[n.toNat]? else none)else some n
mutual
def bGk (cons:List Int) :Pat→Option Pat
 | .mk f n t ps=>match bFk cons f n with
  | some n'=>match aV5 cons ps with
   |some ps'=>some (.mk f n' t ps')
   |none=>none
  |none=>none
def aV5 (cons:List Int) :List Pat→Option (List Pat)
 | [] =>some []
 | p::ps=>match bGk cons p with
  | some p'=>match aV5 cons ps with
   |some ps'=>some (p'::ps')
   |none=>none
  |none=>none
end
def mN (funs cons:List Int)(op n:Int) :Option Int:=
 if op=4∧n<0 then
  match funs[(-1-n).toNat]? with
  |some g=>if -1000000000≤n∧ -1000000000≤g∧g≤1000000000 then some (-1-g)else none
  |none=>none
 else if op=14 then(if 0≤n then cons[n.toNat]? else none)else some n
def bCu (f:Nat→Int→Option (List Node)) :Nat→List Int→Option (List Int×List Node)
 |_,[] =>some ([],[])
 | len,c::cs=>match f len c with
  | some ns=>match bCu f (len+ns.length) cs with
   |some (ks,r) =>some ((len:Int) ::ks,ns++r)
   |none=>none
  |none=>none
def aV6 (p:Prog)(funs cons:List Int) :Nat→Nat→Int→Option (List Node)
 |0,_,_=>none
 | k+1, len,at0=>if 0≤at0∧len<1000000 then
   match p.nodes[at0.toNat]? with
   | some y=>if y.kids.length<1000000∧bF y.pats<1000000 then
     match mN funs cons y.op y.n with
     | some n'=>match aV5 cons y.pats with
      | some ps'=>match bCu (aV6 p funs cons k) (len+1) y.kids with
       |some (ks,r) =>some (⟨y.op,n',ks,ps'⟩ ::r)
       |none=>none
      |none=>none
     |none=>none
    else none
   |none=>none
  else none
abbrev PA (p:Prog) :AV:=.agg [(.ilst 4 (map Node.av p.nodes) false),(.ilst 1 (map bU p.funs) false),(.int .i64 p.main),(.ilst 2 (map Con.av p.cons) false)]
abbrev OL (L:List ONode) :AObj:=.lst 4 (map ONode.av L)
abbrev EndsL (s:TS)(L:List ONode) :Prop:=Ends PP 0 s.as (.ret (.gl 0 4 0 (length L) false)) (aA [(0,OL L,true)] 1)
def bA8 (p:Prog)(funs cons:List Int)(c:Int)(L:List ONode)(ns:List Node) :Prop:=
 bEG PP (.enter 60 [.gl 0 4 0 (length L) false,PA p,.int .i64 c,.ilst 1 (map bU funs) false,.ilst 1 (map bU cons) false]) (aA [(0,OL L,true)] 1)
  (.ret (.gl 0 4 0 (length (L++map Node.o ns)) false)) (aA [(0,OL (L++map Node.o ns),true)] 1)
theorem bCv (L:List ONode) : (OL L).kl:=aG _ (fun _=>dK _) _
theorem aJb (l:List ONode)(y:ONode)(r:List ONode) : (l++y::r)[((length l:Nat) :Int).toNat]?=some y:=by simp
theorem rT (l:List ONode)(y:ONode)(r:List ONode) : (l++y::r)[length l]?=some y:=by simp
theorem aQk (l:List ONode)(y z:ONode)(r:List ONode) :set (l++y::r) (((length l:Nat) :Int).toNat) z=l++z::r:=by simp
theorem rU (l:List ONode)(y z:ONode)(r:List ONode) :set (l++y::r) (length l) z=l++z::r:=by simp
theorem EndsL.of {s:TS}{L L':List ONode}(h:EndsL s L)(e:L=L') :EndsL s L':=e ▸ h
section
variable (p :Prog) (funs cons:List Int) (k:Nat) (ih:∀ (L:List ONode) (c:Int) (ns:List Node),aV6 p funs cons k L.length c=some ns→bA8 p funs cons c L ns)
 (l:List ONode) (at0 op n':Int) (ps':List Pat) (kids:List Int) (hkids:kids.length<1000000)
include ih hkids
end
theorem mZ {f:Nat}{args:List AV}{v:AV}{s:TS}(e: (start PP f args).as=s.as)(hb:tG PP f=true)(hk:keylessL args=true)(hv:keyless v=true)(he:Ends PP 0 s.as (.ret v) (aA [] 0)) :aJ PP f args v:=
 aF hb hk hv (by rw [e];exact he)
abbrev aO8:AV:=.agg [(.ilst 4 (jN ([] :List Node)) true),(.ilst 1 (jI ([] :List Int)) true),(nI 0),(.ilst 2 (jC ([] :List Con)) true)]
abbrev aO9:AV:=.tup [aO8,(nI 2)]
abbrev aV7:AV:=.tup [aO8,(nI 7)]
abbrev qU (a:Nat)(b:Prog):=oC a [(iN b.nodes),(iI b.funs),(nI b.main),(iC b.cons)]
abbrev aCg (a:Nat)(b:List XT)(c:Int)(d:List Con):=oC a [(.gl 1 1 0 b.length false),(nI c),(iC d)]
abbrev lI (a:Nat):=oC a [.nils,.nils,(nI 0),.nils]
def aQl(a:Prog):TS:=bC PP 34 [(Prog.av a)] [] 0
def bCw(a:Prog)(b:Int):TS:=bC PP 19 [(Prog.av a),(nI b)] [] 0
def bCx(a:List XT)(b:Int)(c:List Con)(d:Int):TS:=bC PP 53 [(.ptr 0 0),(nI d)] [aCg 0 a b c,(1,gh,false),(2,(.zone true [1] (bN a)),false)] 3
def aFn(a:List XT)(b:Int)(c:List Con)(e:Int)(d:List XT):TS:=⟨(tf 53 17 [kp 2 0,kp 4 1,(5,(nI 0))] [kc f53 14,kc f53 15]),[],[oC 0 [(.ptr 2 0)],lI 1,oC 2 [(.gl 3 1 0 a.length false),(nI b),(iC c)],(3,gh,false),(4,(.zone true [3] (bN d)),false)],5⟩
def aQm(d:List XT)(a:Int)(b:List Con)(e:Int)(c:List XT):TS:=⟨(tf 53 17 [kp 2 0,kp 4 1,(5,(nI 0))] [kc f53 14,kc f53 15]),[],[oC 0 [(fvA c a b)],lI 1],5⟩
def aPa(a:Prog):=tT 0 (aQl a)<|gpI 10 45 [(Prog.av a)]<|fun f=>.b 2 8 (f != 0) (gE 7 1 (.tup [.nilp,(nI 2)]))<|.y fun c:Bool=>.y fun g:Int=>gp 6 46 [(Prog.av a)] (.tup [(bV c),(nI g)])<|.b 11 15 (!c) (gE 7 1 (.tup [.nilp,(nI 7)]))<|.y fun b:List XT=>.y fun d:Int=>.y fun e:List Con=>gk 5 (.enter 48 [(Prog.av a)]) [qU 0 a] 1 (.ptr 1 0) [qU 0 a,oC 1 [(.gl 2 1 0 b.length false),(nI d),(iC e)],(2,gh,false),(3,(.zone true [2] (bN b)),false)] 4<|.E 4 4 [1,2,3] (.tup [(.ptr 0 0),(nI 0)]) [aCg 0 b d e,(1,gh,false),(2,(.zone true [1] (bN b)),false)] 3
def bA9:=fun a b c d=>aPa a b c|>.t d tv
def bBa:=fun a b c d e f g i=>aPa a b e|>.f f c d g|>.t i tv
def bBb:=fun a b c d e f g i j k l m=>aPa a b i|>.f j c d k|>.f l e f g m tv
def aFo(a:Prog)(b:Int):=tT 0 (bCw a b)<|gd 12 10 (b<0) (.i [rn 15,.cnilI 1 0 4] []<|.i [.cnilI 1 1 1] []<|.i [.cnilI 1 3 2] []<|gE 0 2 aO9)<|gl 3 Node.av a.nodes<|gd 3 16 (b≥ (a.nodes.length:Int)) (.i [rn 8,.cnilI 1 0 4] []<|.i [.cnilI 1 1 1] []<|.i [.cnilI 1 3 2] []<|gE 0 2 aO9)<|.o (gk 5 (.enter 34 [(Prog.av a)]) [qU 0 a,lI 1] 2 (.tup [.nilp,(nI 7)]) [qU 0 a,lI 1] 2<|.i [rn 21,.cnilI 1 0 4] []<|.i [.cnilI 1 1 1] []<|.i [.cnilI 1 3 2] []<|gE 0 2 aV7)<|.o (gk 5 (.enter 34 [(Prog.av a)]) [qU 0 a,lI 1] 2 (.tup [.nilp,(nI 2)]) [qU 0 a,lI 1] 2<|.i [rn 21,.cnilI 1 0 4] []<|.i [.cnilI 1 1 1] []<|.i [.cnilI 1 3 2] []<|gE 0 2 aO9)<|.y fun c:List XT=>.y fun d:Int=>.y fun e:List Con=>gk 5 (.enter 34 [(Prog.av a)]) [qU 0 a,lI 1] 2 (.tup [(.ptr 2 0),(nI 0)]) [qU 0 a,lI 1,oC 2 [(.gl 3 1 0 c.length false),(nI d),(iC e)],(3,gh,false),(4,(.zone true [3] (bN c)),false)] 5<|.y fun f:Prog=>.y fun g:Int=>gk 18 (.enter 53 [(.ptr 2 0),(nI b)]) [qU 0 a,lI 1,oC 2 [(.gl 3 1 0 c.length false),(nI d),(iC e)],(3,gh,false),(4,(.zone true [3] (bN c)),false)] 5 (.tup [(Prog.av f),(nI g)]) [qU 0 a,lI 1] 5<|gE 6 5 (.tup [(Prog.av f),(nI g)])
def bBc:=fun a b c=>aFo a b|>.t c tv
def bBd:=fun a b c d=>aFo a b|>.f c|>.t d tv
def bBe:=fun a b c d e=>aFo a b|>.f c|>.f d|>.1 e tv
def bBf:=fun a b c d e=>aFo a b|>.f c|>.f d|>.2|>.1 e tv
def bBg:=fun a b c d e f g i j k l=>aFo a b|>.f i|>.f j|>.2|>.2 c d e k f g l tv
def aV8(a:List XT)(b:Int)(c:List Con)(d:Int):=tT 0 (bCx a b c d)<|.o (gk 11 (.enter 74 [(.ptr 0 0),(nI d)]) [aCg 0 a b c,(1,gh,false),(2,(.zone true [1] (bN a)),false),oC 3 [(.ptr 0 0)],lI 4] 5 (bV false) [aCg 0 a b c,(1,gh,false),oC 3 [(.ptr 0 0)],lI 4,(5,(.zone true [1] (bN a)),false)] 6<|.i [rn 10,.cnilI 4 0 4] []<|.i [.cnilI 4 1 1] []<|.i [.cnilI 4 3 2] []<|.E 0 6 [5,1] aV7 [(0,(.zone true [1] (bN a)),false),(1,gh,false)] 2)<|.y fun e:List XT=>gk 11 (.enter 74 [(.ptr 0 0),(nI d)]) [aCg 0 a b c,(1,gh,false),(2,(.zone true [1] (bN a)),false),oC 3 [(.ptr 0 0)],lI 4] 5 (bV true) [aCg 0 a b c,(1,gh,false),oC 3 [(.ptr 0 0)],lI 4,(5,(.zone true [1] (bN e)),false)] 6<|.W 5 6 [3,4,0,1,5] (aFn a b c d e)
def aQn:=fun a b c d e=>aV8 a b c d|>.1 e tv
def bBh:=fun a b c d e f=>aV8 a b c d|>.2 e f tv
def aV9(e:List XT)(a:Int)(b:List Con)(f:Int)(c:List XT):=tT 0 (aQm e a b f c)<|jR 31 75 [(fvA c a b),(nI 30)]<|fun g=>.b 2 5 (!g) (.i [rn 47,.cnilI 1 0 4] []<|.i [.cnilI 1 1 1] []<|.i [.cnilI 1 3 2] []<|gE 0 9 (.tup [aO8,(nI 3)]))<|.y fun d:Prog=>gp 5 76 [(fvA c a b)] (Prog.av d)<|gE 42 8 (.tup [(Prog.av d),(nI 0)])
def bBi:=fun a b c d e f g i=>aV9 a b c d e f g|>.t i tv
def bBj:=fun a b c d e f g i j k=>aV9 a b c d e f i|>.f j g k tv
def bCy(a:List Con):TS:=bC PP 90 [(iC a)] [] 0
def bFl(a:List Con):TS:=⟨(tf 90 8 [(0,(iC a)),(2,.nils),(3,(iC a))] [ko f90 12 1,kc f90 13,kc f90 7]),[],[],0⟩
def bDQ(a:List Con):TS:=⟨(tf 90 8 [(0,(iC a)),(2,.nils),(3,.nils)] [ko f90 12 1,kc f90 13,kc f90 7]),[],[],0⟩
def bDR(a:List Con)(b:Addr)(c d:Nat):TS:=⟨(tf 90 8 [(0,(iC a)),(2,.nils),(3,(.val (Value.slice (some b) c d)))] [ko f90 12 1,kc f90 13,kc f90 7]),[],[],0⟩
def bFm (a:List Con):=(tT 0 (bCy a)<|.W 8 0 [] (bFl a)) tv
def bFn (a:List Con):=(tT 0 (bDQ a)<|.i [rn 8,.nilI 2 2] []<|gE 0 0 (.ilst 2 (jC ([] :List Con)) true)) tv
def bFo (a:List Con)(b:Addr)(c d:Nat):=fun e=>(tT 0 (bDR a b c d)<|.i [rn 8,.toL 5 true []] [.q (p:=getCells (putCells .leaf 0 []) 0 (0*2) =some []) rfl,hr true]<|gu 0 0 (jC ([] :List Con))<|gs 0 5 (.gl 0 2 0 ([] :List Con).length true)<|.i [.weak 5] []<|ga 0 Con.av ([] :List Con) a<|gz 3 2 1 2 Con.av (([] :List Con) ++a) false<|gE 0 2 (iC (([] :List Con) ++a))) e tv
theorem aPb {P:Program}{m:Nat}{s:AS}{v v':AV}{h':Hp}(h:Ends P m s (.ret v) h')(hv:∀ (E:Emb) (cv:Value),VR E v cv→VR E v' cv) :Ends P m s (.ret v') h':=Ends.val h hv
theorem aFp (xs:List Con)(h:xs.length≤1000000) :aJ PP 90 [.ilst 2 (map Con.av xs) false] (.ilst 2 (map Con.av xs) false) :=by
 refine mZ (s:=bCy xs) (by kernel_rfl) (by kernel_rfl) (by simp [keylessL,keyless]) (by simp [keyless]) ((bFm xs).ends ?_);refine aTF (j:=3) (e:=2) (ex:=false) (xs:=map Con.av xs) (by kernel_rfl) (fun hx=>?_) (fun a n c=>?_)
 · have hx:xs= [] :=by simpa using hx
   subst hx;have h1:=aPb (bFn []) (fun E cv hv=>fX hv);exact Eq.mp (by kernel_rfl) h1
 · have h1:=bFo xs a n c (by simpa using h);rw [List.nil_append]at h1;exact Eq.mp (by kernel_rfl) h1
abbrev OFl (n:Nat)(mn:Int)(cs:List Con)(us:List (Nat×Nat))(ts:List XT) :HL:=[(0,(.cells (putCells .leaf 0 [(.gl 1 1 0 n false),(.int .i64 mn),(.ilst 2 (map Con.av cs) false)]) 3 [] false),false),(1,(.lst 1 (map aO us)),true),(2,(.zone true [] (ZV us (ts.map some))),false)]
abbrev OFm (n:Nat)(mn:Int)(cs:List Con)(ts:List XT) :HL:=[(0,(.cells (putCells .leaf 0 [(.gl 1 1 0 n false),(.int .i64 mn),(.ilst 2 (map Con.av cs) false)]) 3 [] false),false),(1,gh,false),(3,(.zone true [1] (bN ts)),false)]
theorem aWa {s:AS}{n:Nat}{mn:Int}{cs:List Con}{us:List (Nat×Nat)}{ts:List XT}(hne:ts≠ [])(e:Ends PP 0 s (.ret (.ptr 0 0)) (aA (OFl n mn cs us ts) 3)) :Ends PP 0 s (.ret (.ptr 0 0)) (aA (FHl n mn cs ts) 3) :=by
 have z:iG (aA (OFl n mn cs us ts) 3) (aA (OFm n mn cs ts) 4) :=
  xG (h:=aA (OFl n mn cs us ts) 3) (h':=aA (OFm n mn cs ts) 4) (k:=1) (g:=2) (us:=us) (ts:=ts) (by kernel_rfl) (by kernel_rfl) hne (Nat.le_refl _)
   (aT ⟨.inr (.inr ⟨by decide,by decide,by kernel_rfl⟩),.inl ⟨rfl,rfl⟩,.inr (.inl ⟨rfl,rfl⟩),trivial⟩)
 exact cN (ks:=[0,1,3]) (mR e z (Nat.zero_le _)) (by kernel_rfl) (by kernel_rfl) (by kernel_rfl) trivial
section
variable {p :Prog} (hf:aFb p)
theorem aQo (hf:aFb p)(hl:p.funs.length≤1000) :∀ (ts dn:List XT) (us:List (Nat×Nat)) (i:Nat),aR p ts (p.funs.drop i) →dn.length=i→us.length=i→dn++ts≠ [] →
  Ends PP 0 (aFd p p.cons (i:Int) us (dn.map some)).as (.ret (.ptr 0 0)) (aA (FHl (dn++ts).length p.main p.cons (dn++ts)) 3)
 | [],dn,us,i,h,h1,h2,hne=>by
  simp only [aR]at h;have hi:=bE h;rw [List.append_nil]at hne ⊢;rw [show dn.length=us.length by omega];exact aWa hne (bAt p p.cons (i:Int) us (dn.map some) sd)
 | t::ts,dn,us,i,h,h1,h2,hne=>by
  simp only [aR]at h;obtain⟨k,l',h3,h4,h5⟩ :=h;obtain⟨g1,g2,g3⟩ :=bB h3;refine(bAp p p.cons (i:Int) us (dn.map some) k t sd sd sd (nH (m:=0) (ks:=[]) (aGW hf t k h4) (by kernel_rfl) (by kernel_rfl) trivial trivial) (by omega)).ends (bDI p p.cons t (i:Int) us (dn.map some) fun u=>?_);refine(bAu p p.cons t (i:Int) us (dn.map some) u sd).ends ?_;have:=aQo hf hl ts (dn++ [t]) (us++ [u]) (i+1) (by rw [g2];exact h5) (by simp [h1]) (by simp [h2]) (by simp);rw [List.append_assoc,List.map_append]at this;exact this
theorem bBk (hf:aFb p)(hl:p.funs.length≤1000)(hc:p.cons.length≤1000000){ts:List XT}(h:aR p ts p.funs)(hne:ts≠ []) :eK PP 0 (.enter 48 [Prog.av p]) (aA [] 0) (.ret (.ptr 0 0)) (aA (FHl ts.length p.main p.cons ts) 3) :=by
 refine⟨(bCj p).as.fr,by kernel_rfl,?_⟩;have:=aQo hf hl ts [] [] 0 (by simpa using h) rfl rfl (by simpa using hne);exact((bAr p p.cons (aFp _ hc)).trans ((bDH p p.cons).trans (bAs p p.cons))).ends this
end
theorem gR {p:Prog}(hf:aH p=true) :∀ (i:Nat) (x:Node),p.nodes[i]?=some x→bT p x=true:=by
 simp only [aH,and_eq_true]at hf;obtain⟨_,hf⟩ :=hf;split at hf
 · unfold allT at hf;split at hf
   · rename_i v hv;exact fun i x hx=> (lH hv i x hx).1
   ·cases hf
 ·cases hf
theorem aJc {p:Prog}(hs:aE p=true) :aFb p:=fun nd hn=>by
 simp only [aE,and_eq_true,decide_eq_true_eq]at hs;have h:=List.all_eq_true.1 hs.2 nd hn;simp only [bJ,and_eq_true,decide_eq_true_eq]at h;obtain⟨⟨h1,h2⟩,h3⟩ :=h;refine⟨by omega,?_⟩
 have:∀l:List Pat,fM l=true→bF l≤16*l.length:=fun l=>by
  induction l with
  |nil=>intro _;simp [bF]
  | cons q l ih=>
   intro hq;simp only [fM,all_cons,and_eq_true]at hq;have:=ih hq.2;simp only [wA,and_eq_true,decide_eq_true_eq]at hq;simp only [bF,List.length_cons];omega
 have:=this _ h3;omega
theorem bDS {p:Prog}{x:Node}(h:bT p x=true) :dL x.op x.kids.length≤x.kids.length:=by
 simp only [bT,and_eq_true,decide_eq_true_eq]at h;obtain⟨_,h3⟩ :=h;unfold dL;split
 · rename_i h1;simp only [dY,Bool.or_eq_true,decide_eq_true_eq]at h1;have:1≤cQ x.op x.pats.length (iH p x) :=by
    rcases h1 with((((((h|h) |h) |h) |h) |h) |h) |h<;>rw [h] <;>simp [cQ] <;>omega
   omega
 ·split<;>omega
theorem bBl {p:Prog}{x:Node}(h:bT p x=true)(h1:fY x.op=true)(h2:x.op≠14) :x.kids.length=2:=by
 simp only [bT,and_eq_true,decide_eq_true_eq]at h;obtain⟨_,h3⟩ :=h;simp only [fY,Bool.or_eq_true,decide_eq_true_eq]at h1;have:cQ x.op x.pats.length (iH p x) =2:=by
  rcases h1 with(((((((h|h) |h) |h) |h) |h) |h) |h) |h
  all_goals first|exact absurd h h2| (rw [h];simp [cQ])
 omega
mutual
theorem aSI {p:Prog}(hp:FineP p)(hn:∀ (i:Nat) (x:Node),p.nodes[i]?=some x→bT p x=true) :∀ (t:XT) (at0:Int),IsTree p t at0→FineX 400 t
 | .mk o n ks ps,at0,h=>by
  simp only [IsTree]at h;obtain⟨h0,nd,h1,rfl,rfl,rfl,h5⟩ :=h;have hok:=hn _ nd h1;obtain⟨f1,f2,_⟩ :=hp.node _ nd h1;have hlen:ks.length=nd.kids.length:=by
   have:∀ (ts:List XT) (l:List Int),aR p ts l→ts.length=l.length:=fun ts=>by
    induction ts with
    |nil=>intro l h;simp only [aR]at h;rw [h];rfl
    |cons t ts ih=>intro l h;simp only [aR]at h;obtain⟨k,l',rfl,_,h2⟩ :=h;simp [ih _ h2]
   exact this _ _ h5
  simp only [FineX];refine⟨fun e=>?_,by omega,fun q hq=>by have:= (f1.pats q hq).1;omega,fun e=>by rw [hlen];exact f1.mat e,fun e=>by rw [hlen];exact f1.let2 e,⟨by rw [hlen];exact bDS hok,?_,fun g1 g2=>by rw [hlen];exact bBl hok g1 g2,fun q hq=>aUV p.cons q (f1.pats q hq).2⟩,kB hp hn ks nd.kids h5⟩
  · simp only [bT,mY,and_eq_true]at hok;have:=hok.1.1.1;rw [e]at this;simp [fO,dR]at this;omega
  · simp only [bT,mY,and_eq_true]at hok;have:=hok.1.1.2;split at this
    ·simp [dR]at this;omega
    ·simp at this;simp [this]
theorem kB {p:Prog}(hp:FineP p)(hn:∀ (i:Nat) (x:Node),p.nodes[i]?=some x→bT p x=true) :∀ (ts:List XT) (l:List Int),aR p ts l→FineXs 400 ts
 | [],_,_=>trivial
 | t::ts,l,h=>by
  simp only [aR]at h;obtain⟨k,l',rfl,h1,h2⟩ :=h;exact⟨aSI hp hn t k h1,kB hp hn ts l' h2⟩
end
theorem wK {p:Prog}:∀ (l:List Int),(∀k∈l,∃t,IsTree p t k) →∃ts,aR p ts l
 | [],_=> ⟨[],rfl⟩
 | k::l,h=>by
  obtain⟨t,ht⟩ :=h k (List.mem_cons_self ..);obtain⟨ts,hts⟩ :=wK l (fun x hx=>h x (List.mem_cons_of_mem _ hx));exact⟨t::ts,by simp only [aR];exact⟨k,l,rfl,ht,hts⟩⟩
theorem aQp {p:Prog}(hp:FineP p) :∀ (d:Nat) (k:Int),0≤k→k<p.nodes.length→p.nodes.length-k.toNat≤d→∃t,IsTree p t k
 |0,k,h0,h1,h2=>by omega
 | d+1,k,h0,h1,h2=>by
  obtain⟨nd,hnd⟩ :∃nd,p.nodes[k.toNat]?=some nd:= ⟨_,List.getElem?_eq_getElem (by omega)⟩;obtain⟨_,_,hk⟩ :=hp.node _ nd hnd
  obtain⟨ts,hts⟩ :=wK (p:=p) nd.kids (fun c hc=>by
   have:=hk c hc;exact aQp hp d c (by omega) this.2 (by omega))
  exact⟨.mk nd.op nd.n ts nd.pats,by simp only [IsTree];exact⟨h0,nd,hnd,rfl,rfl,rfl,hts⟩⟩
theorem aWb {p:Prog}(hp:FineP p) :∃ts,aR p ts p.funs:=wK p.funs (fun k hk=>by
 have:=hp.funs k hk;exact aQp hp p.nodes.length k this.1 this.2 (by omega))
theorem gC {p:Prog}:∀ {ts:List XT} {l:List Int},aR p ts l→ts.length=l.length
 | [],l,h=>by simp only [aR]at h;rw [h];rfl
 |t::ts,l,h=>by simp only [aR]at h;obtain⟨k,l',rfl,_,h2⟩ :=h;simp [gC h2]
theorem bCz {p:Prog}(hs:aE p=true)(hf:aH p=false) :eK PP 0 (.enter 34 [Prog.av p]) (aA [] 0) (.ret (.tup [.nilp,.int .i64 2])) (aA [] 0) :=by
 have hc:=aBt hs;rw [hf]at hc;exact⟨(aQl p).as.fr,by kernel_rfl,bA9 p _ hc (by rfl)⟩
theorem aQq {p:Prog}(hs:aE p=true)(hf:aH p=true)(hc1: (dF p).1=false) :eK PP 0 (.enter 34 [Prog.av p]) (aA [] 0) (.ret (.tup [.nilp,.int .i64 7])) (aA [] 0) :=by
 have hc:=aBt hs;rw [hf]at hc;have h2:=aBu hs;rw [hc1]at h2;exact⟨(aQl p).as.fr,by kernel_rfl,bBa p _ false _ hc (by rfl) h2 rfl⟩
theorem aWc {p:Prog}(hs:aE p=true)(hf:aH p=true)(hc1: (dF p).1=true){ts:List XT}(ht:aR p ts p.funs)(hne:ts≠ []) :eK PP 0 (.enter 34 [Prog.av p]) (aA [] 0) (.ret (.tup [.ptr 0 0,.int .i64 0])) (aA (FHl ts.length p.main p.cons ts) 3) :=by
 have hc:=aBt hs;rw [hf]at hc;have h2:=aBu hs;rw [hc1]at h2;have hb:=hs;simp only [aE,and_eq_true,decide_eq_true_eq]at hb;exact⟨(aQl p).as.fr,by kernel_rfl,bBb p _ true _ ts p.main p.cons hc (by rfl) h2 rfl (nH (m:=0) (ks:=[]) (bBk (aJc hs) (by omega) (by omega) ht hne) (by kernel_rfl) (by kernel_rfl) trivial trivial)⟩
abbrev aBv (a:List XT):AV:=.ilst 1 (XTs.av a) false
abbrev aWd (a:Nat)(b c d e:Int)(f:List XT)(g:List Pat):=oC a [(nI b),(nI c),(.iptr [(.iptr [(nI d),(nI e),(aBv f),(iP g)])])]
abbrev aQr (a:Nat)(b:List XT)(c:Int)(d:List Con):=oC a [(.iptr [(aBv b),(nI c),(iC d)])]
abbrev aWe (a:List XT)(b:Int)(c:List Con)(d e f g h i:Int)(j:List XT)(k:List Pat):=aA [(0,(.loop .done (some .ret) 75 (cP [kp 3 5,kp 4 2,kp 5 3]) 26 [9] (kd f75 116) (kd f75 117) 4),false),aQr 1 a b c,oC 2 [(bV false)],oC 3 [(nI d)],(4,(.defd false),false),oC 5 [(nI e)],aWd 6 f g h i j k] 7
abbrev aJd (a:List XT)(b:Int)(c:List Con)(d e f g h i:Int)(j:List XT)(k:List Pat):=aA [(0,(.loop .ready none 75 (cP [kp 3 5,kp 4 2,kp 5 3]) 26 [9] (kd f75 116) (kd f75 117) 4),false),aQr 1 a b c,oC 2 [(bV false)],oC 3 [(nI d)],(4,(.defd false),false),oC 5 [(nI e)],aWd 6 f g h i j k] 7
abbrev aWf (a b c d e:Int)(f:List XT)(g:List Pat):AV:=.agg [(nI a),(nI (IntKind.i64.wrap (b+c))),(.iptr [(.iptr [(nI d),(nI e),(aBv f),(iP g)])])]
abbrev aWg (a b c:Int)(d:List XT)(e:List Pat):AV:=.agg [(nI a),(nI 1),(.iptr [(.iptr [(nI b),(nI c),(aBv d),(iP e)])])]
abbrev pF (a:Nat)(b:List XT)(c:Int)(d:List Con):=oC a [(.iptr [(aBv b),(nI c),(iC d)])]
abbrev aAq (a:List XT):AV:=.ilst 1 (XTs.av a) false
def bFp(a:List XT)(b:Int)(c:List Con)(d:Int):TS:=bC PP 75 [(.iptr [(aAq a),(nI b),(iC c)]),(nI d)] [] 0
def aJe(a:List XT)(b:Int)(c:List Con)(d e f g:Int):TS:=⟨(tf 135 26 [(0,(.yield 0)),kp 1 1,(3,(nI e)),(9,(nI (a.length:Int))),(10,(nI f))] [kc f135 28,kl f135 28,.inBlock 0]),[(tf 75 26 [(0,(.iptr [(aAq a),(nI b),(iC c)])),kp 4 2,kp 5 3] [.inRF 0,.inBlock 0,kc f75 15] (defers:=[.col 4]))],[(0,(.loop .ready none 75 (cP [kp 3 5,kp 4 2,kp 5 3]) 26 [9] (kd f75 116) (kd f75 117) 4),false),pF 1 a b c,oC 2 [(bV false)],oC 3 [(nI g)],(4,(.defd false),false),oC 5 [(nI d)]],6⟩
def aWh(a:List XT)(b:Int)(c:List Con)(d e f g i j:Int)(k:List XT)(l:List Pat):TS:=bC PP 136 [(.agg [(nI f),(nI g),(.iptr [(.iptr [(nI i),(nI j),(aAq k),(iP l)])])]),(.yield 0)] [(0,(.loop .ready none 75 (cP [kp 3 5,kp 4 2,kp 5 3]) 26 [9] (kd f75 116) (kd f75 117) 4),false),pF 1 a b c,oC 2 [(bV false)],oC 3 [(nI e)],(4,(.defd false),false),oC 5 [(nI d)]] 6
def aBw(e:List XT)(f:Int)(g:List Con)(i o j k b c:Int)(a:List XT)(d:List Pat)(l m n:Int):TS:=⟨(tf 136 48 [(1,(.yield 0)),kp 2 6,(4,(nI 0)),(5,(nI l)),(6,(.iptr [(nI b),(nI c),(aAq a),(iP d)])),(23,(nI (a.length:Int))),(24,(nI m))] [kc f136 500,kl f136 500,.inBlock 0,kc f136 63]),[],[(0,(.loop .ready none 75 (cP [kp 3 5,kp 4 2,kp 5 3]) 26 [9] (kd f75 116) (kd f75 117) 4),false),pF 1 e f g,oC 2 [(bV false)],oC 3 [(nI n)],(4,(.defd false),false),oC 5 [(nI i)],oC 6 [(nI j),(nI k),(.iptr [(.iptr [(nI b),(nI c),(aAq a),(iP d)])])]],7⟩
def bBm (a:List XT)(b:Int)(c:List Con)(d:Int):=(tT 0 (bFp a b c d)<|.i [rn 30,.lkeep 5 [3,4,5]] []<|.i [rn 10,aL a] [.q (p:=((XTs.av a).length:Int) = (a.length:Int)) (fD dJ _)]<|.W 4 6 [5,3,1,2,4,0] (aJe a b c d 0 0 0)) tv
def aJf(b:List XT)(c:Int)(a:List Con)(d i e g:Int):=tT 0 (aJe b c a d i e g)<|gd 5 11 (e< (b.length:Int)) (.y fun j:Int=>.y fun k:Int=>.y fun l:List XT=>.y fun m:List Pat=>giF dJ 17 b e (XT.mk j k l m)<|.o (.y fun f:Int=>gk 2 (.enter 136 [(aWg i j k l m),(.yield 0)]) [(0,(.loop .ready none 75 (cP [kp 3 5,kp 4 2,kp 5 3]) 26 [9] (kd f75 116) (kd f75 117) 4),false),pF 1 b c a,oC 2 [(bV false)],oC 3 [(nI g)],(4,(.defd false),false),oC 5 [(nI d)]] 6 (nI (-1)) [(0,(.loop .done (some .ret) 75 (cP [kp 3 5,kp 4 2,kp 5 3]) 26 [9] (kd f75 116) (kd f75 117) 4),false),pF 1 b c a,oC 2 [(bV false)],oC 3 [(nI f)],(4,(.defd false),false),oC 5 [(nI d)]] 6<|gE 13 6 (bV false))<|.y fun f:Int=>.y fun n:Int=>gk 2 (.enter 136 [(aWg i j k l m),(.yield 0)]) [(0,(.loop .ready none 75 (cP [kp 3 5,kp 4 2,kp 5 3]) 26 [9] (kd f75 116) (kd f75 117) 4),false),pF 1 b c a,oC 2 [(bV false)],oC 3 [(nI g)],(4,(.defd false),false),oC 5 [(nI d)]] 6 (nI n) [(0,(.loop .ready none 75 (cP [kp 3 5,kp 4 2,kp 5 3]) 26 [9] (kd f75 116) (kd f75 117) 4),false),pF 1 b c a,oC 2 [(bV false)],oC 3 [(nI f)],(4,(.defd false),false),oC 5 [(nI d)]] 6<|gd 7 24 (n<0) (gd 10 18 (f≤300) (gl 4 Con.av a<|gE 6 6 (bV (decide ((a.length:Int) ≤20))))<|gE 11 6 (bV false))<|gw 5 25 (e+1)<|.W 3 6 [0,1,2,3,4,5] (aJe b c a d n (e+1) f))<|gd 11 18 (g≤300) (gl 4 Con.av a<|gE 6 6 (bV (decide ((a.length:Int) ≤20))))<|gE 11 6 (bV false)
def bBn:=fun a b c d e f g i j k l m n o p q=>aJf a b c d e f g|>.t n i j k l o p|>.1 m q tv
def bBo:=fun a b c d e f g i j k l m n o p q r s t=>aJf a b c d e f g|>.t o i j k l p q|>.2 m n r|>.f s t tv
def bBp:=fun a b c d e f g i j=>aJf a b c d e f g|>.f i|>.t j tv
def bBq:=fun a b c d e f g i j=>aJf a b c d e f g|>.f i|>.f j tv
def aWi(e:List XT)(f:Int)(g:List Con)(c a d i j k:Int)(b:List XT)(l:List Pat):=tT 6 (aWh e f g c a d i j k b l)<|gw 21 11 (a+1)<|gd 9 15 (i>c) (.E 14 8 [] (nI (-1)) [(0,(.loop .done (some .ret) 75 (cP [kp 3 5,kp 4 2,kp 5 3]) 26 [9] (kd f75 116) (kd f75 117) 4),false),pF 1 e f g,oC 2 [(bV false)],oC 3 [(nI (a+1))],(4,(.defd false),false),oC 5 [(nI c)]] 6)<|gw 13 14 (d+1)<|.i [rn 17,aL b] [.q (p:=((XTs.av b).length:Int) = (b.length:Int)) (fD dJ _)]<|.W 4 8 [6] (aBw e f g c a d i j k b l (d+1) 0 (a+1))
def aWj:=fun a b c d e f g i j k l m n=>aWi a b c d e f g i j k l m|>.t n tv
def aWk:=fun a b c d e f g i j k l m n o=>aWi a b c d e f g i j k l m|>.f n o tv
def aPc(c:List XT)(d:Int)(e:List Con)(f v l b g i:Int)(a:List XT)(j:List Pat)(t k u:Int):=tT 6 (aBw c d e f v l b g i a j t k u)<|gd 5 25 (k< (a.length:Int)) (.o (.y fun n:Int=>.y fun o:Int=>.y fun p:Int=>.y fun q:List XT=>.y fun r:List Pat=>.y fun m:Int=>.i [rn 10,.reg (rd 5 (.pure (nI n)::rd 6 [.ans (.idx (XT.av (XT.mk o p q r))),.d,.d,.call (nI (-1)) (aWe c d e m f l b g i a j),.d]))] [hA (aJ PP 178 [(.iptr [(nI g),(nI i),(aAq a),(iP j)]),(nI k)] (nI n)),hA (0≤k),.a (((a)[k.toNat]?) =some (XT.mk o p q r)) (eM dJ),hA (Spec PP (.enter 136 [(aWf t b n o p q r),(.yield 0)]) (aJd c d e u f l b g i a j) (.ret (nI (-1))) (aWe c d e m f l b g i a j)),hr (ilst 1 (XTs.av a) false),hr (ilst 1 (XTs.av a) false),hr (nI b),hr (nI b)]<|.E 12 7 [] (nI (-1)) [(0,(.loop .done (some .ret) 75 (cP [kp 3 5,kp 4 2,kp 5 3]) 26 [9] (kd f75 116) (kd f75 117) 4),false),pF 1 c d e,oC 2 [(bV false)],oC 3 [(nI m)],(4,(.defd false),false),oC 5 [(nI f)]] 6)<|.y fun n:Int=>.y fun o:Int=>.y fun p:Int=>.y fun q:List XT=>.y fun r:List Pat=>.y fun m:Int=>.y fun s:Int=>.i [rn 10,.reg (rd 5 (.pure (nI n)::rd 6 [.ans (.idx (XT.av (XT.mk o p q r))),.d,.d,.call (nI s) (aJd c d e m f l b g i a j),.d]))] [hA (aJ PP 178 [(.iptr [(nI g),(nI i),(aAq a),(iP j)]),(nI k)] (nI n)),hA (0≤k),.a (((a)[k.toNat]?) =some (XT.mk o p q r)) (eM dJ),hA (Spec PP (.enter 136 [(aWf t b n o p q r),(.yield 0)]) (aJd c d e u f l b g i a j) (.ret (nI s)) (aJd c d e m f l b g i a j)),hr (ilst 1 (XTs.av a) false),hr (ilst 1 (XTs.av a) false),hr (nI b),hr (nI b)]<|gd 5 44 (s<0) (.E 7 7 [] (nI s) [(0,(.loop .ready none 75 (cP [kp 3 5,kp 4 2,kp 5 3]) 26 [9] (kd f75 116) (kd f75 117) 4),false),pF 1 c d e,oC 2 [(bV false)],oC 3 [(nI m)],(4,(.defd false),false),oC 5 [(nI f)]] 6)<|gw 5 46 (k+1)<|.W 3 7 [6] (aBw c d e f v l b g i a j s (k+1) m))<|.E 8 7 [] (nI t) [(0,(.loop .ready none 75 (cP [kp 3 5,kp 4 2,kp 5 3]) 26 [9] (kd f75 116) (kd f75 117) 4),false),pF 1 c d e,oC 2 [(bV false)],oC 3 [(nI u)],(4,(.defd false),false),oC 5 [(nI f)]] 6
def aWl:=fun a b c d e f g i j k l m n o p q r s t u v w x y z=>aPc a b c d e f g i j k l m n o|>.t v|>.1 p q r s t u w x y z tv
def aWm:=fun a b c d e f g i j k l m n o p q r s t u v w x y z A B C=>aPc a b c d e f g i j k l m n o|>.t w|>.2 p q r s t u v x y z A|>.f B C tv
def aWn:=fun a b c d e f g i j k l m n o p=>aPc a b c d e f g i j k l m n o|>.f p tv
theorem aWo (o n:Int)(ks:List XT)(ps:List Pat)(hq:∀q∈ps,bW q≤1000)(k:Int)(hk:0≤k∧k≤1000)(hp:o=15→0<k→∃q,ps[(k-1).toNat]?=some q) :aJ PP 178 [XT.av (.mk o n ks ps),.int .i64 k] (.int .i64 (cI o ps k)) :=by
 refine aF (by kernel_rfl) (by simp [keylessL,keyless,aKo]) rfl ?_;refine aAn o ps k (fun z=>Ends PP 0 _ (.ret (.int .i64 z)) _) (fun h=>?_) (fun h h15 hk0 q hq'=>?_) hp (fun h hn=>?_)
 · by_cases a:o=5
   ·exact aZB o n ks ps k (by simpa using a)
   · by_cases b:o=27
     ·exact aZC o n ks ps k (by simpa using a) (by simpa using b)
     · have c:o=7∧k=1:=by omega
       exact aZD o n ks ps k (by simpa using a) (by simpa using b) (by simpa using c.1) (by simpa using c.2)
 · obtain⟨a,b,c,d⟩ :=q;have:=hq _ (List.mem_of_getElem? hq');exact aZF o n ks ps k a b c d _ (by simp;omega) (by simp;omega) (by simp;omega) (by simpa using h15) sd sd (by omega) hq' (aFi (.mk a b c d) (by omega))
 · have a:¬o=5:=fun e=>h (.inl e);have b:¬o=27:=fun e=>h (.inr (.inl e));by_cases c:o=7
   · have d:¬k=1:=fun e=>h (.inr (.inr ⟨c,e⟩));exact aZE o n ks ps k (by simpa using a) (by simpa using b) (by simpa using c) (by simpa using d) (by simp;omega)
   · by_cases e:o=15
     ·exact aZG o n ks ps k (by simpa using a) (by simpa using b) (by simpa using c) (by simpa using e) (by simp;omega)
     ·exact aZH o n ks ps k (by simpa using a) (by simpa using b) (by simpa using c) (by simpa using e)
mutual
def zOk (mo:Int) :XT→Int→Bool
 | .mk o _ ks ps,z=>decide (z≤mo) &&aJg mo o ps ks 0 z
def aJg (mo:Int)(o:Int)(ps:List Pat) :List XT→Nat→Int→Bool
 | [],_,_=>true
 |t::ts,i,z=>zOk mo t (z+cI o ps (i:Int)) &&aJg mo o ps ts (i+1) z
end
def tY (n:Int) :Bool:=decide (n≤300)
def aBx (mo:Int)(cs:List Con)(ts:List XT) :Bool:= (ts.all fun t=>zOk mo t 1) &&tY (aK ts:Nat) &&decide (cs.length≤20)
abbrev FTl (s1:LoopState)(p1:Option Code)(ts:List XT)(mn:Int)(cs:List Con)(mo:Int)(b:Bool)(c:Int) :HL:=[(0,(.loop s1 p1 75 (cP [(3,(.ptr 5 0)),(4,(.ptr 2 0)),(5,(.ptr 3 0))]) 26 [9] (cd Tryz.f75 [1,1,0,1,0,0]) (cd Tryz.f75 [1,1,0,1,0,1]) 4),false),(1,(.cells (putCells .leaf 0 [(.iptr [(.ilst 1 (XTs.av ts) false),(.int .i64 mn),(.ilst 2 (map Con.av cs) false)])]) 1 [] false),false),(2,(.cells (putCells .leaf 0 [(.bool b)]) 1 [] false),false),(3,(.cells (putCells .leaf 0 [(.int .i64 c)]) 1 [] false),false),(4,(.defd false),false),(5,(.cells (putCells .leaf 0 [(.int .i64 mo)]) 1 [] false),false)]
section
variable (F :List XT) (mn:Int) (cs:List Con) (mo:Int) (B:Int) (b0:Bool)
mutual
theorem aQs :∀ (t:XT),FineX B t→∀ (c n0 z0:Int),0≤c→c+ (eA t:Nat) ≤1000000→0≤n0→n0+ (eA t:Nat) ≤1000000→0≤z0→z0+1000* (eA t:Nat) ≤1000000000 →
  (zOk mo t z0=true→eK PP 6 (.enter 136 [.agg [.int .i64 n0,.int .i64 z0,.iptr [XT.av t]],.yield 0]) (aA (FTl .ready none F mn cs mo false c) 6) (.ret (.int .i64 (n0+ (eA t:Nat)))) (aA (FTl .ready none F mn cs mo false (c+ (eA t:Nat))) 6)) ∧
  (zOk mo t z0=false→∃nc,eK PP 6 (.enter 136 [.agg [.int .i64 n0,.int .i64 z0,.iptr [XT.av t]],.yield 0]) (aA (FTl .ready none F mn cs mo false c) 6) (.ret (.int .i64 (-1))) (aA (FTl .done (some .ret) F mn cs mo false nc) 6))
 | .mk o n ks ps,hf,c,n0,z0,c0,c1,h0,h1,h2,h3=>by
  simp only [FineX]at hf;obtain⟨_,f2,f3,f4,f5,f6,f7⟩ :=hf;simp only [eA]at c1 h1 h3;have hfr:dB PP (aA (FTl .ready none F mn cs mo false c) 6) (.enter 136 [.agg [.int .i64 n0,.int .i64 z0,.iptr [XT.av (.mk o n ks ps)]],.yield 0]) =some (aWh F mn cs mo c n0 z0 o n ks ps).as.fr:=by kernel_rfl
  have e1:∀m:Int,n0+1+m=n0+ (1+m) :=fun m=>by omega
  simp only [zOk,eA];by_cases hz:z0≤mo
  · have st:=aWk F mn cs mo c n0 z0 o n ks ps sd (by simp;omega) sd;have lp:=aQt c n0 z0 o n ks ps f2 f3 f4 h2 ks 0 (n0+1) (c+1) rfl f7 (by omega) (by omega) (by omega) (by omega) (by omega);rw [decide_eq_true hz,Bool.true_and];refine⟨fun h=> ⟨_,hfr,?_⟩,fun h=>?_⟩
    · have:=st.ends (lp.1 h);rw [show n0+1+ ((aK ks:Nat) :Int) =n0+ ((aK ks+1:Nat) :Int)by omega,show c+1+ ((aK ks:Nat) :Int) =c+ ((aK ks+1:Nat) :Int)by omega]at this;exact this
    · obtain⟨nc,e⟩ :=lp.2 h;exact⟨nc,_,hfr,st.ends e⟩
  · rw [decide_eq_false hz,Bool.false_and];refine⟨fun h=> (by cases h),fun _=> ⟨c+1,_,hfr,?_⟩⟩;exact aWj F mn cs mo c n0 z0 o n ks ps sd (by simp;omega)
theorem aQt (c0 n0 z0:Int)(o n:Int)(ks:List XT)(ps:List Pat)(f2:ks.length≤1000)(f3:∀q∈ps,bW q≤1000)(f4:o=15→ks.length=1+ps.length)(h2:0≤z0) :
  ∀ (tl:List XT) (i:Nat) (n5 c:Int),ks.drop i=tl→FineXs B tl→0≤c→c+ (aK tl:Nat) ≤1000000→0≤n5→n5+ (aK tl:Nat) ≤1000000→z0+1000+1000* (aK tl:Nat) ≤1000000000 →
  (aJg mo o ps tl i z0=true→Ends PP 6 (aBw F mn cs mo c0 n0 z0 o n ks ps n5 (i:Int) c).as (.ret (.int .i64 (n5+ (aK tl:Nat)))) (aA (FTl .ready none F mn cs mo false (c+ (aK tl:Nat))) 6)) ∧
  (aJg mo o ps tl i z0=false→∃nc,Ends PP 6 (aBw F mn cs mo c0 n0 z0 o n ks ps n5 (i:Int) c).as (.ret (.int .i64 (-1))) (aA (FTl .done (some .ret) F mn cs mo false nc) 6))
 | [],i,n5,c,h,_,_,_,_,_,_=>by
  have:=bE h;simp only [aJg,aK];refine⟨fun _=>?_,fun h=> (by cases h)⟩;have e:=aWn F mn cs mo c0 n0 z0 o n ks ps n5 (i:Int) c sd;rw [show n5+ ((0:Nat) :Int) =n5 by omega,show c+ ((0:Nat) :Int) =c by omega];exact e
 | .mk a1 a2 a3 a4::tl,i,n5,c,h,hf,c1,c2,h5,h6,h7=>by
  obtain⟨g1,g2,g3⟩ :=bB h;simp only [FineXs]at hf;simp only [aK]at c2 h6 h7 ⊢;have ha:=wH (o:=o) f3 (i:Int);have hw:IntKind.i64.wrap (z0+cI o ps (i:Int)) =z0+cI o ps (i:Int) :=wrap64 (by omega) (by omega)
  have hq:o=15→0< (i:Int) →∃q,ps[((i:Int) -1).toNat]?=some q:=fun e15 hi=>by
   have:=f4 e15;exact⟨_,List.getElem?_eq_getElem (by omega)⟩
  have hs:=aQs (.mk a1 a2 a3 a4) hf.1 c n5 (z0+cI o ps (i:Int)) c1 (by omega) h5 (by omega) (by omega) (by omega);have ad:=aWo o n ks ps f3 (i:Int) ⟨by omega,by omega⟩ hq;simp only [aJg];generalize hx:eA (.mk a1 a2 a3 a4) =sx at hs c2 h6 h7 ⊢;cases hz:zOk mo (.mk a1 a2 a3 a4) (z0+cI o ps (i:Int))
  case false=>
   rw [Bool.false_and];refine⟨fun h=> (by cases h),fun _=>?_⟩;obtain⟨nc,e⟩ :=hs.2 hz;exact⟨nc,aWl F mn cs mo c0 n0 z0 o n ks ps n5 (i:Int) c _ a1 a2 a3 a4 nc sd ad sd sd (bFb hw (nH (m:=6) (ks:=[0,1,2,3,4,5]) e (by kernel_rfl) (by kernel_rfl) trivial trivial))⟩
  rw [Bool.true_and];have e:=hs.1 hz;have st:=aWm F mn cs mo c0 n0 z0 o n ks ps n5 (i:Int) c _ a1 a2 a3 a4 (c+ (sx:Nat)) (n5+ (sx:Nat)) sd ad sd sd (bFb hw (nH (m:=6) (ks:=[0,1,2,3,4,5]) e (by kernel_rfl) (by kernel_rfl) trivial trivial)) (by simp;omega) sd;have lp:=aQt c0 n0 z0 o n ks ps f2 f3 f4 h2 tl (i+1) (n5+ (sx:Nat)) (c+ (sx:Nat)) g2 hf.2 (by omega) (by omega) (by omega) (by omega) (by omega);refine⟨fun h=>?_,fun h=>?_⟩
  · have e3:=st.ends (lp.1 h);rw [show n5+ ((sx+aK tl:Nat) :Int) =n5+ (sx:Nat) + ((aK tl:Nat) :Int)by omega,show c+ ((sx+aK tl:Nat) :Int) =c+ (sx:Nat) + ((aK tl:Nat) :Int)by omega];exact e3
  · obtain⟨nc,e3⟩ :=lp.2 h;exact⟨nc,st.ends e3⟩
end
end
theorem aG2 (ts:List XT)(mn:Int)(cs:List Con)(mo B:Int)(hl:ts.length≤1000) :∀ (tl:List XT) (i:Nat) (n c:Int),ts.drop i=tl→FineXs B tl→0≤c→c+ (aK tl:Nat) ≤100000→0≤n→n+ (aK tl:Nat) ≤100000 →
  Ends PP 0 (aJe ts mn cs mo n (i:Int) c).as (.ret (.bool ((tl.all fun t=>zOk mo t 1) &&tY (c+ (aK tl:Nat)) &&decide (cs.length≤20)))) (aA [] 0)
 | [],i,n,c,h,_,_,_,_,_=>by
  have:=bE h;simp only [List.all_nil,Bool.true_and,aK];rw [show c+ ((0:Nat) :Int) =c by omega];by_cases g:c≤300
  · rw [show tY c=true from decide_eq_true g,Bool.true_and];have e:=bBp ts mn cs mo n (i:Int) c sd sd;have eq:decide (((length cs:Nat) :Int) ≤ (20:Int)) =decide (cs.length≤20) :=by simp;omega
    rw [eq]at e;exact e
  · rw [show tY c=false from decide_eq_false g,Bool.false_and];exact bBq ts mn cs mo n (i:Int) c sd sd
 | .mk a1 a2 a3 a4::tl,i,n,c,h,hf,c1,c2,h0,h1=>by
  obtain⟨g1,g2,g3⟩ :=bB h;simp only [FineXs]at hf;simp only [aK]at c2 h1 ⊢;have hs:=aQs ts mn cs mo B (.mk a1 a2 a3 a4) hf.1 c n 1 c1 (by omega) h0 (by omega) (by omega) (by omega);generalize hx:eA (.mk a1 a2 a3 a4) =sx at hs c2 h1 ⊢;simp only [all_cons];cases hz:zOk mo (.mk a1 a2 a3 a4) 1
  case false=>
   obtain⟨nc,e⟩ :=hs.2 hz;rw [Bool.false_and,Bool.false_and,Bool.false_and];exact bBn ts mn cs mo n (i:Int) c a1 a2 a3 a4 nc sd sd sd (nH (m:=6) (ks:=[0,1,2,3,4,5]) e (by kernel_rfl) (by kernel_rfl) trivial trivial)
  have e:=hs.1 hz;rw [Bool.true_and];refine(bBo ts mn cs mo n (i:Int) c a1 a2 a3 a4 (c+ (sx:Nat)) (n+ (sx:Nat)) sd sd sd (nH (m:=6) (ks:=[0,1,2,3,4,5]) e (by kernel_rfl) (by kernel_rfl) trivial trivial) (by simp;omega) sd).ends ?_;have lp:=aG2 ts mn cs mo B hl tl (i+1) (n+ (sx:Nat)) (c+ (sx:Nat)) g2 hf.2 (by omega) (by omega) (by omega) (by omega);rw [show c+ ((sx+aK tl:Nat) :Int) =c+ (sx:Nat) + ((aK tl:Nat) :Int)by omega];exact lp
theorem aSJ (ts:List XT)(mn:Int)(cs:List Con)(mo B:Int)(hl:ts.length≤1000)(hf:FineXs B ts)(hs:aK ts≤100000) :aJ PP 75 [fvA ts mn cs,.int .i64 mo] (.bool (aBx mo cs ts)) :=by
 refine aF (by kernel_rfl) (by simp [keylessL,keyless,fvA]) rfl ((bBm ts mn cs mo).ends ?_);have e:=aG2 ts mn cs mo B hl ts 0 0 0 rfl hf (by omega) (by omega) (by omega) (by omega);rw [Int.zero_add]at e;exact e
section
variable {P :Program}
end
inductive Typ where
 |mk (sort n:Int) (text:cA) (parts:List Typ)
mutual
def Typ.av :Typ→AV
 | .mk f n t ps=>.agg [.int .i64 f,.int .i64 n,dD t,.ilst 4 (Typs.av ps) false]
def Typs.av :List Typ→List AV
 | [] =>[]
 |p::ps=>Typ.av p::Typs.av ps
end
inductive Term where
 |mk (op n:Int) (text:cA) (kids:List Term) (pats:List Pat)
mutual
def Term.av :Term→AV
 | .mk o n t ks ps=>.agg [.int .i64 o,.int .i64 n,dD t,.ilst 5 (Terms.av ks) false,.ilst 4 (Pats.av ps) false]
def Terms.av :List Term→List AV
 | [] =>[]
 |p::ps=>Term.av p::Terms.av ps
end
structure ConD where
 name:cA
 args:List Typ
def ConD.av (c:ConD) :AV:=.agg [dD c.name,.ilst 4 (Typs.av c.args) false]
structure DataD where
 name:cA
 cons:List ConD
def DataD.av (d:DataD) :AV:=.agg [dD d.name,.ilst 2 (map ConD.av d.cons) false]
inductive FunD where
 |mk (name param:cA) (frm to:Typ) (body:Term)
def FunD.av :FunD→AV
 | .mk n p (.mk f0 f1 f2 f3) (.mk g0 g1 g2 g3) (.mk b0 b1 b2 b3 b4) =>.agg [dD n,dD p,.int .i64 f0,.int .i64 f1,dD f2,.ilst 4 (Typs.av f3) false,.int .i64 g0,.int .i64 g1,dD g2,.ilst 4 (Typs.av g3) false,.int .i64 b0,.int .i64 b1,dD b2,.ilst 5 (Terms.av b3) false,.ilst 4 (Pats.av b4) false]
def FunDs.av (l:List FunD) :List AV:=map FunD.av l
structure Mod where
 name:cA
 datas:List DataD
 funs:List FunD
def Mod.av (m:Mod) :AV:=.agg [dD m.name,.ilst 2 (map DataD.av m.datas) false,.ilst 15 (FunDs.av m.funs) false]
inductive Part where
 |data (d:DataD)
 |fn (f:FunD)
section
variable {P :Program}
theorem aBy {E E':Emb}(hle:E.le E') :∀ {xs:List AV} {i:Nat} {y:AV} {vs:List Value} {v:Value},VRs E xs vs→vs[i]?=some v→VR E' y v→VRs E' (xs.set i y) vs
 | [],i,y,vs,v,hvs,hv,_=>by simp only [VRs]at hvs;subst hvs;simp at hv
 | a::xs,0,y,vs,v,hvs,hv,hy=>by
  simp only [VRs]at hvs;obtain⟨u,us,rfl,h1,h2⟩ :=hvs;simp at hv;subst hv;simp only [List.set_cons_zero,VRs];exact⟨_,us,rfl,hy,h2.mono hle⟩
 | a::xs,i+1,y,vs,v,hvs,hv,hy=>by
  simp only [VRs]at hvs;obtain⟨u,us,rfl,h1,h2⟩ :=hvs;simp only [List.getElem?_cons_succ]at hv;simp only [List.set_cons_succ,VRs];exact⟨u,us,rfl,h1.mono hle,aBy hle h2 hv hy⟩
theorem aLV {E:Emb}{c:List AV}{o:Nat}{v:AV}(hc:c[o]?=some v){cv:Value}(h:VR E (.agg c) cv) :∃us w,cv= .agg us.toArray∧VRs E c us∧us[o]?=some w∧VR E v w:=by
 rw [VR]at h;obtain⟨us,rfl,h⟩ :=h;obtain⟨w,h1,h2⟩ :=h.get _ _ hc;exact⟨us,w,rfl,h,h1,h2⟩
theorem aCY {m:Nat}{fr:AFrame}{cs:List AFrame}{h h1:Hp}{k e i o:Nat}{zs c:List AV}{v v':AV}(hk:h.look k=some (.lst e zs))(hk1:h1.look k=some (.lst e zs))(hi:zs[i]?=some (.agg c))(hc:c[o]?=some v)(ht:m≤h.nb→kY m h h1 v v') :
  LeadsM P m ⟨fr,cs,h⟩ ⟨fr,cs,h1.set k (.lst e (zs.set i (.agg (c.set o v'))))⟩ :=fun hm E cf ccs w base f fs r=>by
 obtain⟨E',hle,r',x',hvv⟩ :=ht hm E w r;have hun:jK (.lst e zs) =false:=by
  cases zs with
  |nil=>simp at hi
  |cons _ _=>rfl
 have hr:Rel E' (h1.set k (.lst e (zs.set i (.agg (c.set o v'))))) w.heap:=by
  refine r'.reobj hk1 hun (fun L hL=>?_) rfl rfl rfl;obtain⟨L0,hE,C,el,vs,o1,o2,o3,o4,o5⟩ :=r.obj _ _ hk hun;have:=hle.1 _ _ hE;rw [hL]at this;cases this;obtain⟨cv,g1,g2⟩ :=o3.get _ _ hi;obtain⟨us,q,rfl,g3,g4,g5⟩ :=aLV hc g2;refine⟨C,el,vs,o1,o2,aBy hle o3 g1 ?_,o4,o5⟩;rw [VR];exact⟨us,rfl,aBy hle g3 g4 (hvv q g5)⟩
 exact⟨E',cf,ccs,w,Steps.refl _ _,f.mono hle,fs.mono hle,hr,iV x' hk1⟩
def LQ (zs:List AV)(i o:Nat)(v v':AV)(ys:List AV) :Prop:=∃c,zs[i]?=some (.agg c) ∧c[o]?=some v∧ys=zs.set i (.agg (c.set o v'))
theorem bBr {m:Nat}{s t:TS}{k b e0 e i o n:Nat}{u:Value}{xs zs ys:List AV}(hk:s.as.h.look k=some (.lst e0 zs))(hb:s.as.h.look b=some (.lstv u e xs))(hne:k≠b)(hn:xs.length=n)(hq:LQ zs i o (.val u) (.gl b e 0 n false) ys)
  (ht:t.as= ⟨s.as.fr,s.as.cs,(s.as.h.set b (.lst e xs)).set k (.lst e0 ys)⟩) :LeadsM P m s.as t.as:=by
 subst hn;obtain⟨c,h1,h2,rfl⟩ :=hq;rw [ht];exact aCY hk (by rw [aX,if_neg hne];exact hk) h1 h2 (aAV hb)
theorem bDU {m:Nat}{s t:TS}{k e0 e i o:Nat}{zs ys:List AV}(hk:s.as.h.look k=some (.lst e0 zs))(hlt:Nat.blt k s.as.h.nb=true)(hq:LQ zs i o .nils (.gl s.as.h.nb e 0 0 false) ys)
  (ht:t.as= ⟨s.as.fr,s.as.cs,(s.as.h.new (.lst e [])).set k (.lst e0 ys)⟩) :LeadsM P m s.as t.as:=by
 obtain⟨c,h1,h2,rfl⟩ :=hq;rw [ht];rw [cO]at hlt;have:=of_decide_eq_true hlt;exact aCY hk (by rw [cC,if_neg (by omega)];exact hk) h1 h2 (aBS e)
def NQ (zs:List AV)(i o b e n:Nat)(u:Value)(ys:List AV) :Prop:=0<n∧∃c ex,zs[i]?=some (.agg c) ∧c[o]?=some (.gl b e 0 n ex) ∧ys=zs.set i (.agg (c.set o (.val u)))
theorem aPd {m:Nat}{s1:AS}{k b e0 e i o:Nat}{zs xs:List AV}{ys:Value→List AV}{res:Res}{h':Hp}(hlk:s1.h.look k=some (.lst e0 zs))(hlb:s1.h.look b=some (.lst e xs))(hkb:k≠b)(hnq:∀u,NQ zs i o b e xs.length u (ys u))
  (hk:∀ua un uc,Ends P m ⟨s1.fr,s1.cs,(s1.h.set b (.lstv (.slice ua un uc) e xs)).set k (.lst e0 (ys (.slice ua un uc)))⟩ res h') :Ends P m s1 res h':=by
 obtain⟨hpos,c,ex,hz,hc,_⟩ :=hnq (.slice none 0 0);intro hm E cf ccs w f fs r cl base;have hun:jK (.lst e0 zs) =false:=by
  cases zs with
  |nil=>simp at hz
  |cons _ _=>rfl
 have hunb:jK (.lst e xs) =false:=by
  cases xs with
  |nil=>simp at hpos
  |cons _ _=>rfl
 obtain⟨L0,hE0,C,el,vs,o1,o2,o3,o4,o5⟩ :=r.obj _ _ hlk hun;obtain⟨cv,g1,g2⟩ :=o3.get _ _ hz;obtain⟨us,q,rfl,g3,g4,g5⟩ :=aLV hc g2;simp only [VR]at g5;rcases g5 with⟨z,_⟩ | ⟨L,a,cap,hE,rfl,a1,_,a3⟩
 ·omega
 · obtain⟨_,c',ex',hz',hc',hys⟩ :=hnq (.slice (some ⟨L.blk,a,none⟩) xs.length cap);rw [hz]at hz';cases hz'
   have r1:Rel E (s1.h.set b (.lstv (.slice (some ⟨L.blk,a,none⟩) xs.length cap) e xs)) w.heap:=r.reobj hlb hunb (fun L' hL'=>by
    obtain⟨C',el',vs',p1,p2,p3,p4,p5⟩ :=r.objL hlb hL';rw [hE]at hL';cases hL';exact⟨C',el',vs',p1,p2,p3,p4,p5,a,cap,rfl,by omega,fun hc=>by have:=a3 hc;exact⟨by omega,this.2⟩⟩) rfl rfl rfl
   have hlk1: (s1.h.set b (.lstv (.slice (some ⟨L.blk,a,none⟩) xs.length cap) e xs)).look k=some (.lst e0 zs) :=by rw [aX,if_neg hkb];exact hlk
   have r2:Rel E ((s1.h.set b (.lstv (.slice (some ⟨L.blk,a,none⟩) xs.length cap) e xs)).set k (.lst e0 (ys (.slice (some ⟨L.blk,a,none⟩) xs.length cap)))) w.heap:=r1.reobj hlk1 hun (fun L' hL'=>by
    rw [hE0]at hL';cases hL';refine⟨C,el,vs,o1,o2,?_,o4,o5⟩;rw [hys];refine aBy (Emb.le.refl E) o3 g1 ?_;rw [VR];exact⟨us,rfl,aBy (Emb.le.refl E) g3 g4 (by simp only [VR])⟩) rfl rfl rfl
   obtain⟨cl',w',E',s1',gg,rr,xx⟩ :=hk (some ⟨L.blk,a,none⟩) xs.length cap hm _ cf ccs w f fs r2 cl base;exact⟨cl',w',E',s1',gg,rr,(iV (iV (ExtM.refl hm) hlb) hlk1).trans xx⟩
theorem aSK {m:Nat}{s:AS}{t:TS}{ks:List Nat}(h2:s.sum (eR m t.nb s.h.nb ks) t=t.want (eR m t.nb s.h.nb ks))(hok:cT m t ks=true)(hkl:eF t.hp) :LeadsM P m s t.as:=by
 simp only [AS.sum,TS.want,Sum.mk.injEq]at h2;obtain⟨a1,a2,a3,a4⟩ :=h2;intro hm E fr ccs w base f fs r;obtain⟨q1,q2⟩ :=kZ (l:=t.hp) (nb:=t.nb) (by simpa [cT]using hok) a4 hkl r;exact⟨_,fr,ccs,w,Steps.refl _ _,aDg a1 f,xB a2 a3 fs,q1,q2⟩
def bDV (P:Program)(m:Nat)(is:List Ins)(s:TS)(k b i o:Nat)(ys:List AV)(u:Value)(is2:List Ins)(t:TS)(ks:List Nat) :Option (Nat×Sum×List Prop) :=
 match pX P is s.as with
 | some (s1,ps) =>match s1.h.look k,s1.h.look b with
  | some (.lst e0 zs),some (.lst e xs) =>bif Nat.beq k b then none else
   match pX P is2 ⟨s1.fr,s1.cs,(s1.h.set b (.lstv u e xs)).set k (.lst e0 ys)⟩with
   |some (s3,qs) =>some (s3.h.nb,AS.sum s3 (eR m t.nb s3.h.nb ks) t,NQ zs i o b e xs.length u ys:: (ps++qs))
   |none=>none
  |_,_=>none
 |none=>none
theorem aFq {m:Nat}{is:List Ins}{s:TS}{t:Value→TS}{k b i o:Nat}{ys:Value→List AV}{is2:Value→List Ins}{ks:List Nat}{n1:Nat}{ps:Value→List Prop}
  (h0:∀u,bDV P m is s k b i o (ys u) u (is2 u) (t u) ks=some (n1,(t u).want (eR m (t u).nb n1 ks),ps u)) (hok:∀u,cT m (t u) ks=true) (hkl:∀u,eF (t u).hp) (hp:∀u,AllP (ps u))
  {res:Res} {h':Hp} (hk:∀ua un uc,Ends P m (t (.slice ua un uc)).as res h') :Ends P m s.as res h':=by
 have h0':=h0 (.slice none 0 0);unfold bDV at h0';split at h0'
 · rename_i s1 qs h1;split at h0'
   · rename_i e0 zs e xs hlk hlb;cases hkb:Nat.beq k b
     case true=>rw [hkb]at h0';cases h0'
     have hkb':k≠b:=fun g=>by subst g;simp at hkb
     have key:∀u,∃s3 qs3,pX P (is2 u) ⟨s1.fr,s1.cs,(s1.h.set b (.lstv u e xs)).set k (.lst e0 (ys u))⟩ =some (s3,qs3) ∧s3.h.nb=n1∧s3.sum (eR m (t u).nb s3.h.nb ks) (t u) = (t u).want (eR m (t u).nb n1 ks) ∧NQ zs i o b e xs.length u (ys u) :: (qs++qs3) =ps u:=fun u=>by
      have h0u:=h0 u;unfold bDV at h0u;rw [h1]at h0u;simp only [hlk,hlb,hkb,cond]at h0u;split at h0u
      · rename_i s3 qs3 h3;simp only [Option.some.injEq,Prod.mk.injEq]at h0u;exact⟨s3,qs3,h3,h0u.1,h0u.2.1,h0u.2.2⟩
      ·cases h0u
     refine(fR h1 (fun q hq=>?_)).ends (aPd (i:=i) (o:=o) hlk hlb hkb' (ys:=ys) (fun u=>?_) (fun ua un uc=>?_))
     · obtain⟨s3,qs3,_,_,_,g⟩ :=key (.slice none 0 0);exact(hp (.slice none 0 0)).mem q (by rw [←g];exact List.mem_cons_of_mem _ (List.mem_append_left _ hq))
     · obtain⟨s3,qs3,_,_,_,g⟩ :=key u;exact(hp u).mem _ (by rw [←g];exact List.mem_cons_self ..)
     · obtain⟨s3,qs3,g1,g2,g3,g⟩ :=key (.slice ua un uc);subst g2;exact((fR g1 (fun q hq=> (hp (.slice ua un uc)).mem q (by rw [←g];exact List.mem_cons_of_mem _ (List.mem_append_right _ hq)))).trans (aSK g3 (hok _) (hkl _))).ends (hk ua un uc)
   ·cases h0'
 ·cases h0'
end
inductive KVD where
 |row (l:List ConD)
 |nil
 |val (u:Value)
def KVD.av :KVD→AV
 | .row l=>.ilst 2 (map ConD.av l) false
 | .nil=>.nils
 | .val u=>.val u
structure ODat where
 name:cA
 kv:KVD
def ODat.av (x:ODat) :AV:=.agg [dD x.name,x.kv.av]
def DataD.o (x:DataD) :ODat:= ⟨x.name,.row x.cons⟩
theorem aJh {β:Type}{f:β→AV}{l:List β}{ix T:Nat}{Y:AV}(h:T=ix)(hlt:ix<length l) : (set (map f l) ix Y)[0+T]?=some Y:=by
 subst h;rw [Nat.zero_add,List.getElem?_set_self (by simpa using hlt)]
theorem aWp {β:Type}{f:β→AV}{l:List β}{ix T:Nat}{Y Y':AV}(h:T=ix) : (set (map f l) ix Y).set (0+T) Y'=set (map f l) ix Y':=by
 subst h;rw [Nat.zero_add,set_set]
theorem bCA {β:Type}{f:β→AV}{l:List β}{ix:Nat}(pre post:List AV){b e n n':Nat}{ex:Bool}{u:Value}{y:β}(hlt:ix<length l)(hn:n'=n)(h0:0<n')(hy:f y= .agg (pre++ .val u::post)) :
  NQ (set (map f l) ix (.agg (pre++ .gl b e 0 n ex::post))) ix pre.length b e n' u (map f (set l ix y)) :=by
 subst hn;refine⟨h0,_,ex,List.getElem?_set_self (by simpa using hlt),by simp,?_⟩;rw [set_set,List.map_set,hy];simp
theorem bCB {β:Type}{f:β→AV}{l:List β}{ix:Nat}(pre post:List AV){v v':AV}{y:β}(h:l[ix]?=some y)(hy:f y= .agg (pre++v::post)) :
  LQ (map f l) ix pre.length v v' (set (map f l) ix (.agg (pre++v'::post))) :=by
 refine⟨pre++v::post,by rw [List.getElem?_map,h];simp [hy],by simp,by simp⟩
end
end Go.Hb
