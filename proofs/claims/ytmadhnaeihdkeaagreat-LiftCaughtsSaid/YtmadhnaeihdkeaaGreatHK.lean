/- A machine on abstract values, its soundness, ways, plain laws. -/
import Derived.Test.YtmadhnaeihdkeaaGreatHF
import Derived.Test.YtmadhnaeihdkeaaGreatHG
import Derived.Test.YtmadhnaeihdkeaaGreatHH
import Derived.Test.YtmadhnaeihdkeaaGreatHI
set_option linter.defProp false
set_option linter.unusedVariables false
set_option linter.unusedSimpArgs false
set_option linter.unusedSectionVars false
set_option maxRecDepth 100000
set_option maxHeartbeats 8000000
namespace Go.Hb
open List (length map set)
open Go.Proofs Tryz
noncomputable section
theorem aG2 (l:List ONode)(y:ONode)(r:List ONode) : (l++y::r)[((length l:Nat) :Int).toNat]?=some y:=by simp
theorem aJy (l:List ONode)(y:ONode)(r:List ONode) : (l++y::r)[length l]?=some y:=by simp
theorem aM5 (l:List ONode)(y z:ONode)(r:List ONode) :set (l++y::r) (((length l:Nat) :Int).toNat) z=l++z::r:=by simp
theorem aJz (l:List ONode)(y z:ONode)(r:List ONode) :set (l++y::r) (length l) z=l++z::r:=by simp
theorem EndsL.of {s:TS}{L L':List ONode}(h:EndsL s L)(e:L=L') :EndsL s L':=e ▸ h
section
variable (p :Prog) (funs cons:List Int) (k:Nat) (ih:∀ (L:List ONode) (c:Int) (ns:List Node),aRI p funs cons k L.length c=some ns→aVd p funs cons c L ns)
 (l:List ONode) (at0 op n':Int) (ps':List Pat) (kids:List Int) (hkids:kids.length<1000000)
include ih hkids
end
theorem hX {f:Nat}{a:List AV}{v:AV}{s:TS}(e: (start PP f a).as=s.as)(hb:qZ PP f=true)(hk:AV.keylessL a=true)(b:AV.keyless v=true)(he:Ends PP 0 s.as (.ret v) (aA [] 0)) :aK PP f a v:=
 aH hb hk b (by rw [e];exact he)
def aVY(a:List Con):TS:=cJ PP 72 [(iC a)] [] 0
def aX6(a:List Con):TS:=⟨(tf 72 8 [(0,(iC a)),(2,.nils),(3,(iC a))] [ko f72 12 1,kc f72 13,kc f72 7]),[],[],0⟩
def aWO(a:List Con):TS:=⟨(tf 72 8 [(0,(iC a)),(2,.nils),(3,.nils)] [ko f72 12 1,kc f72 13,kc f72 7]),[],[],0⟩
def aWP(a:List Con)(b:Addr)(c d:Nat):TS:=⟨(tf 72 8 [(0,(iC a)),(2,.nils),(3,(.val (Value.slice (some b) c d)))] [ko f72 12 1,kc f72 13,kc f72 7]),[],[],0⟩
def aX7 (a:List Con):=(tT 0 (aVY a)<|.W 8 0 [] (aX6 a)) tv
def aX8 (a:List Con):=(tT 0 (aWO a)<|.i [rn 8,.nilI 2 2] []<|gE 0 0 (.ilst 2 (jC ([] :List Con)) true)) tv
def aX9 (a:List Con)(b:Addr)(c d:Nat):=fun e=>(tT 0 (aWP a b c d)<|.i [rn 8,.toL 5 true []] [.q (p:=getCells (putCells .leaf 0 []) 0 (0*2) =some []) rfl,hr true]<|gu 0 0 (jC ([] :List Con))<|gs 0 5 (.gl 0 2 0 ([] :List Con).length true)<|.i [.weak 5] []<|ga 0 Con.av ([] :List Con) a<|gz 3 2 1 2 Con.av (([] :List Con) ++a) false<|gE 0 2 (iC (([] :List Con) ++a))) e tv
theorem aMj {P:Program}{m:Nat}{s:AS}{v v':AV}{h':Hp}(h:Ends P m s (.ret v) h')(b:∀ (E:Emb) (a:Value),VR E v a→VR E v' a) :Ends P m s (.ret v') h':=Ends.val h b
theorem aMk (xs:List Con)(h:xs.length≤1000000) :aK PP 72 [.ilst 2 (map Con.av xs) false] (.ilst 2 (map Con.av xs) false) :=by
 refine hX (s:=aVY xs) kR0 kR0 (by simp [AV.keylessL,AV.keyless]) (by simp [AV.keyless]) ((aX7 xs).ends ?_);refine aP0 (j:=3) (e:=2) (ex:=false) (xs:=map Con.av xs) kR0 (fun d=>?_) (fun a n c=>?_)
 · have d:xs= [] :=by simpa using d
   subst d;have b:=aMj (aX8 []) (fun E g f=>xE f);exact Eq.mp kR0 b
 · have b:=aX9 xs a n c (by simpa using h);rw [List.nil_append]at b;exact Eq.mp kR0 b
abbrev OFl (n:Nat)(mn:Int)(cs:List Con)(us:List (Nat×Nat))(ts:List XT) :HL:=[(0,(.cells (putCells .leaf 0 [(.gl 1 1 0 n false),(.int .i64 mn),(.ilst 2 (map Con.av cs) false)]) 3 [] false),false),(1,(.lst 1 (map rW us)),true),(2,(.zone true [] (ZV us (ts.map some))),false)]
abbrev OFm (n:Nat)(mn:Int)(cs:List Con)(ts:List XT) :HL:=[(0,(.cells (putCells .leaf 0 [(.gl 1 1 0 n false),(.int .i64 mn),(.ilst 2 (map Con.av cs) false)]) 3 [] false),false),(1,gh,false),(3,(.zone true [1] (aEa ts)),false)]
theorem aRJ {s:AS}{n:Nat}{mn:Int}{cs:List Con}{us:List (Nat×Nat)}{ts:List XT}(a:ts≠ [])(e:Ends PP 0 s (.ret (.ptr 0 0)) (aA (OFl n mn cs us ts) 3)) :Ends PP 0 s (.ret (.ptr 0 0)) (aA (FHl n mn cs ts) 3) :=by
 have z:zE (aA (OFl n mn cs us ts) 3) (aA (OFm n mn cs ts) 4) :=
  aNO (h:=aA (OFl n mn cs us ts) 3) (h':=aA (OFm n mn cs ts) 4) (k:=1) (g:=2) (us:=us) (ts:=ts) kR0 kR0 a (Nat.le_refl _)
   (mX ⟨.inr (.inr ⟨by decide,by decide,by kernel_rfl⟩),.inl ⟨rfl,rfl⟩,.inr (.inl ⟨rfl,rfl⟩),trivial⟩)
 exact mY (ks:=[0,1,3]) (aM2 e z (Nat.zero_le _)) kR0 kR0 kR0 trivial
section
variable {p :Prog} (hf:aDn p)
theorem aM6 (g:aDn p)(hl:p.funs.length≤1000) :∀ (d a:List XT) (b:List (Nat×Nat)) (i:Nat),aO p d (p.funs.drop i) →a.length=i→b.length=i→a++d≠ [] →
  Ends PP 0 (aDp p p.cons (i:Int) b (a.map some)).as (.ret (.ptr 0 0)) (aA (FHl (a++d).length p.main p.cons (a++d)) 3)
 | [],a,b,i,h,f,e,c=>by
  simp only [aO]at h;have v:=bJ h;rw [rZ]at c ⊢;rw [show a.length=b.length by omega];exact aRJ c (aU9 p p.cons (i:Int) b (a.map some) sd)
 | t::d,a,b,i,h,f,e,c=>by
  simp only [aO]at h;obtain⟨k,q,l,n,j⟩ :=h;obtain⟨s,o,r⟩ :=bH l;refine(aU6 p p.cons (i:Int) b (a.map some) k t sd sd sd (sg3 (m:=0) (ks:=[]) (aFc g t k n) kR0 kR0 trivial trivial) (by omega)).ends (aWJ p p.cons t (i:Int) b (a.map some) fun u=>?_);refine(aVa p p.cons t (i:Int) b (a.map some) u sd).ends ?_;have:=aM6 g hl d (a++ [t]) (b++ [u]) (i+1) (by rw [o];exact j) (by simp [f]) (by simp [e]) (by simp);rw [zq9,aNr]at this;exact this
theorem aVe (b:aDn p)(hl:p.funs.length≤1000)(hc:p.cons.length≤1000000){ts:List XT}(h:aO p ts p.funs)(a:ts≠ []) :kY PP 0 (.enter 58 [Prog.av p]) (aA [] 0) (.ret (.ptr 0 0)) (aA (FHl ts.length p.main p.cons ts) 3) :=by
 refine⟨(aVU p).as.fr,by kernel_rfl,?_⟩;have:=aM6 b hl ts [] [] 0 (by simpa using h) rfl rfl (by simpa using a);exact((aU7 p p.cons (aMk _ hc)).trans ((aWI p p.cons).trans (aU8 p p.cons))).ends this
end
theorem rX {p:Prog}(a:aM p=true) :∀ (i:Nat) (x:Node),p.nodes[i]?=some x→aW p x=true:=by
 simp only [aM,dC]at a;obtain⟨_,a⟩ :=a;split at a
 · unfold allT at a;split at a
   · rename_i v c;exact fun i x b=> (jM c i x b).1
   ·cases a
 ·cases a
theorem aM7 {p:Prog}(b:aE p=true) :aDn p:=fun nd d=>by
 simp only [aE,dC,decide_eq_true_eq]at b;have h:=zq27.1 b.2 nd d;simp only [bA,dC,decide_eq_true_eq]at h;obtain⟨⟨g,f⟩,e⟩ :=h;refine⟨by omega,?_⟩
 have:∀l:List Pat,eM l=true→bE l≤16*l.length:=fun l=>by
  induction l with
  |nil=>intro _;simp [bE]
  | cons q l c=>
   intro a;simp only [eM,List.all_cons,dC]at a;have:=c a.2;simp only [tZ,dC,decide_eq_true_eq]at a;simp only [bE,rY];omega
 have:=this _ e;omega
theorem aWQ {p:Prog}{x:Node}(h:aW p x=true) :uE x.op x.kids.length≤x.kids.length:=by
 simp only [aW,dC,decide_eq_true_eq]at h;obtain⟨_,b⟩ :=h;unfold uE;split
 · rename_i a;simp only [aRD,Bool.or_eq_true,decide_eq_true_eq]at a;have:1≤bY x.op x.pats.length (fA p x) :=by
    rcases a with((((((h|h) |h) |h) |h) |h) |h) |h<;>rw [h] <;>simp [bY] <;>omega
   omega
 ·split<;>omega
theorem aVf {p:Prog}{x:Node}(h:aW p x=true)(a:aGX x.op=true)(h2:x.op≠14) :x.kids.length=2:=by
 simp only [aW,dC,decide_eq_true_eq]at h;obtain⟨_,b⟩ :=h;simp only [aGX,Bool.or_eq_true,decide_eq_true_eq]at a;have:bY x.op x.pats.length (fA p x) =2:=by
  rcases a with(((((((h|h) |h) |h) |h) |h) |h) |h) |h
  all_goals first|exact absurd h h2| (rw [h];simp [bY])
 omega
mutual
theorem aPo {p:Prog}(u:FineP p)(s:∀ (i:Nat) (x:Node),p.nodes[i]?=some x→aW p x=true) :∀ (t:XT) (d:Int),IsTree p t d→FineX 400 t
 | .mk o n j B,d,h=>by
  simp only [IsTree]at h;obtain⟨C,nd,r,rfl,rfl,rfl,m⟩ :=h;have b:=s _ nd r;obtain⟨f,D,_⟩ :=u.node _ nd r;have a:j.length=nd.kids.length:=by
   have:∀ (c:List XT) (l:List Int),aO p c l→c.length=l.length:=fun c=>by
    induction c with
    |nil=>intro l h;simp only [aO]at h;rw [h];rfl
    |cons t c y=>intro l h;simp only [aO]at h;obtain⟨k,A,rfl,_,v⟩ :=h;simp [y _ v]
   exact this _ _ m
  simp only [FineX];refine⟨fun e=>?_,by omega,fun q g=>by have:= (f.pats q g).1;omega,fun e=>by rw [a];exact f.mat e,fun e=>by rw [a];exact f.let2 e,⟨by rw [a];exact aWQ b,?_,fun w z=>by rw [a];exact aVf b w z,fun q g=>aRj p.cons q (f.pats q g).2⟩,rN u s j nd.kids m⟩
  · simp only [aW,fZ,dC]at b;have:=b.1.1.1;rw [e]at this;simp [dL,cZ]at this;omega
  · simp only [aW,fZ,dC]at b;have:=b.1.1.2;split at this
    ·simp [cZ]at this;omega
    ·simp at this;simp [this]
theorem rN {p:Prog}(c:FineP p)(b:∀ (i:Nat) (x:Node),p.nodes[i]?=some x→aW p x=true) :∀ (a:List XT) (l:List Int),aO p a l→FineXs 400 a
 | [],_,_=>trivial
 | t::a,l,h=>by
  simp only [aO]at h;obtain⟨k,f,rfl,e,d⟩ :=h;exact⟨aPo c b t k e,rN c b a f d⟩
end
theorem uG {p:Prog}:∀ (l:List Int),(∀k∈l,∃t,IsTree p t k) →∃b,aO p b l
 | [],_=> ⟨[],rfl⟩
 | k::l,h=>by
  obtain⟨t,d⟩ :=h k (dJ ..);obtain⟨b,a⟩ :=uG l (fun x c=>h x (dR _ c));exact⟨t::b,by simp only [aO];exact⟨k,l,rfl,d,a⟩⟩
theorem aM8 {p:Prog}(f:FineP p) :∀ (d:Nat) (k:Int),0≤k→k<p.nodes.length→p.nodes.length-k.toNat≤d→∃t,IsTree p t k
 |0,k,e,h,g=>by omega
 | d+1,k,e,h,g=>by
  obtain⟨nd,a⟩ :∃nd,p.nodes[k.toNat]?=some nd:= ⟨_,lZ (by omega)⟩;obtain⟨_,_,hk⟩ :=f.node _ nd a
  obtain⟨i,b⟩ :=uG (p:=p) nd.kids (fun c hc=>by
   have:=hk c hc;exact aM8 f d c (by omega) this.2 (by omega))
  exact⟨.mk nd.op nd.n i nd.pats,by simp only [IsTree];exact⟨e,nd,a,rfl,rfl,rfl,b⟩⟩
theorem aRK {p:Prog}(a:FineP p) :∃b,aO p b p.funs:=uG p.funs (fun k hk=>by
 have:=a.funs k hk;exact aM8 a p.nodes.length k this.1 this.2 (by omega))
theorem jO {p:Prog}:∀ {a:List XT} {l:List Int},aO p a l→a.length=l.length
 | [],l,h=>by simp only [aO]at h;rw [h];rfl
 |t::a,l,h=>by simp only [aO]at h;obtain⟨k,c,rfl,_,b⟩ :=h;simp [jO b]
theorem aDv (o n:Int)(ks:List XT)(ps:List Pat)(i:∀q∈ps,bU q≤1000)(k:Int)(hk:0≤k∧k≤1000)(l:o=15→0<k→∃q,ps[(k-1).toNat]?=some q) :aK PP 97 [XT.av (.mk o n ks ps),.int .i64 k] (.int .i64 (cL o ps k)) :=by
 refine aH kR0 (by simp [AV.keylessL,AV.keyless,aQo]) rfl ?_;refine aDr o ps k (fun z=>Ends PP 0 _ (.ret (.int .i64 z)) _) (fun h=>?_) (fun h g j q f=>?_) l (fun h m=>?_)
 · by_cases a:o=5
   ·exact aUO o n ks ps k (by simpa using a)
   · by_cases b:o=27
     ·exact aUP o n ks ps k (by simpa using a) (by simpa using b)
     · have c:o=7∧k=1:=by omega
       exact aUQ o n ks ps k (by simpa using a) (by simpa using b) (by simpa using c.1) (by simpa using c.2)
 · obtain⟨a,b,c,d⟩ :=q;have:=i _ (oG f);exact aUS o n ks ps k a b c d _ (by simp;omega) (by simp;omega) (by simp;omega) (by simpa using g) sd sd (by omega) f (aJr (.mk a b c d) (by omega))
 · have a:¬o=5:=fun e=>h (.inl e);have b:¬o=27:=fun e=>h (.inr (.inl e));by_cases c:o=7
   · have d:¬k=1:=fun e=>h (.inr (.inr ⟨c,e⟩));exact aUR o n ks ps k (by simpa using a) (by simpa using b) (by simpa using c) (by simpa using d) (by simp;omega)
   · by_cases e:o=15
     ·exact aUT o n ks ps k (by simpa using a) (by simpa using b) (by simpa using c) (by simpa using e) (by simp;omega)
     ·exact aUU o n ks ps k (by simpa using a) (by simpa using b) (by simpa using c) (by simpa using e)
section
variable (F :List XT) (mn:Int) (cs:List Con) (mo:Int) (B:Int) (b0:Bool)
end
section
variable {P :Program}
end
inductive Typ where
 |mk (sort n:Int) (text:bS) (parts:List Typ)
mutual
def Typ.av :Typ→AV
 | .mk f n t ps=>.agg [.int .i64 f,.int .i64 n,cU t,.ilst 4 (Typs.av ps) false]
def Typs.av :List Typ→List AV
 | [] =>[]
 |p::ps=>Typ.av p::Typs.av ps
end
inductive Term where
 |mk (op n:Int) (text:bS) (kids:List Term) (pats:List Pat)
mutual
def Term.av :Term→AV
 | .mk o n t ks ps=>.agg [.int .i64 o,.int .i64 n,cU t,.ilst 5 (Terms.av ks) false,.ilst 4 (Pats.av ps) false]
def Terms.av :List Term→List AV
 | [] =>[]
 |p::ps=>Term.av p::Terms.av ps
end
structure ConD where
 name:bS
 args:List Typ
def ConD.av (c:ConD) :AV:=.agg [cU c.name,.ilst 4 (Typs.av c.args) false]
structure DataD where
 name:bS
 cons:List ConD
def DataD.av (d:DataD) :AV:=.agg [cU d.name,.ilst 2 (map ConD.av d.cons) false]
inductive FunD where
 |mk (name param:bS) (frm to:Typ) (body:Term)
def FunD.av :FunD→AV
 | .mk n p (.mk f0 f1 f2 f3) (.mk g0 g1 g2 g3) (.mk b0 b1 b2 b3 b4) =>.agg [cU n,cU p,.int .i64 f0,.int .i64 f1,cU f2,.ilst 4 (Typs.av f3) false,.int .i64 g0,.int .i64 g1,cU g2,.ilst 4 (Typs.av g3) false,.int .i64 b0,.int .i64 b1,cU b2,.ilst 5 (Terms.av b3) false,.ilst 4 (Pats.av b4) false]
def FunDs.av (l:List FunD) :List AV:=map FunD.av l
structure Mod where
 name:bS
 datas:List DataD
 funs:List FunD
def Mod.av (m:Mod) :AV:=.agg [cU m.name,.ilst 2 (map DataD.av m.datas) false,.ilst 15 (FunDs.av m.funs) false]
inductive Part where
 |data (d:DataD)
 |fn (f:FunD)
section
variable {P :Program}
end
inductive KVD where
 |row (l:List ConD)
 |nil
 |val (u:Value)
def KVD.av :KVD→AV
 | .row l=>.ilst 2 (map ConD.av l) false
 | .nil=>.nils
 | .val u=>.val u
structure ODat where
 name:bS
 kv:KVD
def ODat.av (x:ODat) :AV:=.agg [cU x.name,x.kv.av]
def DataD.o (x:DataD) :ODat:= ⟨x.name,.row x.cons⟩
section
variable {p :Prog} {mf mc:List (Int×Int)}
end
section
variable {p :Prog}
end
end
end Go.Hb

set_option linter.defProp false
set_option linter.unusedVariables false
set_option linter.unusedSimpArgs false
set_option linter.unusedSectionVars false
set_option maxRecDepth 100000
set_option maxHeartbeats 8000000
namespace Go.Hb
open List (count_append length map)
open Go.Proofs Tryz
noncomputable section
def pre (p:Prog) :Nat→Int→List Int
 |0,_=>[]
 | f+1,a=>match p.nodes[a.toNat]? with
  |some x=>a:: (x.kids.map (pre p f)).flatten
  |none=>[]
section
variable {p :Prog}
end
section
variable {p :Prog} {mf mc:List (Int×Int)} {F C:List Int} {to:List Int}
end
theorem aJA {p:Prog}(m:aE p=true)(a:aM p=true) :FineP p:=by
 have c:=m;simp only [aE,dC,decide_eq_true_eq]at c;obtain⟨⟨⟨⟨e,l⟩,n⟩,_⟩,h⟩ :=c;simp only [aM,dC]at a;obtain⟨_,a⟩ :=a;split at a
 · rename_i u g;unfold allT at a;split at a
   · rename_i v j;refine⟨e,l,fun i x d=>?_,fun f a=>?_⟩
     · have:=jM j i x d;have b:=zq27.1 h x (oG d);simp only [bA,dC,decide_eq_true_eq]at b;exact⟨aM0 this.1,b.1.1,fun k hk=>by have:=this.2 k hk;omega⟩
     ·have:=nA g f a;omega
   ·cases a
 ·cases a
def eF (p:Prog)(i:Int) :List Int:=match p.nodes[i.toNat]? with
 |some x=>x.kids
 |none=>[]
section
variable {p :Prog}
theorem xK {q:Int→List Int}(m:Int) :∀ (a:List Int),(∀k∈a,(q k).count m= [k].count m+ (((q k).map (eF p)).flatten).count m) →
  ((a.map q).flatten).count m=a.count m+ ((((a.map q).flatten).map (eF p)).flatten).count m
 | [],_=>rfl
 | k::a,h=>by
  have d:=h k (dJ ..);have b:=xK m a (fun x c=>h x (dR _ c));rw [dS,aHt,count_append,aNr,List.flatten_append,count_append,d,b,show k::a= [k] ++a from rfl,count_append];omega
theorem aFg (d:FineP p)(m:Int) :∀ (f:Nat) (a:Int),0≤a→a<p.nodes.length→p.nodes.length-a.toNat≤f→ (pre p f a).count m= [a].count m+ (((pre p f a).map (eF p)).flatten).count m
 |0,a,h,l,j=>by omega
 | f+1,a,h,l,j=>by
  obtain⟨x,c⟩ :∃x,p.nodes[a.toNat]?=some x:= ⟨_,lZ (by omega)⟩;obtain⟨_,_,b⟩ :=d.node _ _ c;have e:pre p (f+1) a=a:: (x.kids.map (pre p f)).flatten:=by rw [pre,c]
  have i:eF p a=x.kids:=by unfold eF;rw [c]
  have g:=xK (p:=p) m x.kids (fun k hk=>by
   have:=b k hk;exact aFg d m f k (by omega) (by omega) (by omega))
  rw [e,dS,aHt,count_append,i,show a:: (x.kids.map (pre p f)).flatten= [a] ++ (x.kids.map (pre p f)).flatten from rfl,count_append,g]
theorem aRL (g:FineP p) :∀ (f:Nat) (a:Int),0≤a→a<p.nodes.length→∀y∈pre p f a,0≤y∧y<p.nodes.length
 |0,a,_,_,y,b=>by cases b
 | f +1,a,h,i,y,b=>by
  obtain⟨x,d⟩ :∃x,p.nodes[a.toNat]?=some x:= ⟨_,lZ (by omega)⟩;obtain⟨_,_,c⟩ :=g.node _ _ d;have e:pre p (f+1) a=a:: (x.kids.map (pre p f)).flatten:=by rw [pre,d]
  rw [e]at b;rcases zq7.1 b with rfl|b
  ·exact⟨h,i⟩
  · obtain⟨l,hl,b⟩ :=List.mem_flatten.1 b;obtain⟨k,hk,rfl⟩ :=zq24.1 hl;have:=c k hk;exact aRL g f k (by omega) (by omega) y b
def uH (u:List Bool)(m:Int) :Nat:=if u[m.toNat]?=some true then 1 else 0
theorem nW {lo n:Int}(d:0≤lo){m:Int}(hm:0≤m) :∀ {a:List Int} {u v:List Bool},marks lo n a u=some v→a.count m+uH u m=uH v m
 | [],u,v,h=>by cases h;simp
 | k ::a,u,v,h=>by
  have hk:=nA h k (dJ ..);obtain⟨f,g⟩ :=iM h;have j:=nW d hm g;rw [←j,show k::a= [k] ++a from rfl,count_append];have c:= (zq0.1 f).1;by_cases e:k=m
  · subst e;have b:uH u k=0:=by unfold uH;rw [f];rfl
    have i:uH (u.set k.toNat true) k=1:=by unfold uH;rw [List.getElem?_set_self c];rfl
    rw [b,i];simp;omega
  · have b:uH (u.set k.toNat true) m=uH u m:=by unfold uH;rw [List.getElem?_set_ne (by omega)]
    rw [b,List.count_singleton,if_neg (by simpa using e)];omega
theorem nC {m:Int}(hm:0≤m) :∀ {t:List Node} {i:Nat} {u v:List Bool},bN p i t u=some v→ ((t.map Node.kids).flatten).count m+uH u m=uH v m
 | [],i,u,v,h=>by simp only [bN,Option.some.injEq]at h;subst h;simp
 | x::t,i,u,v,h=>by
  obtain⟨_,w,b,a⟩ :=eE h;have d:=nW (by omega) hm b;have c:=nC hm a;rw [dS,aHt,count_append];omega
theorem aFh {m:Int}:∀ {t:List Node},((t.map Node.kids).flatten).count m≤1→∀ (i j:Nat) (x y:Node),t[i]?=some x→t[j]?=some y→m∈x.kids→m∈y.kids→i=j
 | [],_,i,j,x,y,a,_,_,_=>by simp at a
 | z ::t,h,i,j,x,y,a,b,d,e=>by
  rw [dS,aHt,count_append]at h;have c:∀ {i:Nat} {x:Node},t[i]?=some x→m∈x.kids→0< ((t.map Node.kids).flatten).count m:=fun {i x} a d=>
   List.count_pos_iff.2 (List.mem_flatten.2 ⟨x.kids,zq24.2 ⟨x,oG a,rfl⟩,d⟩)
  cases i with
  | zero=>
   simp only [aKb,Option.some.injEq]at a;subst a;cases j with
   |zero=>rfl
   | succ j=>
    simp only [aDQ]at b;have:=c b e;have:=List.count_pos_iff.2 d;omega
  | succ i=>
   simp only [aDQ]at a;cases j with
   | zero=>
    simp only [aKb,Option.some.injEq]at b;subst b;have:=c a d;have:=List.count_pos_iff.2 e;omega
   | succ j=>
    simp only [aDQ]at b;rw [aFh (by omega) i j x y a b d e]
theorem aM9 {m:Int}:∀ {t:List Node} {i:Nat} {x:Node},t[i]?=some x→x.kids.count m≤ ((t.map Node.kids).flatten).count m
 | [],i,x,a=>by simp at a
 | z::t,0,x,a=>by
  simp only [aKb,Option.some.injEq]at a;subst a;rw [dS,aHt,count_append];omega
 | z::t,i+1,x,a=>by
  simp only [aDQ]at a;have:=aM9 (m:=m) a;rw [dS,aHt,count_append];omega
theorem aNa {m i:Int}:∀ (L:List Int),(∀j∈L,m∈eF p j→j=i) → ((L.map (eF p)).flatten).count m≤L.count i* (eF p i).count m
 | [],_=>by simp
 | j ::L,h=>by
  have a:=aNa L (fun x b=>h x (dR _ b));rw [dS,aHt,count_append,show j::L= [j] ++L from rfl,count_append,Nat.add_mul];by_cases hm:m∈eF p j
  · have:=h j (dJ ..) hm;subst this;simp;exact a
  · rw [List.count_eq_zero.2 hm];exact Nat.le_trans (by simpa using a) (Nat.le_add_left ..)
theorem aZL (t:FineP p)(hK:∀m:Int,0≤m→p.funs.count m+ ((p.nodes.map Node.kids).flatten).count m≤1){L:List Int}(g:∀x∈L,0≤x∧x<p.nodes.length)(r:∀m:Int,L.count m=p.funs.count m+ ((L.map (eF p)).flatten).count m) :∀ (b m:Nat),m≤b→L.count (m:Int) ≤1:=by
 intro b
 induction b with
 | zero=>
  intro m n;have hm:m=0:=by omega
  subst hm;have e:=r ((0:Nat) :Int);have z: ((L.map (eF p)).flatten).count ((0:Nat) :Int) =0:=by
   refine List.count_eq_zero.2 (fun h=>?_);obtain⟨l,hl,a⟩ :=List.mem_flatten.1 h;obtain⟨j,u,rfl⟩ :=zq24.1 hl;unfold eF at a;split at a
   · rename_i x c;have:= (t.node _ _ c).2.2 _ a;omega
   ·cases a
  have:=hK ((0:Nat) :Int) (by omega);omega
 | succ b C=>
  intro m n;have e:=r (m:Int);have hk:=hK (m:Int) (by omega);by_cases hz: ((L.map (eF p)).flatten).count (m:Int) =0
  ·omega
  · have k:=List.count_pos_iff.1 (Nat.pos_of_ne_zero hz);obtain⟨l,hl,a⟩ :=List.mem_flatten.1 k;obtain⟨i,A,rfl⟩ :=zq24.1 hl;have D:=g i A;obtain⟨x,c⟩ :∃x,p.nodes[i.toNat]?=some x:= ⟨_,lZ (by omega)⟩;have s:eF p i=x.kids:=by unfold eF;rw [c]
    rw [s]at a;have B:= (t.node _ _ c).2.2 _ a;have o:L.count i≤1:=by
     have:=C i.toNat (by omega);rwa [show((i.toNat:Nat) :Int) =i by omega]at this
    have q:=aNa (p:=p) (m:= (m:Int)) (i:=i) L (fun j u f=>by
     have F:=g j u;obtain⟨y,d⟩ :∃y,p.nodes[j.toNat]?=some y:= ⟨_,lZ (by omega)⟩;have v:eF p j=y.kids:=by unfold eF;rw [d]
     rw [v]at f;have:=aFh (by omega) _ _ y x d c f a;omega)
    rw [s]at q;have w:=aM9 (m:= (m:Int)) c;have:L.count i*x.kids.count (m:Int) ≤1*x.kids.count (m:Int) :=Nat.mul_le_mul_right _ o;omega
theorem aAE :∀ (n:Nat) (l:List Nat),l.Nodup→ (∀x∈l,x<n) →l.length≤n
 |0,[],_,_=>by simp
 |0,x::l,_,h=>by have:=h x (dJ ..);omega
 | n+1,l,hd,h=>by
  by_cases hm:n∈l
  · have c:=aAE n (l.erase n) (hd.erase n) (fun x a=>by
     have:=h x (List.mem_of_mem_erase a)
     have b:x≠n:=fun e=>by
      subst e;exact hd.not_mem_erase a
     omega)
    rw [List.length_erase_of_mem hm]at c;omega
  · have:=aAE n l hd (fun x a=>by
     have:=h x a;have b:x≠n:=fun e=>hm (e ▸ a);omega)
    omega
end
theorem aDw {L:List Int}(h:∀a,L.count a≤1) :L.Nodup:=List.nodup_iff_count.2 h
theorem aNb :∀ (n:Nat) (l:List Int),(∀i:Nat,i<n→ (i:Int) ∈l) →n≤l.length
 |0,l,_=>Nat.zero_le _
 | n+1,l,h=>by
  have a:=h n (Nat.lt_succ_self n);have b:=aNb n (l.erase (n:Int)) (fun i c=> (List.mem_erase_of_ne (by omega)).2 (h i (by omega)));rw [List.length_erase_of_mem a]at b;have:=List.length_pos_of_mem a;omega
theorem all_in {p:Prog}(j:FineP p)(hK:∀m:Nat,m<p.nodes.length→p.funs.count (m:Int) + ((p.nodes.map Node.kids).flatten).count (m:Int) =1){L:List Int}(h:∀m:Int,L.count m=p.funs.count m+ ((L.map (eF p)).flatten).count m) :∀ (b m:Nat),m≤b→m<p.nodes.length→ (m:Int) ∈L:=by
 intro b
 induction b with
 | zero=>
  intro m g hm;have e:=h (m:Int);have hk:=hK m hm;by_cases hz: ((p.nodes.map Node.kids).flatten).count (m:Int) =0
  ·exact List.count_pos_iff.1 (by omega)
  · obtain⟨l,hl,c⟩ :=List.mem_flatten.1 (List.count_pos_iff.1 (Nat.pos_of_ne_zero hz));obtain⟨x,d,rfl⟩ :=zq24.1 hl;obtain⟨i,a⟩ :=zq38.1 d;have:= (j.node _ _ a).2.2 _ c;omega
 | succ b k=>
  intro m g hm;have e:=h (m:Int);have hk:=hK m hm;by_cases hz: ((p.nodes.map Node.kids).flatten).count (m:Int) =0
  ·exact List.count_pos_iff.1 (by omega)
  · obtain⟨l,hl,c⟩ :=List.mem_flatten.1 (List.count_pos_iff.1 (Nat.pos_of_ne_zero hz));obtain⟨x,d,rfl⟩ :=zq24.1 hl;obtain⟨i,a⟩ :=zq38.1 d;have n:= (j.node _ _ a).2.2 _ c;have f:=k i (by omega) (by omega);have: (m:Int) ∈ (L.map (eF p)).flatten:=List.mem_flatten.2 ⟨x.kids,zq24.2 ⟨(i:Int),f,by unfold eF;rw [xW,a]⟩,c⟩;have:=List.count_pos_iff.2 this;exact List.count_pos_iff.1 (by omega)
theorem aMl {p:Prog}(B:aE p=true)(d:aM p=true) : ((p.funs.map (pre p p.nodes.length)).flatten).Nodup∧ ((p.funs.map (pre p p.nodes.length)).flatten).length=p.nodes.length∧ (∀x∈ (p.funs.map (pre p p.nodes.length)).flatten,0≤x∧x<p.nodes.length) ∧
  (∀ (i:Nat) (x:Node),p.nodes[i]?=some x→aW p x=true) :=by
 have f:=aJA B d;simp only [aM,dC]at d;obtain⟨_,d⟩ :=d;split at d
 · rename_i u o;unfold allT at d;split at d
   · rename_i v j
     have hK:∀m:Int,0≤m→p.funs.count m+ ((p.nodes.map Node.kids).flatten).count m≤1:=fun m hm=>by
      have C:=nW (by omega) hm o;have w:=nC hm j;have A:uH v m≤1:=by unfold uH;split<;>omega
      omega
     have c:∀x∈ (p.funs.map (pre p p.nodes.length)).flatten,0≤x∧x<p.nodes.length:=fun x g=>by
      obtain⟨l,hl,s⟩ :=List.mem_flatten.1 g;obtain⟨k,hk,rfl⟩ :=zq24.1 hl;have:=f.funs k hk;exact aRL f _ k this.1 this.2 x s
     have t:∀m:Int,((p.funs.map (pre p p.nodes.length)).flatten).count m=p.funs.count m+ ((((p.funs.map (pre p p.nodes.length)).flatten).map (eF p)).flatten).count m:=fun m=>xK m p.funs (fun k hk=>by
      have:=f.funs k hk;exact aFg f m _ k this.1 this.2 (by omega))
     have hd: ((p.funs.map (pre p p.nodes.length)).flatten).Nodup:=aDw (fun a=>by
      by_cases n:a∈ (p.funs.map (pre p p.nodes.length)).flatten
      · have hr:=c a n;have:=aZL f hK c t a.toNat a.toNat (Nat.le_refl _);rwa [show((a.toNat:Nat) :Int) =a by omega]at this
      ·rw [List.count_eq_zero.2 n];omega)
     refine⟨hd,?_,c,fun i x g=> (jM j i x g).1⟩;have q: (((p.funs.map (pre p p.nodes.length)).flatten).map Int.toNat).Nodup:=by
      rw [List.nodup_iff_pairwise_ne]at hd ⊢;refine List.pairwise_map.2 (hd.imp_of_mem (fun {a b} n hb hne e=>?_));have:=c a n;have:=c b hb;exact hne (by omega)
     have:=aAE p.nodes.length _ q (fun x g=>by
      obtain⟨y,s,rfl⟩ :=zq24.1 g;have:=c y s;omega)
     rw [lP]at this;refine Nat.le_antisymm this (aNb _ _ (fun i z=>all_in f (fun m hm=>?_) t i i (Nat.le_refl _) z));have C:=nW (m:= (m:Int)) (by omega) (by omega) o;have w:=nC (m:= (m:Int)) (by omega) j;have r:=kA o;have D:=lX j;rw [aKc]at r;have A:uH (List.replicate p.nodes.length false) (m:Int) =0:=by
      unfold uH;rw [xW,List.getElem?_replicate,if_pos hm];rfl
     have F:uH v (m:Int) =1:=by
      unfold uH;have h:m<v.length:=by omega
      have:=zq27.1 d _ (List.getElem_mem h);rw [xW,lZ h,this];rfl
     omega
   ·cases d
 ·cases d
def aZM (x:Node) :Prop:=x.kids.length<1000000∧bE x.pats<1000000
structure FitP (q:Prog) :Prop where
 nodes:q.nodes.length≤1000000
 funs:q.funs.length<1000000
 cons:q.cons.length<1000000
 node:∀x∈q.nodes,aZM x
structure LFun where
 name:bS
 body:Int
def LFun.av (f:LFun) :AV:=.agg [cU f.name,.int .i64 f.body]
structure LUnit where
 name:bS
 cons:List Con
 funs:List LFun
 needs:List bS
 nodes:List Node
def LUnit.av (u:LUnit) :AV:=.agg [cU u.name,.ilst 2 (map Con.av u.cons) false,.ilst 2 (map LFun.av u.funs) false,.ilst 1 (map cU u.needs) false,.ilst 4 (map Node.av u.nodes) false]
structure LPlace where
 nodes:Int
 funs:Int
def LPlace.av (p:LPlace) :AV:=.agg [.int .i64 p.nodes,.int .i64 p.funs]
theorem aMm {l:List ONode}{nn:List Node}(h:l=map Node.o nn) :map ONode.av l=map Node.av nn:=by rw [h,aUJ]
theorem aPp {f:Nat}{b args':List AV}{v:AV}(h:aK PP f b v)(hl:args'.length=b.length)(z:∀ (E:Emb) (i:Nat) (a q:AV) (c:Value),b[i]?=some a→args'[i]?=some q→VR E q c→VR E a c) :aK PP f args' v:=fun B=>by
 obtain⟨g,j,he⟩ :=h B;simp only [cX,cM]at j;split at j
 · rename_i fn p;split at j
   · rename_i c hc;cases j;refine⟨_,by simp only [cX,cM,p,hc];rfl,?_⟩;intro hm E fr o w d fs r x l;refine he hm E fr o w ?_ fs r x l;refine⟨d.fn,⟨by have:=d.tm.1;rw [hl]at this;exact this,fun t a e=>?_⟩,d.todo,d.defers,d.mode,d.kind,d.round⟩;have y:t<b.length∧b[t]?=some a:=by
      have m: (dQ .leaf 0 b).at t=some a:=e;unfold dQ at m;rw [aX]at m;split at m
      ·rename_i n;exact⟨n,m⟩
      ·cases m
     have k:args'[t]?=some args'[t] :=lZ (by omega)
     obtain⟨s,u,A⟩ :=d.tm.2 t args'[t] (by
      show(dQ .leaf 0 args').at t=_;unfold dQ;rw [aX,if_pos (by omega)];exact k)
     exact⟨s,u,z E t _ _ s y.2 k A⟩
   ·cases j
 ·cases j
mutual
def xM :XT→Nat→List Node
 | .mk o n ks ps,a=> ⟨o,n,(hM ks (a+1)).1,ps⟩ :: (hM ks (a+1)).2
def hM :List XT→Nat→List Int×List Node
 | [],_=> ([],[])
 |t::ts,a=> (((a:Nat) :Int) :: (hM ts (a+ (xM t a).length)).1,xM t a++ (hM ts (a+ (xM t a).length)).2)
end
mutual
theorem zT :∀ (t:XT) (a:Nat),(xM t a).length=eO t
 | .mk o n b c,a=>by rw [xM,eO,rY,aFi b (a+1)]
theorem aFi :∀ (b:List XT) (a:Nat),(hM b a).2.length=aG b
 | [],a=>by rw [hM,aG];rfl
 |t::b,a=>by rw [hM,aG,pU,zT t _,aFi b _]
end
abbrev PHc (b n:Nat)(r k:Nat)(mn:Int)(cs:List Con) :AObj:=.cells (putCells .leaf 0 [.gl b 4 0 n false,.gl r 1 0 k false,.int .i64 mn,.ilst 2 (map Con.av cs) false]) 4 [] false
abbrev PBl (fs:List Int)(mn:Int)(cs:List Con)(L:List ONode) :HL:=[(0,PHc 3 (length L) 2 (length fs) mn cs,false),(1,.cells (putCells .leaf 0 [.func 73 [] [.ptr 0 0,.ptr 1 0]]) 1 [] false,false),(2,.lst 1 (map aY fs),true),(3,OL L,true)]
def FPS (fs:List Int)(mn:Int)(cs:List Con)(t:XT)(L:List ONode)(ns:List Node) :Prop:=
 kY PP 3 (.enter 73 [XT.av t,.ptr 0 0,.ptr 1 0]) (aA (PBl fs mn cs L) 4) (.ret (.int .i64 ((length L:Nat) :Int))) (aA (PBl fs mn cs (L++map Node.o ns)) 4)
section
variable (fs :List Int) (mn:Int) (cs:List Con) (L:List ONode) (o n:Int) (ks:List XT) (ps:List Pat)
variable (hkl :ks.length≤1000) (ih:∀t∈ks,∀ (M:List ONode),M.length+eO t≤1000000→FPS fs mn cs t M (xM t M.length))
include hkl ih
end
def aYa :List XT→Nat→List Int×List Node:=hM
def aNc (ts:List XT)(mn:Int)(cs:List Con) :Prog:= ⟨(aYa ts 0).2,(aYa ts 0).1,mn,cs⟩
end
end Go.Hb
