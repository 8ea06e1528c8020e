/- A machine on abstract values, its soundness, ways, plain laws. -/
import Derived.Test.YtnljmgihoioocaaGreatHF
import Derived.Test.YtnljmgihoioocaaGreatHG
import Derived.Test.YtnljmgihoioocaaGreatHH
import Derived.Test.YtnljmgihoioocaaGreatHJ
set_option linter.defProp false
set_option linter.unusedVariables false
set_option linter.unusedSimpArgs false
set_option linter.unusedSectionVars false
set_option maxRecDepth 100000
set_option maxHeartbeats 8000000
namespace Go.Hb
open AV (ilst keyless keylessL)
open List (all_cons length map set set_set)
open Go.Proofs Tryz
noncomputable section
theorem aLt (l:List ONode)(y:ONode)(r:List ONode) : (l++y::r)[((length l:Nat) :Int).toNat]?=some y:=by simp
theorem tN (l:List ONode)(y:ONode)(r:List ONode) : (l++y::r)[length l]?=some y:=by simp
theorem aSW (l:List ONode)(y z:ONode)(r:List ONode) :set (l++y::r) (((length l:Nat) :Int).toNat) z=l++z::r:=by simp
theorem tO (l:List ONode)(y z:ONode)(r:List ONode) :set (l++y::r) (length l) z=l++z::r:=by simp
theorem EndsL.of {s:TS}{L L':List ONode}(h:EndsL s L)(e:L=L') :EndsL s L':=e ▸ h
section
variable (p :Prog) (funs cons:List Int) (k:Nat) (ih:∀ (L:List ONode) (c:Int) (ns:List Node),gV p funs cons k L.length c=some ns→aCv p funs cons c L ns)
 (l:List ONode) (at0 op n':Int) (ps':List Pat) (kids:List Int) (hkids:kids.length<1000000)
include ih hkids
theorem aSX (c:Int)(i:Nat)(kv:KV)(b:List Node)(h:List Int)(e:List Node)(L:List ONode)(hc:kids[i]?=some c)(n:0<h.length)(j:gV p funs cons k (l++ ⟨op,n',kv,ps'⟩ ::map Node.o b).length c=some e)
  (hk:∀u,EndsL (aLs p l at0 funs cons kids (l++ ⟨op,n',.val u,ps'⟩ ::map Node.o (b++e)) h u ((i+1:Nat) :Int)) L) :
  EndsL (yW p l at0 funs cons kids (l++ ⟨op,n',kv,ps'⟩ ::map Node.o b) h (i:Int)) L:=by
 have q:= (zq0.1 hc).1;refine aYY n (fun g d f=>?_);have o:=ih (l++ ⟨op,n',.val (.slice g d f),ps'⟩ ::map Node.o b) c e (by rw [←j];simp);have a:=aYX o (.slice g d f) h;have m:=bC8 p l at0 funs cons kids (l++ ⟨op,n',kv,ps'⟩ ::map Node.o b) h i g d f ⟨op,n',kv,ps'⟩ c e (aLt ..) sd (by simpa using hc) (by rw [aSW];exact a) sd;rw [aSW]at m;refine m.ends ?_;have:=hk (.slice g d f);rw [wX]at this;rw [show(l++ ⟨op,n',.val (.slice g d f),ps'⟩ ::map Node.o b) ++map Node.o e=l++ ⟨op,n',.val (.slice g d f),ps'⟩ :: (map Node.o b++map Node.o e)by simp];exact this
theorem aOo :∀ (e:List Int) (i:Nat) (u:Value) (b:List Node) (a f:List Int) (r:List Node),kids.drop i=e→a.length=i→0<i →
  mU (gV p funs cons k) (l.length+1+b.length) e=some (f,r) →
  EndsL (aLs p l at0 funs cons kids (l++ ⟨op,n',.val u,ps'⟩ ::map Node.o b) a u (i:Int)) (l++map Node.o (⟨op,n',a++f,ps'⟩ :: (b++r)))
 | [],i,u,b,a,f,r,h,hl,s,hm=>by
  have:=bJ h;cases hm;have o:=bDa p l at0 funs cons kids (l++ ⟨op,n',.val u,ps'⟩ ::map Node.o b) a u i ⟨op,n',.val u,ps'⟩ sd (tN ..) rfl;rw [tO]at o;rw [oS,oS];exact o
 | c ::e,i,u,b,a,f,r,h,hl,s,hm=>by
  obtain⟨v,w,x⟩ :=bE h;simp only [mU]at hm;split at hm
  · rename_i n g;split at hm
    · rename_i j q m;cases hm;have d: (l++ (⟨op,n',.val u,ps'⟩ :ONode) ::map Node.o b).length=l.length+1+b.length:=by simp;omega
      refine(bC9 p l at0 funs cons kids (l++ ⟨op,n',.val u,ps'⟩ ::map Node.o b) a u i ⟨op,n',.val u,ps'⟩ sd (by omega) (by rw [d];omega) (aLt ..) rfl (by simp;omega)).ends ?_;refine aSX p funs cons k ih l at0 op n' ps' kids hkids c i (.val u) b _ n _ v (by simp) (by rw [d];exact g) (fun t=>?_);have:=aOo e (i+1) t (b++n) (a++ [((l.length+1+b.length:Nat) :Int)]) j q w (by simp [hl]) (by omega) (by rw [wT,←Nat.add_assoc];exact m);rw [d];exact this.of (by simp)
    ·cases hm
  ·cases hm
theorem aYZ (ks:List Int)(r:List Node)(hm:mU (gV p funs cons k) (l.length+1) kids=some (ks,r)) :
  EndsL (aLq p l at0 funs cons kids (l++ [⟨op,n',.nil,ps'⟩])) (l++map Node.o (⟨op,n',ks,ps'⟩ ::r)) :=by
 cases kids with
 | nil=>
  cases hm;have h:=bC7 p l at0 funs cons [] (l++ [⟨op,n',.nil,ps'⟩]) ⟨op,n',.nil,ps'⟩ sd (tN ..) rfl;rw [tO]at h;exact h
 | cons c b=>
  simp only [mU]at hm;split at hm
  · rename_i g d;split at hm
    · rename_i e j f;cases hm;have a: (l++ [(⟨op,n',.nil,ps'⟩ :ONode)]).length=l.length+1:=by simp
      refine(bC6 p l at0 funs cons (c::b) (l++ [⟨op,n',.nil,ps'⟩]) ⟨op,n',.nil,ps'⟩ (by simp<;>omega) (by omega) (by rw [a];omega) (aLt ..) rfl (by simp)).ends ?_;refine aSX p funs cons k ih l at0 op n' ps' (c::b) hkids c 0 .nil [] _ g _ rfl (by simp) (by simpa using d) (fun i=>?_);have:=aOo p funs cons k ih l at0 op n' ps' (c::b) hkids b 1 i g [((l.length+1:Nat) :Int)] e j rfl rfl (by omega) f;rw [a];exact this.of (by simp)
    ·cases hm
  ·cases hm
end
theorem aOp (p:Prog)(b cons:List Int)(l:List ONode)(c op f:Int)(kids:List Int)(ps:List Pat)(g:aT ps<1000000)(hl:l.length<1000000)(L:List ONode) :∀ (t:List Pat) (i:Nat) (a n:List Pat),ps.drop i=t→a.length=i→qP cons t=some n →
  EndsL (aLq p l c b cons kids (l++ [⟨op,f,.nil,a++n⟩])) L→EndsL (aBe p l c b cons op f kids ps (i:Int) a) L
 | [],i,a,n,h,v,e,hk=>by
  have:=bJ h;cases e;rw [oS]at hk;exact(bC5 p l c b cons op f kids ps i a sd (by simp;omega)).ends hk
 | .mk u w x j::t,i,a,n,h,v,e,hk=>by
  obtain⟨A,C,D⟩ :=bE h;have:=eT ps;simp only [qP]at e;split at e
  · rename_i y q;split at e
    · rename_i s r;cases e;obtain⟨o,k,m,d⟩ :=y;rw [show a++ .mk o k m d::s= (a++ [.mk o k m d]) ++s by simp]at hk;have z:=aOp p b cons l c op f kids ps g hl L t (i+1) (a++ [.mk o k m d]) s C (by simp [v]) r (by exact hk);have B:=bC4 p l c b cons op f kids ps i a u w x j o k m d sd sd sd (aG5 cons ps g (.mk u w x j) (iO A) _ q) (by simp;omega) sd;exact B.ends z
    ·cases e
  ·cases e
theorem aVI (p:Prog)(l:List ONode)(b:Int)(a cons:List Int){L:List ONode}{ns:List Node}(e:L=l++map Node.o ns)(h:EndsL (aYO p l b a cons) L) :aCv p a cons b l ns:=by
 subst e;exact⟨(aYO p l b a cons).as.fr,by kernel_rfl,Eq.mp aC h⟩
theorem aY0 {n:Int}(a: -1000000000≤n)(h1:n≤1000000000) :IntKind.i64.wrap (-1-n) = -1-n:=sd
theorem aG6 (p:Prog)(a cons:List Int) :∀ (k:Nat) (l:List ONode) (at0:Int) (ns:List Node),gV p a cons k l.length at0=some ns→aCv p a cons at0 l ns
 |0,l,at0,ns,h=>by cases h
 | k+1, l, at0, ns, h=>by
  simp only [gV]at h;split at h
  · rename_i v;obtain⟨c,i⟩ :=v;split at h
    · rename_i y m;split at h
      · rename_i hb;split at h
        · rename_i o b;split at h
          · rename_i e f;split at h
            · rename_i t r q;cases h;have hC:=aOp p a cons l at0 y.op o y.kids y.pats hb.2 i _ y.pats 0 [] e rfl rfl f (aYZ p a cons k (aG6 p a cons k) l at0 y.op o e y.kids hb.1 t r q);refine aVI p l at0 a cons rfl ?_;unfold mN at b;split at b
              · rename_i n;have j: (y.op== (14:Int)) =false:=by rw [n.1];rfl
                split at b
                · rename_i g s;split at b
                  · rename_i hr;cases b;exact(bC0 p l at0 a cons y g c m (by simp [n.1]) (by simp [n.2]) (aY0 (by omega) (by omega)) (by omega) s (aY0 (by omega) (by omega)) j).ends hC
                  ·cases b
                ·cases b
              · rename_i n;split at b
                · rename_i d;split at b
                  · rename_i u;exact(bC2 p l at0 a cons y o c m (by simp [d]) (by simp [d]) u b).ends hC
                  ·cases b
                · rename_i d;cases b;by_cases j:y.op=4
                  ·exact(bC1 p l at0 a cons y c m (by simp [j]) (by simp;omega) (by simp [j])).ends hC
                  ·exact(bC3 p l at0 a cons y c m (by simp [j]) (by simp [d])).ends hC
            ·cases h
          ·cases h
        ·cases h
      ·cases h
    ·cases h
  ·cases h
def bFk(a:Prog):TS:=cO PP 59 [(Prog.av a)] [] 0
def bDb (a:Prog):=fun b=>(tT 0 (bFk a)<|.i [rn 6,.reg (rd 4 [.app (jC a.cons) a.cons.length,.d,.d])] [hA (length a.cons≤1000000),hr (jC a.cons),.q (p:=length (jC a.cons) =length a.cons) (hJ ..),hr (nI a.main),hr (nI a.main)]<|gy 1 1 3 2 2 Con.av a.cons false<|gE 0 3 (.agg [.nils,.nils,(nI a.main),(iC a.cons)])) b tv
def numsL (a:Int) :Nat→List Int
 |0=>[]
 |n+1=>numsL a n++ [a+ (n:Int)]
theorem fV (a:Int) :∀n,(numsL a n).length=n
 |0=>rfl
 |n+1=>by simp [numsL,fV a n]
theorem fW (a:Int) :∀ {n i:Nat},i<n→ (numsL a n)[i]?=some (a+ (i:Int))
 | n+1,i,h=>by
  rw [numsL];by_cases b:i<n
  ·rw [iQ (by rw [fV];exact b),fW a b]
  · have:i=n:=by omega
    subst this;rw [kR (by rw [fV];omega),fV];simp
theorem aJa (a:Int)(n:Nat)(b:n<1000000)(c: -1000000000≤a)(hb:a≤1000000000) :∀ (j i:Nat),i+j=n→Ends PP 0 (aFj a (n:Int) (i:Int) (numsL a i)).as (.ret (.ilst 1 (map bU (numsL a n)) false)) (aA [] 0)
 | 0,i,h=>by
  have:i=n:=by omega
  subst this;exact aYV a i i _ sd
 | j+1,i,h=>by
  have d:=aYU a n i (numsL a i) sd sd (by rw [wT,fV];simp;omega) sd;exact d.ends (aJa a n b c hb j (i+1) (by omega))
theorem aAi (a:Int)(n:Nat)(b:n<1000000)(c: -1000000000≤a)(hb:a≤1000000000) :aJ PP 61 [.int .i64 a,.int .i64 (n:Int)] (.ilst 1 (map bU (numsL a n)) false) :=
 aO aC rfl rfl ((aYT a n).ends (aJa a n b c hb n 0 (by omega)))
theorem yX {f:Nat}{a:List AV}{v:AV}{s:TS}(e: (start PP f a).as=s.as)(hb:vC PP f=true)(hk:keylessL a=true)(b:keyless v=true)(he:Ends PP 0 s.as (.ret v) (aA [] 0)) :aJ PP f a v:=
 aO hb hk b (by rw [e];exact he)
theorem aOq {p:Prog}(h:p.cons.length≤1000000) :aJ PP 59 [PA p] (.agg [.nils,.nils,.int .i64 p.main,.ilst 2 (map Con.av p.cons) false]) :=
 yX (s:=bFk p) aC aC (by simp [keylessL,keyless]) (by simp [keylessL,keyless]) (bDb p h)
theorem aJb {p:Prog}{a cons:List Int}{k:Nat}{l b:List Node}{c:Int}(h:gV p a cons k l.length c=some b) :
  aSu PP (.enter 60 [.gl 0 4 0 (length l) false,PA p,.int .i64 c,.ilst 1 (map bU a) false,.ilst 1 (map bU cons) false]) (aA [(0,.lst 4 (map Node.av l),true)] 1)
   (.ret (.gl 0 4 0 (length (l++b)) false)) (aA [(0,.lst 4 (map Node.av (l++b)),true)] 1) :=by
 have:=aG6 p a cons k (map Node.o l) c b (by rw [hJ];exact h);unfold aCv OL at this;rw [←wX,aKS,aKS,hJ,hJ]at this;exact this
theorem aOr {p:Prog}{a cons:List Int}{k:Nat}{l b:List Node}{c:Int}(h:gV p a cons k l.length c=some b)(mn:Int)(cs:List Con)(fs:List Int) :
  Spec PP (.enter 60 [.gl 3 4 0 (length l) false,PA p,.int .i64 c,.ilst 1 (map bU a) false,.ilst 1 (map bU cons) false])
   (aA [(0,lT p,false),(1,.cells (putCells .leaf 0 [.nils,.nils,.int .i64 0,.nils]) 4 [] false,false),(2,.cells (putCells .leaf 0 [.gl 3 4 0 (length l) false,.gl 4 1 0 (length fs) false,.int .i64 mn,.ilst 2 (map Con.av cs) false]) 4 [] false,false),(3,.lst 4 (map Node.av l),true),(4,.lst 1 (map bU fs),true)] 5)
   (.ret (.gl 5 4 0 (length (l++b)) false))
   (aA [(0,lT p,false),(1,.cells (putCells .leaf 0 [.nils,.nils,.int .i64 0,.nils]) 4 [] false,false),(2,.cells (putCells .leaf 0 [.gl 3 4 0 (length l) false,.gl 4 1 0 (length fs) false,.int .i64 mn,.ilst 2 (map Con.av cs) false]) 4 [] false,false),(4,.lst 1 (map bU fs),true),(5,.lst 4 (map Node.av (l++b)),true)] 6) :=
 Eq.mp aC (aBY (ks:=[3]) (n2:=5) (lc:=[(0,lT p,false),(1,.cells (putCells .leaf 0 [.nils,.nils,.int .i64 0,.nils]) 4 [] false,false),(2,.cells (putCells .leaf 0 [.gl 3 4 0 (length l) false,.gl 4 1 0 (length fs) false,.int .i64 mn,.ilst 2 (map Con.av cs) false]) 4 [] false,false),(3,.lst 4 (map Node.av l),true),(4,.lst 1 (map bU fs),true)])
  (x:=[(0,lT p,false),(1,.cells (putCells .leaf 0 [.nils,.nils,.int .i64 0,.nils]) 4 [] false,false),(2,.cells (putCells .leaf 0 [.gl 3 4 0 (length l) false,.gl 4 1 0 (length fs) false,.int .i64 mn,.ilst 2 (map Con.av cs) false]) 4 [] false,false),(4,.lst 1 (map bU fs),true)])
  (args':=[.gl 3 4 0 (length l) false,PA p,.int .i64 c,.ilst 1 (map bU a) false,.ilst 1 (map bU cons) false])
  (aJb h) aC aC aC ⟨aG _ (fun _=>rfl) _,trivial⟩ aC aC aC aC ⟨aG _ (fun _=>rfl) _,trivial⟩ aC)
def aFk (p:Prog)(k:Nat) :Option Prog:=match mU (gV p (numsL 0 p.funs.length) (numsL 0 p.cons.length) k) 0 p.funs with
 |some (ks,r) =>some ⟨r,ks,p.main,p.cons⟩
 |none=>none
abbrev aY1 (a:Nat)(b:Prog):=oC a [(iN b.nodes),(iI b.funs),(nI b.main),(iC b.cons)]
abbrev bGQ (a:Nat)(b:List XT)(c:Int)(d:List Con):=oC a [(.gl 1 1 0 b.length false),(nI c),(iC d)]
def aSY(a:Prog):TS:=cO PP 34 [(Prog.av a)] [] 0
def aRw(a:Prog):=tT 0 (aSY a)<|gpI 10 45 [(Prog.av a)]<|fun f=>.b 2 8 (f != 0) (gE 7 1 (.tup [.nilp,(nI 2)]))<|.y fun c:Bool=>.y fun g:Int=>gp 6 46 [(Prog.av a)] (.tup [(bV c),(nI g)])<|.b 11 15 (!c) (gE 7 1 (.tup [.nilp,(nI 7)]))<|.y fun b:List XT=>.y fun d:Int=>.y fun e:List Con=>gk 5 (.enter 48 [(Prog.av a)]) [aY1 0 a] 1 (.ptr 1 0) [aY1 0 a,oC 1 [(.gl 2 1 0 b.length false),(nI d),(iC e)],(2,gh,false),(3,(.zone true [2] (cQ b)),false)] 4<|.E 4 4 [1,2,3] (.tup [(.ptr 0 0),(nI 0)]) [bGQ 0 b d e,(1,gh,false),(2,(.zone true [1] (cQ b)),false)] 3
def bDc:=fun a b c d=>aRw a b c|>.t d tv
def bDd:=fun a b c d e f g i=>aRw a b e|>.f f c d g|>.t i tv
def bDe:=fun a b c d e f g i j k l m=>aRw a b i|>.f j c d k|>.f l e f g m tv
def bFl(a:List Con):TS:=cO PP 90 [(iC a)] [] 0
def bIi(a:List Con):TS:=⟨(tf 90 8 [(0,(iC a)),(2,.nils),(3,(iC a))] [ko f90 12 1,kc f90 13,kc f90 7]),[],[],0⟩
def bGR(a:List Con):TS:=⟨(tf 90 8 [(0,(iC a)),(2,.nils),(3,.nils)] [ko f90 12 1,kc f90 13,kc f90 7]),[],[],0⟩
def bGS(a:List Con)(b:Addr)(c d:Nat):TS:=⟨(tf 90 8 [(0,(iC a)),(2,.nils),(3,(.val (Value.slice (some b) c d)))] [ko f90 12 1,kc f90 13,kc f90 7]),[],[],0⟩
def bIj (a:List Con):=(tT 0 (bFl a)<|.W 8 0 [] (bIi a)) tv
def bIk (a:List Con):=(tT 0 (bGR a)<|.i [rn 8,.nilI 2 2] []<|gE 0 0 (.ilst 2 (jC ([] :List Con)) true)) tv
def bIl (a:List Con)(b:Addr)(c d:Nat):=fun e=>(tT 0 (bGS a b c d)<|.i [rn 8,.toL 5 true []] [.q (p:=getCells (putCells .leaf 0 []) 0 (0*2) =some []) rfl,hr true]<|gu 0 0 (jC ([] :List Con))<|gs 0 5 (.gl 0 2 0 ([] :List Con).length true)<|.i [.weak 5] []<|ga 0 Con.av ([] :List Con) a<|gz 3 2 1 2 Con.av (([] :List Con) ++a) false<|gE 0 2 (iC (([] :List Con) ++a))) e tv
theorem aRx {P:Program}{m:Nat}{s:AS}{v v':AV}{h':Hp}(h:Ends P m s (.ret v) h')(b:∀ (E:Emb) (a:Value),VR E v a→VR E v' a) :Ends P m s (.ret v') h':=Ends.val h b
theorem aG7 (xs:List Con)(h:xs.length≤1000000) :aJ PP 90 [.ilst 2 (map Con.av xs) false] (.ilst 2 (map Con.av xs) false) :=by
 refine yX (s:=bFl xs) aC aC (by simp [keylessL,keyless]) (by simp [keyless]) ((bIj xs).ends ?_);refine aWr (j:=3) (e:=2) (ex:=false) (xs:=map Con.av xs) aC (fun d=>?_) (fun a n c=>?_)
 · have d:xs= [] :=by simpa using d
   subst d;have b:=aRx (bIk []) (fun E g f=>nM f);exact Eq.mp aC b
 · have b:=bIl xs a n c (by simpa using h);rw [qW]at b;exact Eq.mp aC b
abbrev OFl (n:Nat)(mn:Int)(cs:List Con)(us:List (Nat×Nat))(ts:List XT) :HL:=[(0,(.cells (putCells .leaf 0 [(.gl 1 1 0 n false),(.int .i64 mn),(.ilst 2 (map Con.av cs) false)]) 3 [] false),false),(1,(.lst 1 (map aU us)),true),(2,(.zone true [] (ZV us (ts.map some))),false)]
abbrev OFm (n:Nat)(mn:Int)(cs:List Con)(ts:List XT) :HL:=[(0,(.cells (putCells .leaf 0 [(.gl 1 1 0 n false),(.int .i64 mn),(.ilst 2 (map Con.av cs) false)]) 3 [] false),false),(1,gh,false),(3,(.zone true [1] (cQ ts)),false)]
theorem aY2 {s:AS}{n:Nat}{mn:Int}{cs:List Con}{us:List (Nat×Nat)}{ts:List XT}(a:ts≠ [])(e:Ends PP 0 s (.ret (.ptr 0 0)) (aA (OFl n mn cs us ts) 3)) :Ends PP 0 s (.ret (.ptr 0 0)) (aA (FHl n mn cs ts) 3) :=by
 have z:kV (aA (OFl n mn cs us ts) 3) (aA (OFm n mn cs ts) 4) :=
  aDl (h:=aA (OFl n mn cs us ts) 3) (h':=aA (OFm n mn cs ts) 4) (k:=1) (g:=2) (us:=us) (ts:=ts) aC aC a (Nat.le_refl _)
   (aZ ⟨.inr (.inr ⟨by decide,by decide,by kernel_rfl⟩),.inl ⟨rfl,rfl⟩,.inr (.inl ⟨rfl,rfl⟩),trivial⟩)
 exact iK (ks:=[0,1,3]) (rQ e z (Nat.zero_le _)) aC aC aC trivial
section
variable {p :Prog} (hf:aRd p)
theorem aSZ (e:aRd p)(hl:p.funs.length≤1000) :∀ (d a:List XT) (b:List (Nat×Nat)) (i:Nat),aE p d (p.funs.drop i) →a.length=i→b.length=i→a++d≠ [] →
  Ends PP 0 (aGS p p.cons (i:Int) b (a.map some)).as (.ret (.ptr 0 0)) (aA (FHl (a++d).length p.main p.cons (a++d)) 3)
 | [],a,b,i,h,g,f,c=>by
  simp only [aE]at h;have q:=bJ h;rw [oS]at c ⊢;rw [show a.length=b.length by omega];exact aY2 c (bCl p p.cons (i:Int) b (a.map some) sd)
 | t::d,a,b,i,h,g,f,c=>by
  simp only [aE]at h;obtain⟨k,r,l,o,j⟩ :=h;obtain⟨v,n,s⟩ :=bE l;refine(bCh p p.cons (i:Int) b (a.map some) k t sd sd sd (wP (m:=0) (ks:=[]) (aI3 e t k o) aC aC trivial trivial) (by omega)).ends (bGI p p.cons t (i:Int) b (a.map some) fun u=>?_);refine(bCm p p.cons t (i:Int) b (a.map some) u sd).ends ?_;have:=aSZ e hl d (a++ [t]) (b++ [u]) (i+1) (by rw [n];exact j) (by simp [g]) (by simp [f]) (by simp);rw [zq9,wX]at this;exact this
theorem bDf (b:aRd p)(hl:p.funs.length≤1000)(hc:p.cons.length≤1000000){ts:List XT}(h:aE p ts p.funs)(a:ts≠ []) :gI PP 0 (.enter 48 [Prog.av p]) (aA [] 0) (.ret (.ptr 0 0)) (aA (FHl ts.length p.main p.cons ts) 3) :=by
 refine⟨(bFb p).as.fr,by kernel_rfl,?_⟩;have:=aSZ b hl ts [] [] 0 (by simpa using h) rfl rfl (by simpa using a);exact((bCj p p.cons (aG7 _ hc)).trans ((bGH p p.cons).trans (bCk p p.cons))).ends this
end
theorem aEH {p:Prog}(a:aN p=true) :∀ (i:Nat) (x:Node),p.nodes[i]?=some x→aM p x=true:=by
 simp only [aN,cF]at a;obtain⟨_,a⟩ :=a;split at a
 · unfold allT at a;split at a
   · rename_i v b;exact fun i x c=> (mO b i x c).1
   ·cases a
 ·cases a
theorem bDg {p:Prog}(b:aK p=true) :aRd p:=fun nd c=>by
 simp only [aK,cF,decide_eq_true_eq]at b;have h:=zq27.1 b.2 nd c;simp only [bB,cF,decide_eq_true_eq]at h;obtain⟨⟨g,f⟩,e⟩ :=h;refine⟨by omega,?_⟩
 have:∀l:List Pat,fU l=true→aT l≤16*l.length:=fun l=>by
  induction l with
  |nil=>intro _;simp [aT]
  | cons q l d=>
   intro a;simp only [fU,all_cons,cF]at a;have:=d a.2;simp only [vH,cF,decide_eq_true_eq]at a;simp only [aT,oK];omega
 have:=this _ e;omega
theorem bGT {p:Prog}{x:Node}(h:aM p x=true) :bL x.op x.kids.length≤x.kids.length:=by
 simp only [aM,cF,decide_eq_true_eq]at h;obtain⟨_,b⟩ :=h;unfold bL;split
 · rename_i a;simp only [fK,Bool.or_eq_true,decide_eq_true_eq]at a;have:1≤cL x.op x.pats.length (eZ p x) :=by
    rcases a with((((((h|h) |h) |h) |h) |h) |h) |h<;>rw [h] <;>simp [cL] <;>omega
   omega
 ·split<;>omega
theorem bDh {p:Prog}{x:Node}(h:aM p x=true)(h1:kP x.op=true)(h2:x.op≠14) :x.kids.length=2:=by
 simp only [aM,cF,decide_eq_true_eq]at h;obtain⟨_,a⟩ :=h;simp only [kP,Bool.or_eq_true,decide_eq_true_eq]at h1;have:cL x.op x.pats.length (eZ p x) =2:=by
  rcases h1 with(((((((h|h) |h) |h) |h) |h) |h) |h) |h
  all_goals first|exact absurd h h2| (rw [h];simp [cL])
 omega
mutual
theorem aVJ {p:Prog}(hp:FineP p)(r:∀ (i:Nat) (x:Node),p.nodes[i]?=some x→aM p x=true) :∀ (t:XT) (d:Int),IsTree p t d→FineX 400 t
 | .mk o n j B,d,h=>by
  simp only [IsTree]at h;obtain⟨A,nd,s,rfl,rfl,rfl,m⟩ :=h;have b:=r _ nd s;obtain⟨f,C,_⟩ :=hp.node _ nd s;have a:j.length=nd.kids.length:=by
   have:∀ (c:List XT) (l:List Int),aE p c l→c.length=l.length:=fun c=>by
    induction c with
    |nil=>intro l h;simp only [aE]at h;rw [h];rfl
    |cons t c y=>intro l h;simp only [aE]at h;obtain⟨k,z,rfl,_,w⟩ :=h;simp [y _ w]
   exact this _ _ m
  simp only [FineX];refine⟨fun e=>?_,by omega,fun q g=>by have:= (f.pats q g).1;omega,fun e=>by rw [a];exact f.mat e,fun e=>by rw [a];exact f.let2 e,⟨by rw [a];exact bGT b,?_,fun u v=>by rw [a];exact bDh b u v,fun q g=>bE7 p.cons q (f.pats q g).2⟩,aBf hp r j nd.kids m⟩
  · simp only [aM,dC,cF]at b;have:=b.1.1.1;rw [e]at this;simp [bO,dH]at this;omega
  · simp only [aM,dC,cF]at b;have:=b.1.1.2;split at this
    ·simp [dH]at this;omega
    ·simp at this;simp [this]
theorem aBf {p:Prog}(hp:FineP p)(b:∀ (i:Nat) (x:Node),p.nodes[i]?=some x→aM p x=true) :∀ (a:List XT) (l:List Int),aE p a l→FineXs 400 a
 | [],_,_=>trivial
 | t::a,l,h=>by
  simp only [aE]at h;obtain⟨k,d,rfl,e,c⟩ :=h;exact⟨aVJ hp b t k e,aBf hp b a d c⟩
end
theorem yY {p:Prog}:∀ (l:List Int),(∀k∈l,∃t,IsTree p t k) →∃b,aE p b l
 | [],_=> ⟨[],rfl⟩
 | k::l,h=>by
  obtain⟨t,c⟩ :=h k (dT ..);obtain⟨b,a⟩ :=yY l (fun x d=>h x (eD _ d));exact⟨t::b,by simp only [aE];exact⟨k,l,rfl,c,a⟩⟩
theorem aS0 {p:Prog}(hp:FineP p) :∀ (d:Nat) (k:Int),0≤k→k<p.nodes.length→p.nodes.length-k.toNat≤d→∃t,IsTree p t k
 |0,k,e,h,f=>by omega
 | d+1,k,e,h,f=>by
  obtain⟨nd,a⟩ :∃nd,p.nodes[k.toNat]?=some nd:= ⟨_,kH (by omega)⟩;obtain⟨_,_,hk⟩ :=hp.node _ nd a
  obtain⟨g,b⟩ :=yY (p:=p) nd.kids (fun c hc=>by
   have:=hk c hc;exact aS0 hp d c (by omega) this.2 (by omega))
  exact⟨.mk nd.op nd.n g nd.pats,by simp only [IsTree];exact⟨e,nd,a,rfl,rfl,rfl,b⟩⟩
theorem aY3 {p:Prog}(hp:FineP p) :∃a,aE p a p.funs:=yY p.funs (fun k hk=>by
 have:=hp.funs k hk;exact aS0 hp p.nodes.length k this.1 this.2 (by omega))
theorem cC {p:Prog}:∀ {a:List XT} {l:List Int},aE p a l→a.length=l.length
 | [],l,h=>by simp only [aE]at h;rw [h];rfl
 |t::a,l,h=>by simp only [aE]at h;obtain⟨k,c,rfl,_,b⟩ :=h;simp [cC b]
theorem bIm {p:Prog}(a:aK p=true)(b:aN p=false) :gI PP 0 (.enter 34 [Prog.av p]) (aA [] 0) (.ret (.tup [.nilp,.int .i64 2])) (aA [] 0) :=by
 have hc:=aCs a;rw [b]at hc;exact⟨(aSY p).as.fr,by kernel_rfl,bDc p _ hc (by rfl)⟩
theorem bDi {p:Prog}(b:aK p=true)(d:aN p=true)(a: (eC p).1=false) :gI PP 0 (.enter 34 [Prog.av p]) (aA [] 0) (.ret (.tup [.nilp,.int .i64 7])) (aA [] 0) :=by
 have hc:=aCs b;rw [d]at hc;have c:=aCt b;rw [a]at c;exact⟨(aSY p).as.fr,by kernel_rfl,bDd p _ false _ hc (by rfl) c rfl⟩
theorem bGU {p:Prog}(a:aK p=true)(f:aN p=true)(c: (eC p).1=true){ts:List XT}(e:aE p ts p.funs)(b:ts≠ []) :gI PP 0 (.enter 34 [Prog.av p]) (aA [] 0) (.ret (.tup [.ptr 0 0,.int .i64 0])) (aA (FHl ts.length p.main p.cons ts) 3) :=by
 have hc:=aCs a;rw [f]at hc;have d:=aCt a;rw [c]at d;have hb:=a;simp only [aK,cF,decide_eq_true_eq]at hb;exact⟨(aSY p).as.fr,by kernel_rfl,bDe p _ true _ ts p.main p.cons hc (by rfl) d rfl (wP (m:=0) (ks:=[]) (bDf (bDg a) (by omega) (by omega) e b) aC aC trivial trivial)⟩
abbrev aCw (a:List XT):AV:=.ilst 1 (XTs.av a) false
abbrev aLu (a:Nat)(b c d e:Int)(f:List XT)(g:List Pat):=oC a [(nI b),(nI c),(.iptr [(.iptr [(nI d),(nI e),(aCw f),(iP g)])])]
abbrev aFl (a:Nat)(b:List XT)(c:Int)(d:List Con):=oC a [(.iptr [(aCw b),(nI c),(iC d)])]
abbrev aY4 (a:List XT)(b:Int)(c:List Con)(d e f g h:Int)(i:List XT)(j:List Pat):=aA [(0,(.loop .done (some .ret) 93 (dO [kp 2 6]) 19 [6] (kd f93 28) (kd f93 29) 2),false),aFl 1 a b c,(2,(.defd false),false),oC 3 [(nI d)],(4,(.loop .done (some .ret) 47 (dO [kp 2 3]) 9 [6] (kd f47 52) (kd f47 53) 5),false),(5,(.defd false),false),oC 6 [(.yield 4)],aLu 7 e f g h i j] 8
abbrev aLv (a:List XT)(b:Int)(c:List Con)(d e f g:Int)(h:List XT)(i:List Pat):=aA [(0,(.loop .ready none 93 (dO [kp 2 6]) 19 [6] (kd f93 28) (kd f93 29) 2),false),aFl 1 a b c,(2,(.defd false),false),oC 3 [(nI 0)],(4,(.loop .ready none 47 (dO [kp 2 3]) 9 [6] (kd f47 52) (kd f47 53) 5),false),(5,(.defd false),false),oC 6 [(.yield 4)],aLu 7 d e f g h i] 8
abbrev aY5 (a:List XT)(b:Int)(c:List Con)(d e f g h i:Int)(j:List XT)(k:List Pat):=aA [(0,(.loop .done (some .ret) 75 (dO [kp 3 5,kp 4 2,kp 5 3]) 26 [9] (kd f75 116) (kd f75 117) 4),false),aFl 1 a b c,oC 2 [(bV false)],oC 3 [(nI d)],(4,(.defd false),false),oC 5 [(nI e)],aLu 6 f g h i j k] 7
abbrev aLw (a:List XT)(b:Int)(c:List Con)(d e f g h i:Int)(j:List XT)(k:List Pat):=aA [(0,(.loop .ready none 75 (dO [kp 3 5,kp 4 2,kp 5 3]) 26 [9] (kd f75 116) (kd f75 117) 4),false),aFl 1 a b c,oC 2 [(bV false)],oC 3 [(nI d)],(4,(.defd false),false),oC 5 [(nI e)],aLu 6 f g h i j k] 7
abbrev aLx (a b c d e:Int)(f:List XT)(g:List Pat):AV:=.agg [(nI a),(nI (IntKind.i64.wrap (b+c))),(.iptr [(.iptr [(nI d),(nI e),(aCw f),(iP g)])])]
abbrev aLy (a b c:Int)(d:List XT)(e:List Pat):AV:=.agg [(nI a),(nI 1),(.iptr [(.iptr [(nI b),(nI c),(aCw d),(iP e)])])]
abbrev fM (a:Nat)(b:List XT)(c:Int)(d:List Con):=oC a [(.iptr [(aCw b),(nI c),(iC d)])]
abbrev kQ (a:List XT):AV:=.ilst 1 (XTs.av a) false
def bIn(a:List XT)(b:Int)(c:List Con):TS:=cO PP 47 [(.iptr [(kQ a),(nI b),(iC c)])] [] 0
def aLz(a:List XT)(b:Int)(c:List Con)(d e:Int):TS:=⟨(tf 135 26 [(0,(.yield 0)),kp 1 1,(3,(nI d)),(9,(nI (a.length:Int))),(10,(nI e))] [kc f135 28,kl f135 28,.inBlock 0]),[(tf 93 19 [] [.inRF 0,.inBlock 0] (defers:=[.col 2])),(tf 47 9 [kp 2 3] [.inRF 4,.inBlock 0,kc f47 7] (defers:=[.col 5]))],[(0,(.loop .ready none 93 (dO [kp 2 6]) 19 [6] (kd f93 28) (kd f93 29) 2),false),fM 1 a b c,(2,(.defd false),false),oC 3 [(nI 0)],(4,(.loop .ready none 47 (dO [kp 2 3]) 9 [6] (kd f47 52) (kd f47 53) 5),false),(5,(.defd false),false),oC 6 [(.yield 4)]],7⟩
def aY6(a:List XT)(b:Int)(c:List Con)(d e f g:Int)(i:List XT)(j:List Pat):TS:=cO PP 136 [(.agg [(nI d),(nI e),(.iptr [(.iptr [(nI f),(nI g),(kQ i),(iP j)])])]),(.yield 0)] [(0,(.loop .ready none 93 (dO [kp 2 6]) 19 [6] (kd f93 28) (kd f93 29) 2),false),fM 1 a b c,(2,(.defd false),false),oC 3 [(nI 0)],(4,(.loop .ready none 47 (dO [kp 2 3]) 9 [6] (kd f47 52) (kd f47 53) 5),false),(5,(.defd false),false),oC 6 [(.yield 4)]] 7
def aCx(e:List XT)(f:Int)(g:List Con)(i j b c:Int)(a:List XT)(d:List Pat)(k l:Int):TS:=⟨(tf 136 48 [(1,(.yield 0)),kp 2 7,(4,(nI 0)),(5,(nI k)),(6,(.iptr [(nI b),(nI c),(kQ a),(iP d)])),(23,(nI (a.length:Int))),(24,(nI l))] [kc f136 500,kl f136 500,.inBlock 0,kc f136 63]),[],[(0,(.loop .ready none 93 (dO [kp 2 6]) 19 [6] (kd f93 28) (kd f93 29) 2),false),fM 1 e f g,(2,(.defd false),false),oC 3 [(nI 0)],(4,(.loop .ready none 47 (dO [kp 2 3]) 9 [6] (kd f47 52) (kd f47 53) 5),false),(5,(.defd false),false),oC 6 [(.yield 4)],oC 7 [(nI i),(nI j),(.iptr [(.iptr [(nI b),(nI c),(kQ a),(iP d)])])]],8⟩
def bIo(a:List XT)(b:Int)(c:List Con)(d:Int):TS:=cO PP 75 [(.iptr [(kQ a),(nI b),(iC c)]),(nI d)] [] 0
def aLA(a:List XT)(b:Int)(c:List Con)(d e f g:Int):TS:=⟨(tf 135 26 [(0,(.yield 0)),kp 1 1,(3,(nI e)),(9,(nI (a.length:Int))),(10,(nI f))] [kc f135 28,kl f135 28,.inBlock 0]),[(tf 75 26 [(0,(.iptr [(kQ a),(nI b),(iC c)])),kp 4 2,kp 5 3] [.inRF 0,.inBlock 0,kc f75 15] (defers:=[.col 4]))],[(0,(.loop .ready none 75 (dO [kp 3 5,kp 4 2,kp 5 3]) 26 [9] (kd f75 116) (kd f75 117) 4),false),fM 1 a b c,oC 2 [(bV false)],oC 3 [(nI g)],(4,(.defd false),false),oC 5 [(nI d)]],6⟩
def aY7(a:List XT)(b:Int)(c:List Con)(d e f g i j:Int)(k:List XT)(l:List Pat):TS:=cO PP 136 [(.agg [(nI f),(nI g),(.iptr [(.iptr [(nI i),(nI j),(kQ k),(iP l)])])]),(.yield 0)] [(0,(.loop .ready none 75 (dO [kp 3 5,kp 4 2,kp 5 3]) 26 [9] (kd f75 116) (kd f75 117) 4),false),fM 1 a b c,oC 2 [(bV false)],oC 3 [(nI e)],(4,(.defd false),false),oC 5 [(nI d)]] 6
def aCy(e:List XT)(f:Int)(g:List Con)(i o j k b c:Int)(a:List XT)(d:List Pat)(l m n:Int):TS:=⟨(tf 136 48 [(1,(.yield 0)),kp 2 6,(4,(nI 0)),(5,(nI l)),(6,(.iptr [(nI b),(nI c),(kQ a),(iP d)])),(23,(nI (a.length:Int))),(24,(nI m))] [kc f136 500,kl f136 500,.inBlock 0,kc f136 63]),[],[(0,(.loop .ready none 75 (dO [kp 3 5,kp 4 2,kp 5 3]) 26 [9] (kd f75 116) (kd f75 117) 4),false),fM 1 e f g,oC 2 [(bV false)],oC 3 [(nI n)],(4,(.defd false),false),oC 5 [(nI i)],oC 6 [(nI j),(nI k),(.iptr [(.iptr [(nI b),(nI c),(kQ a),(iP d)])])]],7⟩
def bDj (a:List XT)(b:Int)(c:List Con):=(tT 0 (bIn a b c)<|.i [rn 24,.lkeep 3 [2]] []<|.i [rn 23,.lkeep 7 [2]] []<|.i [rn 10,aL a] [.q (p:=((XTs.av a).length:Int) = (a.length:Int)) (kM dA _)]<|.W 4 8 [7,5,6,0,3,2,4] (aLz a b c 0 0)) tv
def aRy(a:List XT)(b:Int)(c:List Con)(e d:Int):=tT 0 (aLz a b c e d)<|gd 5 11 (d< (a.length:Int)) (.y fun f:Int=>.y fun g:Int=>.y fun i:List XT=>.y fun j:List Pat=>giF dA 17 a d (XT.mk f g i j)<|.o (.y fun l:Int=>gk 2 (.enter 136 [(aLy e f g i j),(.yield 0)]) [(0,(.loop .ready none 93 (dO [kp 2 6]) 19 [6] (kd f93 28) (kd f93 29) 2),false),fM 1 a b c,(2,(.defd false),false),oC 3 [(nI 0)],(4,(.loop .ready none 47 (dO [kp 2 3]) 9 [6] (kd f47 52) (kd f47 53) 5),false),(5,(.defd false),false),oC 6 [(.yield 4)]] 7 (nI (-1)) [(0,(.loop .done (some .ret) 93 (dO [kp 2 6]) 19 [6] (kd f93 28) (kd f93 29) 2),false),fM 1 a b c,(2,(.defd false),false),oC 3 [(nI l)],(4,(.loop .done (some .ret) 47 (dO [kp 2 3]) 9 [6] (kd f47 52) (kd f47 53) 5),false),(5,(.defd false),false),oC 6 [(.yield 4)]] 7<|gE 17 7 (nI l))<|.y fun k:Int=>gk 2 (.enter 136 [(aLy e f g i j),(.yield 0)]) [(0,(.loop .ready none 93 (dO [kp 2 6]) 19 [6] (kd f93 28) (kd f93 29) 2),false),fM 1 a b c,(2,(.defd false),false),oC 3 [(nI 0)],(4,(.loop .ready none 47 (dO [kp 2 3]) 9 [6] (kd f47 52) (kd f47 53) 5),false),(5,(.defd false),false),oC 6 [(.yield 4)]] 7 (nI k) [(0,(.loop .ready none 93 (dO [kp 2 6]) 19 [6] (kd f93 28) (kd f93 29) 2),false),fM 1 a b c,(2,(.defd false),false),oC 3 [(nI 0)],(4,(.loop .ready none 47 (dO [kp 2 3]) 9 [6] (kd f47 52) (kd f47 53) 5),false),(5,(.defd false),false),oC 6 [(.yield 4)]] 7<|gd 7 24 (k<0) (gE 16 7 (nI (-1)))<|gw 5 25 (d+1)<|.W 3 7 [0,1,2,3,4,5,6] (aLz a b c k (d+1)))<|gE 17 7 (nI (-1))
def bDk:=fun a b c d e f g i j k l m n o=>aRy a b c d e|>.t l f g i j m n|>.1 k o tv
def bDl:=fun a b c d e f g i j k l m n o p q=>aRy a b c d e|>.t l f g i j m n|>.2 k o|>.f p q tv
def bDm:=fun a b c d e f=>aRy a b c d e|>.f f tv
def aRz(f:List XT)(g:Int)(i:List Con)(b j c d:Int)(a:List XT)(e:List Pat):=tT 7 (aY6 f g i b j c d a e)<|.o (.y fun k:Int=>gp 23 95 [(.iptr [(nI c),(nI d),(kQ a),(iP e)])] (.iface 193 (nI k))<|.E 31 10 [] (nI (-1)) [(0,(.loop .done (some .ret) 93 (dO [kp 2 6]) 19 [6] (kd f93 28) (kd f93 29) 2),false),fM 1 f g i,(2,(.defd false),false),oC 3 [(nI b)],(4,(.loop .done (some .ret) 47 (dO [kp 2 3]) 9 [6] (kd f47 52) (kd f47 53) 5),false),(5,(.defd false),false),oC 6 [(.yield 4)]] 7)<|.o (gp 23 95 [(.iptr [(nI c),(nI d),(kQ a),(iP e)])] (.iface 191 (.agg []))<|.E 31 10 [] (nI (-1)) [(0,(.loop .done (some .ret) 93 (dO [kp 2 6]) 19 [6] (kd f93 28) (kd f93 29) 2),false),fM 1 f g i,(2,(.defd false),false),oC 3 [(nI b)],(4,(.loop .done (some .ret) 47 (dO [kp 2 3]) 9 [6] (kd f47 52) (kd f47 53) 5),false),(5,(.defd false),false),oC 6 [(.yield 4)]] 7)<|gp 23 95 [(.iptr [(nI c),(nI d),(kQ a),(iP e)])] (.nili)<|gw 21 14 (b+1)<|.i [rn 17,aL a] [.q (p:=((XTs.av a).length:Int) = (a.length:Int)) (kM dA _)]<|.W 4 9 [7] (aCx f g i b j c d a e (b+1) 0)
def aY8:=fun a b c d e f g i j k l=>aRz a b c d e f g i j|>.1 k l tv
def aY9:=fun a b c d e f g i j k=>aRz a b c d e f g i j|>.2|>.1 k tv
def aZa:=fun a b c d e f g i j k l=>aRz a b c d e f g i j|>.2|>.2 k l tv
def aRA(c:List XT)(d:Int)(e:List Con)(k b f g:Int)(a:List XT)(i:List Pat)(r j:Int):=tT 7 (aCx c d e k b f g a i r j)<|gd 5 25 (j< (a.length:Int)) (.o (.y fun l:Int=>.y fun m:Int=>.y fun n:Int=>.y fun o:List XT=>.y fun p:List Pat=>.y fun s:Int=>.i [rn 10,.reg (rd 5 (.pure (nI l)::rd 6 [.ans (.idx (XT.av (XT.mk m n o p))),.d,.d,.call (nI (-1)) (aY4 c d e s k b f g a i),.d]))] [hA (aJ PP 178 [(.iptr [(nI f),(nI g),(kQ a),(iP i)]),(nI j)] (nI l)),hA (0≤j),.a (((a)[j.toNat]?) =some (XT.mk m n o p)) (iV dA),hA (Spec PP (.enter 136 [(aLx r b l m n o p),(.yield 0)]) (aLv c d e k b f g a i) (.ret (nI (-1))) (aY4 c d e s k b f g a i)),hr (ilst 1 (XTs.av a) false),hr (ilst 1 (XTs.av a) false),hr (nI b),hr (nI b)]<|.E 12 8 [] (nI (-1)) [(0,(.loop .done (some .ret) 93 (dO [kp 2 6]) 19 [6] (kd f93 28) (kd f93 29) 2),false),fM 1 c d e,(2,(.defd false),false),oC 3 [(nI s)],(4,(.loop .done (some .ret) 47 (dO [kp 2 3]) 9 [6] (kd f47 52) (kd f47 53) 5),false),(5,(.defd false),false),oC 6 [(.yield 4)]] 7)<|.y fun l:Int=>.y fun m:Int=>.y fun n:Int=>.y fun o:List XT=>.y fun p:List Pat=>.y fun q:Int=>.i [rn 10,.reg (rd 5 (.pure (nI l)::rd 6 [.ans (.idx (XT.av (XT.mk m n o p))),.d,.d,.call (nI q) (aLv c d e k b f g a i),.d]))] [hA (aJ PP 178 [(.iptr [(nI f),(nI g),(kQ a),(iP i)]),(nI j)] (nI l)),hA (0≤j),.a (((a)[j.toNat]?) =some (XT.mk m n o p)) (iV dA),hA (Spec PP (.enter 136 [(aLx r b l m n o p),(.yield 0)]) (aLv c d e k b f g a i) (.ret (nI q)) (aLv c d e k b f g a i)),hr (ilst 1 (XTs.av a) false),hr (ilst 1 (XTs.av a) false),hr (nI b),hr (nI b)]<|gd 5 44 (q<0) (.E 7 8 [] (nI q) [(0,(.loop .ready none 93 (dO [kp 2 6]) 19 [6] (kd f93 28) (kd f93 29) 2),false),fM 1 c d e,(2,(.defd false),false),oC 3 [(nI 0)],(4,(.loop .ready none 47 (dO [kp 2 3]) 9 [6] (kd f47 52) (kd f47 53) 5),false),(5,(.defd false),false),oC 6 [(.yield 4)]] 7)<|gw 5 46 (j+1)<|.W 3 8 [7] (aCx c d e k b f g a i q (j+1)))<|.E 8 8 [] (nI r) [(0,(.loop .ready none 93 (dO [kp 2 6]) 19 [6] (kd f93 28) (kd f93 29) 2),false),fM 1 c d e,(2,(.defd false),false),oC 3 [(nI 0)],(4,(.loop .ready none 47 (dO [kp 2 3]) 9 [6] (kd f47 52) (kd f47 53) 5),false),(5,(.defd false),false),oC 6 [(.yield 4)]] 7
def aZb:=fun a b c d e f g i j k l m n o p q r s t u v w=>aRA a b c d e f g i j k l|>.t s|>.1 m n o p q r t u v w tv
def aZc:=fun a b c d e f g i j k l m n o p q r s t u v w x y=>aRA a b c d e f g i j k l|>.t s|>.2 m n o p q r t u v w|>.f x y tv
def aZd:=fun a b c d e f g i j k l m=>aRA a b c d e f g i j k l|>.f m tv
def bDn (a:List XT)(b:Int)(c:List Con)(d:Int):=(tT 0 (bIo a b c d)<|.i [rn 30,.lkeep 5 [3,4,5]] []<|.i [rn 10,aL a] [.q (p:=((XTs.av a).length:Int) = (a.length:Int)) (kM dA _)]<|.W 4 6 [5,3,1,2,4,0] (aLA a b c d 0 0 0)) tv
def aLB(b:List XT)(c:Int)(a:List Con)(d i e g:Int):=tT 0 (aLA b c a d i e g)<|gd 5 11 (e< (b.length:Int)) (.y fun j:Int=>.y fun k:Int=>.y fun l:List XT=>.y fun m:List Pat=>giF dA 17 b e (XT.mk j k l m)<|.o (.y fun f:Int=>gk 2 (.enter 136 [(aLy i j k l m),(.yield 0)]) [(0,(.loop .ready none 75 (dO [kp 3 5,kp 4 2,kp 5 3]) 26 [9] (kd f75 116) (kd f75 117) 4),false),fM 1 b c a,oC 2 [(bV false)],oC 3 [(nI g)],(4,(.defd false),false),oC 5 [(nI d)]] 6 (nI (-1)) [(0,(.loop .done (some .ret) 75 (dO [kp 3 5,kp 4 2,kp 5 3]) 26 [9] (kd f75 116) (kd f75 117) 4),false),fM 1 b c a,oC 2 [(bV false)],oC 3 [(nI f)],(4,(.defd false),false),oC 5 [(nI d)]] 6<|gE 13 6 (bV false))<|.y fun f:Int=>.y fun n:Int=>gk 2 (.enter 136 [(aLy i j k l m),(.yield 0)]) [(0,(.loop .ready none 75 (dO [kp 3 5,kp 4 2,kp 5 3]) 26 [9] (kd f75 116) (kd f75 117) 4),false),fM 1 b c a,oC 2 [(bV false)],oC 3 [(nI g)],(4,(.defd false),false),oC 5 [(nI d)]] 6 (nI n) [(0,(.loop .ready none 75 (dO [kp 3 5,kp 4 2,kp 5 3]) 26 [9] (kd f75 116) (kd f75 117) 4),false),fM 1 b c a,oC 2 [(bV false)],oC 3 [(nI f)],(4,(.defd false),false),oC 5 [(nI d)]] 6<|gd 7 24 (n<0) (gd 10 18 (f≤300) (gl 4 Con.av a<|gE 6 6 (bV (decide ((a.length:Int) ≤20))))<|gE 11 6 (bV false))<|gw 5 25 (e+1)<|.W 3 6 [0,1,2,3,4,5] (aLA b c a d n (e+1) f))<|gd 11 18 (g≤300) (gl 4 Con.av a<|gE 6 6 (bV (decide ((a.length:Int) ≤20))))<|gE 11 6 (bV false)
def bDo:=fun a b c d e f g i j k l m n o p q=>aLB a b c d e f g|>.t n i j k l o p|>.1 m q tv
def bDp:=fun a b c d e f g i j k l m n o p q r s t=>aLB a b c d e f g|>.t o i j k l p q|>.2 m n r|>.f s t tv
def bDq:=fun a b c d e f g i j=>aLB a b c d e f g|>.f i|>.t j tv
def bDr:=fun a b c d e f g i j=>aLB a b c d e f g|>.f i|>.f j tv
def aZe(e:List XT)(f:Int)(g:List Con)(c a d i j k:Int)(b:List XT)(l:List Pat):=tT 6 (aY7 e f g c a d i j k b l)<|gw 21 11 (a+1)<|gd 9 15 (i>c) (.E 14 8 [] (nI (-1)) [(0,(.loop .done (some .ret) 75 (dO [kp 3 5,kp 4 2,kp 5 3]) 26 [9] (kd f75 116) (kd f75 117) 4),false),fM 1 e f g,oC 2 [(bV false)],oC 3 [(nI (a+1))],(4,(.defd false),false),oC 5 [(nI c)]] 6)<|gw 13 14 (d+1)<|.i [rn 17,aL b] [.q (p:=((XTs.av b).length:Int) = (b.length:Int)) (kM dA _)]<|.W 4 8 [6] (aCy e f g c a d i j k b l (d+1) 0 (a+1))
def aZf:=fun a b c d e f g i j k l m n=>aZe a b c d e f g i j k l m|>.t n tv
def aZg:=fun a b c d e f g i j k l m n o=>aZe a b c d e f g i j k l m|>.f n o tv
def aRB(c:List XT)(d:Int)(e:List Con)(f v l b g i:Int)(a:List XT)(j:List Pat)(t k u:Int):=tT 6 (aCy c d e f v l b g i a j t k u)<|gd 5 25 (k< (a.length:Int)) (.o (.y fun n:Int=>.y fun o:Int=>.y fun p:Int=>.y fun q:List XT=>.y fun r:List Pat=>.y fun m:Int=>.i [rn 10,.reg (rd 5 (.pure (nI n)::rd 6 [.ans (.idx (XT.av (XT.mk o p q r))),.d,.d,.call (nI (-1)) (aY5 c d e m f l b g i a j),.d]))] [hA (aJ PP 178 [(.iptr [(nI g),(nI i),(kQ a),(iP j)]),(nI k)] (nI n)),hA (0≤k),.a (((a)[k.toNat]?) =some (XT.mk o p q r)) (iV dA),hA (Spec PP (.enter 136 [(aLx t b n o p q r),(.yield 0)]) (aLw c d e u f l b g i a j) (.ret (nI (-1))) (aY5 c d e m f l b g i a j)),hr (ilst 1 (XTs.av a) false),hr (ilst 1 (XTs.av a) false),hr (nI b),hr (nI b)]<|.E 12 7 [] (nI (-1)) [(0,(.loop .done (some .ret) 75 (dO [kp 3 5,kp 4 2,kp 5 3]) 26 [9] (kd f75 116) (kd f75 117) 4),false),fM 1 c d e,oC 2 [(bV false)],oC 3 [(nI m)],(4,(.defd false),false),oC 5 [(nI f)]] 6)<|.y fun n:Int=>.y fun o:Int=>.y fun p:Int=>.y fun q:List XT=>.y fun r:List Pat=>.y fun m:Int=>.y fun s:Int=>.i [rn 10,.reg (rd 5 (.pure (nI n)::rd 6 [.ans (.idx (XT.av (XT.mk o p q r))),.d,.d,.call (nI s) (aLw c d e m f l b g i a j),.d]))] [hA (aJ PP 178 [(.iptr [(nI g),(nI i),(kQ a),(iP j)]),(nI k)] (nI n)),hA (0≤k),.a (((a)[k.toNat]?) =some (XT.mk o p q r)) (iV dA),hA (Spec PP (.enter 136 [(aLx t b n o p q r),(.yield 0)]) (aLw c d e u f l b g i a j) (.ret (nI s)) (aLw c d e m f l b g i a j)),hr (ilst 1 (XTs.av a) false),hr (ilst 1 (XTs.av a) false),hr (nI b),hr (nI b)]<|gd 5 44 (s<0) (.E 7 7 [] (nI s) [(0,(.loop .ready none 75 (dO [kp 3 5,kp 4 2,kp 5 3]) 26 [9] (kd f75 116) (kd f75 117) 4),false),fM 1 c d e,oC 2 [(bV false)],oC 3 [(nI m)],(4,(.defd false),false),oC 5 [(nI f)]] 6)<|gw 5 46 (k+1)<|.W 3 7 [6] (aCy c d e f v l b g i a j s (k+1) m))<|.E 8 7 [] (nI t) [(0,(.loop .ready none 75 (dO [kp 3 5,kp 4 2,kp 5 3]) 26 [9] (kd f75 116) (kd f75 117) 4),false),fM 1 c d e,oC 2 [(bV false)],oC 3 [(nI u)],(4,(.defd false),false),oC 5 [(nI f)]] 6
def aZh:=fun a b c d e f g i j k l m n o p q r s t u v w x y z=>aRB a b c d e f g i j k l m n o|>.t v|>.1 p q r s t u w x y z tv
def aZi:=fun a b c d e f g i j k l m n o p q r s t u v w x y z A B C=>aRB a b c d e f g i j k l m n o|>.t w|>.2 p q r s t u v x y z A|>.f B C tv
def aZj:=fun a b c d e f g i j k l m n o p=>aRB a b c d e f g i j k l m n o|>.f p tv
theorem aOs (o n:Int)(ks:List XT)(ps:List Pat)(i:∀q∈ps,cB q≤1000)(k:Int)(hk:0≤k∧k≤1000)(hp:o=15→0<k→∃q,ps[(k-1).toNat]?=some q) :aJ PP 178 [XT.av (.mk o n ks ps),.int .i64 k] (.int .i64 (bI o ps k)) :=by
 refine aO aC (by simp [keylessL,keyless,aMU]) rfl ?_;refine aGY o ps k (fun z=>Ends PP 0 _ (.ret (.int .i64 z)) _) (fun h=>?_) (fun h g j q f=>?_) hp (fun h l=>?_)
 · by_cases a:o=5
   ·exact bBt o n ks ps k (by simpa using a)
   · by_cases b:o=27
     ·exact bBu o n ks ps k (by simpa using a) (by simpa using b)
     · have c:o=7∧k=1:=by omega
       exact bBv o n ks ps k (by simpa using a) (by simpa using b) (by simpa using c.1) (by simpa using c.2)
 · obtain⟨a,b,c,d⟩ :=q;have:=i _ (iO f);exact bBx o n ks ps k a b c d _ (by simp;omega) (by simp;omega) (by simp;omega) (by simpa using g) sd sd (by omega) f (aGX (.mk a b c d) (by omega))
 · have a:¬o=5:=fun e=>h (.inl e);have b:¬o=27:=fun e=>h (.inr (.inl e));by_cases c:o=7
   · have d:¬k=1:=fun e=>h (.inr (.inr ⟨c,e⟩));exact bBw o n ks ps k (by simpa using a) (by simpa using b) (by simpa using c) (by simpa using d) (by simp;omega)
   · by_cases e:o=15
     ·exact bBy o n ks ps k (by simpa using a) (by simpa using b) (by simpa using c) (by simpa using e) (by simp;omega)
     ·exact bBz o n ks ps k (by simpa using a) (by simpa using b) (by simpa using c) (by simpa using e)
mutual
def zOk (mo:Int) :XT→Int→Bool
 | .mk o _ ks ps,z=>decide (z≤mo) &&aEI mo o ps ks 0 z
def aEI (mo:Int)(o:Int)(ps:List Pat) :List XT→Nat→Int→Bool
 | [],_,_=>true
 |t::ts,i,z=>zOk mo t (z+bI o ps (i:Int)) &&aEI mo o ps ts (i+1) z
end
def yZ (n:Int) :Bool:=decide (n≤300)
def tP (mo:Int)(cs:List Con)(ts:List XT) :Bool:= (ts.all fun t=>zOk mo t 1) &&yZ (aD ts:Nat) &&decide (cs.length≤20)
abbrev FTl (s1:LoopState)(p1:Option Code)(ts:List XT)(mn:Int)(cs:List Con)(mo:Int)(b:Bool)(c:Int) :HL:=[(0,(.loop s1 p1 75 (dO [(3,(.ptr 5 0)),(4,(.ptr 2 0)),(5,(.ptr 3 0))]) 26 [9] (cd Tryz.f75 [1,1,0,1,0,0]) (cd Tryz.f75 [1,1,0,1,0,1]) 4),false),(1,(.cells (putCells .leaf 0 [(.iptr [(.ilst 1 (XTs.av ts) false),(.int .i64 mn),(.ilst 2 (map Con.av cs) false)])]) 1 [] false),false),(2,(.cells (putCells .leaf 0 [(.bool b)]) 1 [] false),false),(3,(.cells (putCells .leaf 0 [(.int .i64 c)]) 1 [] false),false),(4,(.defd false),false),(5,(.cells (putCells .leaf 0 [(.int .i64 mo)]) 1 [] false),false)]
section
variable (F :List XT) (mn:Int) (cs:List Con) (mo:Int) (B:Int) (b0:Bool)
mutual
theorem aS2 :∀ (t:XT),FineX B t→∀ (c a b:Int),0≤c→c+ (cK t:Nat) ≤1000000→0≤a→a+ (cK t:Nat) ≤1000000→0≤b→b+1000* (cK t:Nat) ≤1000000000 →
  (zOk mo t b=true→gI PP 6 (.enter 136 [.agg [.int .i64 a,.int .i64 b,.iptr [XT.av t]],.yield 0]) (aA (FTl .ready none F mn cs mo false c) 6) (.ret (.int .i64 (a+ (cK t:Nat)))) (aA (FTl .ready none F mn cs mo false (c+ (cK t:Nat))) 6)) ∧
  (zOk mo t b=false→∃i,gI PP 6 (.enter 136 [.agg [.int .i64 a,.int .i64 b,.iptr [XT.av t]],.yield 0]) (aA (FTl .ready none F mn cs mo false c) 6) (.ret (.int .i64 (-1))) (aA (FTl .done (some .ret) F mn cs mo false i) 6))
 | .mk o n d g,k,c,a,b,A,w,y,q,p,r=>by
  simp only [FineX]at k;obtain⟨_,u,s,l,C,z,v⟩ :=k;simp only [cK]at w q r;have f:dW PP (aA (FTl .ready none F mn cs mo false c) 6) (.enter 136 [.agg [.int .i64 a,.int .i64 b,.iptr [XT.av (.mk o n d g)]],.yield 0]) =some (aY7 F mn cs mo c a b o n d g).as.fr:=by kernel_rfl
  have x:∀m:Int,a+1+m=a+ (1+m) :=fun m=>by omega
  simp only [zOk,cK];by_cases hz:b≤mo
  · have st:=aZg F mn cs mo c a b o n d g sd (by simp;omega) sd;have j:=aS3 c a b o n d g u s l p d 0 (a+1) (c+1) rfl v (by omega) (by omega) (by omega) (by omega) (by omega);rw [decide_eq_true hz,mY];refine⟨fun h=> ⟨_,f,?_⟩,fun h=>?_⟩
    · have:=st.ends (j.1 h);rw [show a+1+ ((aD d:Nat) :Int) =a+ ((aD d+1:Nat) :Int)by omega,show c+1+ ((aD d:Nat) :Int) =c+ ((aD d+1:Nat) :Int)by omega]at this;exact this
    · obtain⟨i,e⟩ :=j.2 h;exact⟨i,_,f,st.ends e⟩
  · rw [decide_eq_false hz,Bool.false_and];refine⟨fun h=> (by cases h),fun _=> ⟨c+1,_,f,?_⟩⟩;exact aZf F mn cs mo c a b o n d g sd (by simp;omega)
theorem aS3 (j k d:Int)(o n:Int)(ks:List XT)(ps:List Pat)(L:ks.length≤1000)(x:∀q∈ps,cB q≤1000)(y:o=15→ks.length=1+ps.length)(h2:0≤d) :
  ∀ (b:List XT) (i:Nat) (a c:Int),ks.drop i=b→FineXs B b→0≤c→c+ (aD b:Nat) ≤1000000→0≤a→a+ (aD b:Nat) ≤1000000→d+1000+1000* (aD b:Nat) ≤1000000000 →
  (aEI mo o ps b i d=true→Ends PP 6 (aCy F mn cs mo j k d o n ks ps a (i:Int) c).as (.ret (.int .i64 (a+ (aD b:Nat)))) (aA (FTl .ready none F mn cs mo false (c+ (aD b:Nat))) 6)) ∧
  (aEI mo o ps b i d=false→∃g,Ends PP 6 (aCy F mn cs mo j k d o n ks ps a (i:Int) c).as (.ret (.int .i64 (-1))) (aA (FTl .done (some .ret) F mn cs mo false g) 6))
 | [],i,a,c,h,_,_,_,_,_,_=>by
  have:=bJ h;simp only [aEI,aD];refine⟨fun _=>?_,fun h=> (by cases h)⟩;have e:=aZj F mn cs mo j k d o n ks ps a (i:Int) c sd;rw [show a+ ((0:Nat) :Int) =a by omega,show c+ ((0:Nat) :Int) =c by omega];exact e
 | .mk r s p l::b,i,a,c,h,t,M,C,J,D,A=>by
  obtain⟨Q,K,O⟩ :=bE h;simp only [FineXs]at t;simp only [aD]at C D A ⊢;have R:=qL (o:=o) x (i:Int);have G:IntKind.i64.wrap (d+bI o ps (i:Int)) =d+bI o ps (i:Int) :=wrap64 (by omega) (by omega)
  have I:o=15→0< (i:Int) →∃q,ps[((i:Int) -1).toNat]?=some q:=fun w N=>by
   have:=y w;exact⟨_,kH (by omega)⟩
  have v:=aS2 (.mk r s p l) t.1 c a (d+bI o ps (i:Int)) M (by omega) J (by omega) (by omega) (by omega);have H:=aOs o n ks ps x (i:Int) ⟨by omega,by omega⟩ I;simp only [aEI];generalize S:cK (.mk r s p l) =f at v C D A ⊢;cases hz:zOk mo (.mk r s p l) (d+bI o ps (i:Int))
  case false=>
   rw [Bool.false_and];refine⟨fun h=> (by cases h),fun _=>?_⟩;obtain⟨g,e⟩ :=v.2 hz;exact⟨g,aZh F mn cs mo j k d o n ks ps a (i:Int) c _ r s p l g sd H sd sd (bCq G (wP (m:=6) (ks:=[0,1,2,3,4,5]) e aC aC trivial trivial))⟩
  rw [mY];have e:=v.1 hz;have st:=aZi F mn cs mo j k d o n ks ps a (i:Int) c _ r s p l (c+ (f:Nat)) (a+ (f:Nat)) sd H sd sd (bCq G (wP (m:=6) (ks:=[0,1,2,3,4,5]) e aC aC trivial trivial)) (by simp;omega) sd;have z:=aS3 j k d o n ks ps L x y h2 b (i+1) (a+ (f:Nat)) (c+ (f:Nat)) K t.2 (by omega) (by omega) (by omega) (by omega) (by omega);refine⟨fun h=>?_,fun h=>?_⟩
  · have u:=st.ends (z.1 h);rw [show a+ ((f+aD b:Nat) :Int) =a+ (f:Nat) + ((aD b:Nat) :Int)by omega,show c+ ((f+aD b:Nat) :Int) =c+ (f:Nat) + ((aD b:Nat) :Int)by omega];exact u
  · obtain⟨g,u⟩ :=z.2 h;exact⟨g,st.ends u⟩
end
end
theorem aJc (ts:List XT)(mn:Int)(cs:List Con)(mo B:Int)(hl:ts.length≤1000) :∀ (a:List XT) (i:Nat) (n c:Int),ts.drop i=a→FineXs B a→0≤c→c+ (aD a:Nat) ≤100000→0≤n→n+ (aD a:Nat) ≤100000 →
  Ends PP 0 (aLA ts mn cs mo n (i:Int) c).as (.ret (.bool ((a.all fun t=>zOk mo t 1) &&yZ (c+ (aD a:Nat)) &&decide (cs.length≤20)))) (aA [] 0)
 | [],i,n,c,h,_,_,_,_,_=>by
  have:=bJ h;simp only [List.all_nil,mY,aD];rw [show c+ ((0:Nat) :Int) =c by omega];by_cases g:c≤300
  · rw [show yZ c=true from decide_eq_true g,mY];have e:=bDq ts mn cs mo n (i:Int) c sd sd;have v:decide (((length cs:Nat) :Int) ≤ (20:Int)) =decide (cs.length≤20) :=by simp;omega
    rw [v]at e;exact e
  · rw [show yZ c=false from decide_eq_false g,Bool.false_and];exact bDr ts mn cs mo n (i:Int) c sd sd
 | .mk j k f d::a,i,n,c,h,l,x,q,s,p=>by
  obtain⟨z,w,y⟩ :=bE h;simp only [FineXs]at l;simp only [aD]at q p ⊢;have o:=aS2 ts mn cs mo B (.mk j k f d) l.1 c n 1 x (by omega) s (by omega) (by omega) (by omega);generalize A:cK (.mk j k f d) =b at o q p ⊢;simp only [all_cons];cases hz:zOk mo (.mk j k f d) 1
  case false=>
   obtain⟨r,e⟩ :=o.2 hz;rw [Bool.false_and,Bool.false_and,Bool.false_and];exact bDo ts mn cs mo n (i:Int) c j k f d r sd sd sd (wP (m:=6) (ks:=[0,1,2,3,4,5]) e aC aC trivial trivial)
  have e:=o.1 hz;rw [mY];refine(bDp ts mn cs mo n (i:Int) c j k f d (c+ (b:Nat)) (n+ (b:Nat)) sd sd sd (wP (m:=6) (ks:=[0,1,2,3,4,5]) e aC aC trivial trivial) (by simp;omega) sd).ends ?_;have u:=aJc ts mn cs mo B hl a (i+1) (n+ (b:Nat)) (c+ (b:Nat)) w l.2 (by omega) (by omega) (by omega) (by omega);rw [show c+ ((b+aD a:Nat) :Int) =c+ (b:Nat) + ((aD a:Nat) :Int)by omega];exact u
theorem aVK (ts:List XT)(mn:Int)(cs:List Con)(mo B:Int)(hl:ts.length≤1000)(a:FineXs B ts)(b:aD ts≤100000) :aJ PP 75 [fvA ts mn cs,.int .i64 mo] (.bool (tP mo cs ts)) :=by
 refine aO aC (by simp [keylessL,keyless,fvA]) rfl ((bDn ts mn cs mo).ends ?_);have e:=aJc ts mn cs mo B hl ts 0 0 0 rfl a (by omega) (by omega) (by omega) (by omega);rw [Int.zero_add]at e;exact e
section
variable {P :Program}
end
inductive Typ where
 |mk (sort n:Int) (text:cA) (parts:List Typ)
mutual
def Typ.av :Typ→AV
 | .mk f n t ps=>.agg [.int .i64 f,.int .i64 n,dP t,.ilst 4 (Typs.av ps) false]
def Typs.av :List Typ→List AV
 | [] =>[]
 |p::ps=>Typ.av p::Typs.av ps
end
inductive Term where
 |mk (op n:Int) (text:cA) (kids:List Term) (pats:List Pat)
mutual
def Term.av :Term→AV
 | .mk o n t ks ps=>.agg [.int .i64 o,.int .i64 n,dP t,.ilst 5 (Terms.av ks) false,.ilst 4 (Pats.av ps) false]
def Terms.av :List Term→List AV
 | [] =>[]
 |p::ps=>Term.av p::Terms.av ps
end
structure ConD where
 name:cA
 args:List Typ
def ConD.av (c:ConD) :AV:=.agg [dP c.name,.ilst 4 (Typs.av c.args) false]
structure DataD where
 name:cA
 cons:List ConD
def DataD.av (d:DataD) :AV:=.agg [dP d.name,.ilst 2 (map ConD.av d.cons) false]
inductive FunD where
 |mk (name param:cA) (frm to:Typ) (body:Term)
def FunD.av :FunD→AV
 | .mk n p (.mk f0 f1 f2 f3) (.mk g0 g1 g2 g3) (.mk b0 b1 b2 b3 b4) =>.agg [dP n,dP p,.int .i64 f0,.int .i64 f1,dP f2,.ilst 4 (Typs.av f3) false,.int .i64 g0,.int .i64 g1,dP g2,.ilst 4 (Typs.av g3) false,.int .i64 b0,.int .i64 b1,dP b2,.ilst 5 (Terms.av b3) false,.ilst 4 (Pats.av b4) false]
def FunDs.av (l:List FunD) :List AV:=map FunD.av l
structure Mod where
 name:cA
 datas:List DataD
 funs:List FunD
def Mod.av (m:Mod) :AV:=.agg [dP m.name,.ilst 2 (map DataD.av m.datas) false,.ilst 15 (FunDs.av m.funs) false]
inductive Part where
 |data (d:DataD)
 |fn (f:FunD)
section
variable {P :Program}
theorem aCz {E E':Emb}(d:E.le E') :∀ {f:List AV} {i:Nat} {y:AV} {e:List Value} {v:Value},VRs E f e→e[i]?=some v→VR E' y v→VRs E' (f.set i y) e
 | [],i,y,e,v,b,c,_=>by simp only [VRs]at b;subst b;simp at c
 | a::f,0,y,e,v,b,c,h=>by
  simp only [VRs]at b;obtain⟨u,j,rfl,k,g⟩ :=b;simp at c;subst c;simp only [List.set_cons_zero,VRs];exact⟨_,j,rfl,h,g.mono d⟩
 | a::f,i+1,y,e,v,b,c,h=>by
  simp only [VRs]at b;obtain⟨u,j,rfl,k,g⟩ :=b;simp only [lV]at c;simp only [List.set_cons_succ,VRs];exact⟨u,j,rfl,k.mono d,aCz d g c h⟩
theorem aOt {E:Emb}{c:List AV}{o:Nat}{v:AV}(hc:c[o]?=some v){cv:Value}(h:VR E (.agg c) cv) :∃a w,cv= .agg a.toArray∧VRs E c a∧a[o]?=some w∧VR E v w:=by
 rw [VR]at h;obtain⟨a,rfl,h⟩ :=h;obtain⟨w,d,b⟩ :=h.get _ _ hc;exact⟨a,w,rfl,h,d,b⟩
theorem aEo {m:Nat}{fr:AFrame}{cs:List AFrame}{h h1:Hp}{k e i o:Nat}{b c:List AV}{v v':AV}(hk:h.look k=some (.lst e b))(g:h1.look k=some (.lst e b))(n:b[i]?=some (.agg c))(hc:c[o]?=some v)(G:m≤h.nb→rN m h h1 v v') :
  LeadsM P m ⟨fr,cs,h⟩ ⟨fr,cs,h1.set k (.lst e (b.set i (.agg (c.set o v'))))⟩ :=fun hm E x j w s f fs r=>by
 obtain⟨p,a,O,F,l⟩ :=G hm E w r;have d:lN (.lst e b) =false:=by
  cases b with
  |nil=>simp at n
  |cons _ _=>rfl
 have hr:Rel p (h1.set k (.lst e (b.set i (.agg (c.set o v'))))) w.heap:=by
  refine O.reobj g d (fun L M=>?_) rfl rfl rfl;obtain⟨R,hE,C,J,u,D,z,t,H,y⟩ :=r.obj _ _ hk d;have:=a.1 _ _ hE;rw [M]at this;cases this;obtain⟨S,B,N⟩ :=t.get _ _ n;obtain⟨K,q,rfl,A,I,Q⟩ :=aOt hc N;refine⟨C,J,u,D,z,aCz a t B ?_,H,y⟩;rw [VR];exact⟨K,rfl,aCz a A I (l q Q)⟩
 exact⟨p,x,j,w,Steps.refl _ _,f.mono a,fs.mono a,hr,nY F g⟩
def LQ (zs:List AV)(i o:Nat)(v v':AV)(ys:List AV) :Prop:=∃c,zs[i]?=some (.agg c) ∧c[o]?=some v∧ys=zs.set i (.agg (c.set o v'))
theorem bDs {m:Nat}{s t:TS}{k b e0 e i o n:Nat}{u:Value}{xs d ys:List AV}(hk:s.as.h.look k=some (.lst e0 d))(hb:s.as.h.look b=some (.lstv u e xs))(a:k≠b)(g:xs.length=n)(f:LQ d i o (.val u) (.gl b e 0 n false) ys)
  (l:t.as= ⟨s.as.fr,s.as.cs,(s.as.h.set b (.lst e xs)).set k (.lst e0 ys)⟩) :LeadsM P m s.as t.as:=by
 subst g;obtain⟨c,j,h,rfl⟩ :=f;rw [l];exact aEo hk (by rw [aY,if_neg a];exact hk) j h (aBT hb)
theorem bGW {m:Nat}{s t:TS}{k e0 e i o:Nat}{b ys:List AV}(hk:s.as.h.look k=some (.lst e0 b))(a:Nat.blt k s.as.h.nb=true)(d:LQ b i o .nils (.gl s.as.h.nb e 0 0 false) ys)
  (g:t.as= ⟨s.as.fr,s.as.cs,(s.as.h.new (.lst e [])).set k (.lst e0 ys)⟩) :LeadsM P m s.as t.as:=by
 obtain⟨c,h,f,rfl⟩ :=d;rw [g];rw [dK]at a;have:=of_decide_eq_true a;exact aEo hk (by rw [cS,if_neg (by omega)];exact hk) h f (aDa e)
def NQ (zs:List AV)(i o b e n:Nat)(u:Value)(ys:List AV) :Prop:=0<n∧∃c ex,zs[i]?=some (.agg c) ∧c[o]?=some (.gl b e 0 n ex) ∧ys=zs.set i (.agg (c.set o (.val u)))
theorem aRC {m:Nat}{h:AS}{k b e0 e i o:Nat}{y xs:List AV}{ys:Value→List AV}{B:Res}{h':Hp}(t:h.h.look k=some (.lst e0 y))(l:h.h.look b=some (.lst e xs))(J:k≠b)(v:∀u,NQ y i o b e xs.length u (ys u))
  (hk:∀S Q R,Ends P m ⟨h.fr,h.cs,(h.h.set b (.lstv (.slice S Q R) e xs)).set k (.lst e0 (ys (.slice S Q R)))⟩ B h') :Ends P m h B h':=by
 obtain⟨s,c,ex,hz,hc,_⟩ :=v (.slice none 0 0);intro hm E cf G w f fs r cl p;have A:lN (.lst e0 y) =false:=by
  cases y with
  |nil=>simp at hz
  |cons _ _=>rfl
 have n:lN (.lst e xs) =false:=by
  cases xs with
  |nil=>simp at s
  |cons _ _=>rfl
 obtain⟨L0,H,C,el,vs,o1,W,N,o4,o5⟩ :=r.obj _ _ t A;obtain⟨cv,g1,g2⟩ :=N.get _ _ hz;obtain⟨us,q,rfl,Y,g4,O⟩ :=aOt hc g2;simp only [VR]at O;rcases O with⟨z,_⟩ | ⟨L,a,d,hE,rfl,a1,_,U⟩
 ·omega
 · obtain⟨_,c',ex',x,Z,F⟩ :=v (.slice (some ⟨L.blk,a,none⟩) xs.length d);rw [hz]at x;cases x
   have r1:Rel E (h.h.set b (.lstv (.slice (some ⟨L.blk,a,none⟩) xs.length d) e xs)) w.heap:=r.reobj l n (fun L' g=>by
    obtain⟨C',M,K,p1,p2,X,p4,p5⟩ :=r.objL l g;rw [hE]at g;cases g;exact⟨C',M,K,p1,p2,X,p4,p5,a,d,rfl,by omega,fun hc=>by have:=U hc;exact⟨by omega,this.2⟩⟩) rfl rfl rfl
   have j: (h.h.set b (.lstv (.slice (some ⟨L.blk,a,none⟩) xs.length d) e xs)).look k=some (.lst e0 y) :=by rw [aY,if_neg J];exact t
   have r2:Rel E ((h.h.set b (.lstv (.slice (some ⟨L.blk,a,none⟩) xs.length d) e xs)).set k (.lst e0 (ys (.slice (some ⟨L.blk,a,none⟩) xs.length d)))) w.heap:=r1.reobj j A (fun L' g=>by
    rw [H]at g;cases g;refine⟨C,el,vs,o1,W,?_,o4,o5⟩;rw [F];refine aCz (Emb.le.refl E) N g1 ?_;rw [VR];exact⟨us,rfl,aCz (Emb.le.refl E) Y g4 (by simp only [VR])⟩) rfl rfl rfl
   obtain⟨D,w',T,I,V,rr,xx⟩ :=hk (some ⟨L.blk,a,none⟩) xs.length d hm _ cf G w f fs r2 cl p;exact⟨D,w',T,I,V,rr,(nY (nY (ExtM.refl hm) l) j).trans xx⟩
theorem aVL {m:Nat}{s:AS}{t:TS}{ks:List Nat}(h2:s.sum (fE m t.nb s.h.nb ks) t=t.want (fE m t.nb s.h.nb ks))(b:cR m t ks=true)(c:fJ t.hp) :LeadsM P m s t.as:=by
 simp only [AS.sum,TS.want,Sum.mk.injEq]at h2;obtain⟨g,k,j,e⟩ :=h2;intro hm E fr a w d f fs r;obtain⟨h,i⟩ :=kT (l:=t.hp) (nb:=t.nb) (by simpa [cR]using b) e c r;exact⟨_,fr,a,w,Steps.refl _ _,aES g f,zP k j fs,h,i⟩
def bGX (P:Program)(m:Nat)(is:List Ins)(s:TS)(k b i o:Nat)(ys:List AV)(u:Value)(is2:List Ins)(t:TS)(ks:List Nat) :Option (Nat×Sum×List Prop) :=
 match rO P is s.as with
 | some (s1,ps) =>match s1.h.look k,s1.h.look b with
  | some (.lst e0 zs),some (.lst e xs) =>bif Nat.beq k b then none else
   match rO P is2 ⟨s1.fr,s1.cs,(s1.h.set b (.lstv u e xs)).set k (.lst e0 ys)⟩with
   |some (s3,qs) =>some (s3.h.nb,AS.sum s3 (fE m t.nb s3.h.nb ks) t,NQ zs i o b e xs.length u ys:: (ps++qs))
   |none=>none
  |_,_=>none
 |none=>none
theorem aG8 {m:Nat}{is:List Ins}{s:TS}{t:Value→TS}{k b i o:Nat}{ys:Value→List AV}{is2:Value→List Ins}{ks:List Nat}{n1:Nat}{ps:Value→List Prop}
  (C:∀u,bGX P m is s k b i o (ys u) u (is2 u) (t u) ks=some (n1,(t u).want (fE m (t u).nb n1 ks),ps u)) (A:∀u,cR m (t u) ks=true) (B:∀u,fJ (t u).hp) (hp:∀u,AllP (ps u))
  {w:Res} {h':Hp} (hk:∀r n p,Ends P m (t (.slice r n p)).as w h') :Ends P m s.as w h':=by
 have d:=C (.slice none 0 0);unfold bGX at d;split at d
 · rename_i z qs F;split at d
   · rename_i J G e D v l;cases j:Nat.beq k b
     case true=>rw [j]at d;cases d
     have x:k≠b:=fun g=>by subst g;simp at j
     have h:∀u,∃f c,rO P (is2 u) ⟨z.fr,z.cs,(z.h.set b (.lstv u e D)).set k (.lst J (ys u))⟩ =some (f,c) ∧f.h.nb=n1∧f.sum (fE m (t u).nb f.h.nb ks) (t u) = (t u).want (fE m (t u).nb n1 ks) ∧NQ G i o b e D.length u (ys u) :: (qs++c) =ps u:=fun u=>by
      have a:=C u;unfold bGX at a;rw [F]at a;simp only [v,l,j,cond]at a;split at a
      · rename_i f c K;simp only [Option.some.injEq,Prod.mk.injEq]at a;exact⟨f,c,K,a.1,a.2.1,a.2.2⟩
      ·cases a
     refine(iD F (fun q y=>?_)).ends (aRC (i:=i) (o:=o) v l x (ys:=ys) (fun u=>?_) (fun r n p=>?_))
     · obtain⟨f,c,_,_,_,g⟩ :=h (.slice none 0 0);exact(hp (.slice none 0 0)).mem q (by rw [←g];exact eD _ (aEC _ y))
     · obtain⟨f,c,_,_,_,g⟩ :=h u;exact(hp u).mem _ (by rw [←g];exact dT ..)
     · obtain⟨f,c,I,L,H,g⟩ :=h (.slice r n p);subst L;exact((iD I (fun q y=> (hp (.slice r n p)).mem q (by rw [←g];exact eD _ (aFr _ y)))).trans (aVL H (A _) (B _))).ends (hk r n p)
   ·cases d
 ·cases d
end
inductive KVD where
 |row (l:List ConD)
 |nil
 |val (u:Value)
def KVD.av :KVD→AV
 | .row l=>.ilst 2 (map ConD.av l) false
 | .nil=>.nils
 | .val u=>.val u
structure ODat where
 name:cA
 kv:KVD
def ODat.av (x:ODat) :AV:=.agg [dP x.name,x.kv.av]
def DataD.o (x:DataD) :ODat:= ⟨x.name,.row x.cons⟩
theorem aLC {b:Type}{f:b→AV}{l:List b}{ix T:Nat}{Y:AV}(h:T=ix)(a:ix<length l) : (set (map f l) ix Y)[0+T]?=some Y:=by
 subst h;rw [eX,List.getElem?_set_self (by simpa using a)]
theorem aZk {a:Type}{f:a→AV}{l:List a}{ix T:Nat}{Y Y':AV}(h:T=ix) : (set (map f l) ix Y).set (0+T) Y'=set (map f l) ix Y':=by
 subst h;rw [eX,set_set]
theorem bFm {c:Type}{f:c→AV}{l:List c}{ix:Nat}(pre a:List AV){b e n g:Nat}{ex:Bool}{u:Value}{y:c}(d:ix<length l)(h:g=n)(j:0<g)(i:f y= .agg (pre++ .val u::a)) :
  NQ (set (map f l) ix (.agg (pre++ .gl b e 0 n ex::a))) ix pre.length b e g u (map f (set l ix y)) :=by
 subst h;refine⟨j,_,ex,List.getElem?_set_self (by simpa using d),by simp,?_⟩;rw [set_set,List.map_set,i];simp
theorem bFn {b:Type}{f:b→AV}{l:List b}{ix:Nat}(pre a:List AV){v v':AV}{y:b}(h:l[ix]?=some y)(c:f y= .agg (pre++v::a)) :
  LQ (map f l) ix pre.length v v' (set (map f l) ix (.agg (pre++v'::a))) :=by
 refine⟨pre++v::a,by rw [mZ,h];simp [c],by simp,by simp⟩
end
end Go.Hb
