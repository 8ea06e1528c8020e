/- A machine on abstract values, its soundness, ways, plain laws. -/
import Derived.Test.YtnljmgihoioocaaGreatHF
import Derived.Test.YtnljmgihoioocaaGreatHG
import Derived.Test.YtnljmgihoioocaaGreatHH
import Derived.Test.YtnljmgihoioocaaGreatHJ
set_option linter.defProp false
set_option linter.unusedVariables false
set_option linter.unusedSimpArgs false
set_option linter.unusedSectionVars false
set_option maxRecDepth 100000
set_option maxHeartbeats 8000000
namespace Go.Hb
open AV (ilst keyless keylessL)
open List (all_cons length map set set_set)
open Go.Proofs Tryz
noncomputable section
theorem aKC (l:List ONode)(y:ONode)(r:List ONode) : (l++y::r)[((length l:Nat) :Int).toNat]?=some y:=by simp
theorem tC (l:List ONode)(y:ONode)(r:List ONode) : (l++y::r)[length l]?=some y:=by simp
theorem aRS (l:List ONode)(y z:ONode)(r:List ONode) :set (l++y::r) (((length l:Nat) :Int).toNat) z=l++z::r:=by simp
theorem tD (l:List ONode)(y z:ONode)(r:List ONode) :set (l++y::r) (length l) z=l++z::r:=by simp
theorem EndsL.of {s:TS}{L L':List ONode}(h:EndsL s L)(e:L=L') :EndsL s L':=e ▸ h
section
variable (p :Prog) (funs cons:List Int) (k:Nat) (ih:∀ (L:List ONode) (c:Int) (ns:List Node),mG p funs cons k L.length c=some ns→aCi p funs cons c L ns)
 (l:List ONode) (at0 op n':Int) (ps':List Pat) (kids:List Int) (hkids:kids.length<1000000)
include ih hkids
theorem aRT (c:Int)(i:Nat)(kv:KV)(a:List Node)(h:List Int)(e:List Node)(L:List ONode)(hc:kids[i]?=some c)(o:0<h.length)(j:mG p funs cons k (l++ ⟨op,n',kv,ps'⟩ ::map Node.o a).length c=some e)
  (hk:∀u,EndsL (aKB p l at0 funs cons kids (l++ ⟨op,n',.val u,ps'⟩ ::map Node.o (a++e)) h u ((i+1:Nat) :Int)) L) :
  EndsL (xZ p l at0 funs cons kids (l++ ⟨op,n',kv,ps'⟩ ::map Node.o a) h (i:Int)) L:=by
 have q:= (zq0.1 hc).1;refine aX1 o (fun d f g=>?_);have n:=ih (l++ ⟨op,n',.val (.slice d f g),ps'⟩ ::map Node.o a) c e (by rw [←j];simp);have b:=aX0 n (.slice d f g) h;have m:=bBZ p l at0 funs cons kids (l++ ⟨op,n',kv,ps'⟩ ::map Node.o a) h i d f g ⟨op,n',kv,ps'⟩ c e (aKC ..) sd (by simpa using hc) (by rw [aRS];exact b) sd;rw [aRS]at m;refine m.ends ?_;have:=hk (.slice d f g);rw [aG4]at this;rw [show(l++ ⟨op,n',.val (.slice d f g),ps'⟩ ::map Node.o a) ++map Node.o e=l++ ⟨op,n',.val (.slice d f g),ps'⟩ :: (map Node.o a++map Node.o e)by simp];exact this
theorem aNp :∀ (f:List Int) (i:Nat) (u:Value) (b:List Node) (a e:List Int) (r:List Node),kids.drop i=f→a.length=i→0<i →
  yA (mG p funs cons k) (l.length+1+b.length) f=some (e,r) →
  EndsL (aKB p l at0 funs cons kids (l++ ⟨op,n',.val u,ps'⟩ ::map Node.o b) a u (i:Int)) (l++map Node.o (⟨op,n',a++e,ps'⟩ :: (b++r)))
 | [],i,u,b,a,e,r,h,hl,w,hm=>by
  have:=bL h;cases hm;have n:=bB1 p l at0 funs cons kids (l++ ⟨op,n',.val u,ps'⟩ ::map Node.o b) a u i ⟨op,n',.val u,ps'⟩ sd (tC ..) rfl;rw [tD]at n;rw [tK,tK];exact n
 | c ::f,i,u,b,a,e,r,h,hl,w,hm=>by
  obtain⟨q,v,x⟩ :=bI h;simp only [yA]at hm;split at hm
  · rename_i o m;split at hm
    · rename_i j s g;cases hm;have d: (l++ (⟨op,n',.val u,ps'⟩ :ONode) ::map Node.o b).length=l.length+1+b.length:=by simp;omega
      refine(bB0 p l at0 funs cons kids (l++ ⟨op,n',.val u,ps'⟩ ::map Node.o b) a u i ⟨op,n',.val u,ps'⟩ sd (by omega) (by rw [d];omega) (aKC ..) rfl (by simp;omega)).ends ?_;refine aRT p funs cons k ih l at0 op n' ps' kids hkids c i (.val u) b _ o _ q (by simp) (by rw [d];exact m) (fun t=>?_);have:=aNp f (i+1) t (b++o) (a++ [((l.length+1+b.length:Nat) :Int)]) j s v (by simp [hl]) (by omega) (by rw [tI,←Nat.add_assoc];exact g);rw [d];exact this.of (by simp)
    ·cases hm
  ·cases hm
theorem aX2 (ks:List Int)(r:List Node)(hm:yA (mG p funs cons k) (l.length+1) kids=some (ks,r)) :
  EndsL (aKz p l at0 funs cons kids (l++ [⟨op,n',.nil,ps'⟩])) (l++map Node.o (⟨op,n',ks,ps'⟩ ::r)) :=by
 cases kids with
 | nil=>
  cases hm;have h:=bBY p l at0 funs cons [] (l++ [⟨op,n',.nil,ps'⟩]) ⟨op,n',.nil,ps'⟩ sd (tC ..) rfl;rw [tD]at h;exact h
 | cons c b=>
  simp only [yA]at hm;split at hm
  · rename_i g e;split at hm
    · rename_i d i f;cases hm;have a: (l++ [(⟨op,n',.nil,ps'⟩ :ONode)]).length=l.length+1:=by simp
      refine(bBX p l at0 funs cons (c::b) (l++ [⟨op,n',.nil,ps'⟩]) ⟨op,n',.nil,ps'⟩ (by simp<;>omega) (by omega) (by rw [a];omega) (aKC ..) rfl (by simp)).ends ?_;refine aRT p funs cons k ih l at0 op n' ps' (c::b) hkids c 0 .nil [] _ g _ rfl (by simp) (by simpa using e) (fun j=>?_);have:=aNp p funs cons k ih l at0 op n' ps' (c::b) hkids b 1 j g [((l.length+1:Nat) :Int)] d i rfl rfl (by omega) f;rw [a];exact this.of (by simp)
    ·cases hm
  ·cases hm
end
theorem aNq (p:Prog)(b cons:List Int)(l:List ONode)(c op f:Int)(kids:List Int)(ps:List Pat)(j:bD ps<1000000)(hl:l.length<1000000)(L:List ONode) :∀ (t:List Pat) (i:Nat) (a n:List Pat),ps.drop i=t→a.length=i→aCh cons t=some n →
  EndsL (aKz p l c b cons kids (l++ [⟨op,f,.nil,a++n⟩])) L→EndsL (aA7 p l c b cons op f kids ps (i:Int) a) L
 | [],i,a,n,h,w,e,hk=>by
  have:=bL h;cases e;rw [tK]at hk;exact(bBW p l c b cons op f kids ps i a sd (by simp;omega)).ends hk
 | .mk u v x g::t,i,a,n,h,w,e,hk=>by
  obtain⟨y,z,D⟩ :=bI h;have:=eD ps;simp only [aCh]at e;split at e
  · rename_i C r;split at e
    · rename_i q s;cases e;obtain⟨o,k,m,d⟩ :=C;rw [show a++ .mk o k m d::q= (a++ [.mk o k m d]) ++q by simp]at hk;have B:=aNq p b cons l c op f kids ps j hl L t (i+1) (a++ [.mk o k m d]) q z (by simp [w]) s (by exact hk);have A:=bBV p l c b cons op f kids ps i a u v x g o k m d sd sd sd (aGo cons ps j (.mk u v x g) (kN y) _ r) (by simp;omega) sd;exact A.ends B
    ·cases e
  ·cases e
theorem aUE (p:Prog)(l:List ONode)(b:Int)(a cons:List Int){L:List ONode}{ns:List Node}(e:L=l++map Node.o ns)(h:EndsL (aXR p l b a cons) L) :aCi p a cons b l ns:=by
 subst e;exact⟨(aXR p l b a cons).as.fr,by kernel_rfl,Eq.mp aC h⟩
theorem aX3 {n:Int}(a: -1000000000≤n)(h1:n≤1000000000) :IntKind.i64.wrap (-1-n) = -1-n:=sd
theorem aGp (p:Prog)(a cons:List Int) :∀ (k:Nat) (l:List ONode) (at0:Int) (ns:List Node),mG p a cons k l.length at0=some ns→aCi p a cons at0 l ns
 |0,l,at0,ns,h=>by cases h
 | k+1, l, at0, ns, h=>by
  simp only [mG]at h;split at h
  · rename_i t;obtain⟨c,i⟩ :=t;split at h
    · rename_i y n;split at h
      · rename_i hb;split at h
        · rename_i q b;split at h
          · rename_i j f;split at h
            · rename_i v r o;cases h;have hC:=aNq p a cons l at0 y.op q y.kids y.pats hb.2 i _ y.pats 0 [] j rfl rfl f (aX2 p a cons k (aGp p a cons k) l at0 y.op q j y.kids hb.1 v r o);refine aUE p l at0 a cons rfl ?_;unfold mN at b;split at b
              · rename_i m;have e: (y.op== (14:Int)) =false:=by rw [m.1];rfl
                split at b
                · rename_i g u;split at b
                  · rename_i hr;cases b;exact(bBR p l at0 a cons y g c n (by simp [m.1]) (by simp [m.2]) (aX3 (by omega) (by omega)) (by omega) u (aX3 (by omega) (by omega)) e).ends hC
                  ·cases b
                ·cases b
              · rename_i m;split at b
                · rename_i d;split at b
                  · rename_i s;exact(bBT p l at0 a cons y q c n (by simp [d]) (by simp [d]) s b).ends hC
                  ·cases b
                · rename_i d;cases b;by_cases e:y.op=4
                  ·exact(bBS p l at0 a cons y c n (by simp [e]) (by simp;omega) (by simp [e])).ends hC
                  ·exact(bBU p l at0 a cons y c n (by simp [e]) (by simp [d])).ends hC
            ·cases h
          ·cases h
        ·cases h
      ·cases h
    ·cases h
  ·cases h
def bDT(a:Prog):TS:=cH PP 59 [(Prog.av a)] [] 0
def bB2 (a:Prog):=fun b=>(tT 0 (bDT a)<|.i [rn 6,.reg (rd 4 [.app (jC a.cons) a.cons.length,.d,.d])] [hA (length a.cons≤1000000),hr (jC a.cons),.q (p:=length (jC a.cons) =length a.cons) (lN ..),hr (nI a.main),hr (nI a.main)]<|gy 1 1 3 2 2 Con.av a.cons false<|gE 0 3 (.agg [.nils,.nils,(nI a.main),(iC a.cons)])) b tv
def numsL (a:Int) :Nat→List Int
 |0=>[]
 |n+1=>numsL a n++ [a+ (n:Int)]
theorem tG (a:Int) :∀n,(numsL a n).length=n
 |0=>rfl
 |n+1=>by simp [numsL,tG a n]
theorem zV (a:Int) :∀ {n i:Nat},i<n→ (numsL a n)[i]?=some (a+ (i:Int))
 | n+1,i,h=>by
  rw [numsL];by_cases b:i<n
  ·rw [hQ (by rw [tG];exact b),zV a b]
  · have:i=n:=by omega
    subst this;rw [jA (by rw [tG];omega),tG];simp
theorem aIl (a:Int)(n:Nat)(b:n<1000000)(c: -1000000000≤a)(hb:a≤1000000000) :∀ (j i:Nat),i+j=n→Ends PP 0 (aEF a (n:Int) (i:Int) (numsL a i)).as (.ret (.ilst 1 (map cA (numsL a n)) false)) (aA [] 0)
 | 0,i,h=>by
  have:i=n:=by omega
  subst this;exact aXY a i i _ sd
 | j+1,i,h=>by
  have d:=aXX a n i (numsL a i) sd sd (by rw [tI,tG];simp;omega) sd;exact d.ends (aIl a n b c hb j (i+1) (by omega))
theorem aIm (a:Int)(n:Nat)(b:n<1000000)(c: -1000000000≤a)(hb:a≤1000000000) :aM PP 61 [.int .i64 a,.int .i64 (n:Int)] (.ilst 1 (map cA (numsL a n)) false) :=
 aK aC rfl rfl ((aXW a n).ends (aIl a n b c hb n 0 (by omega)))
theorem tH {f:Nat}{a:List AV}{v:AV}{s:TS}(e: (start PP f a).as=s.as)(hb:nR PP f=true)(hk:keylessL a=true)(b:keyless v=true)(he:Ends PP 0 s.as (.ret v) (aA [] 0)) :aM PP f a v:=
 aK hb hk b (by rw [e];exact he)
theorem aX4 {p:Prog}(h:p.cons.length≤1000000) :aM PP 59 [PA p] (.agg [.nils,.nils,.int .i64 p.main,.ilst 2 (map Con.av p.cons) false]) :=
 tH (s:=bDT p) aC aC (by simp [keylessL,keyless]) (by simp [keylessL,keyless]) (bB2 p h)
theorem aUF {p:Prog}{a cons:List Int}{k:Nat}{l b:List Node}{c:Int}(h:mG p a cons k l.length c=some b) :
  aVx PP (.enter 60 [.gl 0 4 0 (length l) false,PA p,.int .i64 c,.ilst 1 (map cA a) false,.ilst 1 (map cA cons) false]) (aA [(0,.lst 4 (map Node.av l),true)] 1)
   (.ret (.gl 0 4 0 (length (l++b)) false)) (aA [(0,.lst 4 (map Node.av (l++b)),true)] 1) :=by
 have:=aGp p a cons k (map Node.o l) c b (by rw [lN];exact h);unfold aCi OL at this;rw [←aG4,aJ2,aJ2,lN,lN]at this;exact this
theorem aX5 {p:Prog}{a cons:List Int}{k:Nat}{l b:List Node}{c:Int}(h:mG p a cons k l.length c=some b)(mn:Int)(cs:List Con)(fs:List Int) :
  Spec PP (.enter 60 [.gl 3 4 0 (length l) false,PA p,.int .i64 c,.ilst 1 (map cA a) false,.ilst 1 (map cA cons) false])
   (aA [(0,aDT p,false),(1,.cells (putCells .leaf 0 [.nils,.nils,.int .i64 0,.nils]) 4 [] false,false),(2,.cells (putCells .leaf 0 [.gl 3 4 0 (length l) false,.gl 4 1 0 (length fs) false,.int .i64 mn,.ilst 2 (map Con.av cs) false]) 4 [] false,false),(3,.lst 4 (map Node.av l),true),(4,.lst 1 (map cA fs),true)] 5)
   (.ret (.gl 5 4 0 (length (l++b)) false))
   (aA [(0,aDT p,false),(1,.cells (putCells .leaf 0 [.nils,.nils,.int .i64 0,.nils]) 4 [] false,false),(2,.cells (putCells .leaf 0 [.gl 3 4 0 (length l) false,.gl 4 1 0 (length fs) false,.int .i64 mn,.ilst 2 (map Con.av cs) false]) 4 [] false,false),(4,.lst 1 (map cA fs),true),(5,.lst 4 (map Node.av (l++b)),true)] 6) :=
 Eq.mp aC (aLA (ks:=[3]) (n2:=5) (lc:=[(0,aDT p,false),(1,.cells (putCells .leaf 0 [.nils,.nils,.int .i64 0,.nils]) 4 [] false,false),(2,.cells (putCells .leaf 0 [.gl 3 4 0 (length l) false,.gl 4 1 0 (length fs) false,.int .i64 mn,.ilst 2 (map Con.av cs) false]) 4 [] false,false),(3,.lst 4 (map Node.av l),true),(4,.lst 1 (map cA fs),true)])
  (x:=[(0,aDT p,false),(1,.cells (putCells .leaf 0 [.nils,.nils,.int .i64 0,.nils]) 4 [] false,false),(2,.cells (putCells .leaf 0 [.gl 3 4 0 (length l) false,.gl 4 1 0 (length fs) false,.int .i64 mn,.ilst 2 (map Con.av cs) false]) 4 [] false,false),(4,.lst 1 (map cA fs),true)])
  (args':=[.gl 3 4 0 (length l) false,PA p,.int .i64 c,.ilst 1 (map cA a) false,.ilst 1 (map cA cons) false])
  (aUF h) aC aC aC ⟨aH _ (fun _=>rfl) _,trivial⟩ aC aC aC aC ⟨aH _ (fun _=>rfl) _,trivial⟩ aC)
def aEG (p:Prog)(k:Nat) :Option Prog:=match yA (mG p (numsL 0 p.funs.length) (numsL 0 p.cons.length) k) 0 p.funs with
 |some (ks,r) =>some ⟨r,ks,p.main,p.cons⟩
 |none=>none
abbrev aQz:AV:=.agg [(.ilst 4 (jN ([] :List Node)) true),(.ilst 1 (jI ([] :List Int)) true),(nI 0),(.ilst 2 (jC ([] :List Con)) true)]
abbrev aQA:AV:=.tup [aQz,(nI 2)]
abbrev aX6:AV:=.tup [aQz,(nI 7)]
abbrev sC (a:Nat)(b:Prog):=oC a [(iN b.nodes),(iI b.funs),(nI b.main),(iC b.cons)]
abbrev aC7 (a:Nat)(b:List XT)(c:Int)(d:List Con):=oC a [(.gl 1 1 0 b.length false),(nI c),(iC d)]
abbrev mH (a:Nat):=oC a [.nils,.nils,(nI 0),.nils]
def aRU(a:Prog):TS:=cH PP 34 [(Prog.av a)] [] 0
def bDU(a:Prog)(b:Int):TS:=cH PP 19 [(Prog.av a),(nI b)] [] 0
def bDV(a:List XT)(b:Int)(c:List Con)(d:Int):TS:=cH PP 53 [(.ptr 0 0),(nI d)] [aC7 0 a b c,(1,gh,false),(2,(.zone true [1] (bH a)),false)] 3
def aGq(a:List XT)(b:Int)(c:List Con)(e:Int)(d:List XT):TS:=⟨(tf 53 17 [kp 2 0,kp 4 1,(5,(nI 0))] [kc f53 14,kc f53 15]),[],[oC 0 [(.ptr 2 0)],mH 1,oC 2 [(.gl 3 1 0 a.length false),(nI b),(iC c)],(3,gh,false),(4,(.zone true [3] (bH d)),false)],5⟩
def aRV(d:List XT)(a:Int)(b:List Con)(e:Int)(c:List XT):TS:=⟨(tf 53 17 [kp 2 0,kp 4 1,(5,(nI 0))] [kc f53 14,kc f53 15]),[],[oC 0 [(fvA c a b)],mH 1],5⟩
def aQB(a:Prog):=tT 0 (aRU a)<|gpI 10 45 [(Prog.av a)]<|fun f=>.b 2 8 (f != 0) (gE 7 1 (.tup [.nilp,(nI 2)]))<|.y fun c:Bool=>.y fun g:Int=>gp 6 46 [(Prog.av a)] (.tup [(bV c),(nI g)])<|.b 11 15 (!c) (gE 7 1 (.tup [.nilp,(nI 7)]))<|.y fun b:List XT=>.y fun d:Int=>.y fun e:List Con=>gk 5 (.enter 48 [(Prog.av a)]) [sC 0 a] 1 (.ptr 1 0) [sC 0 a,oC 1 [(.gl 2 1 0 b.length false),(nI d),(iC e)],(2,gh,false),(3,(.zone true [2] (bH b)),false)] 4<|.E 4 4 [1,2,3] (.tup [(.ptr 0 0),(nI 0)]) [aC7 0 b d e,(1,gh,false),(2,(.zone true [1] (bH b)),false)] 3
def bB3:=fun a b c d=>aQB a b c|>.t d tv
def bB4:=fun a b c d e f g i=>aQB a b e|>.f f c d g|>.t i tv
def bB5:=fun a b c d e f g i j k l m=>aQB a b i|>.f j c d k|>.f l e f g m tv
def aGr(a:Prog)(b:Int):=tT 0 (bDU a b)<|gd 12 10 (b<0) (.i [rn 15,.cnilI 1 0 4] []<|.i [.cnilI 1 1 1] []<|.i [.cnilI 1 3 2] []<|gE 0 2 aQA)<|gl 3 Node.av a.nodes<|gd 3 16 (b≥ (a.nodes.length:Int)) (.i [rn 8,.cnilI 1 0 4] []<|.i [.cnilI 1 1 1] []<|.i [.cnilI 1 3 2] []<|gE 0 2 aQA)<|.o (gk 5 (.enter 34 [(Prog.av a)]) [sC 0 a,mH 1] 2 (.tup [.nilp,(nI 7)]) [sC 0 a,mH 1] 2<|.i [rn 21,.cnilI 1 0 4] []<|.i [.cnilI 1 1 1] []<|.i [.cnilI 1 3 2] []<|gE 0 2 aX6)<|.o (gk 5 (.enter 34 [(Prog.av a)]) [sC 0 a,mH 1] 2 (.tup [.nilp,(nI 2)]) [sC 0 a,mH 1] 2<|.i [rn 21,.cnilI 1 0 4] []<|.i [.cnilI 1 1 1] []<|.i [.cnilI 1 3 2] []<|gE 0 2 aQA)<|.y fun c:List XT=>.y fun d:Int=>.y fun e:List Con=>gk 5 (.enter 34 [(Prog.av a)]) [sC 0 a,mH 1] 2 (.tup [(.ptr 2 0),(nI 0)]) [sC 0 a,mH 1,oC 2 [(.gl 3 1 0 c.length false),(nI d),(iC e)],(3,gh,false),(4,(.zone true [3] (bH c)),false)] 5<|.y fun f:Prog=>.y fun g:Int=>gk 18 (.enter 53 [(.ptr 2 0),(nI b)]) [sC 0 a,mH 1,oC 2 [(.gl 3 1 0 c.length false),(nI d),(iC e)],(3,gh,false),(4,(.zone true [3] (bH c)),false)] 5 (.tup [(Prog.av f),(nI g)]) [sC 0 a,mH 1] 5<|gE 6 5 (.tup [(Prog.av f),(nI g)])
def bB6:=fun a b c=>aGr a b|>.t c tv
def bB7:=fun a b c d=>aGr a b|>.f c|>.t d tv
def bB8:=fun a b c d e=>aGr a b|>.f c|>.f d|>.1 e tv
def bB9:=fun a b c d e=>aGr a b|>.f c|>.f d|>.2|>.1 e tv
def bCa:=fun a b c d e f g i j k l=>aGr a b|>.f i|>.f j|>.2|>.2 c d e k f g l tv
def aX7(a:List XT)(b:Int)(c:List Con)(d:Int):=tT 0 (bDV a b c d)<|.o (gk 11 (.enter 74 [(.ptr 0 0),(nI d)]) [aC7 0 a b c,(1,gh,false),(2,(.zone true [1] (bH a)),false),oC 3 [(.ptr 0 0)],mH 4] 5 (bV false) [aC7 0 a b c,(1,gh,false),oC 3 [(.ptr 0 0)],mH 4,(5,(.zone true [1] (bH a)),false)] 6<|.i [rn 10,.cnilI 4 0 4] []<|.i [.cnilI 4 1 1] []<|.i [.cnilI 4 3 2] []<|.E 0 6 [5,1] aX6 [(0,(.zone true [1] (bH a)),false),(1,gh,false)] 2)<|.y fun e:List XT=>gk 11 (.enter 74 [(.ptr 0 0),(nI d)]) [aC7 0 a b c,(1,gh,false),(2,(.zone true [1] (bH a)),false),oC 3 [(.ptr 0 0)],mH 4] 5 (bV true) [aC7 0 a b c,(1,gh,false),oC 3 [(.ptr 0 0)],mH 4,(5,(.zone true [1] (bH e)),false)] 6<|.W 5 6 [3,4,0,1,5] (aGq a b c d e)
def aRW:=fun a b c d e=>aX7 a b c d|>.1 e tv
def bCb:=fun a b c d e f=>aX7 a b c d|>.2 e f tv
def aX8(e:List XT)(a:Int)(b:List Con)(f:Int)(c:List XT):=tT 0 (aRV e a b f c)<|kK 31 75 [(fvA c a b),(nI 30)]<|fun g=>.b 2 5 (!g) (.i [rn 47,.cnilI 1 0 4] []<|.i [.cnilI 1 1 1] []<|.i [.cnilI 1 3 2] []<|gE 0 9 (.tup [aQz,(nI 3)]))<|.y fun d:Prog=>gp 5 76 [(fvA c a b)] (Prog.av d)<|gE 42 8 (.tup [(Prog.av d),(nI 0)])
def bCc:=fun a b c d e f g i=>aX8 a b c d e f g|>.t i tv
def bCd:=fun a b c d e f g i j k=>aX8 a b c d e f i|>.f j g k tv
def bDW(a:List Con):TS:=cH PP 90 [(iC a)] [] 0
def bGL(a:List Con):TS:=⟨(tf 90 8 [(0,(iC a)),(2,.nils),(3,(iC a))] [ko f90 12 1,kc f90 13,kc f90 7]),[],[],0⟩
def bFl(a:List Con):TS:=⟨(tf 90 8 [(0,(iC a)),(2,.nils),(3,.nils)] [ko f90 12 1,kc f90 13,kc f90 7]),[],[],0⟩
def bFm(a:List Con)(b:Addr)(c d:Nat):TS:=⟨(tf 90 8 [(0,(iC a)),(2,.nils),(3,(.val (Value.slice (some b) c d)))] [ko f90 12 1,kc f90 13,kc f90 7]),[],[],0⟩
def bGM (a:List Con):=(tT 0 (bDW a)<|.W 8 0 [] (bGL a)) tv
def bGN (a:List Con):=(tT 0 (bFl a)<|.i [rn 8,.nilI 2 2] []<|gE 0 0 (.ilst 2 (jC ([] :List Con)) true)) tv
def bGO (a:List Con)(b:Addr)(c d:Nat):=fun e=>(tT 0 (bFm a b c d)<|.i [rn 8,.toL 5 true []] [.q (p:=getCells (putCells .leaf 0 []) 0 (0*2) =some []) rfl,hr true]<|gu 0 0 (jC ([] :List Con))<|gs 0 5 (.gl 0 2 0 ([] :List Con).length true)<|.i [.weak 5] []<|ga 0 Con.av ([] :List Con) a<|gz 3 2 1 2 Con.av (([] :List Con) ++a) false<|gE 0 2 (iC (([] :List Con) ++a))) e tv
theorem aQC {P:Program}{m:Nat}{s:AS}{v v':AV}{h':Hp}(h:Ends P m s (.ret v) h')(b:∀ (E:Emb) (a:Value),VR E v a→VR E v' a) :Ends P m s (.ret v') h':=Ends.val h b
theorem aGs (xs:List Con)(h:xs.length≤1000000) :aM PP 90 [.ilst 2 (map Con.av xs) false] (.ilst 2 (map Con.av xs) false) :=by
 refine tH (s:=bDW xs) aC aC (by simp [keylessL,keyless]) (by simp [keyless]) ((bGM xs).ends ?_);refine aVo (j:=3) (e:=2) (ex:=false) (xs:=map Con.av xs) aC (fun d=>?_) (fun a n c=>?_)
 · have d:xs= [] :=by simpa using d
   subst d;have b:=aQC (bGN []) (fun E g f=>nB f);exact Eq.mp aC b
 · have b:=bGO xs a n c (by simpa using h);rw [List.nil_append]at b;exact Eq.mp aC b
abbrev OFl (n:Nat)(mn:Int)(cs:List Con)(us:List (Nat×Nat))(ts:List XT) :HL:=[(0,(.cells (putCells .leaf 0 [(.gl 1 1 0 n false),(.int .i64 mn),(.ilst 2 (map Con.av cs) false)]) 3 [] false),false),(1,(.lst 1 (map aR us)),true),(2,(.zone true [] (ZV us (ts.map some))),false)]
abbrev OFm (n:Nat)(mn:Int)(cs:List Con)(ts:List XT) :HL:=[(0,(.cells (putCells .leaf 0 [(.gl 1 1 0 n false),(.int .i64 mn),(.ilst 2 (map Con.av cs) false)]) 3 [] false),false),(1,gh,false),(3,(.zone true [1] (bH ts)),false)]
theorem aX9 {s:AS}{n:Nat}{mn:Int}{cs:List Con}{us:List (Nat×Nat)}{ts:List XT}(a:ts≠ [])(e:Ends PP 0 s (.ret (.ptr 0 0)) (aA (OFl n mn cs us ts) 3)) :Ends PP 0 s (.ret (.ptr 0 0)) (aA (FHl n mn cs ts) 3) :=by
 have z:jJ (aA (OFl n mn cs us ts) 3) (aA (OFm n mn cs ts) 4) :=
  yY (h:=aA (OFl n mn cs us ts) 3) (h':=aA (OFm n mn cs ts) 4) (k:=1) (g:=2) (us:=us) (ts:=ts) aC aC a (Nat.le_refl _)
   (aU ⟨.inr (.inr ⟨by decide,by decide,by kernel_rfl⟩),.inl ⟨rfl,rfl⟩,.inr (.inl ⟨rfl,rfl⟩),trivial⟩)
 exact eE (ks:=[0,1,3]) (nS e z (Nat.zero_le _)) aC aC aC trivial
section
variable {p :Prog} (hf:aP7 p)
theorem aRX (e:aP7 p)(hl:p.funs.length≤1000) :∀ (d a:List XT) (b:List (Nat×Nat)) (i:Nat),aQ p d (p.funs.drop i) →a.length=i→b.length=i→a++d≠ [] →
  Ends PP 0 (aGe p p.cons (i:Int) b (a.map some)).as (.ret (.ptr 0 0)) (aA (FHl (a++d).length p.main p.cons (a++d)) 3)
 | [],a,b,i,h,f,g,c=>by
  simp only [aQ]at h;have s:=bL h;rw [tK]at c ⊢;rw [show a.length=b.length by omega];exact aX9 c (bBc p p.cons (i:Int) b (a.map some) sd)
 | t::d,a,b,i,h,f,g,c=>by
  simp only [aQ]at h;obtain⟨k,q,l,j,o⟩ :=h;obtain⟨r,n,v⟩ :=bI l;refine(bA8 p p.cons (i:Int) b (a.map some) k t sd sd sd (oQ (m:=0) (ks:=[]) (aIf e t k j) aC aC trivial trivial) (by omega)).ends (bFd p p.cons t (i:Int) b (a.map some) fun u=>?_);refine(bBd p p.cons t (i:Int) b (a.map some) u sd).ends ?_;have:=aRX e hl d (a++ [t]) (b++ [u]) (i+1) (by rw [n];exact o) (by simp [f]) (by simp [g]) (by simp);rw [zq9,aG4]at this;exact this
theorem bCe (b:aP7 p)(hl:p.funs.length≤1000)(hc:p.cons.length≤1000000){ts:List XT}(h:aQ p ts p.funs)(a:ts≠ []) :fC PP 0 (.enter 48 [Prog.av p]) (aA [] 0) (.ret (.ptr 0 0)) (aA (FHl ts.length p.main p.cons ts) 3) :=by
 refine⟨(bDJ p).as.fr,by kernel_rfl,?_⟩;have:=aRX b hl ts [] [] 0 (by simpa using h) rfl rfl (by simpa using a);exact((bBa p p.cons (aGs _ hc)).trans ((bFc p p.cons).trans (bBb p p.cons))).ends this
end
theorem oR {p:Prog}(a:aJ p=true) :∀ (i:Nat) (x:Node),p.nodes[i]?=some x→aO p x=true:=by
 simp only [aJ,cM]at a;obtain⟨_,a⟩ :=a;split at a
 · unfold allT at a;split at a
   · rename_i v c;exact fun i x b=> (mF c i x b).1
   ·cases a
 ·cases a
theorem bCf {p:Prog}(b:aF p=true) :aP7 p:=fun nd d=>by
 simp only [aF,cM,decide_eq_true_eq]at b;have h:=zq27.1 b.2 nd d;simp only [bA,cM,decide_eq_true_eq]at h;obtain⟨⟨g,f⟩,c⟩ :=h;refine⟨by omega,?_⟩
 have:∀l:List Pat,fS l=true→bD l≤16*l.length:=fun l=>by
  induction l with
  |nil=>intro _;simp [bD]
  | cons q l e=>
   intro a;simp only [fS,all_cons,cM]at a;have:=e a.2;simp only [uV,cM,decide_eq_true_eq]at a;simp only [bD,oI];omega
 have:=this _ c;omega
theorem aYa {p:Prog}{x:Node}(h:aO p x=true) :bF x.op x.kids.length≤x.kids.length:=by
 simp only [aO,cM,decide_eq_true_eq]at h;obtain⟨_,b⟩ :=h;unfold bF;split
 · rename_i a;simp only [fE,Bool.or_eq_true,decide_eq_true_eq]at a;have:1≤cK x.op x.pats.length (fD p x) :=by
    rcases a with((((((h|h) |h) |h) |h) |h) |h) |h<;>rw [h] <;>simp [cK] <;>omega
   omega
 ·split<;>omega
theorem bCg {p:Prog}{x:Node}(h:aO p x=true)(h1:kB x.op=true)(h2:x.op≠14) :x.kids.length=2:=by
 simp only [aO,cM,decide_eq_true_eq]at h;obtain⟨_,a⟩ :=h;simp only [kB,Bool.or_eq_true,decide_eq_true_eq]at h1;have:cK x.op x.pats.length (fD p x) =2:=by
  rcases h1 with(((((((h|h) |h) |h) |h) |h) |h) |h) |h
  all_goals first|exact absurd h h2| (rw [h];simp [cK])
 omega
mutual
theorem aUG {p:Prog}(hp:FineP p)(j:∀ (i:Nat) (x:Node),p.nodes[i]?=some x→aO p x=true) :∀ (t:XT) (c:Int),IsTree p t c→FineX 400 t
 | .mk o n r C,c,h=>by
  simp only [IsTree]at h;obtain⟨z,nd,m,rfl,rfl,rfl,s⟩ :=h;have b:=j _ nd m;obtain⟨f,A,_⟩ :=hp.node _ nd m;have a:r.length=nd.kids.length:=by
   have:∀ (d:List XT) (l:List Int),aQ p d l→d.length=l.length:=fun d=>by
    induction d with
    |nil=>intro l h;simp only [aQ]at h;rw [h];rfl
    |cons t d w=>intro l h;simp only [aQ]at h;obtain⟨k,B,rfl,_,y⟩ :=h;simp [w _ y]
   exact this _ _ s
  simp only [FineX];refine⟨fun e=>?_,by omega,fun q g=>by have:= (f.pats q g).1;omega,fun e=>by rw [a];exact f.mat e,fun e=>by rw [a];exact f.let2 e,⟨by rw [a];exact aYa b,?_,fun u v=>by rw [a];exact bCg b u v,fun q g=>aWG p.cons q (f.pats q g).2⟩,qL hp j r nd.kids s⟩
  · simp only [aO,eR,cM]at b;have:=b.1.1.1;rw [e]at this;simp [dQ,dY]at this;omega
  · simp only [aO,eR,cM]at b;have:=b.1.1.2;split at this
    ·simp [dY]at this;omega
    ·simp at this;simp [this]
theorem qL {p:Prog}(hp:FineP p)(b:∀ (i:Nat) (x:Node),p.nodes[i]?=some x→aO p x=true) :∀ (a:List XT) (l:List Int),aQ p a l→FineXs 400 a
 | [],_,_=>trivial
 | t::a,l,h=>by
  simp only [aQ]at h;obtain⟨k,d,rfl,e,c⟩ :=h;exact⟨aUG hp b t k e,qL hp b a d c⟩
end
theorem yB {p:Prog}:∀ (l:List Int),(∀k∈l,∃t,IsTree p t k) →∃b,aQ p b l
 | [],_=> ⟨[],rfl⟩
 | k::l,h=>by
  obtain⟨t,c⟩ :=h k (cN ..);obtain⟨b,a⟩ :=yB l (fun x d=>h x (cJ _ d));exact⟨t::b,by simp only [aQ];exact⟨k,l,rfl,c,a⟩⟩
theorem aRY {p:Prog}(hp:FineP p) :∀ (d:Nat) (k:Int),0≤k→k<p.nodes.length→p.nodes.length-k.toNat≤d→∃t,IsTree p t k
 |0,k,e,g,f=>by omega
 | d+1,k,e,g,f=>by
  obtain⟨nd,a⟩ :∃nd,p.nodes[k.toNat]?=some nd:= ⟨_,kF (by omega)⟩;obtain⟨_,_,hk⟩ :=hp.node _ nd a
  obtain⟨h,b⟩ :=yB (p:=p) nd.kids (fun c hc=>by
   have:=hk c hc;exact aRY hp d c (by omega) this.2 (by omega))
  exact⟨.mk nd.op nd.n h nd.pats,by simp only [IsTree];exact⟨e,nd,a,rfl,rfl,rfl,b⟩⟩
theorem aYb {p:Prog}(hp:FineP p) :∃a,aQ p a p.funs:=yB p.funs (fun k hk=>by
 have:=hp.funs k hk;exact aRY hp p.nodes.length k this.1 this.2 (by omega))
theorem eU {p:Prog}:∀ {a:List XT} {l:List Int},aQ p a l→a.length=l.length
 | [],l,h=>by simp only [aQ]at h;rw [h];rfl
 |t::a,l,h=>by simp only [aQ]at h;obtain⟨k,c,rfl,_,b⟩ :=h;simp [eU b]
theorem aYc {p:Prog}(a:aF p=true)(b:aJ p=false) :fC PP 0 (.enter 34 [Prog.av p]) (aA [] 0) (.ret (.tup [.nilp,.int .i64 2])) (aA [] 0) :=by
 have hc:=aCe a;rw [b]at hc;exact⟨(aRU p).as.fr,by kernel_rfl,bB3 p _ hc (by rfl)⟩
theorem aKD {p:Prog}(b:aF p=true)(d:aJ p=true)(a: (cV p).1=false) :fC PP 0 (.enter 34 [Prog.av p]) (aA [] 0) (.ret (.tup [.nilp,.int .i64 7])) (aA [] 0) :=by
 have hc:=aCe b;rw [d]at hc;have c:=aCf b;rw [a]at c;exact⟨(aRU p).as.fr,by kernel_rfl,bB4 p _ false _ hc (by rfl) c rfl⟩
theorem aQD {p:Prog}(a:aF p=true)(e:aJ p=true)(c: (cV p).1=true){ts:List XT}(f:aQ p ts p.funs)(b:ts≠ []) :fC PP 0 (.enter 34 [Prog.av p]) (aA [] 0) (.ret (.tup [.ptr 0 0,.int .i64 0])) (aA (FHl ts.length p.main p.cons ts) 3) :=by
 have hc:=aCe a;rw [e]at hc;have d:=aCf a;rw [c]at d;have hb:=a;simp only [aF,cM,decide_eq_true_eq]at hb;exact⟨(aRU p).as.fr,by kernel_rfl,bB5 p _ true _ ts p.main p.cons hc (by rfl) d rfl (oQ (m:=0) (ks:=[]) (bCe (bCf a) (by omega) (by omega) f b) aC aC trivial trivial)⟩
abbrev aCj (a:List XT):AV:=.ilst 1 (XTs.av a) false
abbrev aKE (a:Nat)(b c d e:Int)(f:List XT)(g:List Pat):=oC a [(nI b),(nI c),(.iptr [(.iptr [(nI d),(nI e),(aCj f),(iP g)])])]
abbrev aEH (a:Nat)(b:List XT)(c:Int)(d:List Con):=oC a [(.iptr [(aCj b),(nI c),(iC d)])]
abbrev aYd (a:List XT)(b:Int)(c:List Con)(d e f g h:Int)(i:List XT)(j:List Pat):=aA [(0,(.loop .done (some .ret) 93 (cE [kp 2 6]) 19 [6] (kd f93 28) (kd f93 29) 2),false),aEH 1 a b c,(2,(.defd false),false),oC 3 [(nI d)],(4,(.loop .done (some .ret) 47 (cE [kp 2 3]) 9 [6] (kd f47 52) (kd f47 53) 5),false),(5,(.defd false),false),oC 6 [(.yield 4)],aKE 7 e f g h i j] 8
abbrev aKF (a:List XT)(b:Int)(c:List Con)(d e f g:Int)(h:List XT)(i:List Pat):=aA [(0,(.loop .ready none 93 (cE [kp 2 6]) 19 [6] (kd f93 28) (kd f93 29) 2),false),aEH 1 a b c,(2,(.defd false),false),oC 3 [(nI 0)],(4,(.loop .ready none 47 (cE [kp 2 3]) 9 [6] (kd f47 52) (kd f47 53) 5),false),(5,(.defd false),false),oC 6 [(.yield 4)],aKE 7 d e f g h i] 8
abbrev aYe (a:List XT)(b:Int)(c:List Con)(d e f g h i:Int)(j:List XT)(k:List Pat):=aA [(0,(.loop .done (some .ret) 75 (cE [kp 3 5,kp 4 2,kp 5 3]) 26 [9] (kd f75 116) (kd f75 117) 4),false),aEH 1 a b c,oC 2 [(bV false)],oC 3 [(nI d)],(4,(.defd false),false),oC 5 [(nI e)],aKE 6 f g h i j k] 7
abbrev aKG (a:List XT)(b:Int)(c:List Con)(d e f g h i:Int)(j:List XT)(k:List Pat):=aA [(0,(.loop .ready none 75 (cE [kp 3 5,kp 4 2,kp 5 3]) 26 [9] (kd f75 116) (kd f75 117) 4),false),aEH 1 a b c,oC 2 [(bV false)],oC 3 [(nI d)],(4,(.defd false),false),oC 5 [(nI e)],aKE 6 f g h i j k] 7
abbrev aKH (a b c d e:Int)(f:List XT)(g:List Pat):AV:=.agg [(nI a),(nI (IntKind.i64.wrap (b+c))),(.iptr [(.iptr [(nI d),(nI e),(aCj f),(iP g)])])]
abbrev aKI (a b c:Int)(d:List XT)(e:List Pat):AV:=.agg [(nI a),(nI 1),(.iptr [(.iptr [(nI b),(nI c),(aCj d),(iP e)])])]
abbrev fG (a:Nat)(b:List XT)(c:Int)(d:List Con):=oC a [(.iptr [(aCj b),(nI c),(iC d)])]
abbrev kD (a:List XT):AV:=.ilst 1 (XTs.av a) false
def bGP(a:List XT)(b:Int)(c:List Con):TS:=cH PP 47 [(.iptr [(kD a),(nI b),(iC c)])] [] 0
def aKJ(a:List XT)(b:Int)(c:List Con)(d e:Int):TS:=⟨(tf 135 26 [(0,(.yield 0)),kp 1 1,(3,(nI d)),(9,(nI (a.length:Int))),(10,(nI e))] [kc f135 28,kl f135 28,.inBlock 0]),[(tf 93 19 [] [.inRF 0,.inBlock 0] (defers:=[.col 2])),(tf 47 9 [kp 2 3] [.inRF 4,.inBlock 0,kc f47 7] (defers:=[.col 5]))],[(0,(.loop .ready none 93 (cE [kp 2 6]) 19 [6] (kd f93 28) (kd f93 29) 2),false),fG 1 a b c,(2,(.defd false),false),oC 3 [(nI 0)],(4,(.loop .ready none 47 (cE [kp 2 3]) 9 [6] (kd f47 52) (kd f47 53) 5),false),(5,(.defd false),false),oC 6 [(.yield 4)]],7⟩
def aYf(a:List XT)(b:Int)(c:List Con)(d e f g:Int)(i:List XT)(j:List Pat):TS:=cH PP 136 [(.agg [(nI d),(nI e),(.iptr [(.iptr [(nI f),(nI g),(kD i),(iP j)])])]),(.yield 0)] [(0,(.loop .ready none 93 (cE [kp 2 6]) 19 [6] (kd f93 28) (kd f93 29) 2),false),fG 1 a b c,(2,(.defd false),false),oC 3 [(nI 0)],(4,(.loop .ready none 47 (cE [kp 2 3]) 9 [6] (kd f47 52) (kd f47 53) 5),false),(5,(.defd false),false),oC 6 [(.yield 4)]] 7
def aCk(e:List XT)(f:Int)(g:List Con)(i j b c:Int)(a:List XT)(d:List Pat)(k l:Int):TS:=⟨(tf 136 48 [(1,(.yield 0)),kp 2 7,(4,(nI 0)),(5,(nI k)),(6,(.iptr [(nI b),(nI c),(kD a),(iP d)])),(23,(nI (a.length:Int))),(24,(nI l))] [kc f136 500,kl f136 500,.inBlock 0,kc f136 63]),[],[(0,(.loop .ready none 93 (cE [kp 2 6]) 19 [6] (kd f93 28) (kd f93 29) 2),false),fG 1 e f g,(2,(.defd false),false),oC 3 [(nI 0)],(4,(.loop .ready none 47 (cE [kp 2 3]) 9 [6] (kd f47 52) (kd f47 53) 5),false),(5,(.defd false),false),oC 6 [(.yield 4)],oC 7 [(nI i),(nI j),(.iptr [(.iptr [(nI b),(nI c),(kD a),(iP d)])])]],8⟩
def bGQ(a:List XT)(b:Int)(c:List Con)(d:Int):TS:=cH PP 75 [(.iptr [(kD a),(nI b),(iC c)]),(nI d)] [] 0
def aKK(a:List XT)(b:Int)(c:List Con)(d e f g:Int):TS:=⟨(tf 135 26 [(0,(.yield 0)),kp 1 1,(3,(nI e)),(9,(nI (a.length:Int))),(10,(nI f))] [kc f135 28,kl f135 28,.inBlock 0]),[(tf 75 26 [(0,(.iptr [(kD a),(nI b),(iC c)])),kp 4 2,kp 5 3] [.inRF 0,.inBlock 0,kc f75 15] (defers:=[.col 4]))],[(0,(.loop .ready none 75 (cE [kp 3 5,kp 4 2,kp 5 3]) 26 [9] (kd f75 116) (kd f75 117) 4),false),fG 1 a b c,oC 2 [(bV false)],oC 3 [(nI g)],(4,(.defd false),false),oC 5 [(nI d)]],6⟩
def aYg(a:List XT)(b:Int)(c:List Con)(d e f g i j:Int)(k:List XT)(l:List Pat):TS:=cH PP 136 [(.agg [(nI f),(nI g),(.iptr [(.iptr [(nI i),(nI j),(kD k),(iP l)])])]),(.yield 0)] [(0,(.loop .ready none 75 (cE [kp 3 5,kp 4 2,kp 5 3]) 26 [9] (kd f75 116) (kd f75 117) 4),false),fG 1 a b c,oC 2 [(bV false)],oC 3 [(nI e)],(4,(.defd false),false),oC 5 [(nI d)]] 6
def aCl(e:List XT)(f:Int)(g:List Con)(i o j k b c:Int)(a:List XT)(d:List Pat)(l m n:Int):TS:=⟨(tf 136 48 [(1,(.yield 0)),kp 2 6,(4,(nI 0)),(5,(nI l)),(6,(.iptr [(nI b),(nI c),(kD a),(iP d)])),(23,(nI (a.length:Int))),(24,(nI m))] [kc f136 500,kl f136 500,.inBlock 0,kc f136 63]),[],[(0,(.loop .ready none 75 (cE [kp 3 5,kp 4 2,kp 5 3]) 26 [9] (kd f75 116) (kd f75 117) 4),false),fG 1 e f g,oC 2 [(bV false)],oC 3 [(nI n)],(4,(.defd false),false),oC 5 [(nI i)],oC 6 [(nI j),(nI k),(.iptr [(.iptr [(nI b),(nI c),(kD a),(iP d)])])]],7⟩
def bCh (a:List XT)(b:Int)(c:List Con):=(tT 0 (bGP a b c)<|.i [rn 24,.lkeep 3 [2]] []<|.i [rn 23,.lkeep 7 [2]] []<|.i [rn 10,aL a] [.q (p:=((XTs.av a).length:Int) = (a.length:Int)) (jY cY _)]<|.W 4 8 [7,5,6,0,3,2,4] (aKJ a b c 0 0)) tv
def aQE(a:List XT)(b:Int)(c:List Con)(e d:Int):=tT 0 (aKJ a b c e d)<|gd 5 11 (d< (a.length:Int)) (.y fun f:Int=>.y fun g:Int=>.y fun i:List XT=>.y fun j:List Pat=>giF cY 17 a d (XT.mk f g i j)<|.o (.y fun l:Int=>gk 2 (.enter 136 [(aKI e f g i j),(.yield 0)]) [(0,(.loop .ready none 93 (cE [kp 2 6]) 19 [6] (kd f93 28) (kd f93 29) 2),false),fG 1 a b c,(2,(.defd false),false),oC 3 [(nI 0)],(4,(.loop .ready none 47 (cE [kp 2 3]) 9 [6] (kd f47 52) (kd f47 53) 5),false),(5,(.defd false),false),oC 6 [(.yield 4)]] 7 (nI (-1)) [(0,(.loop .done (some .ret) 93 (cE [kp 2 6]) 19 [6] (kd f93 28) (kd f93 29) 2),false),fG 1 a b c,(2,(.defd false),false),oC 3 [(nI l)],(4,(.loop .done (some .ret) 47 (cE [kp 2 3]) 9 [6] (kd f47 52) (kd f47 53) 5),false),(5,(.defd false),false),oC 6 [(.yield 4)]] 7<|gE 17 7 (nI l))<|.y fun k:Int=>gk 2 (.enter 136 [(aKI e f g i j),(.yield 0)]) [(0,(.loop .ready none 93 (cE [kp 2 6]) 19 [6] (kd f93 28) (kd f93 29) 2),false),fG 1 a b c,(2,(.defd false),false),oC 3 [(nI 0)],(4,(.loop .ready none 47 (cE [kp 2 3]) 9 [6] (kd f47 52) (kd f47 53) 5),false),(5,(.defd false),false),oC 6 [(.yield 4)]] 7 (nI k) [(0,(.loop .ready none 93 (cE [kp 2 6]) 19 [6] (kd f93 28) (kd f93 29) 2),false),fG 1 a b c,(2,(.defd false),false),oC 3 [(nI 0)],(4,(.loop .ready none 47 (cE [kp 2 3]) 9 [6] (kd f47 52) (kd f47 53) 5),false),(5,(.defd false),false),oC 6 [(.yield 4)]] 7<|gd 7 24 (k<0) (gE 16 7 (nI (-1)))<|gw 5 25 (d+1)<|.W 3 7 [0,1,2,3,4,5,6] (aKJ a b c k (d+1)))<|gE 17 7 (nI (-1))
def bCi:=fun a b c d e f g i j k l m n o=>aQE a b c d e|>.t l f g i j m n|>.1 k o tv
def bCj:=fun a b c d e f g i j k l m n o p q=>aQE a b c d e|>.t l f g i j m n|>.2 k o|>.f p q tv
def bCk:=fun a b c d e f=>aQE a b c d e|>.f f tv
def aQF(f:List XT)(g:Int)(i:List Con)(b j c d:Int)(a:List XT)(e:List Pat):=tT 7 (aYf f g i b j c d a e)<|.o (.y fun k:Int=>gp 23 95 [(.iptr [(nI c),(nI d),(kD a),(iP e)])] (.iface 193 (nI k))<|.E 31 10 [] (nI (-1)) [(0,(.loop .done (some .ret) 93 (cE [kp 2 6]) 19 [6] (kd f93 28) (kd f93 29) 2),false),fG 1 f g i,(2,(.defd false),false),oC 3 [(nI b)],(4,(.loop .done (some .ret) 47 (cE [kp 2 3]) 9 [6] (kd f47 52) (kd f47 53) 5),false),(5,(.defd false),false),oC 6 [(.yield 4)]] 7)<|.o (gp 23 95 [(.iptr [(nI c),(nI d),(kD a),(iP e)])] (.iface 191 (.agg []))<|.E 31 10 [] (nI (-1)) [(0,(.loop .done (some .ret) 93 (cE [kp 2 6]) 19 [6] (kd f93 28) (kd f93 29) 2),false),fG 1 f g i,(2,(.defd false),false),oC 3 [(nI b)],(4,(.loop .done (some .ret) 47 (cE [kp 2 3]) 9 [6] (kd f47 52) (kd f47 53) 5),false),(5,(.defd false),false),oC 6 [(.yield 4)]] 7)<|gp 23 95 [(.iptr [(nI c),(nI d),(kD a),(iP e)])] (.nili)<|gw 21 14 (b+1)<|.i [rn 17,aL a] [.q (p:=((XTs.av a).length:Int) = (a.length:Int)) (jY cY _)]<|.W 4 9 [7] (aCk f g i b j c d a e (b+1) 0)
def aYh:=fun a b c d e f g i j k l=>aQF a b c d e f g i j|>.1 k l tv
def aYi:=fun a b c d e f g i j k=>aQF a b c d e f g i j|>.2|>.1 k tv
def aYj:=fun a b c d e f g i j k l=>aQF a b c d e f g i j|>.2|>.2 k l tv
def aQG(c:List XT)(d:Int)(e:List Con)(k b f g:Int)(a:List XT)(i:List Pat)(r j:Int):=tT 7 (aCk c d e k b f g a i r j)<|gd 5 25 (j< (a.length:Int)) (.o (.y fun l:Int=>.y fun m:Int=>.y fun n:Int=>.y fun o:List XT=>.y fun p:List Pat=>.y fun s:Int=>.i [rn 10,.reg (rd 5 (.pure (nI l)::rd 6 [.ans (.idx (XT.av (XT.mk m n o p))),.d,.d,.call (nI (-1)) (aYd c d e s k b f g a i),.d]))] [hA (aM PP 178 [(.iptr [(nI f),(nI g),(kD a),(iP i)]),(nI j)] (nI l)),hA (0≤j),.a (((a)[j.toNat]?) =some (XT.mk m n o p)) (iM cY),hA (Spec PP (.enter 136 [(aKH r b l m n o p),(.yield 0)]) (aKF c d e k b f g a i) (.ret (nI (-1))) (aYd c d e s k b f g a i)),hr (ilst 1 (XTs.av a) false),hr (ilst 1 (XTs.av a) false),hr (nI b),hr (nI b)]<|.E 12 8 [] (nI (-1)) [(0,(.loop .done (some .ret) 93 (cE [kp 2 6]) 19 [6] (kd f93 28) (kd f93 29) 2),false),fG 1 c d e,(2,(.defd false),false),oC 3 [(nI s)],(4,(.loop .done (some .ret) 47 (cE [kp 2 3]) 9 [6] (kd f47 52) (kd f47 53) 5),false),(5,(.defd false),false),oC 6 [(.yield 4)]] 7)<|.y fun l:Int=>.y fun m:Int=>.y fun n:Int=>.y fun o:List XT=>.y fun p:List Pat=>.y fun q:Int=>.i [rn 10,.reg (rd 5 (.pure (nI l)::rd 6 [.ans (.idx (XT.av (XT.mk m n o p))),.d,.d,.call (nI q) (aKF c d e k b f g a i),.d]))] [hA (aM PP 178 [(.iptr [(nI f),(nI g),(kD a),(iP i)]),(nI j)] (nI l)),hA (0≤j),.a (((a)[j.toNat]?) =some (XT.mk m n o p)) (iM cY),hA (Spec PP (.enter 136 [(aKH r b l m n o p),(.yield 0)]) (aKF c d e k b f g a i) (.ret (nI q)) (aKF c d e k b f g a i)),hr (ilst 1 (XTs.av a) false),hr (ilst 1 (XTs.av a) false),hr (nI b),hr (nI b)]<|gd 5 44 (q<0) (.E 7 8 [] (nI q) [(0,(.loop .ready none 93 (cE [kp 2 6]) 19 [6] (kd f93 28) (kd f93 29) 2),false),fG 1 c d e,(2,(.defd false),false),oC 3 [(nI 0)],(4,(.loop .ready none 47 (cE [kp 2 3]) 9 [6] (kd f47 52) (kd f47 53) 5),false),(5,(.defd false),false),oC 6 [(.yield 4)]] 7)<|gw 5 46 (j+1)<|.W 3 8 [7] (aCk c d e k b f g a i q (j+1)))<|.E 8 8 [] (nI r) [(0,(.loop .ready none 93 (cE [kp 2 6]) 19 [6] (kd f93 28) (kd f93 29) 2),false),fG 1 c d e,(2,(.defd false),false),oC 3 [(nI 0)],(4,(.loop .ready none 47 (cE [kp 2 3]) 9 [6] (kd f47 52) (kd f47 53) 5),false),(5,(.defd false),false),oC 6 [(.yield 4)]] 7
def aYk:=fun a b c d e f g i j k l m n o p q r s t u v w=>aQG a b c d e f g i j k l|>.t s|>.1 m n o p q r t u v w tv
def aYl:=fun a b c d e f g i j k l m n o p q r s t u v w x y=>aQG a b c d e f g i j k l|>.t s|>.2 m n o p q r t u v w|>.f x y tv
def aYm:=fun a b c d e f g i j k l m=>aQG a b c d e f g i j k l|>.f m tv
def bCl (a:List XT)(b:Int)(c:List Con)(d:Int):=(tT 0 (bGQ a b c d)<|.i [rn 30,.lkeep 5 [3,4,5]] []<|.i [rn 10,aL a] [.q (p:=((XTs.av a).length:Int) = (a.length:Int)) (jY cY _)]<|.W 4 6 [5,3,1,2,4,0] (aKK a b c d 0 0 0)) tv
def aKL(b:List XT)(c:Int)(a:List Con)(d i e g:Int):=tT 0 (aKK b c a d i e g)<|gd 5 11 (e< (b.length:Int)) (.y fun j:Int=>.y fun k:Int=>.y fun l:List XT=>.y fun m:List Pat=>giF cY 17 b e (XT.mk j k l m)<|.o (.y fun f:Int=>gk 2 (.enter 136 [(aKI i j k l m),(.yield 0)]) [(0,(.loop .ready none 75 (cE [kp 3 5,kp 4 2,kp 5 3]) 26 [9] (kd f75 116) (kd f75 117) 4),false),fG 1 b c a,oC 2 [(bV false)],oC 3 [(nI g)],(4,(.defd false),false),oC 5 [(nI d)]] 6 (nI (-1)) [(0,(.loop .done (some .ret) 75 (cE [kp 3 5,kp 4 2,kp 5 3]) 26 [9] (kd f75 116) (kd f75 117) 4),false),fG 1 b c a,oC 2 [(bV false)],oC 3 [(nI f)],(4,(.defd false),false),oC 5 [(nI d)]] 6<|gE 13 6 (bV false))<|.y fun f:Int=>.y fun n:Int=>gk 2 (.enter 136 [(aKI i j k l m),(.yield 0)]) [(0,(.loop .ready none 75 (cE [kp 3 5,kp 4 2,kp 5 3]) 26 [9] (kd f75 116) (kd f75 117) 4),false),fG 1 b c a,oC 2 [(bV false)],oC 3 [(nI g)],(4,(.defd false),false),oC 5 [(nI d)]] 6 (nI n) [(0,(.loop .ready none 75 (cE [kp 3 5,kp 4 2,kp 5 3]) 26 [9] (kd f75 116) (kd f75 117) 4),false),fG 1 b c a,oC 2 [(bV false)],oC 3 [(nI f)],(4,(.defd false),false),oC 5 [(nI d)]] 6<|gd 7 24 (n<0) (gd 10 18 (f≤300) (gl 4 Con.av a<|gE 6 6 (bV (decide ((a.length:Int) ≤20))))<|gE 11 6 (bV false))<|gw 5 25 (e+1)<|.W 3 6 [0,1,2,3,4,5] (aKK b c a d n (e+1) f))<|gd 11 18 (g≤300) (gl 4 Con.av a<|gE 6 6 (bV (decide ((a.length:Int) ≤20))))<|gE 11 6 (bV false)
def bCm:=fun a b c d e f g i j k l m n o p q=>aKL a b c d e f g|>.t n i j k l o p|>.1 m q tv
def bCn:=fun a b c d e f g i j k l m n o p q r s t=>aKL a b c d e f g|>.t o i j k l p q|>.2 m n r|>.f s t tv
def bCo:=fun a b c d e f g i j=>aKL a b c d e f g|>.f i|>.t j tv
def bCp:=fun a b c d e f g i j=>aKL a b c d e f g|>.f i|>.f j tv
def aYn(e:List XT)(f:Int)(g:List Con)(c a d i j k:Int)(b:List XT)(l:List Pat):=tT 6 (aYg e f g c a d i j k b l)<|gw 21 11 (a+1)<|gd 9 15 (i>c) (.E 14 8 [] (nI (-1)) [(0,(.loop .done (some .ret) 75 (cE [kp 3 5,kp 4 2,kp 5 3]) 26 [9] (kd f75 116) (kd f75 117) 4),false),fG 1 e f g,oC 2 [(bV false)],oC 3 [(nI (a+1))],(4,(.defd false),false),oC 5 [(nI c)]] 6)<|gw 13 14 (d+1)<|.i [rn 17,aL b] [.q (p:=((XTs.av b).length:Int) = (b.length:Int)) (jY cY _)]<|.W 4 8 [6] (aCl e f g c a d i j k b l (d+1) 0 (a+1))
def aYo:=fun a b c d e f g i j k l m n=>aYn a b c d e f g i j k l m|>.t n tv
def aYp:=fun a b c d e f g i j k l m n o=>aYn a b c d e f g i j k l m|>.f n o tv
def aQH(c:List XT)(d:Int)(e:List Con)(f v l b g i:Int)(a:List XT)(j:List Pat)(t k u:Int):=tT 6 (aCl c d e f v l b g i a j t k u)<|gd 5 25 (k< (a.length:Int)) (.o (.y fun n:Int=>.y fun o:Int=>.y fun p:Int=>.y fun q:List XT=>.y fun r:List Pat=>.y fun m:Int=>.i [rn 10,.reg (rd 5 (.pure (nI n)::rd 6 [.ans (.idx (XT.av (XT.mk o p q r))),.d,.d,.call (nI (-1)) (aYe c d e m f l b g i a j),.d]))] [hA (aM PP 178 [(.iptr [(nI g),(nI i),(kD a),(iP j)]),(nI k)] (nI n)),hA (0≤k),.a (((a)[k.toNat]?) =some (XT.mk o p q r)) (iM cY),hA (Spec PP (.enter 136 [(aKH t b n o p q r),(.yield 0)]) (aKG c d e u f l b g i a j) (.ret (nI (-1))) (aYe c d e m f l b g i a j)),hr (ilst 1 (XTs.av a) false),hr (ilst 1 (XTs.av a) false),hr (nI b),hr (nI b)]<|.E 12 7 [] (nI (-1)) [(0,(.loop .done (some .ret) 75 (cE [kp 3 5,kp 4 2,kp 5 3]) 26 [9] (kd f75 116) (kd f75 117) 4),false),fG 1 c d e,oC 2 [(bV false)],oC 3 [(nI m)],(4,(.defd false),false),oC 5 [(nI f)]] 6)<|.y fun n:Int=>.y fun o:Int=>.y fun p:Int=>.y fun q:List XT=>.y fun r:List Pat=>.y fun m:Int=>.y fun s:Int=>.i [rn 10,.reg (rd 5 (.pure (nI n)::rd 6 [.ans (.idx (XT.av (XT.mk o p q r))),.d,.d,.call (nI s) (aKG c d e m f l b g i a j),.d]))] [hA (aM PP 178 [(.iptr [(nI g),(nI i),(kD a),(iP j)]),(nI k)] (nI n)),hA (0≤k),.a (((a)[k.toNat]?) =some (XT.mk o p q r)) (iM cY),hA (Spec PP (.enter 136 [(aKH t b n o p q r),(.yield 0)]) (aKG c d e u f l b g i a j) (.ret (nI s)) (aKG c d e m f l b g i a j)),hr (ilst 1 (XTs.av a) false),hr (ilst 1 (XTs.av a) false),hr (nI b),hr (nI b)]<|gd 5 44 (s<0) (.E 7 7 [] (nI s) [(0,(.loop .ready none 75 (cE [kp 3 5,kp 4 2,kp 5 3]) 26 [9] (kd f75 116) (kd f75 117) 4),false),fG 1 c d e,oC 2 [(bV false)],oC 3 [(nI m)],(4,(.defd false),false),oC 5 [(nI f)]] 6)<|gw 5 46 (k+1)<|.W 3 7 [6] (aCl c d e f v l b g i a j s (k+1) m))<|.E 8 7 [] (nI t) [(0,(.loop .ready none 75 (cE [kp 3 5,kp 4 2,kp 5 3]) 26 [9] (kd f75 116) (kd f75 117) 4),false),fG 1 c d e,oC 2 [(bV false)],oC 3 [(nI u)],(4,(.defd false),false),oC 5 [(nI f)]] 6
def aYq:=fun a b c d e f g i j k l m n o p q r s t u v w x y z=>aQH a b c d e f g i j k l m n o|>.t v|>.1 p q r s t u w x y z tv
def aYr:=fun a b c d e f g i j k l m n o p q r s t u v w x y z A B C=>aQH a b c d e f g i j k l m n o|>.t w|>.2 p q r s t u v x y z A|>.f B C tv
def aYs:=fun a b c d e f g i j k l m n o p=>aQH a b c d e f g i j k l m n o|>.f p tv
theorem aNr (o n:Int)(ks:List XT)(ps:List Pat)(i:∀q∈ps,bX q≤1000)(k:Int)(hk:0≤k∧k≤1000)(hp:o=15→0<k→∃q,ps[(k-1).toNat]?=some q) :aM PP 178 [XT.av (.mk o n ks ps),.int .i64 k] (.int .i64 (bJ o ps k)) :=by
 refine aK aC (by simp [keylessL,keyless,aLQ]) rfl ?_;refine aGk o ps k (fun z=>Ends PP 0 _ (.ret (.int .i64 z)) _) (fun h=>?_) (fun h g j q f=>?_) hp (fun h l=>?_)
 · by_cases a:o=5
   ·exact bAk o n ks ps k (by simpa using a)
   · by_cases b:o=27
     ·exact bAl o n ks ps k (by simpa using a) (by simpa using b)
     · have c:o=7∧k=1:=by omega
       exact bAm o n ks ps k (by simpa using a) (by simpa using b) (by simpa using c.1) (by simpa using c.2)
 · obtain⟨a,b,c,d⟩ :=q;have:=i _ (kN f);exact bAo o n ks ps k a b c d _ (by simp;omega) (by simp;omega) (by simp;omega) (by simpa using g) sd sd (by omega) f (aGj (.mk a b c d) (by omega))
 · have a:¬o=5:=fun e=>h (.inl e);have b:¬o=27:=fun e=>h (.inr (.inl e));by_cases c:o=7
   · have d:¬k=1:=fun e=>h (.inr (.inr ⟨c,e⟩));exact bAn o n ks ps k (by simpa using a) (by simpa using b) (by simpa using c) (by simpa using d) (by simp;omega)
   · by_cases e:o=15
     ·exact bAp o n ks ps k (by simpa using a) (by simpa using b) (by simpa using c) (by simpa using e) (by simp;omega)
     ·exact bAq o n ks ps k (by simpa using a) (by simpa using b) (by simpa using c) (by simpa using e)
mutual
def zOk (mo:Int) :XT→Int→Bool
 | .mk o _ ks ps,z=>decide (z≤mo) &&aCm mo o ps ks 0 z
def aCm (mo:Int)(o:Int)(ps:List Pat) :List XT→Nat→Int→Bool
 | [],_,_=>true
 |t::ts,i,z=>zOk mo t (z+bJ o ps (i:Int)) &&aCm mo o ps ts (i+1) z
end
def aC8 (n:Int) :Bool:=decide (n≤300)
def oD (mo:Int)(cs:List Con)(ts:List XT) :Bool:= (ts.all fun t=>zOk mo t 1) &&aC8 (aD ts:Nat) &&decide (cs.length≤20)
abbrev FTl (s1:LoopState)(p1:Option Code)(ts:List XT)(mn:Int)(cs:List Con)(mo:Int)(b:Bool)(c:Int) :HL:=[(0,(.loop s1 p1 75 (cE [(3,(.ptr 5 0)),(4,(.ptr 2 0)),(5,(.ptr 3 0))]) 26 [9] (cd Tryz.f75 [1,1,0,1,0,0]) (cd Tryz.f75 [1,1,0,1,0,1]) 4),false),(1,(.cells (putCells .leaf 0 [(.iptr [(.ilst 1 (XTs.av ts) false),(.int .i64 mn),(.ilst 2 (map Con.av cs) false)])]) 1 [] false),false),(2,(.cells (putCells .leaf 0 [(.bool b)]) 1 [] false),false),(3,(.cells (putCells .leaf 0 [(.int .i64 c)]) 1 [] false),false),(4,(.defd false),false),(5,(.cells (putCells .leaf 0 [(.int .i64 mo)]) 1 [] false),false)]
section
variable (F :List XT) (mn:Int) (cs:List Con) (mo:Int) (B:Int) (b0:Bool)
mutual
theorem aRZ :∀ (t:XT),FineX B t→∀ (c a b:Int),0≤c→c+ (cB t:Nat) ≤1000000→0≤a→a+ (cB t:Nat) ≤1000000→0≤b→b+1000* (cB t:Nat) ≤1000000000 →
  (zOk mo t b=true→fC PP 6 (.enter 136 [.agg [.int .i64 a,.int .i64 b,.iptr [XT.av t]],.yield 0]) (aA (FTl .ready none F mn cs mo false c) 6) (.ret (.int .i64 (a+ (cB t:Nat)))) (aA (FTl .ready none F mn cs mo false (c+ (cB t:Nat))) 6)) ∧
  (zOk mo t b=false→∃i,fC PP 6 (.enter 136 [.agg [.int .i64 a,.int .i64 b,.iptr [XT.av t]],.yield 0]) (aA (FTl .ready none F mn cs mo false c) 6) (.ret (.int .i64 (-1))) (aA (FTl .done (some .ret) F mn cs mo false i) 6))
 | .mk o n d g,j,c,a,b,C,q,x,u,w,s=>by
  simp only [FineX]at j;obtain⟨_,r,v,p,y,A,l⟩ :=j;simp only [cB]at q u s;have f:dT PP (aA (FTl .ready none F mn cs mo false c) 6) (.enter 136 [.agg [.int .i64 a,.int .i64 b,.iptr [XT.av (.mk o n d g)]],.yield 0]) =some (aYg F mn cs mo c a b o n d g).as.fr:=by kernel_rfl
  have z:∀m:Int,a+1+m=a+ (1+m) :=fun m=>by omega
  simp only [zOk,cB];by_cases hz:b≤mo
  · have st:=aYp F mn cs mo c a b o n d g sd (by simp;omega) sd;have k:=aR0 c a b o n d g r v p w d 0 (a+1) (c+1) rfl l (by omega) (by omega) (by omega) (by omega) (by omega);rw [decide_eq_true hz,nV];refine⟨fun h=> ⟨_,f,?_⟩,fun h=>?_⟩
    · have:=st.ends (k.1 h);rw [show a+1+ ((aD d:Nat) :Int) =a+ ((aD d+1:Nat) :Int)by omega,show c+1+ ((aD d:Nat) :Int) =c+ ((aD d+1:Nat) :Int)by omega]at this;exact this
    · obtain⟨i,e⟩ :=k.2 h;exact⟨i,_,f,st.ends e⟩
  · rw [decide_eq_false hz,Bool.false_and];refine⟨fun h=> (by cases h),fun _=> ⟨c+1,_,f,?_⟩⟩;exact aYo F mn cs mo c a b o n d g sd (by simp;omega)
theorem aR0 (k j d:Int)(o n:Int)(ks:List XT)(ps:List Pat)(M:ks.length≤1000)(w:∀q∈ps,bX q≤1000)(A:o=15→ks.length=1+ps.length)(h2:0≤d) :
  ∀ (b:List XT) (i:Nat) (a c:Int),ks.drop i=b→FineXs B b→0≤c→c+ (aD b:Nat) ≤1000000→0≤a→a+ (aD b:Nat) ≤1000000→d+1000+1000* (aD b:Nat) ≤1000000000 →
  (aCm mo o ps b i d=true→Ends PP 6 (aCl F mn cs mo k j d o n ks ps a (i:Int) c).as (.ret (.int .i64 (a+ (aD b:Nat)))) (aA (FTl .ready none F mn cs mo false (c+ (aD b:Nat))) 6)) ∧
  (aCm mo o ps b i d=false→∃g,Ends PP 6 (aCl F mn cs mo k j d o n ks ps a (i:Int) c).as (.ret (.int .i64 (-1))) (aA (FTl .done (some .ret) F mn cs mo false g) 6))
 | [],i,a,c,h,_,_,_,_,_,_=>by
  have:=bL h;simp only [aCm,aD];refine⟨fun _=>?_,fun h=> (by cases h)⟩;have e:=aYs F mn cs mo k j d o n ks ps a (i:Int) c sd;rw [show a+ ((0:Nat) :Int) =a by omega,show c+ ((0:Nat) :Int) =c by omega];exact e
 | .mk r s l p::b,i,a,c,h,v,L,y,K,z,G=>by
  obtain⟨N,I,S⟩ :=bI h;simp only [FineXs]at v;simp only [aD]at y z G ⊢;have O:=mD (o:=o) w (i:Int);have C:IntKind.i64.wrap (d+bJ o ps (i:Int)) =d+bJ o ps (i:Int) :=wrap64 (by omega) (by omega)
  have J:o=15→0< (i:Int) →∃q,ps[((i:Int) -1).toNat]?=some q:=fun u R=>by
   have:=A u;exact⟨_,kF (by omega)⟩
  have t:=aRZ (.mk r s l p) v.1 c a (d+bJ o ps (i:Int)) L (by omega) K (by omega) (by omega) (by omega);have H:=aNr o n ks ps w (i:Int) ⟨by omega,by omega⟩ J;simp only [aCm];generalize Q:cB (.mk r s l p) =f at t y z G ⊢;cases hz:zOk mo (.mk r s l p) (d+bJ o ps (i:Int))
  case false=>
   rw [Bool.false_and];refine⟨fun h=> (by cases h),fun _=>?_⟩;obtain⟨g,e⟩ :=t.2 hz;exact⟨g,aYq F mn cs mo k j d o n ks ps a (i:Int) c _ r s l p g sd H sd sd (bBh C (oQ (m:=6) (ks:=[0,1,2,3,4,5]) e aC aC trivial trivial))⟩
  rw [nV];have e:=t.1 hz;have st:=aYr F mn cs mo k j d o n ks ps a (i:Int) c _ r s l p (c+ (f:Nat)) (a+ (f:Nat)) sd H sd sd (bBh C (oQ (m:=6) (ks:=[0,1,2,3,4,5]) e aC aC trivial trivial)) (by simp;omega) sd;have D:=aR0 k j d o n ks ps M w A h2 b (i+1) (a+ (f:Nat)) (c+ (f:Nat)) I v.2 (by omega) (by omega) (by omega) (by omega) (by omega);refine⟨fun h=>?_,fun h=>?_⟩
  · have x:=st.ends (D.1 h);rw [show a+ ((f+aD b:Nat) :Int) =a+ (f:Nat) + ((aD b:Nat) :Int)by omega,show c+ ((f+aD b:Nat) :Int) =c+ (f:Nat) + ((aD b:Nat) :Int)by omega];exact x
  · obtain⟨g,x⟩ :=D.2 h;exact⟨g,st.ends x⟩
end
end
theorem aIn (ts:List XT)(mn:Int)(cs:List Con)(mo B:Int)(hl:ts.length≤1000) :∀ (a:List XT) (i:Nat) (n c:Int),ts.drop i=a→FineXs B a→0≤c→c+ (aD a:Nat) ≤100000→0≤n→n+ (aD a:Nat) ≤100000 →
  Ends PP 0 (aKK ts mn cs mo n (i:Int) c).as (.ret (.bool ((a.all fun t=>zOk mo t 1) &&aC8 (c+ (aD a:Nat)) &&decide (cs.length≤20)))) (aA [] 0)
 | [],i,n,c,h,_,_,_,_,_=>by
  have:=bL h;simp only [List.all_nil,nV,aD];rw [show c+ ((0:Nat) :Int) =c by omega];by_cases g:c≤300
  · rw [show aC8 c=true from decide_eq_true g,nV];have e:=bCo ts mn cs mo n (i:Int) c sd sd;have w:decide (((length cs:Nat) :Int) ≤ (20:Int)) =decide (cs.length≤20) :=by simp;omega
    rw [w]at e;exact e
  · rw [show aC8 c=false from decide_eq_false g,Bool.false_and];exact bCp ts mn cs mo n (i:Int) c sd sd
 | .mk j k d f::a,i,n,c,h,o,v,p,r,q=>by
  obtain⟨y,u,A⟩ :=bI h;simp only [FineXs]at o;simp only [aD]at p q ⊢;have l:=aRZ ts mn cs mo B (.mk j k d f) o.1 c n 1 v (by omega) r (by omega) (by omega) (by omega);generalize z:cB (.mk j k d f) =b at l p q ⊢;simp only [all_cons];cases hz:zOk mo (.mk j k d f) 1
  case false=>
   obtain⟨s,e⟩ :=l.2 hz;rw [Bool.false_and,Bool.false_and,Bool.false_and];exact bCm ts mn cs mo n (i:Int) c j k d f s sd sd sd (oQ (m:=6) (ks:=[0,1,2,3,4,5]) e aC aC trivial trivial)
  have e:=l.1 hz;rw [nV];refine(bCn ts mn cs mo n (i:Int) c j k d f (c+ (b:Nat)) (n+ (b:Nat)) sd sd sd (oQ (m:=6) (ks:=[0,1,2,3,4,5]) e aC aC trivial trivial) (by simp;omega) sd).ends ?_;have x:=aIn ts mn cs mo B hl a (i+1) (n+ (b:Nat)) (c+ (b:Nat)) u o.2 (by omega) (by omega) (by omega) (by omega);rw [show c+ ((b+aD a:Nat) :Int) =c+ (b:Nat) + ((aD a:Nat) :Int)by omega];exact x
theorem aIo (ts:List XT)(mn:Int)(cs:List Con)(mo B:Int)(hl:ts.length≤1000)(a:FineXs B ts)(b:aD ts≤100000) :aM PP 75 [fvA ts mn cs,.int .i64 mo] (.bool (oD mo cs ts)) :=by
 refine aK aC (by simp [keylessL,keyless,fvA]) rfl ((bCl ts mn cs mo).ends ?_);have e:=aIn ts mn cs mo B hl ts 0 0 0 rfl a (by omega) (by omega) (by omega) (by omega);rw [Int.zero_add]at e;exact e
section
variable {P :Program}
end
inductive Typ where
 |mk (sort n:Int) (text:cC) (parts:List Typ)
mutual
def Typ.av :Typ→AV
 | .mk f n t ps=>.agg [.int .i64 f,.int .i64 n,dO t,.ilst 4 (Typs.av ps) false]
def Typs.av :List Typ→List AV
 | [] =>[]
 |p::ps=>Typ.av p::Typs.av ps
end
inductive Term where
 |mk (op n:Int) (text:cC) (kids:List Term) (pats:List Pat)
mutual
def Term.av :Term→AV
 | .mk o n t ks ps=>.agg [.int .i64 o,.int .i64 n,dO t,.ilst 5 (Terms.av ks) false,.ilst 4 (Pats.av ps) false]
def Terms.av :List Term→List AV
 | [] =>[]
 |p::ps=>Term.av p::Terms.av ps
end
structure ConD where
 name:cC
 args:List Typ
def ConD.av (c:ConD) :AV:=.agg [dO c.name,.ilst 4 (Typs.av c.args) false]
structure DataD where
 name:cC
 cons:List ConD
def DataD.av (d:DataD) :AV:=.agg [dO d.name,.ilst 2 (map ConD.av d.cons) false]
inductive FunD where
 |mk (name param:cC) (frm to:Typ) (body:Term)
def FunD.av :FunD→AV
 | .mk n p (.mk f0 f1 f2 f3) (.mk g0 g1 g2 g3) (.mk b0 b1 b2 b3 b4) =>.agg [dO n,dO p,.int .i64 f0,.int .i64 f1,dO f2,.ilst 4 (Typs.av f3) false,.int .i64 g0,.int .i64 g1,dO g2,.ilst 4 (Typs.av g3) false,.int .i64 b0,.int .i64 b1,dO b2,.ilst 5 (Terms.av b3) false,.ilst 4 (Pats.av b4) false]
def FunDs.av (l:List FunD) :List AV:=map FunD.av l
structure Mod where
 name:cC
 datas:List DataD
 funs:List FunD
def Mod.av (m:Mod) :AV:=.agg [dO m.name,.ilst 2 (map DataD.av m.datas) false,.ilst 15 (FunDs.av m.funs) false]
inductive Part where
 |data (d:DataD)
 |fn (f:FunD)
section
variable {P :Program}
theorem aCn {E E':Emb}(d:E.le E') :∀ {f:List AV} {i:Nat} {y:AV} {e:List Value} {v:Value},VRs E f e→e[i]?=some v→VR E' y v→VRs E' (f.set i y) e
 | [],i,y,e,v,b,c,_=>by simp only [VRs]at b;subst b;simp at c
 | a::f,0,y,e,v,b,c,g=>by
  simp only [VRs]at b;obtain⟨u,j,rfl,k,h⟩ :=b;simp at c;subst c;simp only [List.set_cons_zero,VRs];exact⟨_,j,rfl,g,h.mono d⟩
 | a::f,i+1,y,e,v,b,c,g=>by
  simp only [VRs]at b;obtain⟨u,j,rfl,k,h⟩ :=b;simp only [mM]at c;simp only [List.set_cons_succ,VRs];exact⟨u,j,rfl,k.mono d,aCn d h c g⟩
theorem aNs {E:Emb}{c:List AV}{o:Nat}{v:AV}(hc:c[o]?=some v){cv:Value}(h:VR E (.agg c) cv) :∃a w,cv= .agg a.toArray∧VRs E c a∧a[o]?=some w∧VR E v w:=by
 rw [VR]at h;obtain⟨a,rfl,h⟩ :=h;obtain⟨w,d,b⟩ :=h.get _ _ hc;exact⟨a,w,rfl,h,d,b⟩
theorem aDU {m:Nat}{fr:AFrame}{cs:List AFrame}{h h1:Hp}{k e i o:Nat}{b c:List AV}{v v':AV}(hk:h.look k=some (.lst e b))(d:h1.look k=some (.lst e b))(p:b[i]?=some (.agg c))(hc:c[o]?=some v)(G:m≤h.nb→oU m h h1 v v') :
  LeadsM P m ⟨fr,cs,h⟩ ⟨fr,cs,h1.set k (.lst e (b.set i (.agg (c.set o v'))))⟩ :=fun hm E Q j w n f fs r=>by
 obtain⟨s,a,M,H,l⟩ :=G hm E w r;have g:kH (.lst e b) =false:=by
  cases b with
  |nil=>simp at p
  |cons _ _=>rfl
 have hr:Rel s (h1.set k (.lst e (b.set i (.agg (c.set o v'))))) w.heap:=by
  refine M.reobj d g (fun L N=>?_) rfl rfl rfl;obtain⟨R,hE,C,K,J,A,y,t,z,D⟩ :=r.obj _ _ hk g;have:=a.1 _ _ hE;rw [N]at this;cases this;obtain⟨S,x,B⟩ :=t.get _ _ p;obtain⟨I,q,rfl,O,u,F⟩ :=aNs hc B;refine⟨C,K,J,A,y,aCn a t x ?_,z,D⟩;rw [VR];exact⟨I,rfl,aCn a O u (l q F)⟩
 exact⟨s,Q,j,w,Steps.refl _ _,f.mono a,fs.mono a,hr,jT H d⟩
def LQ (zs:List AV)(i o:Nat)(v v':AV)(ys:List AV) :Prop:=∃c,zs[i]?=some (.agg c) ∧c[o]?=some v∧ys=zs.set i (.agg (c.set o v'))
theorem bCq {m:Nat}{s t:TS}{k b e0 e i o n:Nat}{u:Value}{xs d ys:List AV}(hk:s.as.h.look k=some (.lst e0 d))(hb:s.as.h.look b=some (.lstv u e xs))(a:k≠b)(f:xs.length=n)(h:LQ d i o (.val u) (.gl b e 0 n false) ys)
  (g:t.as= ⟨s.as.fr,s.as.cs,(s.as.h.set b (.lst e xs)).set k (.lst e0 ys)⟩) :LeadsM P m s.as t.as:=by
 subst f;obtain⟨c,j,l,rfl⟩ :=h;rw [g];exact aDU hk (by rw [aY,if_neg a];exact hk) j l (aBE hb)
theorem bFo {m:Nat}{s t:TS}{k e0 e i o:Nat}{b ys:List AV}(hk:s.as.h.look k=some (.lst e0 b))(a:Nat.blt k s.as.h.nb=true)(f:LQ b i o .nils (.gl s.as.h.nb e 0 0 false) ys)
  (h:t.as= ⟨s.as.fr,s.as.cs,(s.as.h.new (.lst e [])).set k (.lst e0 ys)⟩) :LeadsM P m s.as t.as:=by
 obtain⟨c,g,d,rfl⟩ :=f;rw [h];rw [cX]at a;have:=of_decide_eq_true a;exact aDU hk (by rw [cQ,if_neg (by omega)];exact hk) g d (aCM e)
def NQ (zs:List AV)(i o b e n:Nat)(u:Value)(ys:List AV) :Prop:=0<n∧∃c ex,zs[i]?=some (.agg c) ∧c[o]?=some (.gl b e 0 n ex) ∧ys=zs.set i (.agg (c.set o (.val u)))
theorem aQI {m:Nat}{h:AS}{k b e0 e i o:Nat}{p xs:List AV}{ys:Value→List AV}{A:Res}{h':Hp}(n:h.h.look k=some (.lst e0 p))(l:h.h.look b=some (.lst e xs))(M:k≠b)(x:∀u,NQ p i o b e xs.length u (ys u))
  (hk:∀Q S N,Ends P m ⟨h.fr,h.cs,(h.h.set b (.lstv (.slice Q S N) e xs)).set k (.lst e0 (ys (.slice Q S N)))⟩ A h') :Ends P m h A h':=by
 obtain⟨y,c,ex,hz,hc,_⟩ :=x (.slice none 0 0);intro hm E cf D w f fs r cl B;have s:kH (.lst e0 p) =false:=by
  cases p with
  |nil=>simp at hz
  |cons _ _=>rfl
 have t:kH (.lst e xs) =false:=by
  cases xs with
  |nil=>simp at y
  |cons _ _=>rfl
 obtain⟨L0,G,C,el,vs,W,T,O,o4,X⟩ :=r.obj _ _ n s;obtain⟨cv,g1,g2⟩ :=O.get _ _ hz;obtain⟨us,q,rfl,g3,g4,R⟩ :=aNs hc g2;simp only [VR]at R;rcases R with⟨z,_⟩ | ⟨L,a,d,hE,rfl,a1,_,a3⟩
 ·omega
 · obtain⟨_,c',ex',v,hc',J⟩ :=x (.slice (some ⟨L.blk,a,none⟩) xs.length d);rw [hz]at v;cases v
   have V:Rel E (h.h.set b (.lstv (.slice (some ⟨L.blk,a,none⟩) xs.length d) e xs)) w.heap:=r.reobj l t (fun Z g=>by
    obtain⟨C',K,H,p1,U,p3,p4,Y⟩ :=r.objL l g;rw [hE]at g;cases g;exact⟨C',K,H,p1,U,p3,p4,Y,a,d,rfl,by omega,fun hc=>by have:=a3 hc;exact⟨by omega,this.2⟩⟩) rfl rfl rfl
   have j: (h.h.set b (.lstv (.slice (some ⟨L.blk,a,none⟩) xs.length d) e xs)).look k=some (.lst e0 p) :=by rw [aY,if_neg M];exact n
   have r2:Rel E ((h.h.set b (.lstv (.slice (some ⟨L.blk,a,none⟩) xs.length d) e xs)).set k (.lst e0 (ys (.slice (some ⟨L.blk,a,none⟩) xs.length d)))) w.heap:=V.reobj j s (fun Z g=>by
    rw [G]at g;cases g;refine⟨C,el,vs,W,T,?_,o4,X⟩;rw [J];refine aCn (Emb.le.refl E) O g1 ?_;rw [VR];exact⟨us,rfl,aCn (Emb.le.refl E) g3 g4 (by simp only [VR])⟩) rfl rfl rfl
   obtain⟨I,w',E',F,gg,rr,xx⟩ :=hk (some ⟨L.blk,a,none⟩) xs.length d hm _ cf D w f fs r2 cl B;exact⟨I,w',E',F,gg,rr,(jT (jT (ExtM.refl hm) l) j).trans xx⟩
theorem aUH {m:Nat}{s:AS}{t:TS}{ks:List Nat}(h2:s.sum (eW m t.nb s.h.nb ks) t=t.want (eW m t.nb s.h.nb ks))(a:cP m t ks=true)(b:eX t.hp) :LeadsM P m s t.as:=by
 simp only [AS.sum,TS.want,Sum.mk.injEq]at h2;obtain⟨e,k,h,i⟩ :=h2;intro hm E fr c w d f fs r;obtain⟨j,g⟩ :=kJ (l:=t.hp) (nb:=t.nb) (by simpa [cP]using a) i b r;exact⟨_,fr,c,w,Steps.refl _ _,aEe e f,yU k h fs,j,g⟩
def bFp (P:Program)(m:Nat)(is:List Ins)(s:TS)(k b i o:Nat)(ys:List AV)(u:Value)(is2:List Ins)(t:TS)(ks:List Nat) :Option (Nat×Sum×List Prop) :=
 match rD P is s.as with
 | some (s1,ps) =>match s1.h.look k,s1.h.look b with
  | some (.lst e0 zs),some (.lst e xs) =>bif Nat.beq k b then none else
   match rD P is2 ⟨s1.fr,s1.cs,(s1.h.set b (.lstv u e xs)).set k (.lst e0 ys)⟩with
   |some (s3,qs) =>some (s3.h.nb,AS.sum s3 (eW m t.nb s3.h.nb ks) t,NQ zs i o b e xs.length u ys:: (ps++qs))
   |none=>none
  |_,_=>none
 |none=>none
theorem aGt {m:Nat}{is:List Ins}{s:TS}{t:Value→TS}{k b i o:Nat}{ys:Value→List AV}{is2:Value→List Ins}{ks:List Nat}{n1:Nat}{ps:Value→List Prop}
  (C:∀u,bFp P m is s k b i o (ys u) u (is2 u) (t u) ks=some (n1,(t u).want (eW m (t u).nb n1 ks),ps u)) (y:∀u,cP m (t u) ks=true) (z:∀u,eX (t u).hp) (hp:∀u,AllP (ps u))
  {x:Res} {h':Hp} (hk:∀l r v,Ends P m (t (.slice l r v)).as x h') :Ends P m s.as x h':=by
 have d:=C (.slice none 0 0);unfold bFp at d;split at d
 · rename_i B qs F;split at d
   · rename_i I K e D p n;cases j:Nat.beq k b
     case true=>rw [j]at d;cases d
     have w:k≠b:=fun g=>by subst g;simp at j
     have h:∀u,∃f c,rD P (is2 u) ⟨B.fr,B.cs,(B.h.set b (.lstv u e D)).set k (.lst I (ys u))⟩ =some (f,c) ∧f.h.nb=n1∧f.sum (eW m (t u).nb f.h.nb ks) (t u) = (t u).want (eW m (t u).nb n1 ks) ∧NQ K i o b e D.length u (ys u) :: (qs++c) =ps u:=fun u=>by
      have a:=C u;unfold bFp at a;rw [F]at a;simp only [p,n,j,cond]at a;split at a
      · rename_i f c J;simp only [Option.some.injEq,Prod.mk.injEq]at a;exact⟨f,c,J,a.1,a.2.1,a.2.2⟩
      ·cases a
     refine(fZ F (fun q A=>?_)).ends (aQI (i:=i) (o:=o) p n w (ys:=ys) (fun u=>?_) (fun l r v=>?_))
     · obtain⟨f,c,_,_,_,g⟩ :=h (.slice none 0 0);exact(hp (.slice none 0 0)).mem q (by rw [←g];exact cJ _ (aEO _ A))
     · obtain⟨f,c,_,_,_,g⟩ :=h u;exact(hp u).mem _ (by rw [←g];exact cN ..)
     · obtain⟨f,c,G,H,L,g⟩ :=h (.slice l r v);subst H;exact((fZ G (fun q A=> (hp (.slice l r v)).mem q (by rw [←g];exact cJ _ (aIz _ A)))).trans (aUH L (y _) (z _))).ends (hk l r v)
   ·cases d
 ·cases d
end
inductive KVD where
 |row (l:List ConD)
 |nil
 |val (u:Value)
def KVD.av :KVD→AV
 | .row l=>.ilst 2 (map ConD.av l) false
 | .nil=>.nils
 | .val u=>.val u
structure ODat where
 name:cC
 kv:KVD
def ODat.av (x:ODat) :AV:=.agg [dO x.name,x.kv.av]
def DataD.o (x:DataD) :ODat:= ⟨x.name,.row x.cons⟩
theorem aKM {b:Type}{f:b→AV}{l:List b}{ix T:Nat}{Y:AV}(h:T=ix)(a:ix<length l) : (set (map f l) ix Y)[0+T]?=some Y:=by
 subst h;rw [eS,List.getElem?_set_self (by simpa using a)]
theorem aYt {a:Type}{f:a→AV}{l:List a}{ix T:Nat}{Y Y':AV}(h:T=ix) : (set (map f l) ix Y).set (0+T) Y'=set (map f l) ix Y':=by
 subst h;rw [eS,set_set]
theorem bDX {d:Type}{f:d→AV}{l:List d}{ix:Nat}(pre a:List AV){b e n g:Nat}{ex:Bool}{u:Value}{y:d}(c:ix<length l)(i:g=n)(h:0<g)(j:f y= .agg (pre++ .val u::a)) :
  NQ (set (map f l) ix (.agg (pre++ .gl b e 0 n ex::a))) ix pre.length b e g u (map f (set l ix y)) :=by
 subst i;refine⟨h,_,ex,List.getElem?_set_self (by simpa using c),by simp,?_⟩;rw [set_set,List.map_set,j];simp
theorem bDY {b:Type}{f:b→AV}{l:List b}{ix:Nat}(pre a:List AV){v v':AV}{y:b}(h:l[ix]?=some y)(c:f y= .agg (pre++v::a)) :
  LQ (map f l) ix pre.length v v' (set (map f l) ix (.agg (pre++v'::a))) :=by
 refine⟨pre++v::a,by rw [pT,h];simp [c],by simp,by simp⟩
end
end Go.Hb
