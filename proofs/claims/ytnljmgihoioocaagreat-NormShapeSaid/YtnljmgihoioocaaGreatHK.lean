/- A machine on abstract values, its soundness, ways, plain laws. -/
import Derived.Test.YtnljmgihoioocaaGreatHF
import Derived.Test.YtnljmgihoioocaaGreatHG
import Derived.Test.YtnljmgihoioocaaGreatHH
import Derived.Test.YtnljmgihoioocaaGreatHJ
set_option linter.defProp false
set_option linter.unusedVariables false
set_option linter.unusedSimpArgs false
set_option linter.unusedSectionVars false
set_option maxRecDepth 100000
set_option maxHeartbeats 8000000
namespace Go.Hb
open AV (ilst keyless keylessL)
open List (all_cons length map set set_set)
open Go.Proofs Tryz
noncomputable section
theorem aKC (l:List ONode)(y:ONode)(r:List ONode) : (l++y::r)[((length l:Nat) :Int).toNat]?=some y:=by simp
theorem sZ (l:List ONode)(y:ONode)(r:List ONode) : (l++y::r)[length l]?=some y:=by simp
theorem aRL (l:List ONode)(y z:ONode)(r:List ONode) :set (l++y::r) (((length l:Nat) :Int).toNat) z=l++z::r:=by simp
theorem tA (l:List ONode)(y z:ONode)(r:List ONode) :set (l++y::r) (length l) z=l++z::r:=by simp
theorem EndsL.of {s:TS}{L L':List ONode}(h:EndsL s L)(e:L=L') :EndsL s L':=e ▸ h
section
variable (p :Prog) (funs cons:List Int) (k:Nat) (ih:∀ (L:List ONode) (c:Int) (ns:List Node),mL p funs cons k L.length c=some ns→aCf p funs cons c L ns)
 (l:List ONode) (at0 op n':Int) (ps':List Pat) (kids:List Int) (hkids:kids.length<1000000)
include ih hkids
theorem aRM (c:Int)(i:Nat)(kv:KV)(a:List Node)(h:List Int)(f:List Node)(L:List ONode)(hc:kids[i]?=some c)(n:0<h.length)(j:mL p funs cons k (l++ ⟨op,n',kv,ps'⟩ ::map Node.o a).length c=some f)
  (hk:∀u,EndsL (aKB p l at0 funs cons kids (l++ ⟨op,n',.val u,ps'⟩ ::map Node.o (a++f)) h u ((i+1:Nat) :Int)) L) :
  EndsL (yD p l at0 funs cons kids (l++ ⟨op,n',kv,ps'⟩ ::map Node.o a) h (i:Int)) L:=by
 have q:= (zq0.1 hc).1;refine aX0 n (fun g e d=>?_);have o:=ih (l++ ⟨op,n',.val (.slice g e d),ps'⟩ ::map Node.o a) c f (by rw [←j];simp);have b:=aXZ o (.slice g e d) h;have m:=bCa p l at0 funs cons kids (l++ ⟨op,n',kv,ps'⟩ ::map Node.o a) h i g e d ⟨op,n',kv,ps'⟩ c f (aKC ..) sd (by simpa using hc) (by rw [aRL];exact b) sd;rw [aRL]at m;refine m.ends ?_;have:=hk (.slice g e d);rw [aG2]at this;rw [show(l++ ⟨op,n',.val (.slice g e d),ps'⟩ ::map Node.o a) ++map Node.o f=l++ ⟨op,n',.val (.slice g e d),ps'⟩ :: (map Node.o a++map Node.o f)by simp];exact this
theorem aNi :∀ (f:List Int) (i:Nat) (u:Value) (b:List Node) (a e:List Int) (r:List Node),kids.drop i=f→a.length=i→0<i →
  yE (mL p funs cons k) (l.length+1+b.length) f=some (e,r) →
  EndsL (aKB p l at0 funs cons kids (l++ ⟨op,n',.val u,ps'⟩ ::map Node.o b) a u (i:Int)) (l++map Node.o (⟨op,n',a++e,ps'⟩ :: (b++r)))
 | [],i,u,b,a,e,r,h,hl,t,hm=>by
  have:=bL h;cases hm;have n:=bCc p l at0 funs cons kids (l++ ⟨op,n',.val u,ps'⟩ ::map Node.o b) a u i ⟨op,n',.val u,ps'⟩ sd (sZ ..) rfl;rw [tA]at n;rw [vZ,vZ];exact n
 | c ::f,i,u,b,a,e,r,h,hl,t,hm=>by
  obtain⟨q,v,x⟩ :=bI h;simp only [yE]at hm;split at hm
  · rename_i o g;split at hm
    · rename_i j w m;cases hm;have d: (l++ (⟨op,n',.val u,ps'⟩ :ONode) ::map Node.o b).length=l.length+1+b.length:=by simp;omega
      refine(bCb p l at0 funs cons kids (l++ ⟨op,n',.val u,ps'⟩ ::map Node.o b) a u i ⟨op,n',.val u,ps'⟩ sd (by omega) (by rw [d];omega) (aKC ..) rfl (by simp;omega)).ends ?_;refine aRM p funs cons k ih l at0 op n' ps' kids hkids c i (.val u) b _ o _ q (by simp) (by rw [d];exact g) (fun s=>?_);have:=aNi f (i+1) s (b++o) (a++ [((l.length+1+b.length:Nat) :Int)]) j w v (by simp [hl]) (by omega) (by rw [vP,←Nat.add_assoc];exact m);rw [d];exact this.of (by simp)
    ·cases hm
  ·cases hm
theorem aX1 (ks:List Int)(r:List Node)(hm:yE (mL p funs cons k) (l.length+1) kids=some (ks,r)) :
  EndsL (aKz p l at0 funs cons kids (l++ [⟨op,n',.nil,ps'⟩])) (l++map Node.o (⟨op,n',ks,ps'⟩ ::r)) :=by
 cases kids with
 | nil=>
  cases hm;have g:=bB9 p l at0 funs cons [] (l++ [⟨op,n',.nil,ps'⟩]) ⟨op,n',.nil,ps'⟩ sd (sZ ..) rfl;rw [tA]at g;exact g
 | cons c b=>
  simp only [yE]at hm;split at hm
  · rename_i h d;split at hm
    · rename_i e j f;cases hm;have a: (l++ [(⟨op,n',.nil,ps'⟩ :ONode)]).length=l.length+1:=by simp
      refine(bB8 p l at0 funs cons (c::b) (l++ [⟨op,n',.nil,ps'⟩]) ⟨op,n',.nil,ps'⟩ (by simp<;>omega) (by omega) (by rw [a];omega) (aKC ..) rfl (by simp)).ends ?_;refine aRM p funs cons k ih l at0 op n' ps' (c::b) hkids c 0 .nil [] _ h _ rfl (by simp) (by simpa using d) (fun i=>?_);have:=aNi p funs cons k ih l at0 op n' ps' (c::b) hkids b 1 i h [((l.length+1:Nat) :Int)] e j rfl rfl (by omega) f;rw [a];exact this.of (by simp)
    ·cases hm
  ·cases hm
end
theorem aNj (p:Prog)(b cons:List Int)(l:List ONode)(c op g:Int)(kids:List Int)(ps:List Pat)(j:bG ps<1000000)(hl:l.length<1000000)(L:List ONode) :∀ (t:List Pat) (i:Nat) (a k:List Pat),ps.drop i=t→a.length=i→aCe cons t=some k →
  EndsL (aKz p l c b cons kids (l++ [⟨op,g,.nil,a++k⟩])) L→EndsL (aA2 p l c b cons op g kids ps (i:Int) a) L
 | [],i,a,k,h,u,e,hk=>by
  have:=bL h;cases e;rw [vZ]at hk;exact(bB7 p l c b cons op g kids ps i a sd (by simp;omega)).ends hk
 | .mk x v w f::t,i,a,k,h,u,e,hk=>by
  obtain⟨y,B,D⟩ :=bI h;have:=eH ps;simp only [aCe]at e;split at e
  · rename_i A r;split at e
    · rename_i s q;cases e;obtain⟨n,o,m,d⟩ :=A;rw [show a++ .mk n o m d::s= (a++ [.mk n o m d]) ++s by simp]at hk;have C:=aNj p b cons l c op g kids ps j hl L t (i+1) (a++ [.mk n o m d]) s B (by simp [u]) q (by exact hk);have z:=bB6 p l c b cons op g kids ps i a x v w f n o m d sd sd sd (aGq cons ps j (.mk x v w f) (kS y) _ r) (by simp;omega) sd;exact z.ends C
    ·cases e
  ·cases e
theorem aUt (p:Prog)(l:List ONode)(b:Int)(a cons:List Int){L:List ONode}{ns:List Node}(e:L=l++map Node.o ns)(h:EndsL (aXQ p l b a cons) L) :aCf p a cons b l ns:=by
 subst e;exact⟨(aXQ p l b a cons).as.fr,by kernel_rfl,Eq.mp aC h⟩
theorem aX2 {n:Int}(a: -1000000000≤n)(h1:n≤1000000000) :IntKind.i64.wrap (-1-n) = -1-n:=sd
theorem aGr (p:Prog)(a cons:List Int) :∀ (k:Nat) (l:List ONode) (at0:Int) (ns:List Node),mL p a cons k l.length at0=some ns→aCf p a cons at0 l ns
 |0,l,at0,ns,h=>by cases h
 | k+1, l, at0, ns, h=>by
  simp only [mL]at h;split at h
  · rename_i t;obtain⟨d,i⟩ :=t;split at h
    · rename_i y m;split at h
      · rename_i hb;split at h
        · rename_i o b;split at h
          · rename_i j e;split at h
            · rename_i u r q;cases h;have hC:=aNj p a cons l at0 y.op o y.kids y.pats hb.2 i _ y.pats 0 [] j rfl rfl e (aX1 p a cons k (aGr p a cons k) l at0 y.op o j y.kids hb.1 u r q);refine aUt p l at0 a cons rfl ?_;unfold mN at b;split at b
              · rename_i n;have f: (y.op== (14:Int)) =false:=by rw [n.1];rfl
                split at b
                · rename_i g v;split at b
                  · rename_i hr;cases b;exact(bB2 p l at0 a cons y g d m (by simp [n.1]) (by simp [n.2]) (aX2 (by omega) (by omega)) (by omega) v (aX2 (by omega) (by omega)) f).ends hC
                  ·cases b
                ·cases b
              · rename_i n;split at b
                · rename_i c;split at b
                  · rename_i s;exact(bB4 p l at0 a cons y o d m (by simp [c]) (by simp [c]) s b).ends hC
                  ·cases b
                · rename_i c;cases b;by_cases f:y.op=4
                  ·exact(bB3 p l at0 a cons y d m (by simp [f]) (by simp;omega) (by simp [f])).ends hC
                  ·exact(bB5 p l at0 a cons y d m (by simp [f]) (by simp [c])).ends hC
            ·cases h
          ·cases h
        ·cases h
      ·cases h
    ·cases h
  ·cases h
def bDP(a:Prog):TS:=cA PP 59 [(Prog.av a)] [] 0
def bCd (a:Prog):=fun b=>(tT 0 (bDP a)<|.i [rn 6,.reg (rd 4 [.app (jC a.cons) a.cons.length,.d,.d])] [hA (length a.cons≤1000000),hr (jC a.cons),.q (p:=length (jC a.cons) =length a.cons) (lB ..),hr (nI a.main),hr (nI a.main)]<|gy 1 1 3 2 2 Con.av a.cons false<|gE 0 3 (.agg [.nils,.nils,(nI a.main),(iC a.cons)])) b tv
def numsL (a:Int) :Nat→List Int
 |0=>[]
 |n+1=>numsL a n++ [a+ (n:Int)]
theorem tB (a:Int) :∀n,(numsL a n).length=n
 |0=>rfl
 |n+1=>by simp [numsL,tB a n]
theorem zU (a:Int) :∀ {n i:Nat},i<n→ (numsL a n)[i]?=some (a+ (i:Int))
 | n+1,i,h=>by
  rw [numsL];by_cases b:i<n
  ·rw [hP (by rw [tB];exact b),zU a b]
  · have:i=n:=by omega
    subst this;rw [iQ (by rw [tB];omega),tB];simp
theorem aIj (a:Int)(n:Nat)(b:n<1000000)(d: -1000000000≤a)(hb:a≤1000000000) :∀ (j i:Nat),i+j=n→Ends PP 0 (aEC a (n:Int) (i:Int) (numsL a i)).as (.ret (.ilst 1 (map cC (numsL a n)) false)) (aA [] 0)
 | 0,i,h=>by
  have:i=n:=by omega
  subst this;exact aXX a i i _ sd
 | j+1,i,h=>by
  have c:=aXW a n i (numsL a i) sd sd (by rw [vP,tB];simp;omega) sd;exact c.ends (aIj a n b d hb j (i+1) (by omega))
theorem aIk (a:Int)(n:Nat)(b:n<1000000)(c: -1000000000≤a)(hb:a≤1000000000) :aM PP 61 [.int .i64 a,.int .i64 (n:Int)] (.ilst 1 (map cC (numsL a n)) false) :=
 aJ aC rfl rfl ((aXV a n).ends (aIj a n b c hb n 0 (by omega)))
theorem yF {f:Nat}{a:List AV}{v:AV}{s:TS}(e: (start PP f a).as=s.as)(hb:nU PP f=true)(hk:keylessL a=true)(b:keyless v=true)(he:Ends PP 0 s.as (.ret v) (aA [] 0)) :aM PP f a v:=
 aJ hb hk b (by rw [e];exact he)
theorem aX3 {p:Prog}(h:p.cons.length≤1000000) :aM PP 59 [PA p] (.agg [.nils,.nils,.int .i64 p.main,.ilst 2 (map Con.av p.cons) false]) :=
 yF (s:=bDP p) aC aC (by simp [keylessL,keyless]) (by simp [keylessL,keyless]) (bCd p h)
theorem aUu {p:Prog}{a cons:List Int}{k:Nat}{l b:List Node}{c:Int}(h:mL p a cons k l.length c=some b) :
  aVv PP (.enter 60 [.gl 0 4 0 (length l) false,PA p,.int .i64 c,.ilst 1 (map cC a) false,.ilst 1 (map cC cons) false]) (aA [(0,.lst 4 (map Node.av l),true)] 1)
   (.ret (.gl 0 4 0 (length (l++b)) false)) (aA [(0,.lst 4 (map Node.av (l++b)),true)] 1) :=by
 have:=aGr p a cons k (map Node.o l) c b (by rw [lB];exact h);unfold aCf OL at this;rw [←aG2,aJ1,aJ1,lB,lB]at this;exact this
theorem aX4 {p:Prog}{a cons:List Int}{k:Nat}{l b:List Node}{c:Int}(h:mL p a cons k l.length c=some b)(mn:Int)(cs:List Con)(fs:List Int) :
  Spec PP (.enter 60 [.gl 3 4 0 (length l) false,PA p,.int .i64 c,.ilst 1 (map cC a) false,.ilst 1 (map cC cons) false])
   (aA [(0,aDO p,false),(1,.cells (putCells .leaf 0 [.nils,.nils,.int .i64 0,.nils]) 4 [] false,false),(2,.cells (putCells .leaf 0 [.gl 3 4 0 (length l) false,.gl 4 1 0 (length fs) false,.int .i64 mn,.ilst 2 (map Con.av cs) false]) 4 [] false,false),(3,.lst 4 (map Node.av l),true),(4,.lst 1 (map cC fs),true)] 5)
   (.ret (.gl 5 4 0 (length (l++b)) false))
   (aA [(0,aDO p,false),(1,.cells (putCells .leaf 0 [.nils,.nils,.int .i64 0,.nils]) 4 [] false,false),(2,.cells (putCells .leaf 0 [.gl 3 4 0 (length l) false,.gl 4 1 0 (length fs) false,.int .i64 mn,.ilst 2 (map Con.av cs) false]) 4 [] false,false),(4,.lst 1 (map cC fs),true),(5,.lst 4 (map Node.av (l++b)),true)] 6) :=
 Eq.mp aC (aLx (ks:=[3]) (n2:=5) (lc:=[(0,aDO p,false),(1,.cells (putCells .leaf 0 [.nils,.nils,.int .i64 0,.nils]) 4 [] false,false),(2,.cells (putCells .leaf 0 [.gl 3 4 0 (length l) false,.gl 4 1 0 (length fs) false,.int .i64 mn,.ilst 2 (map Con.av cs) false]) 4 [] false,false),(3,.lst 4 (map Node.av l),true),(4,.lst 1 (map cC fs),true)])
  (x:=[(0,aDO p,false),(1,.cells (putCells .leaf 0 [.nils,.nils,.int .i64 0,.nils]) 4 [] false,false),(2,.cells (putCells .leaf 0 [.gl 3 4 0 (length l) false,.gl 4 1 0 (length fs) false,.int .i64 mn,.ilst 2 (map Con.av cs) false]) 4 [] false,false),(4,.lst 1 (map cC fs),true)])
  (args':=[.gl 3 4 0 (length l) false,PA p,.int .i64 c,.ilst 1 (map cC a) false,.ilst 1 (map cC cons) false])
  (aUu h) aC aC aC ⟨aH _ (fun _=>rfl) _,trivial⟩ aC aC aC aC ⟨aH _ (fun _=>rfl) _,trivial⟩ aC)
def aED (p:Prog)(k:Nat) :Option Prog:=match yE (mL p (numsL 0 p.funs.length) (numsL 0 p.cons.length) k) 0 p.funs with
 |some (ks,r) =>some ⟨r,ks,p.main,p.cons⟩
 |none=>none
abbrev aX5 (a:Nat)(b:Prog):=oC a [(iN b.nodes),(iI b.funs),(nI b.main),(iC b.cons)]
abbrev bFi (a:Nat)(b:List XT)(c:Int)(d:List Con):=oC a [(.gl 1 1 0 b.length false),(nI c),(iC d)]
def aRN(a:Prog):TS:=cA PP 34 [(Prog.av a)] [] 0
def aQt(a:Prog):=tT 0 (aRN a)<|gpI 10 45 [(Prog.av a)]<|fun f=>.b 2 8 (f != 0) (gE 7 1 (.tup [.nilp,(nI 2)]))<|.y fun c:Bool=>.y fun g:Int=>gp 6 46 [(Prog.av a)] (.tup [(bV c),(nI g)])<|.b 11 15 (!c) (gE 7 1 (.tup [.nilp,(nI 7)]))<|.y fun b:List XT=>.y fun d:Int=>.y fun e:List Con=>gk 5 (.enter 48 [(Prog.av a)]) [aX5 0 a] 1 (.ptr 1 0) [aX5 0 a,oC 1 [(.gl 2 1 0 b.length false),(nI d),(iC e)],(2,gh,false),(3,(.zone true [2] (cJ b)),false)] 4<|.E 4 4 [1,2,3] (.tup [(.ptr 0 0),(nI 0)]) [bFi 0 b d e,(1,gh,false),(2,(.zone true [1] (cJ b)),false)] 3
def bCe:=fun a b c d=>aQt a b c|>.t d tv
def bCf:=fun a b c d e f g i=>aQt a b e|>.f f c d g|>.t i tv
def bCg:=fun a b c d e f g i j k l m=>aQt a b i|>.f j c d k|>.f l e f g m tv
def bDQ(a:List Con):TS:=cA PP 90 [(iC a)] [] 0
def bGN(a:List Con):TS:=⟨(tf 90 8 [(0,(iC a)),(2,.nils),(3,(iC a))] [ko f90 12 1,kc f90 13,kc f90 7]),[],[],0⟩
def bFj(a:List Con):TS:=⟨(tf 90 8 [(0,(iC a)),(2,.nils),(3,.nils)] [ko f90 12 1,kc f90 13,kc f90 7]),[],[],0⟩
def bFk(a:List Con)(b:Addr)(c d:Nat):TS:=⟨(tf 90 8 [(0,(iC a)),(2,.nils),(3,(.val (Value.slice (some b) c d)))] [ko f90 12 1,kc f90 13,kc f90 7]),[],[],0⟩
def bGO (a:List Con):=(tT 0 (bDQ a)<|.W 8 0 [] (bGN a)) tv
def bGP (a:List Con):=(tT 0 (bFj a)<|.i [rn 8,.nilI 2 2] []<|gE 0 0 (.ilst 2 (jC ([] :List Con)) true)) tv
def bGQ (a:List Con)(b:Addr)(c d:Nat):=fun e=>(tT 0 (bFk a b c d)<|.i [rn 8,.toL 5 true []] [.q (p:=getCells (putCells .leaf 0 []) 0 (0*2) =some []) rfl,hr true]<|gu 0 0 (jC ([] :List Con))<|gs 0 5 (.gl 0 2 0 ([] :List Con).length true)<|.i [.weak 5] []<|ga 0 Con.av ([] :List Con) a<|gz 3 2 1 2 Con.av (([] :List Con) ++a) false<|gE 0 2 (iC (([] :List Con) ++a))) e tv
theorem aQu {P:Program}{m:Nat}{s:AS}{v v':AV}{h':Hp}(h:Ends P m s (.ret v) h')(b:∀ (E:Emb) (a:Value),VR E v a→VR E v' a) :Ends P m s (.ret v') h':=Ends.val h b
theorem aGs (xs:List Con)(h:xs.length≤1000000) :aM PP 90 [.ilst 2 (map Con.av xs) false] (.ilst 2 (map Con.av xs) false) :=by
 refine yF (s:=bDQ xs) aC aC (by simp [keylessL,keyless]) (by simp [keyless]) ((bGO xs).ends ?_);refine aVm (j:=3) (e:=2) (ex:=false) (xs:=map Con.av xs) aC (fun d=>?_) (fun a n c=>?_)
 · have d:xs= [] :=by simpa using d
   subst d;have b:=aQu (bGP []) (fun E g f=>qD f);exact Eq.mp aC b
 · have b:=bGQ xs a n c (by simpa using h);rw [List.nil_append]at b;exact Eq.mp aC b
abbrev OFl (n:Nat)(mn:Int)(cs:List Con)(us:List (Nat×Nat))(ts:List XT) :HL:=[(0,(.cells (putCells .leaf 0 [(.gl 1 1 0 n false),(.int .i64 mn),(.ilst 2 (map Con.av cs) false)]) 3 [] false),false),(1,(.lst 1 (map aV us)),true),(2,(.zone true [] (ZV us (ts.map some))),false)]
abbrev OFm (n:Nat)(mn:Int)(cs:List Con)(ts:List XT) :HL:=[(0,(.cells (putCells .leaf 0 [(.gl 1 1 0 n false),(.int .i64 mn),(.ilst 2 (map Con.av cs) false)]) 3 [] false),false),(1,gh,false),(3,(.zone true [1] (cJ ts)),false)]
theorem aX6 {s:AS}{n:Nat}{mn:Int}{cs:List Con}{us:List (Nat×Nat)}{ts:List XT}(a:ts≠ [])(e:Ends PP 0 s (.ret (.ptr 0 0)) (aA (OFl n mn cs us ts) 3)) :Ends PP 0 s (.ret (.ptr 0 0)) (aA (FHl n mn cs ts) 3) :=by
 have z:kP (aA (OFl n mn cs us ts) 3) (aA (OFm n mn cs ts) 4) :=
  aCQ (h:=aA (OFl n mn cs us ts) 3) (h':=aA (OFm n mn cs ts) 4) (k:=1) (g:=2) (us:=us) (ts:=ts) aC aC a (Nat.le_refl _)
   (bA ⟨.inr (.inr ⟨by decide,by decide,by kernel_rfl⟩),.inl ⟨rfl,rfl⟩,.inr (.inl ⟨rfl,rfl⟩),trivial⟩)
 exact gR (ks:=[0,1,3]) (rB e z (Nat.zero_le _)) aC aC aC trivial
section
variable {p :Prog} (hf:aP1 p)
theorem aRO (f:aP1 p)(hl:p.funs.length≤1000) :∀ (d a:List XT) (b:List (Nat×Nat)) (i:Nat),aN p d (p.funs.drop i) →a.length=i→b.length=i→a++d≠ [] →
  Ends PP 0 (aGg p p.cons (i:Int) b (a.map some)).as (.ret (.ptr 0 0)) (aA (FHl (a++d).length p.main p.cons (a++d)) 3)
 | [],a,b,i,h,e,g,c=>by
  simp only [aN]at h;have r:=bL h;rw [vZ]at c ⊢;rw [show a.length=b.length by omega];exact aX6 c (bBl p p.cons (i:Int) b (a.map some) sd)
 | t::d,a,b,i,h,e,g,c=>by
  simp only [aN]at h;obtain⟨k,s,l,j,n⟩ :=h;obtain⟨q,o,v⟩ :=bI l;refine(bBh p p.cons (i:Int) b (a.map some) k t sd sd sd (vD (m:=0) (ks:=[]) (aIc f t k j) aC aC trivial trivial) (by omega)).ends (bFa p p.cons t (i:Int) b (a.map some) fun u=>?_);refine(bBm p p.cons t (i:Int) b (a.map some) u sd).ends ?_;have:=aRO f hl d (a++ [t]) (b++ [u]) (i+1) (by rw [o];exact n) (by simp [e]) (by simp [g]) (by simp);rw [zq9,aG2]at this;exact this
theorem aRP (b:aP1 p)(hl:p.funs.length≤1000)(hc:p.cons.length≤1000000){ts:List XT}(h:aN p ts p.funs)(a:ts≠ []) :gI PP 0 (.enter 48 [Prog.av p]) (aA [] 0) (.ret (.ptr 0 0)) (aA (FHl ts.length p.main p.cons ts) 3) :=by
 refine⟨(bDG p).as.fr,by kernel_rfl,?_⟩;have:=aRO b hl ts [] [] 0 (by simpa using h) rfl rfl (by simpa using a);exact((bBj p p.cons (aGs _ hc)).trans ((bE9 p p.cons).trans (bBk p p.cons))).ends this
end
theorem aD1 {p:Prog}(a:aK p=true) :∀ (i:Nat) (x:Node),p.nodes[i]?=some x→aP p x=true:=by
 simp only [aK,cP]at a;obtain⟨_,a⟩ :=a;split at a
 · unfold allT at a;split at a
   · rename_i v b;exact fun i x c=> (mK b i x c).1
   ·cases a
 ·cases a
theorem aRQ {p:Prog}(b:aF p=true) :aP1 p:=fun nd c=>by
 simp only [aF,cP,decide_eq_true_eq]at b;have h:=zq27.1 b.2 nd c;simp only [bD,cP,decide_eq_true_eq]at h;obtain⟨⟨f,g⟩,e⟩ :=h;refine⟨by omega,?_⟩
 have:∀l:List Pat,fV l=true→bG l≤16*l.length:=fun l=>by
  induction l with
  |nil=>intro _;simp [bG]
  | cons q l d=>
   intro a;simp only [fV,all_cons,cP]at a;have:=d a.2;simp only [uT,cP,decide_eq_true_eq]at a;simp only [bG,mO];omega
 have:=this _ e;omega
theorem aQv {p:Prog}{x:Node}(h:aP p x=true) :aT x.op x.kids.length≤x.kids.length:=by
 simp only [aP,cP,decide_eq_true_eq]at h;obtain⟨_,b⟩ :=h;unfold aT;split
 · rename_i a;simp only [eD,Bool.or_eq_true,decide_eq_true_eq]at a;have:1≤cM x.op x.pats.length (fH p x) :=by
    rcases a with((((((h|h) |h) |h) |h) |h) |h) |h<;>rw [h] <;>simp [cM] <;>omega
   omega
 ·split<;>omega
theorem aRR {p:Prog}{x:Node}(h:aP p x=true)(h1:gU x.op=true)(h2:x.op≠14) :x.kids.length=2:=by
 simp only [aP,cP,decide_eq_true_eq]at h;obtain⟨_,a⟩ :=h;simp only [gU,Bool.or_eq_true,decide_eq_true_eq]at h1;have:cM x.op x.pats.length (fH p x) =2:=by
  rcases h1 with(((((((h|h) |h) |h) |h) |h) |h) |h) |h
  all_goals first|exact absurd h h2| (rw [h];simp [cM])
 omega
mutual
theorem aUv {p:Prog}(hp:FineP p)(r:∀ (i:Nat) (x:Node),p.nodes[i]?=some x→aP p x=true) :∀ (t:XT) (c:Int),IsTree p t c→FineX 400 t
 | .mk o n j z,c,h=>by
  simp only [IsTree]at h;obtain⟨A,nd,s,rfl,rfl,rfl,m⟩ :=h;have b:=r _ nd s;obtain⟨f,B,_⟩ :=hp.node _ nd s;have a:j.length=nd.kids.length:=by
   have:∀ (d:List XT) (l:List Int),aN p d l→d.length=l.length:=fun d=>by
    induction d with
    |nil=>intro l h;simp only [aN]at h;rw [h];rfl
    |cons t d v=>intro l h;simp only [aN]at h;obtain⟨k,C,rfl,_,y⟩ :=h;simp [v _ y]
   exact this _ _ m
  simp only [FineX];refine⟨fun e=>?_,by omega,fun q g=>by have:= (f.pats q g).1;omega,fun e=>by rw [a];exact f.mat e,fun e=>by rw [a];exact f.let2 e,⟨by rw [a];exact aQv b,?_,fun u w=>by rw [a];exact aRR b u w,fun q g=>aWE p.cons q (f.pats q g).2⟩,aA3 hp r j nd.kids m⟩
  · simp only [aP,eW,cP]at b;have:=b.1.1.1;rw [e]at this;simp [dT,eB]at this;omega
  · simp only [aP,eW,cP]at b;have:=b.1.1.2;split at this
    ·simp [eB]at this;omega
    ·simp at this;simp [this]
theorem aA3 {p:Prog}(hp:FineP p)(b:∀ (i:Nat) (x:Node),p.nodes[i]?=some x→aP p x=true) :∀ (a:List XT) (l:List Int),aN p a l→FineXs 400 a
 | [],_,_=>trivial
 | t::a,l,h=>by
  simp only [aN]at h;obtain⟨k,d,rfl,c,e⟩ :=h;exact⟨aUv hp b t k c,aA3 hp b a d e⟩
end
theorem yG {p:Prog}:∀ (l:List Int),(∀k∈l,∃t,IsTree p t k) →∃b,aN p b l
 | [],_=> ⟨[],rfl⟩
 | k::l,h=>by
  obtain⟨t,d⟩ :=h k (cQ ..);obtain⟨b,a⟩ :=yG l (fun x c=>h x (cH _ c));exact⟨t::b,by simp only [aN];exact⟨k,l,rfl,d,a⟩⟩
theorem aRS {p:Prog}(hp:FineP p) :∀ (d:Nat) (k:Int),0≤k→k<p.nodes.length→p.nodes.length-k.toNat≤d→∃t,IsTree p t k
 |0,k,e,f,h=>by omega
 | d+1,k,e,f,h=>by
  obtain⟨nd,a⟩ :∃nd,p.nodes[k.toNat]?=some nd:= ⟨_,kR (by omega)⟩;obtain⟨_,_,hk⟩ :=hp.node _ nd a
  obtain⟨g,b⟩ :=yG (p:=p) nd.kids (fun c hc=>by
   have:=hk c hc;exact aRS hp d c (by omega) this.2 (by omega))
  exact⟨.mk nd.op nd.n g nd.pats,by simp only [IsTree];exact⟨e,nd,a,rfl,rfl,rfl,b⟩⟩
theorem aX7 {p:Prog}(hp:FineP p) :∃a,aN p a p.funs:=yG p.funs (fun k hk=>by
 have:=hp.funs k hk;exact aRS hp p.nodes.length k this.1 this.2 (by omega))
theorem eY {p:Prog}:∀ {a:List XT} {l:List Int},aN p a l→a.length=l.length
 | [],l,h=>by simp only [aN]at h;rw [h];rfl
 |t::a,l,h=>by simp only [aN]at h;obtain⟨k,c,rfl,_,b⟩ :=h;simp [eY b]
theorem bGR {p:Prog}(a:aF p=true)(b:aK p=false) :gI PP 0 (.enter 34 [Prog.av p]) (aA [] 0) (.ret (.tup [.nilp,.int .i64 2])) (aA [] 0) :=by
 have hc:=yC a;rw [b]at hc;exact⟨(aRN p).as.fr,by kernel_rfl,bCe p _ hc (by rfl)⟩
theorem bCh {p:Prog}(b:aF p=true)(d:aK p=true)(a: (dD p).1=false) :gI PP 0 (.enter 34 [Prog.av p]) (aA [] 0) (.ret (.tup [.nilp,.int .i64 7])) (aA [] 0) :=by
 have hc:=yC b;rw [d]at hc;have c:=vH b;rw [a]at c;exact⟨(aRN p).as.fr,by kernel_rfl,bCf p _ false _ hc (by rfl) c rfl⟩
theorem bFl {p:Prog}(a:aF p=true)(e:aK p=true)(c: (dD p).1=true){ts:List XT}(f:aN p ts p.funs)(b:ts≠ []) :gI PP 0 (.enter 34 [Prog.av p]) (aA [] 0) (.ret (.tup [.ptr 0 0,.int .i64 0])) (aA (FHl ts.length p.main p.cons ts) 3) :=by
 have hc:=yC a;rw [e]at hc;have d:=vH a;rw [c]at d;have hb:=a;simp only [aF,cP,decide_eq_true_eq]at hb;exact⟨(aRN p).as.fr,by kernel_rfl,bCg p _ true _ ts p.main p.cons hc (by rfl) d rfl (vD (m:=0) (ks:=[]) (aRP (aRQ a) (by omega) (by omega) f b) aC aC trivial trivial)⟩
abbrev aCg (a:List XT):AV:=.ilst 1 (XTs.av a) false
abbrev aKD (a:Nat)(b c d e:Int)(f:List XT)(g:List Pat):=oC a [(nI b),(nI c),(.iptr [(.iptr [(nI d),(nI e),(aCg f),(iP g)])])]
abbrev aEE (a:Nat)(b:List XT)(c:Int)(d:List Con):=oC a [(.iptr [(aCg b),(nI c),(iC d)])]
abbrev aX8 (a:List XT)(b:Int)(c:List Con)(d e f g h:Int)(i:List XT)(j:List Pat):=aA [(0,(.loop .done (some .ret) 93 (dN [kp 2 6]) 19 [6] (kd f93 28) (kd f93 29) 2),false),aEE 1 a b c,(2,(.defd false),false),oC 3 [(nI d)],(4,(.loop .done (some .ret) 47 (dN [kp 2 3]) 9 [6] (kd f47 52) (kd f47 53) 5),false),(5,(.defd false),false),oC 6 [(.yield 4)],aKD 7 e f g h i j] 8
abbrev aKE (a:List XT)(b:Int)(c:List Con)(d e f g:Int)(h:List XT)(i:List Pat):=aA [(0,(.loop .ready none 93 (dN [kp 2 6]) 19 [6] (kd f93 28) (kd f93 29) 2),false),aEE 1 a b c,(2,(.defd false),false),oC 3 [(nI 0)],(4,(.loop .ready none 47 (dN [kp 2 3]) 9 [6] (kd f47 52) (kd f47 53) 5),false),(5,(.defd false),false),oC 6 [(.yield 4)],aKD 7 d e f g h i] 8
abbrev aX9 (a:List XT)(b:Int)(c:List Con)(d e f g h i:Int)(j:List XT)(k:List Pat):=aA [(0,(.loop .done (some .ret) 75 (dN [kp 3 5,kp 4 2,kp 5 3]) 26 [9] (kd f75 116) (kd f75 117) 4),false),aEE 1 a b c,oC 2 [(bV false)],oC 3 [(nI d)],(4,(.defd false),false),oC 5 [(nI e)],aKD 6 f g h i j k] 7
abbrev aKF (a:List XT)(b:Int)(c:List Con)(d e f g h i:Int)(j:List XT)(k:List Pat):=aA [(0,(.loop .ready none 75 (dN [kp 3 5,kp 4 2,kp 5 3]) 26 [9] (kd f75 116) (kd f75 117) 4),false),aEE 1 a b c,oC 2 [(bV false)],oC 3 [(nI d)],(4,(.defd false),false),oC 5 [(nI e)],aKD 6 f g h i j k] 7
abbrev aKG (a b c d e:Int)(f:List XT)(g:List Pat):AV:=.agg [(nI a),(nI (IntKind.i64.wrap (b+c))),(.iptr [(.iptr [(nI d),(nI e),(aCg f),(iP g)])])]
abbrev aKH (a b c:Int)(d:List XT)(e:List Pat):AV:=.agg [(nI a),(nI 1),(.iptr [(.iptr [(nI b),(nI c),(aCg d),(iP e)])])]
abbrev fJ (a:Nat)(b:List XT)(c:Int)(d:List Con):=oC a [(.iptr [(aCg b),(nI c),(iC d)])]
abbrev kK (a:List XT):AV:=.ilst 1 (XTs.av a) false
def bGS(a:List XT)(b:Int)(c:List Con):TS:=cA PP 47 [(.iptr [(kK a),(nI b),(iC c)])] [] 0
def aKI(a:List XT)(b:Int)(c:List Con)(d e:Int):TS:=⟨(tf 135 26 [(0,(.yield 0)),kp 1 1,(3,(nI d)),(9,(nI (a.length:Int))),(10,(nI e))] [kc f135 28,kl f135 28,.inBlock 0]),[(tf 93 19 [] [.inRF 0,.inBlock 0] (defers:=[.col 2])),(tf 47 9 [kp 2 3] [.inRF 4,.inBlock 0,kc f47 7] (defers:=[.col 5]))],[(0,(.loop .ready none 93 (dN [kp 2 6]) 19 [6] (kd f93 28) (kd f93 29) 2),false),fJ 1 a b c,(2,(.defd false),false),oC 3 [(nI 0)],(4,(.loop .ready none 47 (dN [kp 2 3]) 9 [6] (kd f47 52) (kd f47 53) 5),false),(5,(.defd false),false),oC 6 [(.yield 4)]],7⟩
def aYa(a:List XT)(b:Int)(c:List Con)(d e f g:Int)(i:List XT)(j:List Pat):TS:=cA PP 136 [(.agg [(nI d),(nI e),(.iptr [(.iptr [(nI f),(nI g),(kK i),(iP j)])])]),(.yield 0)] [(0,(.loop .ready none 93 (dN [kp 2 6]) 19 [6] (kd f93 28) (kd f93 29) 2),false),fJ 1 a b c,(2,(.defd false),false),oC 3 [(nI 0)],(4,(.loop .ready none 47 (dN [kp 2 3]) 9 [6] (kd f47 52) (kd f47 53) 5),false),(5,(.defd false),false),oC 6 [(.yield 4)]] 7
def aCh(e:List XT)(f:Int)(g:List Con)(i j b c:Int)(a:List XT)(d:List Pat)(k l:Int):TS:=⟨(tf 136 48 [(1,(.yield 0)),kp 2 7,(4,(nI 0)),(5,(nI k)),(6,(.iptr [(nI b),(nI c),(kK a),(iP d)])),(23,(nI (a.length:Int))),(24,(nI l))] [kc f136 500,kl f136 500,.inBlock 0,kc f136 63]),[],[(0,(.loop .ready none 93 (dN [kp 2 6]) 19 [6] (kd f93 28) (kd f93 29) 2),false),fJ 1 e f g,(2,(.defd false),false),oC 3 [(nI 0)],(4,(.loop .ready none 47 (dN [kp 2 3]) 9 [6] (kd f47 52) (kd f47 53) 5),false),(5,(.defd false),false),oC 6 [(.yield 4)],oC 7 [(nI i),(nI j),(.iptr [(.iptr [(nI b),(nI c),(kK a),(iP d)])])]],8⟩
def bGT(a:List XT)(b:Int)(c:List Con)(d:Int):TS:=cA PP 75 [(.iptr [(kK a),(nI b),(iC c)]),(nI d)] [] 0
def aKJ(a:List XT)(b:Int)(c:List Con)(d e f g:Int):TS:=⟨(tf 135 26 [(0,(.yield 0)),kp 1 1,(3,(nI e)),(9,(nI (a.length:Int))),(10,(nI f))] [kc f135 28,kl f135 28,.inBlock 0]),[(tf 75 26 [(0,(.iptr [(kK a),(nI b),(iC c)])),kp 4 2,kp 5 3] [.inRF 0,.inBlock 0,kc f75 15] (defers:=[.col 4]))],[(0,(.loop .ready none 75 (dN [kp 3 5,kp 4 2,kp 5 3]) 26 [9] (kd f75 116) (kd f75 117) 4),false),fJ 1 a b c,oC 2 [(bV false)],oC 3 [(nI g)],(4,(.defd false),false),oC 5 [(nI d)]],6⟩
def aYb(a:List XT)(b:Int)(c:List Con)(d e f g i j:Int)(k:List XT)(l:List Pat):TS:=cA PP 136 [(.agg [(nI f),(nI g),(.iptr [(.iptr [(nI i),(nI j),(kK k),(iP l)])])]),(.yield 0)] [(0,(.loop .ready none 75 (dN [kp 3 5,kp 4 2,kp 5 3]) 26 [9] (kd f75 116) (kd f75 117) 4),false),fJ 1 a b c,oC 2 [(bV false)],oC 3 [(nI e)],(4,(.defd false),false),oC 5 [(nI d)]] 6
def aCi(e:List XT)(f:Int)(g:List Con)(i o j k b c:Int)(a:List XT)(d:List Pat)(l m n:Int):TS:=⟨(tf 136 48 [(1,(.yield 0)),kp 2 6,(4,(nI 0)),(5,(nI l)),(6,(.iptr [(nI b),(nI c),(kK a),(iP d)])),(23,(nI (a.length:Int))),(24,(nI m))] [kc f136 500,kl f136 500,.inBlock 0,kc f136 63]),[],[(0,(.loop .ready none 75 (dN [kp 3 5,kp 4 2,kp 5 3]) 26 [9] (kd f75 116) (kd f75 117) 4),false),fJ 1 e f g,oC 2 [(bV false)],oC 3 [(nI n)],(4,(.defd false),false),oC 5 [(nI i)],oC 6 [(nI j),(nI k),(.iptr [(.iptr [(nI b),(nI c),(kK a),(iP d)])])]],7⟩
def bCi (a:List XT)(b:Int)(c:List Con):=(tT 0 (bGS a b c)<|.i [rn 24,.lkeep 3 [2]] []<|.i [rn 23,.lkeep 7 [2]] []<|.i [rn 10,aL a] [.q (p:=((XTs.av a).length:Int) = (a.length:Int)) (kF cZ _)]<|.W 4 8 [7,5,6,0,3,2,4] (aKI a b c 0 0)) tv
def aQw(a:List XT)(b:Int)(c:List Con)(e d:Int):=tT 0 (aKI a b c e d)<|gd 5 11 (d< (a.length:Int)) (.y fun f:Int=>.y fun g:Int=>.y fun i:List XT=>.y fun j:List Pat=>giF cZ 17 a d (XT.mk f g i j)<|.o (.y fun l:Int=>gk 2 (.enter 136 [(aKH e f g i j),(.yield 0)]) [(0,(.loop .ready none 93 (dN [kp 2 6]) 19 [6] (kd f93 28) (kd f93 29) 2),false),fJ 1 a b c,(2,(.defd false),false),oC 3 [(nI 0)],(4,(.loop .ready none 47 (dN [kp 2 3]) 9 [6] (kd f47 52) (kd f47 53) 5),false),(5,(.defd false),false),oC 6 [(.yield 4)]] 7 (nI (-1)) [(0,(.loop .done (some .ret) 93 (dN [kp 2 6]) 19 [6] (kd f93 28) (kd f93 29) 2),false),fJ 1 a b c,(2,(.defd false),false),oC 3 [(nI l)],(4,(.loop .done (some .ret) 47 (dN [kp 2 3]) 9 [6] (kd f47 52) (kd f47 53) 5),false),(5,(.defd false),false),oC 6 [(.yield 4)]] 7<|gE 17 7 (nI l))<|.y fun k:Int=>gk 2 (.enter 136 [(aKH e f g i j),(.yield 0)]) [(0,(.loop .ready none 93 (dN [kp 2 6]) 19 [6] (kd f93 28) (kd f93 29) 2),false),fJ 1 a b c,(2,(.defd false),false),oC 3 [(nI 0)],(4,(.loop .ready none 47 (dN [kp 2 3]) 9 [6] (kd f47 52) (kd f47 53) 5),false),(5,(.defd false),false),oC 6 [(.yield 4)]] 7 (nI k) [(0,(.loop .ready none 93 (dN [kp 2 6]) 19 [6] (kd f93 28) (kd f93 29) 2),false),fJ 1 a b c,(2,(.defd false),false),oC 3 [(nI 0)],(4,(.loop .ready none 47 (dN [kp 2 3]) 9 [6] (kd f47 52) (kd f47 53) 5),false),(5,(.defd false),false),oC 6 [(.yield 4)]] 7<|gd 7 24 (k<0) (gE 16 7 (nI (-1)))<|gw 5 25 (d+1)<|.W 3 7 [0,1,2,3,4,5,6] (aKI a b c k (d+1)))<|gE 17 7 (nI (-1))
def bCj:=fun a b c d e f g i j k l m n o=>aQw a b c d e|>.t l f g i j m n|>.1 k o tv
def bCk:=fun a b c d e f g i j k l m n o p q=>aQw a b c d e|>.t l f g i j m n|>.2 k o|>.f p q tv
def bCl:=fun a b c d e f=>aQw a b c d e|>.f f tv
def aQx(f:List XT)(g:Int)(i:List Con)(b j c d:Int)(a:List XT)(e:List Pat):=tT 7 (aYa f g i b j c d a e)<|.o (.y fun k:Int=>gp 23 95 [(.iptr [(nI c),(nI d),(kK a),(iP e)])] (.iface 193 (nI k))<|.E 31 10 [] (nI (-1)) [(0,(.loop .done (some .ret) 93 (dN [kp 2 6]) 19 [6] (kd f93 28) (kd f93 29) 2),false),fJ 1 f g i,(2,(.defd false),false),oC 3 [(nI b)],(4,(.loop .done (some .ret) 47 (dN [kp 2 3]) 9 [6] (kd f47 52) (kd f47 53) 5),false),(5,(.defd false),false),oC 6 [(.yield 4)]] 7)<|.o (gp 23 95 [(.iptr [(nI c),(nI d),(kK a),(iP e)])] (.iface 191 (.agg []))<|.E 31 10 [] (nI (-1)) [(0,(.loop .done (some .ret) 93 (dN [kp 2 6]) 19 [6] (kd f93 28) (kd f93 29) 2),false),fJ 1 f g i,(2,(.defd false),false),oC 3 [(nI b)],(4,(.loop .done (some .ret) 47 (dN [kp 2 3]) 9 [6] (kd f47 52) (kd f47 53) 5),false),(5,(.defd false),false),oC 6 [(.yield 4)]] 7)<|gp 23 95 [(.iptr [(nI c),(nI d),(kK a),(iP e)])] (.nili)<|gw 21 14 (b+1)<|.i [rn 17,aL a] [.q (p:=((XTs.av a).length:Int) = (a.length:Int)) (kF cZ _)]<|.W 4 9 [7] (aCh f g i b j c d a e (b+1) 0)
def aYc:=fun a b c d e f g i j k l=>aQx a b c d e f g i j|>.1 k l tv
def aYd:=fun a b c d e f g i j k=>aQx a b c d e f g i j|>.2|>.1 k tv
def aYe:=fun a b c d e f g i j k l=>aQx a b c d e f g i j|>.2|>.2 k l tv
def aQy(c:List XT)(d:Int)(e:List Con)(k b f g:Int)(a:List XT)(i:List Pat)(r j:Int):=tT 7 (aCh c d e k b f g a i r j)<|gd 5 25 (j< (a.length:Int)) (.o (.y fun l:Int=>.y fun m:Int=>.y fun n:Int=>.y fun o:List XT=>.y fun p:List Pat=>.y fun s:Int=>.i [rn 10,.reg (rd 5 (.pure (nI l)::rd 6 [.ans (.idx (XT.av (XT.mk m n o p))),.d,.d,.call (nI (-1)) (aX8 c d e s k b f g a i),.d]))] [hA (aM PP 178 [(.iptr [(nI f),(nI g),(kK a),(iP i)]),(nI j)] (nI l)),hA (0≤j),.a (((a)[j.toNat]?) =some (XT.mk m n o p)) (iV cZ),hA (Spec PP (.enter 136 [(aKG r b l m n o p),(.yield 0)]) (aKE c d e k b f g a i) (.ret (nI (-1))) (aX8 c d e s k b f g a i)),hr (ilst 1 (XTs.av a) false),hr (ilst 1 (XTs.av a) false),hr (nI b),hr (nI b)]<|.E 12 8 [] (nI (-1)) [(0,(.loop .done (some .ret) 93 (dN [kp 2 6]) 19 [6] (kd f93 28) (kd f93 29) 2),false),fJ 1 c d e,(2,(.defd false),false),oC 3 [(nI s)],(4,(.loop .done (some .ret) 47 (dN [kp 2 3]) 9 [6] (kd f47 52) (kd f47 53) 5),false),(5,(.defd false),false),oC 6 [(.yield 4)]] 7)<|.y fun l:Int=>.y fun m:Int=>.y fun n:Int=>.y fun o:List XT=>.y fun p:List Pat=>.y fun q:Int=>.i [rn 10,.reg (rd 5 (.pure (nI l)::rd 6 [.ans (.idx (XT.av (XT.mk m n o p))),.d,.d,.call (nI q) (aKE c d e k b f g a i),.d]))] [hA (aM PP 178 [(.iptr [(nI f),(nI g),(kK a),(iP i)]),(nI j)] (nI l)),hA (0≤j),.a (((a)[j.toNat]?) =some (XT.mk m n o p)) (iV cZ),hA (Spec PP (.enter 136 [(aKG r b l m n o p),(.yield 0)]) (aKE c d e k b f g a i) (.ret (nI q)) (aKE c d e k b f g a i)),hr (ilst 1 (XTs.av a) false),hr (ilst 1 (XTs.av a) false),hr (nI b),hr (nI b)]<|gd 5 44 (q<0) (.E 7 8 [] (nI q) [(0,(.loop .ready none 93 (dN [kp 2 6]) 19 [6] (kd f93 28) (kd f93 29) 2),false),fJ 1 c d e,(2,(.defd false),false),oC 3 [(nI 0)],(4,(.loop .ready none 47 (dN [kp 2 3]) 9 [6] (kd f47 52) (kd f47 53) 5),false),(5,(.defd false),false),oC 6 [(.yield 4)]] 7)<|gw 5 46 (j+1)<|.W 3 8 [7] (aCh c d e k b f g a i q (j+1)))<|.E 8 8 [] (nI r) [(0,(.loop .ready none 93 (dN [kp 2 6]) 19 [6] (kd f93 28) (kd f93 29) 2),false),fJ 1 c d e,(2,(.defd false),false),oC 3 [(nI 0)],(4,(.loop .ready none 47 (dN [kp 2 3]) 9 [6] (kd f47 52) (kd f47 53) 5),false),(5,(.defd false),false),oC 6 [(.yield 4)]] 7
def aYf:=fun a b c d e f g i j k l m n o p q r s t u v w=>aQy a b c d e f g i j k l|>.t s|>.1 m n o p q r t u v w tv
def aYg:=fun a b c d e f g i j k l m n o p q r s t u v w x y=>aQy a b c d e f g i j k l|>.t s|>.2 m n o p q r t u v w|>.f x y tv
def aYh:=fun a b c d e f g i j k l m=>aQy a b c d e f g i j k l|>.f m tv
def bCm (a:List XT)(b:Int)(c:List Con)(d:Int):=(tT 0 (bGT a b c d)<|.i [rn 30,.lkeep 5 [3,4,5]] []<|.i [rn 10,aL a] [.q (p:=((XTs.av a).length:Int) = (a.length:Int)) (kF cZ _)]<|.W 4 6 [5,3,1,2,4,0] (aKJ a b c d 0 0 0)) tv
def aKK(b:List XT)(c:Int)(a:List Con)(d i e g:Int):=tT 0 (aKJ b c a d i e g)<|gd 5 11 (e< (b.length:Int)) (.y fun j:Int=>.y fun k:Int=>.y fun l:List XT=>.y fun m:List Pat=>giF cZ 17 b e (XT.mk j k l m)<|.o (.y fun f:Int=>gk 2 (.enter 136 [(aKH i j k l m),(.yield 0)]) [(0,(.loop .ready none 75 (dN [kp 3 5,kp 4 2,kp 5 3]) 26 [9] (kd f75 116) (kd f75 117) 4),false),fJ 1 b c a,oC 2 [(bV false)],oC 3 [(nI g)],(4,(.defd false),false),oC 5 [(nI d)]] 6 (nI (-1)) [(0,(.loop .done (some .ret) 75 (dN [kp 3 5,kp 4 2,kp 5 3]) 26 [9] (kd f75 116) (kd f75 117) 4),false),fJ 1 b c a,oC 2 [(bV false)],oC 3 [(nI f)],(4,(.defd false),false),oC 5 [(nI d)]] 6<|gE 13 6 (bV false))<|.y fun f:Int=>.y fun n:Int=>gk 2 (.enter 136 [(aKH i j k l m),(.yield 0)]) [(0,(.loop .ready none 75 (dN [kp 3 5,kp 4 2,kp 5 3]) 26 [9] (kd f75 116) (kd f75 117) 4),false),fJ 1 b c a,oC 2 [(bV false)],oC 3 [(nI g)],(4,(.defd false),false),oC 5 [(nI d)]] 6 (nI n) [(0,(.loop .ready none 75 (dN [kp 3 5,kp 4 2,kp 5 3]) 26 [9] (kd f75 116) (kd f75 117) 4),false),fJ 1 b c a,oC 2 [(bV false)],oC 3 [(nI f)],(4,(.defd false),false),oC 5 [(nI d)]] 6<|gd 7 24 (n<0) (gd 10 18 (f≤300) (gl 4 Con.av a<|gE 6 6 (bV (decide ((a.length:Int) ≤20))))<|gE 11 6 (bV false))<|gw 5 25 (e+1)<|.W 3 6 [0,1,2,3,4,5] (aKJ b c a d n (e+1) f))<|gd 11 18 (g≤300) (gl 4 Con.av a<|gE 6 6 (bV (decide ((a.length:Int) ≤20))))<|gE 11 6 (bV false)
def bCn:=fun a b c d e f g i j k l m n o p q=>aKK a b c d e f g|>.t n i j k l o p|>.1 m q tv
def bCo:=fun a b c d e f g i j k l m n o p q r s t=>aKK a b c d e f g|>.t o i j k l p q|>.2 m n r|>.f s t tv
def bCp:=fun a b c d e f g i j=>aKK a b c d e f g|>.f i|>.t j tv
def bCq:=fun a b c d e f g i j=>aKK a b c d e f g|>.f i|>.f j tv
def aYi(e:List XT)(f:Int)(g:List Con)(c a d i j k:Int)(b:List XT)(l:List Pat):=tT 6 (aYb e f g c a d i j k b l)<|gw 21 11 (a+1)<|gd 9 15 (i>c) (.E 14 8 [] (nI (-1)) [(0,(.loop .done (some .ret) 75 (dN [kp 3 5,kp 4 2,kp 5 3]) 26 [9] (kd f75 116) (kd f75 117) 4),false),fJ 1 e f g,oC 2 [(bV false)],oC 3 [(nI (a+1))],(4,(.defd false),false),oC 5 [(nI c)]] 6)<|gw 13 14 (d+1)<|.i [rn 17,aL b] [.q (p:=((XTs.av b).length:Int) = (b.length:Int)) (kF cZ _)]<|.W 4 8 [6] (aCi e f g c a d i j k b l (d+1) 0 (a+1))
def aYj:=fun a b c d e f g i j k l m n=>aYi a b c d e f g i j k l m|>.t n tv
def aYk:=fun a b c d e f g i j k l m n o=>aYi a b c d e f g i j k l m|>.f n o tv
def aQz(c:List XT)(d:Int)(e:List Con)(f v l b g i:Int)(a:List XT)(j:List Pat)(t k u:Int):=tT 6 (aCi c d e f v l b g i a j t k u)<|gd 5 25 (k< (a.length:Int)) (.o (.y fun n:Int=>.y fun o:Int=>.y fun p:Int=>.y fun q:List XT=>.y fun r:List Pat=>.y fun m:Int=>.i [rn 10,.reg (rd 5 (.pure (nI n)::rd 6 [.ans (.idx (XT.av (XT.mk o p q r))),.d,.d,.call (nI (-1)) (aX9 c d e m f l b g i a j),.d]))] [hA (aM PP 178 [(.iptr [(nI g),(nI i),(kK a),(iP j)]),(nI k)] (nI n)),hA (0≤k),.a (((a)[k.toNat]?) =some (XT.mk o p q r)) (iV cZ),hA (Spec PP (.enter 136 [(aKG t b n o p q r),(.yield 0)]) (aKF c d e u f l b g i a j) (.ret (nI (-1))) (aX9 c d e m f l b g i a j)),hr (ilst 1 (XTs.av a) false),hr (ilst 1 (XTs.av a) false),hr (nI b),hr (nI b)]<|.E 12 7 [] (nI (-1)) [(0,(.loop .done (some .ret) 75 (dN [kp 3 5,kp 4 2,kp 5 3]) 26 [9] (kd f75 116) (kd f75 117) 4),false),fJ 1 c d e,oC 2 [(bV false)],oC 3 [(nI m)],(4,(.defd false),false),oC 5 [(nI f)]] 6)<|.y fun n:Int=>.y fun o:Int=>.y fun p:Int=>.y fun q:List XT=>.y fun r:List Pat=>.y fun m:Int=>.y fun s:Int=>.i [rn 10,.reg (rd 5 (.pure (nI n)::rd 6 [.ans (.idx (XT.av (XT.mk o p q r))),.d,.d,.call (nI s) (aKF c d e m f l b g i a j),.d]))] [hA (aM PP 178 [(.iptr [(nI g),(nI i),(kK a),(iP j)]),(nI k)] (nI n)),hA (0≤k),.a (((a)[k.toNat]?) =some (XT.mk o p q r)) (iV cZ),hA (Spec PP (.enter 136 [(aKG t b n o p q r),(.yield 0)]) (aKF c d e u f l b g i a j) (.ret (nI s)) (aKF c d e m f l b g i a j)),hr (ilst 1 (XTs.av a) false),hr (ilst 1 (XTs.av a) false),hr (nI b),hr (nI b)]<|gd 5 44 (s<0) (.E 7 7 [] (nI s) [(0,(.loop .ready none 75 (dN [kp 3 5,kp 4 2,kp 5 3]) 26 [9] (kd f75 116) (kd f75 117) 4),false),fJ 1 c d e,oC 2 [(bV false)],oC 3 [(nI m)],(4,(.defd false),false),oC 5 [(nI f)]] 6)<|gw 5 46 (k+1)<|.W 3 7 [6] (aCi c d e f v l b g i a j s (k+1) m))<|.E 8 7 [] (nI t) [(0,(.loop .ready none 75 (dN [kp 3 5,kp 4 2,kp 5 3]) 26 [9] (kd f75 116) (kd f75 117) 4),false),fJ 1 c d e,oC 2 [(bV false)],oC 3 [(nI u)],(4,(.defd false),false),oC 5 [(nI f)]] 6
def aYl:=fun a b c d e f g i j k l m n o p q r s t u v w x y z=>aQz a b c d e f g i j k l m n o|>.t v|>.1 p q r s t u w x y z tv
def aYm:=fun a b c d e f g i j k l m n o p q r s t u v w x y z A B C=>aQz a b c d e f g i j k l m n o|>.t w|>.2 p q r s t u v x y z A|>.f B C tv
def aYn:=fun a b c d e f g i j k l m n o p=>aQz a b c d e f g i j k l m n o|>.f p tv
theorem aNk (o n:Int)(ks:List XT)(ps:List Pat)(j:∀q∈ps,bZ q≤1000)(k:Int)(hk:0≤k∧k≤1000)(hp:o=15→0<k→∃q,ps[(k-1).toNat]?=some q) :aM PP 178 [XT.av (.mk o n ks ps),.int .i64 k] (.int .i64 (bK o ps k)) :=by
 refine aJ aC (by simp [keylessL,keyless,aLM]) rfl ?_;refine aGm o ps k (fun z=>Ends PP 0 _ (.ret (.int .i64 z)) _) (fun h=>?_) (fun h g i q f=>?_) hp (fun h l=>?_)
 · by_cases a:o=5
   ·exact bAt o n ks ps k (by simpa using a)
   · by_cases b:o=27
     ·exact bAu o n ks ps k (by simpa using a) (by simpa using b)
     · have c:o=7∧k=1:=by omega
       exact bAv o n ks ps k (by simpa using a) (by simpa using b) (by simpa using c.1) (by simpa using c.2)
 · obtain⟨a,b,c,d⟩ :=q;have:=j _ (kS f);exact bAx o n ks ps k a b c d _ (by simp;omega) (by simp;omega) (by simp;omega) (by simpa using g) sd sd (by omega) f (aGl (.mk a b c d) (by omega))
 · have a:¬o=5:=fun e=>h (.inl e);have b:¬o=27:=fun e=>h (.inr (.inl e));by_cases c:o=7
   · have d:¬k=1:=fun e=>h (.inr (.inr ⟨c,e⟩));exact bAw o n ks ps k (by simpa using a) (by simpa using b) (by simpa using c) (by simpa using d) (by simp;omega)
   · by_cases e:o=15
     ·exact bAy o n ks ps k (by simpa using a) (by simpa using b) (by simpa using c) (by simpa using e) (by simp;omega)
     ·exact bAz o n ks ps k (by simpa using a) (by simpa using b) (by simpa using c) (by simpa using e)
mutual
def zOk (mo:Int) :XT→Int→Bool
 | .mk o _ ks ps,z=>decide (z≤mo) &&aCj mo o ps ks 0 z
def aCj (mo:Int)(o:Int)(ps:List Pat) :List XT→Nat→Int→Bool
 | [],_,_=>true
 |t::ts,i,z=>zOk mo t (z+bK o ps (i:Int)) &&aCj mo o ps ts (i+1) z
end
def aC4 (n:Int) :Bool:=decide (n≤300)
def vU (mo:Int)(cs:List Con)(ts:List XT) :Bool:= (ts.all fun t=>zOk mo t 1) &&aC4 (aD ts:Nat) &&decide (cs.length≤20)
abbrev FTl (s1:LoopState)(p1:Option Code)(ts:List XT)(mn:Int)(cs:List Con)(mo:Int)(b:Bool)(c:Int) :HL:=[(0,(.loop s1 p1 75 (dN [(3,(.ptr 5 0)),(4,(.ptr 2 0)),(5,(.ptr 3 0))]) 26 [9] (cd Tryz.f75 [1,1,0,1,0,0]) (cd Tryz.f75 [1,1,0,1,0,1]) 4),false),(1,(.cells (putCells .leaf 0 [(.iptr [(.ilst 1 (XTs.av ts) false),(.int .i64 mn),(.ilst 2 (map Con.av cs) false)])]) 1 [] false),false),(2,(.cells (putCells .leaf 0 [(.bool b)]) 1 [] false),false),(3,(.cells (putCells .leaf 0 [(.int .i64 c)]) 1 [] false),false),(4,(.defd false),false),(5,(.cells (putCells .leaf 0 [(.int .i64 mo)]) 1 [] false),false)]
section
variable (F :List XT) (mn:Int) (cs:List Con) (mo:Int) (B:Int) (b0:Bool)
mutual
theorem aRT :∀ (t:XT),FineX B t→∀ (c a b:Int),0≤c→c+ (cB t:Nat) ≤1000000→0≤a→a+ (cB t:Nat) ≤1000000→0≤b→b+1000* (cB t:Nat) ≤1000000000 →
  (zOk mo t b=true→gI PP 6 (.enter 136 [.agg [.int .i64 a,.int .i64 b,.iptr [XT.av t]],.yield 0]) (aA (FTl .ready none F mn cs mo false c) 6) (.ret (.int .i64 (a+ (cB t:Nat)))) (aA (FTl .ready none F mn cs mo false (c+ (cB t:Nat))) 6)) ∧
  (zOk mo t b=false→∃i,gI PP 6 (.enter 136 [.agg [.int .i64 a,.int .i64 b,.iptr [XT.av t]],.yield 0]) (aA (FTl .ready none F mn cs mo false c) 6) (.ret (.int .i64 (-1))) (aA (FTl .done (some .ret) F mn cs mo false i) 6))
 | .mk o n d g,k,c,a,b,z,v,x,q,w,s=>by
  simp only [FineX]at k;obtain⟨_,r,p,l,y,A,u⟩ :=k;simp only [cB]at v q s;have f:dW PP (aA (FTl .ready none F mn cs mo false c) 6) (.enter 136 [.agg [.int .i64 a,.int .i64 b,.iptr [XT.av (.mk o n d g)]],.yield 0]) =some (aYb F mn cs mo c a b o n d g).as.fr:=by kernel_rfl
  have C:∀m:Int,a+1+m=a+ (1+m) :=fun m=>by omega
  simp only [zOk,cB];by_cases hz:b≤mo
  · have st:=aYk F mn cs mo c a b o n d g sd (by simp;omega) sd;have j:=aRU c a b o n d g r p l w d 0 (a+1) (c+1) rfl u (by omega) (by omega) (by omega) (by omega) (by omega);rw [decide_eq_true hz,nX];refine⟨fun h=> ⟨_,f,?_⟩,fun h=>?_⟩
    · have:=st.ends (j.1 h);rw [show a+1+ ((aD d:Nat) :Int) =a+ ((aD d+1:Nat) :Int)by omega,show c+1+ ((aD d:Nat) :Int) =c+ ((aD d+1:Nat) :Int)by omega]at this;exact this
    · obtain⟨i,e⟩ :=j.2 h;exact⟨i,_,f,st.ends e⟩
  · rw [decide_eq_false hz,Bool.false_and];refine⟨fun h=> (by cases h),fun _=> ⟨c+1,_,f,?_⟩⟩;exact aYj F mn cs mo c a b o n d g sd (by simp;omega)
theorem aRU (j k d:Int)(o n:Int)(ks:List XT)(ps:List Pat)(I:ks.length≤1000)(t:∀q∈ps,bZ q≤1000)(y:o=15→ks.length=1+ps.length)(h2:0≤d) :
  ∀ (b:List XT) (i:Nat) (a c:Int),ks.drop i=b→FineXs B b→0≤c→c+ (aD b:Nat) ≤1000000→0≤a→a+ (aD b:Nat) ≤1000000→d+1000+1000* (aD b:Nat) ≤1000000000 →
  (aCj mo o ps b i d=true→Ends PP 6 (aCi F mn cs mo j k d o n ks ps a (i:Int) c).as (.ret (.int .i64 (a+ (aD b:Nat)))) (aA (FTl .ready none F mn cs mo false (c+ (aD b:Nat))) 6)) ∧
  (aCj mo o ps b i d=false→∃g,Ends PP 6 (aCi F mn cs mo j k d o n ks ps a (i:Int) c).as (.ret (.int .i64 (-1))) (aA (FTl .done (some .ret) F mn cs mo false g) 6))
 | [],i,a,c,h,_,_,_,_,_,_=>by
  have:=bL h;simp only [aCj,aD];refine⟨fun _=>?_,fun h=> (by cases h)⟩;have e:=aYn F mn cs mo j k d o n ks ps a (i:Int) c sd;rw [show a+ ((0:Nat) :Int) =a by omega,show c+ ((0:Nat) :Int) =c by omega];exact e
 | .mk r s l p::b,i,a,c,h,w,M,D,K,G,z=>by
  obtain⟨N,L,R⟩ :=bI h;simp only [FineXs]at w;simp only [aD]at D G z ⊢;have O:=oH (o:=o) t (i:Int);have A:IntKind.i64.wrap (d+bK o ps (i:Int)) =d+bK o ps (i:Int) :=wrap64 (by omega) (by omega)
  have J:o=15→0< (i:Int) →∃q,ps[((i:Int) -1).toNat]?=some q:=fun x S=>by
   have:=y x;exact⟨_,kR (by omega)⟩
  have v:=aRT (.mk r s l p) w.1 c a (d+bK o ps (i:Int)) M (by omega) K (by omega) (by omega) (by omega);have C:=aNk o n ks ps t (i:Int) ⟨by omega,by omega⟩ J;simp only [aCj];generalize Q:cB (.mk r s l p) =f at v D G z ⊢;cases hz:zOk mo (.mk r s l p) (d+bK o ps (i:Int))
  case false=>
   rw [Bool.false_and];refine⟨fun h=> (by cases h),fun _=>?_⟩;obtain⟨g,e⟩ :=v.2 hz;exact⟨g,aYl F mn cs mo j k d o n ks ps a (i:Int) c _ r s l p g sd C sd sd (bBq A (vD (m:=6) (ks:=[0,1,2,3,4,5]) e aC aC trivial trivial))⟩
  rw [nX];have e:=v.1 hz;have st:=aYm F mn cs mo j k d o n ks ps a (i:Int) c _ r s l p (c+ (f:Nat)) (a+ (f:Nat)) sd C sd sd (bBq A (vD (m:=6) (ks:=[0,1,2,3,4,5]) e aC aC trivial trivial)) (by simp;omega) sd;have H:=aRU j k d o n ks ps I t y h2 b (i+1) (a+ (f:Nat)) (c+ (f:Nat)) L w.2 (by omega) (by omega) (by omega) (by omega) (by omega);refine⟨fun h=>?_,fun h=>?_⟩
  · have u:=st.ends (H.1 h);rw [show a+ ((f+aD b:Nat) :Int) =a+ (f:Nat) + ((aD b:Nat) :Int)by omega,show c+ ((f+aD b:Nat) :Int) =c+ (f:Nat) + ((aD b:Nat) :Int)by omega];exact u
  · obtain⟨g,u⟩ :=H.2 h;exact⟨g,st.ends u⟩
end
end
theorem aIl (ts:List XT)(mn:Int)(cs:List Con)(mo B:Int)(hl:ts.length≤1000) :∀ (a:List XT) (i:Nat) (n c:Int),ts.drop i=a→FineXs B a→0≤c→c+ (aD a:Nat) ≤100000→0≤n→n+ (aD a:Nat) ≤100000 →
  Ends PP 0 (aKJ ts mn cs mo n (i:Int) c).as (.ret (.bool ((a.all fun t=>zOk mo t 1) &&aC4 (c+ (aD a:Nat)) &&decide (cs.length≤20)))) (aA [] 0)
 | [],i,n,c,h,_,_,_,_,_=>by
  have:=bL h;simp only [List.all_nil,nX,aD];rw [show c+ ((0:Nat) :Int) =c by omega];by_cases g:c≤300
  · rw [show aC4 c=true from decide_eq_true g,nX];have e:=bCp ts mn cs mo n (i:Int) c sd sd;have s:decide (((length cs:Nat) :Int) ≤ (20:Int)) =decide (cs.length≤20) :=by simp;omega
    rw [s]at e;exact e
  · rw [show aC4 c=false from decide_eq_false g,Bool.false_and];exact bCq ts mn cs mo n (i:Int) c sd sd
 | .mk j k d f::a,i,n,c,h,o,x,q,r,p=>by
  obtain⟨y,v,A⟩ :=bI h;simp only [FineXs]at o;simp only [aD]at q p ⊢;have l:=aRT ts mn cs mo B (.mk j k d f) o.1 c n 1 x (by omega) r (by omega) (by omega) (by omega);generalize z:cB (.mk j k d f) =b at l q p ⊢;simp only [all_cons];cases hz:zOk mo (.mk j k d f) 1
  case false=>
   obtain⟨u,e⟩ :=l.2 hz;rw [Bool.false_and,Bool.false_and,Bool.false_and];exact bCn ts mn cs mo n (i:Int) c j k d f u sd sd sd (vD (m:=6) (ks:=[0,1,2,3,4,5]) e aC aC trivial trivial)
  have e:=l.1 hz;rw [nX];refine(bCo ts mn cs mo n (i:Int) c j k d f (c+ (b:Nat)) (n+ (b:Nat)) sd sd sd (vD (m:=6) (ks:=[0,1,2,3,4,5]) e aC aC trivial trivial) (by simp;omega) sd).ends ?_;have w:=aIl ts mn cs mo B hl a (i+1) (n+ (b:Nat)) (c+ (b:Nat)) v o.2 (by omega) (by omega) (by omega) (by omega);rw [show c+ ((b+aD a:Nat) :Int) =c+ (b:Nat) + ((aD a:Nat) :Int)by omega];exact w
theorem aUw (ts:List XT)(mn:Int)(cs:List Con)(mo B:Int)(hl:ts.length≤1000)(a:FineXs B ts)(b:aD ts≤100000) :aM PP 75 [fvA ts mn cs,.int .i64 mo] (.bool (vU mo cs ts)) :=by
 refine aJ aC (by simp [keylessL,keyless,fvA]) rfl ((bCm ts mn cs mo).ends ?_);have e:=aIl ts mn cs mo B hl ts 0 0 0 rfl a (by omega) (by omega) (by omega) (by omega);rw [Int.zero_add]at e;exact e
section
variable {P :Program}
end
inductive Typ where
 |mk (sort n:Int) (text:bX) (parts:List Typ)
mutual
def Typ.av :Typ→AV
 | .mk f n t ps=>.agg [.int .i64 f,.int .i64 n,dR t,.ilst 4 (Typs.av ps) false]
def Typs.av :List Typ→List AV
 | [] =>[]
 |p::ps=>Typ.av p::Typs.av ps
end
inductive Term where
 |mk (op n:Int) (text:bX) (kids:List Term) (pats:List Pat)
mutual
def Term.av :Term→AV
 | .mk o n t ks ps=>.agg [.int .i64 o,.int .i64 n,dR t,.ilst 5 (Terms.av ks) false,.ilst 4 (Pats.av ps) false]
def Terms.av :List Term→List AV
 | [] =>[]
 |p::ps=>Term.av p::Terms.av ps
end
structure ConD where
 name:bX
 args:List Typ
def ConD.av (c:ConD) :AV:=.agg [dR c.name,.ilst 4 (Typs.av c.args) false]
structure DataD where
 name:bX
 cons:List ConD
def DataD.av (d:DataD) :AV:=.agg [dR d.name,.ilst 2 (map ConD.av d.cons) false]
inductive FunD where
 |mk (name param:bX) (frm to:Typ) (body:Term)
def FunD.av :FunD→AV
 | .mk n p (.mk f0 f1 f2 f3) (.mk g0 g1 g2 g3) (.mk b0 b1 b2 b3 b4) =>.agg [dR n,dR p,.int .i64 f0,.int .i64 f1,dR f2,.ilst 4 (Typs.av f3) false,.int .i64 g0,.int .i64 g1,dR g2,.ilst 4 (Typs.av g3) false,.int .i64 b0,.int .i64 b1,dR b2,.ilst 5 (Terms.av b3) false,.ilst 4 (Pats.av b4) false]
def FunDs.av (l:List FunD) :List AV:=map FunD.av l
structure Mod where
 name:bX
 datas:List DataD
 funs:List FunD
def Mod.av (m:Mod) :AV:=.agg [dR m.name,.ilst 2 (map DataD.av m.datas) false,.ilst 15 (FunDs.av m.funs) false]
inductive Part where
 |data (d:DataD)
 |fn (f:FunD)
section
variable {P :Program}
theorem aCk {E E':Emb}(c:E.le E') :∀ {f:List AV} {i:Nat} {y:AV} {e:List Value} {v:Value},VRs E f e→e[i]?=some v→VR E' y v→VRs E' (f.set i y) e
 | [],i,y,e,v,b,d,_=>by simp only [VRs]at b;subst b;simp at d
 | a::f,0,y,e,v,b,d,g=>by
  simp only [VRs]at b;obtain⟨u,h,rfl,k,j⟩ :=b;simp at d;subst d;simp only [List.set_cons_zero,VRs];exact⟨_,h,rfl,g,j.mono c⟩
 | a::f,i+1,y,e,v,b,d,g=>by
  simp only [VRs]at b;obtain⟨u,h,rfl,k,j⟩ :=b;simp only [lS]at d;simp only [List.set_cons_succ,VRs];exact⟨u,h,rfl,k.mono c,aCk c j d g⟩
theorem aNl {E:Emb}{c:List AV}{o:Nat}{v:AV}(hc:c[o]?=some v){cv:Value}(h:VR E (.agg c) cv) :∃a w,cv= .agg a.toArray∧VRs E c a∧a[o]?=some w∧VR E v w:=by
 rw [VR]at h;obtain⟨a,rfl,h⟩ :=h;obtain⟨w,b,d⟩ :=h.get _ _ hc;exact⟨a,w,rfl,h,b,d⟩
theorem aDP {m:Nat}{fr:AFrame}{cs:List AFrame}{h h1:Hp}{k e i o:Nat}{b c:List AV}{v v':AV}(hk:h.look k=some (.lst e b))(g:h1.look k=some (.lst e b))(t:b[i]?=some (.agg c))(hc:c[o]?=some v)(G:m≤h.nb→oS m h h1 v v') :
  LeadsM P m ⟨fr,cs,h⟩ ⟨fr,cs,h1.set k (.lst e (b.set i (.agg (c.set o v'))))⟩ :=fun hm E u j w n f fs r=>by
 obtain⟨p,a,J,D,l⟩ :=G hm E w r;have d:kN (.lst e b) =false:=by
  cases b with
  |nil=>simp at t
  |cons _ _=>rfl
 have hr:Rel p (h1.set k (.lst e (b.set i (.agg (c.set o v'))))) w.heap:=by
  refine J.reobj g d (fun L Q=>?_) rfl rfl rfl;obtain⟨R,hE,C,K,z,I,M,s,N,y⟩ :=r.obj _ _ hk d;have:=a.1 _ _ hE;rw [Q]at this;cases this;obtain⟨S,x,O⟩ :=s.get _ _ t;obtain⟨B,q,rfl,F,A,H⟩ :=aNl hc O;refine⟨C,K,z,I,M,aCk a s x ?_,N,y⟩;rw [VR];exact⟨B,rfl,aCk a F A (l q H)⟩
 exact⟨p,u,j,w,Steps.refl _ _,f.mono a,fs.mono a,hr,jZ D g⟩
def LQ (zs:List AV)(i o:Nat)(v v':AV)(ys:List AV) :Prop:=∃c,zs[i]?=some (.agg c) ∧c[o]?=some v∧ys=zs.set i (.agg (c.set o v'))
theorem bCr {m:Nat}{s t:TS}{k b e0 e i o n:Nat}{u:Value}{xs d ys:List AV}(hk:s.as.h.look k=some (.lst e0 d))(hb:s.as.h.look b=some (.lstv u e xs))(a:k≠b)(f:xs.length=n)(j:LQ d i o (.val u) (.gl b e 0 n false) ys)
  (h:t.as= ⟨s.as.fr,s.as.cs,(s.as.h.set b (.lst e xs)).set k (.lst e0 ys)⟩) :LeadsM P m s.as t.as:=by
 subst f;obtain⟨c,g,l,rfl⟩ :=j;rw [h];exact aDP hk (by rw [aZ,if_neg a];exact hk) g l (aBE hb)
theorem bFn {m:Nat}{s t:TS}{k e0 e i o:Nat}{b ys:List AV}(hk:s.as.h.look k=some (.lst e0 b))(a:Nat.blt k s.as.h.nb=true)(h:LQ b i o .nils (.gl s.as.h.nb e 0 0 false) ys)
  (d:t.as= ⟨s.as.fr,s.as.cs,(s.as.h.new (.lst e [])).set k (.lst e0 ys)⟩) :LeadsM P m s.as t.as:=by
 obtain⟨c,f,g,rfl⟩ :=h;rw [d];rw [cY]at a;have:=of_decide_eq_true a;exact aDP hk (by rw [cS,if_neg (by omega)];exact hk) f g (aCH e)
def NQ (zs:List AV)(i o b e n:Nat)(u:Value)(ys:List AV) :Prop:=0<n∧∃c ex,zs[i]?=some (.agg c) ∧c[o]?=some (.gl b e 0 n ex) ∧ys=zs.set i (.agg (c.set o (.val u)))
theorem aQA {m:Nat}{h:AS}{k b e0 e i o:Nat}{n xs:List AV}{ys:Value→List AV}{A:Res}{h':Hp}(t:h.h.look k=some (.lst e0 n))(l:h.h.look b=some (.lst e xs))(I:k≠b)(B:∀u,NQ n i o b e xs.length u (ys u))
  (hk:∀S R N,Ends P m ⟨h.fr,h.cs,(h.h.set b (.lstv (.slice S R N) e xs)).set k (.lst e0 (ys (.slice S R N)))⟩ A h') :Ends P m h A h':=by
 obtain⟨v,c,ex,hz,hc,_⟩ :=B (.slice none 0 0);intro hm E T H w f fs r cl y;have x:kN (.lst e0 n) =false:=by
  cases n with
  |nil=>simp at hz
  |cons _ _=>rfl
 have s:kN (.lst e xs) =false:=by
  cases xs with
  |nil=>simp at v
  |cons _ _=>rfl
 obtain⟨L0,G,C,el,V,Z,o2,O,o4,o5⟩ :=r.obj _ _ t x;obtain⟨cv,g1,g2⟩ :=O.get _ _ hz;obtain⟨us,q,rfl,g3,g4,Q⟩ :=aNl hc g2;simp only [VR]at Q;rcases Q with⟨z,_⟩ | ⟨L,a,d,hE,rfl,a1,_,X⟩
 ·omega
 · obtain⟨_,c',ex',p,Y,J⟩ :=B (.slice (some ⟨L.blk,a,none⟩) xs.length d);rw [hz]at p;cases p
   have r1:Rel E (h.h.set b (.lstv (.slice (some ⟨L.blk,a,none⟩) xs.length d) e xs)) w.heap:=r.reobj l s (fun L' g=>by
    obtain⟨C',M,K,p1,p2,p3,p4,p5⟩ :=r.objL l g;rw [hE]at g;cases g;exact⟨C',M,K,p1,p2,p3,p4,p5,a,d,rfl,by omega,fun hc=>by have:=X hc;exact⟨by omega,this.2⟩⟩) rfl rfl rfl
   have j: (h.h.set b (.lstv (.slice (some ⟨L.blk,a,none⟩) xs.length d) e xs)).look k=some (.lst e0 n) :=by rw [aZ,if_neg I];exact t
   have r2:Rel E ((h.h.set b (.lstv (.slice (some ⟨L.blk,a,none⟩) xs.length d) e xs)).set k (.lst e0 (ys (.slice (some ⟨L.blk,a,none⟩) xs.length d)))) w.heap:=r1.reobj j x (fun L' g=>by
    rw [G]at g;cases g;refine⟨C,el,V,Z,o2,?_,o4,o5⟩;rw [J];refine aCk (Emb.le.refl E) O g1 ?_;rw [VR];exact⟨us,rfl,aCk (Emb.le.refl E) g3 g4 (by simp only [VR])⟩) rfl rfl rfl
   obtain⟨D,w',U,F,W,rr,xx⟩ :=hk (some ⟨L.blk,a,none⟩) xs.length d hm _ T H w f fs r2 cl y;exact⟨D,w',U,F,W,rr,(jZ (jZ (ExtM.refl hm) l) j).trans xx⟩
theorem aUx {m:Nat}{s:AS}{t:TS}{ks:List Nat}(h2:s.sum (fA m t.nb s.h.nb ks) t=t.want (fA m t.nb s.h.nb ks))(c:cR m t ks=true)(a:fG t.hp) :LeadsM P m s t.as:=by
 simp only [AS.sum,TS.want,Sum.mk.injEq]at h2;obtain⟨i,j,g,h⟩ :=h2;intro hm E fr b w d f fs r;obtain⟨k,e⟩ :=kO (l:=t.hp) (nb:=t.nb) (by simpa [cR]using c) h a r;exact⟨_,fr,b,w,Steps.refl _ _,aEb i f,yW j g fs,k,e⟩
def bFo (P:Program)(m:Nat)(is:List Ins)(s:TS)(k b i o:Nat)(ys:List AV)(u:Value)(is2:List Ins)(t:TS)(ks:List Nat) :Option (Nat×Sum×List Prop) :=
 match qZ P is s.as with
 | some (s1,ps) =>match s1.h.look k,s1.h.look b with
  | some (.lst e0 zs),some (.lst e xs) =>bif Nat.beq k b then none else
   match qZ P is2 ⟨s1.fr,s1.cs,(s1.h.set b (.lstv u e xs)).set k (.lst e0 ys)⟩with
   |some (s3,qs) =>some (s3.h.nb,AS.sum s3 (fA m t.nb s3.h.nb ks) t,NQ zs i o b e xs.length u ys:: (ps++qs))
   |none=>none
  |_,_=>none
 |none=>none
theorem aGt {m:Nat}{is:List Ins}{s:TS}{t:Value→TS}{k b i o:Nat}{ys:Value→List AV}{is2:Value→List Ins}{ks:List Nat}{n1:Nat}{ps:Value→List Prop}
  (C:∀u,bFo P m is s k b i o (ys u) u (is2 u) (t u) ks=some (n1,(t u).want (fA m (t u).nb n1 ks),ps u)) (z:∀u,cR m (t u) ks=true) (y:∀u,fG (t u).hp) (hp:∀u,AllP (ps u))
  {r:Res} {h':Hp} (hk:∀x p l,Ends P m (t (.slice x p l)).as r h') :Ends P m s.as r h':=by
 have c:=C (.slice none 0 0);unfold bFo at c;split at c
 · rename_i A qs D;split at c
   · rename_i I H e F v n;cases j:Nat.beq k b
     case true=>rw [j]at c;cases c
     have w:k≠b:=fun g=>by subst g;simp at j
     have h:∀u,∃f d,qZ P (is2 u) ⟨A.fr,A.cs,(A.h.set b (.lstv u e F)).set k (.lst I (ys u))⟩ =some (f,d) ∧f.h.nb=n1∧f.sum (fA m (t u).nb f.h.nb ks) (t u) = (t u).want (fA m (t u).nb n1 ks) ∧NQ H i o b e F.length u (ys u) :: (qs++d) =ps u:=fun u=>by
      have a:=C u;unfold bFo at a;rw [D]at a;simp only [v,n,j,cond]at a;split at a
      · rename_i f d K;simp only [Option.some.injEq,Prod.mk.injEq]at a;exact⟨f,d,K,a.1,a.2.1,a.2.2⟩
      ·cases a
     refine(gG D (fun q B=>?_)).ends (aQA (i:=i) (o:=o) v n w (ys:=ys) (fun u=>?_) (fun x p l=>?_))
     · obtain⟨f,d,_,_,_,g⟩ :=h (.slice none 0 0);exact(hp (.slice none 0 0)).mem q (by rw [←g];exact cH _ (aEP _ B))
     · obtain⟨f,d,_,_,_,g⟩ :=h u;exact(hp u).mem _ (by rw [←g];exact cQ ..)
     · obtain⟨f,d,G,L,J,g⟩ :=h (.slice x p l);subst L;exact((gG G (fun q B=> (hp (.slice x p l)).mem q (by rw [←g];exact cH _ (aIy _ B)))).trans (aUx J (z _) (y _))).ends (hk x p l)
   ·cases c
 ·cases c
end
inductive KVD where
 |row (l:List ConD)
 |nil
 |val (u:Value)
def KVD.av :KVD→AV
 | .row l=>.ilst 2 (map ConD.av l) false
 | .nil=>.nils
 | .val u=>.val u
structure ODat where
 name:bX
 kv:KVD
def ODat.av (x:ODat) :AV:=.agg [dR x.name,x.kv.av]
def DataD.o (x:DataD) :ODat:= ⟨x.name,.row x.cons⟩
theorem aKL {b:Type}{f:b→AV}{l:List b}{ix T:Nat}{Y:AV}(h:T=ix)(a:ix<length l) : (set (map f l) ix Y)[0+T]?=some Y:=by
 subst h;rw [eM,List.getElem?_set_self (by simpa using a)]
theorem aYo {a:Type}{f:a→AV}{l:List a}{ix T:Nat}{Y Y':AV}(h:T=ix) : (set (map f l) ix Y).set (0+T) Y'=set (map f l) ix Y':=by
 subst h;rw [eM,set_set]
theorem bDR {d:Type}{f:d→AV}{l:List d}{ix:Nat}(pre a:List AV){b e n g:Nat}{ex:Bool}{u:Value}{y:d}(c:ix<length l)(h:g=n)(j:0<g)(i:f y= .agg (pre++ .val u::a)) :
  NQ (set (map f l) ix (.agg (pre++ .gl b e 0 n ex::a))) ix pre.length b e g u (map f (set l ix y)) :=by
 subst h;refine⟨j,_,ex,List.getElem?_set_self (by simpa using c),by simp,?_⟩;rw [set_set,List.map_set,i];simp
theorem bDS {b:Type}{f:b→AV}{l:List b}{ix:Nat}(pre a:List AV){v v':AV}{y:b}(h:l[ix]?=some y)(c:f y= .agg (pre++v::a)) :
  LQ (map f l) ix pre.length v v' (set (map f l) ix (.agg (pre++v'::a))) :=by
 refine⟨pre++v::a,by rw [rM,h];simp [c],by simp,by simp⟩
end
end Go.Hb
