/- A machine on abstract values, its soundness, ways, plain laws. -/
import Derived.Test.YtmadhnaeihdkeaaGreatHF
import Derived.Test.YtmadhnaeihdkeaaGreatHG
import Derived.Test.YtmadhnaeihdkeaaGreatHH
set_option linter.defProp false
set_option linter.unusedVariables false
set_option linter.unusedSimpArgs false
set_option linter.unusedSectionVars false
set_option maxRecDepth 100000
set_option maxHeartbeats 1000000
namespace Go.Hb
open AV (ilst ptr ren renL)
open List (drop getElem?_set_ne getElem?_set_self length replicate set take)
open Nat (ble le_refl)
open Pats (av)
open Go.Proofs Tryz
noncomputable section
abbrev aGR (a:Nat)(b:List (Nat×Nat)):=oL a 1 (List.map rW b)
abbrev aRy (a:Nat):=oL a 1 (List.map rW ([] :List (Nat×Nat)))
abbrev aBI (a:Nat)(b c:Int)(d:List (Nat×Nat))(e:List Pat):=oC a [(nI b),(nI c),(.gl 2 1 0 d.length false),(iP e)]
abbrev aRz (a:Prog)(b c d:Int)(e:List (Nat×Nat))(f:List Pat)(g:List (Option XT))(h:XT):=Spec PP (.enter 96 [(Prog.av a),(nI b)]) (aA [oC 0 [(iN a.nodes),(iI a.funs),(nI a.main),(iC a.cons)],aBI 1 c d e f,oL 2 1 (List.map rW e),(3,(.zone true [] (ZV e g)),false)] 5) (.ret (.ptr 5 0)) (aA [oC 0 [(iN a.nodes),(iI a.funs),(nI a.main),(iC a.cons)],aBI 1 c d e f,oL 2 1 (List.map rW e),(3,(.zone true [] (ZV e g)),false),(5,gh,false),(6,(.zone true [5] (Z1 h)),false)] 7)
abbrev aAA (a:Nat)(b:Prog):=oC a [(iN b.nodes),(iI b.funs),(nI b.main),(iC b.cons)]
abbrev aL5:AV:=.gl 3 1 0 ([] :List (Nat×Nat)).length false
def aVT(a:Prog)(b:Int):TS:=cJ PP 96 [(Prog.av a),(nI b)] [] 0
def aL6(a:Prog)(j b c:Int)(d:List Int)(e:List Pat)(f g:Int)(i:List Pat):TS:=⟨(tf 96 44 [kp 2 0,(4,.nilp),kp 5 1,kp 6 2] [kc f96 60,kc f96 61,kc f96 31]),[],[aAA 0 a,oC 1 [(nI b),(nI c),(iI d),(iP e)],oC 2 [(nI f),(nI g),aL5,(iP i)],aRy 3],4⟩
def aGS(a:Prog)(j b c:Int)(d:List Int)(e:List Pat)(f g:Int)(i:List Pat):TS:=⟨(tf 96 44 [kp 2 0,(4,.nilp),kp 5 1,kp 6 2] [kc f96 60,kc f96 61,kc f96 31]),[],[aAA 0 a,oC 1 [(nI b),(nI c),(iI d),(iP e)],oC 2 [(nI f),(nI g),aL5,(iP i)],aRy 3,(4,(.zone true [] (ZV ([] :List (Nat×Nat)) ([] :List (Option XT)))),false)],5⟩
def aDm(a:Prog)(k:Int)(c:List Int)(d e f:Int)(g:List Pat)(i:Int)(b:List (Nat×Nat))(j:List (Option XT)):TS:=⟨(tf 96 44 [kp 2 0,(4,.nilp),kp 6 1,(24,(iI c)),(25,(nI d)),(26,(nI i))] [kc f96 244,kl f96 244,.inBlock 0,kc f96 31]),[],[aAA 0 a,aBI 1 e f b g,aGR 2 b,(3,(.zone true [] (ZV b j)),false)],4⟩
def aL7(a:Prog)(l:Int)(c:List Int)(d e f:Int)(g:List Pat)(i:XT)(j:Int)(b:List (Nat×Nat))(k:List (Option XT)):TS:=⟨(tf 96 44 [kp 2 0,(4,.nilp),kp 6 1,(24,(iI c)),(25,(nI d)),(26,(nI j))] [kc f96 1959,kl f96 244,.inBlock 0,kc f96 31]),[],[aAA 0 a,oC 1 [(nI e),(nI f),(.gl 2 1 0 (b.length+1) false),(iP g)],(2,(.lst 1 (List.map rW b++ [.ptr 3 0])),false),(3,gh,false),(4,(.zone true [3] (Z1 i)),false),(5,(.zone true [] (ZV b k)),false)],6⟩
def aBJ(a:Prog)(m:Int)(d:List Int)(e f g:Int)(i:List Pat)(j:XT)(k:Int)(b:List (Nat×Nat))(l:List (Option XT))(c:Nat×Nat):TS:=⟨(tf 96 44 [kp 2 0,(4,.nilp),kp 6 1,(24,(iI d)),(25,(nI e)),(26,(nI k))] [kc f96 1959,kl f96 244,.inBlock 0,kc f96 31]),[],[aAA 0 a,oC 1 [(nI f),(nI g),(.gl 2 1 0 (b++ [c]).length false),(iP i)],oL 2 1 (List.map rW (b++ [c])),(6,(.zone true [] (ZV (b++ [c]) (l++ [some j]))),false)],7⟩
theorem aU1 (p:Prog)(k:Int)(e:List Int)(h b c:Int)(f:List Pat)(d:Int)(a: (List (Nat×Nat)))(i: (List (Option XT)))(j:Int)(g:XT)(l:decide (d<h) =true)(o:0≤d)(h2: ((e)[d.toNat]?) =some j)(m:aRz p j b c a f i g)(n:a.length+1≤1000000) :
  LeadsM PP 0 (aDm p k e h b c f d a i).as (aL7 p k e h b c f g d a i).as:=
 aC1 (n1:=8) (ks:=[0,1,7,5,6,3]) (W:=[some (.cells (putCells .leaf 0 [(iN p.nodes),(iI p.funs),(nI p.main),(iC p.cons)]) 4 [] false),some (.cells (putCells .leaf 0 [(nI b),(nI c),(.gl 7 1 0 (a.length+1) false),(iP f)]) 4 [] false),some (.lst 1 (List.map rW a++ [.ptr 5 0])),some gh,some (.zone true [5] (Z1 g)),some (.zone true [] (ZV a i))]) (wc kR0 (wc kR0 (wc (aIb kR0) (wc kR0 (wc kR0 (wc kR0 wn)))))) (ps:=[decide (d<h) =true,0≤d,(jI e)[d.toNat]?=some (aY j),aRz p j b c a f i g,0+a.length≤length (List.map rW a),a.length+1≤1000000,take a.length (drop 0 (List.map rW a)) ++ [ptr 5 0] = (List.map rW a++ [.ptr 5 0]),a.length+length [ptr 5 0] =a.length+1,(AV.gl 2 1 0 a.length false) = (AV.gl 2 1 0 a.length false),(AV.gl 2 1 0 a.length false) = (AV.gl 2 1 0 a.length false)]) (is:=[.run 5,.b 27 true,.run 6,.ans (.idx (aY j)),.run 3,.reg [.d,.d,.d,.d,.d,.d,.d,.call (.ptr 5 0) (aA [aAA 0 p,aBI 1 b c a f,aGR 2 a,(3,(.zone true [] (ZV a i)),false),(5,gh,false),(6,(.zone true [5] (Z1 g)),false)] 7),.d,.app (List.map rW a++ [.ptr 5 0]) (a.length+1),.d,.d,.d],.run 1]) kR0 kR0 trivial ⟨l,o,(bW h2),m,aQs,n,aQt,aQu,rfl,rfl⟩
def aU2 (c:Prog)(d:Int):=fun a b e f g=>(tT 0 (aVT c d)<|gX Node.av 10 c.nodes d<|fun a=>.y fun b:List Pat=>.i [rn 5,.reg (rd 6 (.pure (iP b)::rd 3 []))] [hA (aK PP 74 [(iP a.pats)] (iP b)),hr (nI a.n),hr (nI a.n),hr (nI a.op),hr (nI a.op)]<|.i [rn 2,.cnil 2 2 1] []<|gu 0 3 (List.map rW ([] :List (Nat×Nat)))<|gv 0 2 2 aL5<|.W 0 4 [0,1,2,3] (aL6 c d a.op a.n a.kids a.pats a.op a.n b)) a e f b g ⟨kk,trivial⟩
def aU3 (b:Prog)(c g i:Int)(a:List Int)(j:List Pat)(d e:Int)(f:List Pat):=(tT 0 (aGS b c g i a j d e f)<|gl 3 aY a<|.W 4 5 [0,2,3,4] (aDm b c a (a.length:Int) d e f 0 ([] :List (Nat×Nat)) ([] :List (Option XT)))) ⟨kk,trivial⟩
def aU4 (i:Prog)(j:Int)(k:List Int)(b c d:Int)(e:List Pat)(f:Int)(a:List (Nat×Nat))(g:List (Option XT)):=fun l=>(tT 0 (aDm i j k b c d e f a g)<|gd 5 27 (f<b) .x<|.E 8 4 [1,2,3] (.ptr 0 0) [oC 0 [(nI c),(nI d),(.gl 1 1 0 a.length false),(iP e)],aGR 1 a,(2,(.zone true [] (ZV a g)),false)] 3)|>.f l ⟨kk,trivial⟩
def aU5 (b:Prog)(c:Int)(d:List Int)(e f g:Int)(i:List Pat)(j:XT)(a:Int)(k:List (Nat×Nat))(l:List (Option XT))(m:Nat×Nat):=fun n=>(tT 0 (aBJ b c d e f g i j a k l m)<|gw 2 42 (a+1)<|.W 3 7 [0,1,2,6] (aDm b c d e f g i (a+1) (k++ [m]) (l++ [some j]))) n ⟨kk,trivial⟩
abbrev HL :=List (Nat×AObj×Bool)
abbrev NT (t:XT) :HL:=[(0,gh,false),(1,.zone true [0] (Z1 t),false)]
abbrev NL (o n:Int)(ps:List Pat)(us:List (Nat×Nat))(ts:List (Option XT)) :HL:=[(0,(.cells (putCells .leaf 0 [(.int .i64 o),(.int .i64 n),(.gl 1 1 0 (length us) false),(.ilst 4 (av ps) false)]) 4 [] false),false),(1,(.lst 1 (List.map rW us)),true),(2,(.zone true [] (ZV us ts)),false)]
theorem aXT (t:XT) :eG (NT t) :=trivial
def aDn (p:Prog) :Prop:=∀nd∈p.nodes,nd.kids.length<1000000∧bE nd.pats<1000000
theorem aO9 {o n:Int}{ps:List Pat}{us:List (Nat×Nat)}{ts:List XT}:zE (aA (NL o n ps us (ts.map some)) 3) (aA [(0,gh,false),(3,.zone true [0] (Z1 (.mk o n ts ps)),false)] 4) :=fun E w r=>by
 have a:us.length=ts.length:=by
  obtain⟨L,_,d⟩ :=r.obj 2 (.zone true [] (ZV us (ts.map some))) kR0;obtain⟨_,_,_,c⟩ :=pP d;have:=c.len;rwa [lP]at this
 have z:zE (aA (NL o n ps us (ts.map some)) 3) (aA [(0,gh,false),(3,.zone true [0] (Z1 (.mk o n ts ps)),false)] 4) :=
  aQq (b:=0) (k:=1) (g:=2) (us:=us) (op:=o) (n:=n) (ts:=ts) (ps:=ps) (len:=us.length) (ex:=false) (pv:=.ilst 4 (av ps) false) kR0 a (fun _ _ h=>h) kR0 kR0 (le_refl _)
   (mX ⟨.inr (.inl ⟨rfl,rfl⟩),.inl ⟨rfl,rfl⟩,trivial⟩)
 exact z E w r
theorem aPa {s:AS}{o n:Int}{ps:List Pat}{us:List (Nat×Nat)}{ts:List XT}(e:Ends PP 0 s (.ret (.ptr 0 0)) (aA (NL o n ps us (ts.map some)) 3)) :Ends PP 0 s (.ret (.ptr 0 0)) (aA (NT (.mk o n ts ps)) 2) :=
 mY (ks:=[0,3]) (aM2 e aO9 (Nat.zero_le _)) kR0 kR0 kR0 (aXT _)
theorem aRA {d:Prog}{o n:Int}{ps:List Pat}{us:List (Nat×Nat)}{ts:List (Option XT)}{t:XT}{c a b:Int}{ks:List Int}{e:Res}{hf:Hp}(k:∀u,Ends PP 0 (aBJ d c ks a o n ps t b us ts u).as e hf) :Ends PP 0 (aL7 d c ks a o n ps t b us ts).as e hf:=
 aM1 (t:=fun u=> (aBJ d c ks a o n ps t b us ts u).as) (ok:=fun _=>True)
  (aMZ (h:= (aL7 d c ks a o n ps t b us ts).as.h) (h':=fun u=> (aBJ d c ks a o n ps t b us ts u).as.h) (k:=2) (g:=5) (gz:=4) (z:=3) (us:=us) (ts:=ts) (t:=t) kR0 kR0 kR0 (by decide) (fun u=>le_refl _)
   (fun u=>mX ⟨.inr (.inr ⟨by decide,by kernel_rfl⟩),.inr (.inr ⟨by decide,by rw [pU];kernel_rfl⟩),.inr (.inl ⟨rfl,rfl⟩),.inl ⟨rfl,rfl⟩,trivial⟩))
  (fun u=> ⟨by kernel_rfl,by kernel_rfl⟩) (fun u _=>k u)
theorem nil_turn {d:Prog}{o n b c:Int}{ps e:List Pat}{a:Int}{ks:List Int}:LeadsM PP 0 (aL6 d a b c ks e o n ps).as (aGS d a b c ks e o n ps).as:=
 aJj (aEO (h:= (aL6 d a b c ks e o n ps).as.h) (h':= (aGS d a b c ks e o n ps).as.h) (Z:=ZV [] []) (fun _ _=> ⟨List.nodup_nil,by simp [OsAt]⟩) (le_refl _) (mX ⟨.inr kR0,.inr kR0,.inr kR0,.inr kR0,.inl ⟨rfl,rfl⟩,trivial⟩)) kR0 kR0
section
variable {p :Prog} (hf:aDn p)
mutual
theorem aFc (b:aDn p) :∀ (t:XT) (a:Int),IsTree p t a→kY PP 0 (.enter 96 [Prog.av p,.int .i64 a]) (aA [] 0) (.ret (.ptr 0 0)) (aA (NT t) 2)
 | .mk o n d j,a,h=>by
  simp only [IsTree]at h;obtain⟨g,nd,c,rfl,rfl,rfl,e⟩ :=h;obtain⟨f,i⟩ :=b nd (oG c);refine⟨(aVT p a).as.fr,by kernel_rfl,?_⟩;refine((aU2 p a nd nd.pats g c (aRx nd.pats i)).trans (nil_turn.trans (aU3 p a _ _ nd.kids _ _ _ nd.pats))).ends ?_;exact aDo b a nd.kids nd.op nd.n nd.pats f d [] [] 0 (by simpa using e) rfl rfl
theorem aDo (g:aDn p)(c:Int)(ks:List Int)(o n:Int)(ps:List Pat)(hk:ks.length<1000000) :∀ (d b:List XT) (a:List (Nat×Nat)) (i:Nat),aO p d (ks.drop i) →b.length=i→a.length=i →
  Ends PP 0 (aDm p c ks ((length ks:Nat) :Int) o n ps (i:Int) a (b.map some)).as (.ret (.ptr 0 0)) (aA (NT (.mk o n (b++d) ps)) 2)
 | [],b,a,i,h,f,e=>by
  simp only [aO]at h;have y:=bJ h;rw [rZ];exact aPa (aU4 p c ks _ o n ps (i:Int) a (b.map some) sd)
 | t::d,b,a,i,h,f,e=>by
  simp only [aO]at h;obtain⟨k,v,l,r,j⟩ :=h;obtain⟨x,s,w⟩ :=bH l
  have q:=aFb (m:=0) (ks:=[]) (n2:=5) (n3:=7) (v':=.ptr 5 0) (args':=[Prog.av p,.int .i64 k])
   (lc:=[(0,(.cells (putCells .leaf 0 [(.ilst 4 (List.map Node.av p.nodes) false),(.ilst 1 (List.map aY p.funs) false),(.int .i64 p.main),(.ilst 2 (List.map Con.av p.cons) false)]) 4 [] false),false),(1,(.cells (putCells .leaf 0 [(.int .i64 o),(.int .i64 n),(.gl 2 1 0 (length a) false),(.ilst 4 (av ps) false)]) 4 [] false),false),(2,(.lst 1 (List.map rW a)),true),(3,(.zone true [] (ZV a (b.map some))),false)])
   (lc':=[(0,(.cells (putCells .leaf 0 [(.ilst 4 (List.map Node.av p.nodes) false),(.ilst 1 (List.map aY p.funs) false),(.int .i64 p.main),(.ilst 2 (List.map Con.av p.cons) false)]) 4 [] false),false),(1,(.cells (putCells .leaf 0 [(.int .i64 o),(.int .i64 n),(.gl 2 1 0 (length a) false),(.ilst 4 (av ps) false)]) 4 [] false),false),(2,(.lst 1 (List.map rW a)),true),(3,(.zone true [] (ZV a (b.map some))),false),(5,gh,false),(6,(.zone true [5] (Z1 t)),false)])
   (aFc g t k r) (by rfl) (by rfl) kR0 (by rfl) (by rfl) kR0 kR0 trivial kR0 trivial
  refine(aU1 p c ks _ o n ps (i:Int) a (b.map some) k t sd sd sd q (by omega)).ends (aRA fun u=>?_);refine(aU5 p c ks _ o n ps t (i:Int) a (b.map some) u sd).ends ?_;have:=aDo g c ks o n ps hk d (b++ [t]) (a++ [u]) (i+1) (by rw [s];exact j) (by simp [f]) (by simp [e]);rw [zq9,aNr]at this;exact this
end
end
abbrev aWH (a:Nat)(b:List (Nat×Nat))(c:Prog)(d:List Con):=oC a [(.gl 2 1 0 b.length false),(nI c.main),(iC d)]
abbrev aGT (a:List (Nat×Nat))(b:Prog)(c:List Con)(d:List (Option XT)):=[aWH 1 a b c,oL 2 1 (List.map rW a),(3,(.zone true [] (ZV a d)),false)]
abbrev aRB (a:Prog)(b:Int)(c:List (Nat×Nat))(d:List Con)(e:List (Option XT))(f:XT):=Spec PP (.enter 96 [(Prog.av a),(nI b)]) (aA ([oC 0 [(iN a.nodes),(iI a.funs),(nI a.main),(iC a.cons)]]++aGT c a d e) 5) (.ret (.ptr 5 0)) (aA ([oC 0 [(iN a.nodes),(iI a.funs),(nI a.main),(iC a.cons)]]++aGT c a d e++[(5,gh,false),(6,(.zone true [5] (Z1 f)),false)]) 7)
abbrev aAB (a:Nat)(b:Prog):=oC a [(iN b.nodes),(iI b.funs),(nI b.main),(iC b.cons)]
abbrev aL8:AV:=.gl 2 1 0 ([] :List (Nat×Nat)).length false
def aVU(a:Prog):TS:=cJ PP 58 [(Prog.av a)] [] 0
def aL9(a:Prog)(b:List Con):TS:=⟨(tf 58 34 [kp 1 0,(2,.nilp),kp 3 1] [kc f58 28,kc f58 29,kc f58 15]),[],[aAB 0 a,oC 1 [aL8,(nI a.main),(iC b)],oL 2 1 (List.map rW ([] :List (Nat×Nat)))],3⟩
def aGU(a:Prog)(b:List Con):TS:=⟨(tf 58 34 [kp 1 0,(2,.nilp),kp 3 1] [kc f58 28,kc f58 29,kc f58 15]),[],[aAB 0 a,oC 1 [aL8,(nI a.main),(iC b)],oL 2 1 (List.map rW ([] :List (Nat×Nat))),(3,(.zone true [] (ZV ([] :List (Nat×Nat)) ([] :List (Option XT)))),false)],4⟩
def aDp(a:Prog)(c:List Con)(d:Int)(b:List (Nat×Nat))(e:List (Option XT)):TS:=⟨(tf 58 34 [kp 1 0,(2,.nilp),kp 3 1,(14,(iI a.funs)),(15,(nI (a.funs.length:Int))),(16,(nI d))] [kc f58 116,kl f58 116,.inBlock 0,kc f58 15]),[],([aAB 0 a]++aGT b a c e),4⟩
def aMa(a:Prog)(c:List Con)(d:XT)(e:Int)(b:List (Nat×Nat))(f:List (Option XT)):TS:=⟨(tf 58 34 [kp 1 0,(2,.nilp),kp 3 1,(14,(iI a.funs)),(15,(nI (a.funs.length:Int))),(16,(nI e))] [kc f58 935,kl f58 116,.inBlock 0,kc f58 15]),[],[aAB 0 a,oC 1 [(.gl 2 1 0 (b.length+1) false),(nI a.main),(iC c)],(2,(.lst 1 (List.map rW b++ [.ptr 3 0])),false),(3,gh,false),(4,(.zone true [3] (Z1 d)),false),(5,(.zone true [] (ZV b f)),false)],6⟩
def aBK(a:Prog)(d:List Con)(e:XT)(f:Int)(b:List (Nat×Nat))(g:List (Option XT))(c:Nat×Nat):TS:=⟨(tf 58 34 [kp 1 0,(2,.nilp),kp 3 1,(14,(iI a.funs)),(15,(nI (a.funs.length:Int))),(16,(nI f))] [kc f58 935,kl f58 116,.inBlock 0,kc f58 15]),[],[aAB 0 a,oC 1 [(.gl 2 1 0 (b++ [c]).length false),(nI a.main),(iC d)],oL 2 1 (List.map rW (b++ [c])),(6,(.zone true [] (ZV (b++ [c]) (g++ [some e]))),false)],7⟩
theorem aWI (p:Prog)(a:List Con) :LeadsM PP 0 (aL9 p a).as (aGU p a).as:=
 aJj (aEO (h:= (aL9 p a).as.h) (h':= (aGU p a).as.h) (Z:= (ZV ([] :List (Nat×Nat)) ([] :List (Option XT)))) (fun _ _=> ⟨List.nodup_nil,by simp [OsAt]⟩) (le_refl _) (mX ⟨.inr kR0,.inr kR0,.inr kR0,.inl ⟨rfl,rfl⟩,trivial⟩)) kR0 kR0
theorem aWJ (p:Prog)(b:List Con)(e:XT)(a:Int)(us: (List (Nat×Nat)))(d: (List (Option XT))){f:Res}{hf:Hp}(k:∀c,Ends PP 0 (aBK p b e a us d c).as f hf) :Ends PP 0 (aMa p b e a us d).as f hf:=
 aM1 (t:= (fun c=> (aBK p b e a us d c).as)) (ok:=fun _=>True) (aMZ (h:= (aMa p b e a us d).as.h) (h':=fun c=> (aBK p b e a us d c).as.h) (k:=2) (g:=5) (gz:=4) (z:=3) (us:=us) (ts:=d) (t:=e) kR0 kR0 kR0 (by decide) (fun _=>le_refl _) (fun c=> (mX ⟨.inr (.inr ⟨by decide,by kernel_rfl⟩),.inr (.inr ⟨by decide,by rw [pU];kernel_rfl⟩),.inr (.inl ⟨rfl,rfl⟩),.inl ⟨rfl,rfl⟩,trivial⟩))) (fun c=> ⟨by kernel_rfl,by kernel_rfl⟩) (fun c _=>k c)
theorem aU6 (p:Prog)(c:List Con)(b:Int)(a: (List (Nat×Nat)))(e: (List (Option XT)))(f:Int)(d:XT)(g:decide (b< (p.funs.length:Int)) =true)(j:0≤b)(h2: ((p.funs)[b.toNat]?) =some f)(h:aRB p f a c e d)(i:a.length+1≤1000000) :
  LeadsM PP 0 (aDp p c b a e).as (aMa p c d b a e).as:=
 aC1 (n1:=8) (ks:=[0,1,7,5,6,3]) (W:=[some (.cells (putCells .leaf 0 [(iN p.nodes),(iI p.funs),(nI p.main),(iC p.cons)]) 4 [] false),some (.cells (putCells .leaf 0 [(.gl 7 1 0 (a.length+1) false),(nI p.main),(iC c)]) 3 [] false),some (.lst 1 (List.map rW a++ [.ptr 5 0])),some gh,some (.zone true [5] (Z1 d)),some (.zone true [] (ZV a e))]) (wc kR0 (wc kR0 (wc (aIb kR0) (wc kR0 (wc kR0 (wc kR0 wn)))))) (ps:=[decide (b< (p.funs.length:Int)) =true,0≤b,(jI p.funs)[b.toNat]?=some (aY f),aRB p f a c e d,0+a.length≤length (List.map rW a),a.length+1≤1000000,take a.length (drop 0 (List.map rW a)) ++ [ptr 5 0] = (List.map rW a++ [.ptr 5 0]),a.length+length [ptr 5 0] =a.length+1,(AV.gl 2 1 0 a.length false) = (AV.gl 2 1 0 a.length false),(AV.gl 2 1 0 a.length false) = (AV.gl 2 1 0 a.length false)]) (is:=[.run 5,.b 17 true,.run 6,.ans (.idx (aY f)),.run 3,.reg [.d,.d,.d,.d,.d,.d,.d,.call (.ptr 5 0) (aA ([aAB 0 p]++aGT a p c e++[(5,gh,false),(6,(.zone true [5] (Z1 d)),false)]) 7),.d,.app (List.map rW a++ [.ptr 5 0]) (a.length+1),.d,.d,.d],.run 1]) kR0 kR0 trivial ⟨g,j,(bW h2),h,aQs,i,aQt,aQu,rfl,rfl⟩
def aU7 (a:Prog):=fun b c=>(tT 0 (aVU a)<|.y fun b:List Con=>.i [rn 6,.reg (rd 4 (.pure (iC b)::rd 3 []))] [hA (aK PP 72 [(iC a.cons)] (iC b)),hr (nI a.main),hr (nI a.main)]<|.i [rn 2,.cnil 1 0 1] []<|gu 0 2 (List.map rW ([] :List (Nat×Nat)))<|gv 0 1 0 aL8<|.W 0 3 [0,1,2] (aL9 a b)) b c ⟨kk,trivial⟩
def aU8 (a:Prog)(b:List Con):=(tT 0 (aGU a b)<|gl 3 aY a.funs<|.W 4 4 [0,1,2,3] (aDp a b 0 ([] :List (Nat×Nat)) ([] :List (Option XT)))) ⟨kk,trivial⟩
def aU9 (b:Prog)(c:List Con)(d:Int)(a:List (Nat×Nat))(e:List (Option XT)):=fun f=>(tT 0 (aDp b c d a e)<|gd 5 17 (d< (b.funs.length:Int)) .x<|.E 8 4 [1,2,3] (.ptr 0 0) [oC 0 [(.gl 1 1 0 a.length false),(nI b.main),(iC c)],oL 1 1 (List.map rW a),(2,(.zone true [] (ZV a e)),false)] 3)|>.f f ⟨kk,trivial⟩
def aVa (b:Prog)(c:List Con)(d:XT)(a:Int)(e:List (Nat×Nat))(f:List (Option XT))(g:Nat×Nat):=fun i=>(tT 0 (aBK b c d a e f g)<|gw 2 32 (a+1)<|.W 3 7 [0,1,2,6] (aDp b c (a+1) (e++ [g]) (f++ [some d]))) i ⟨kk,trivial⟩
theorem sg3 {P:Program}{f:Nat}{b args':List AV}{v v':AV}{l l' lc lc':List (Nat×AObj×Bool)}{m nb a n2 n3:Nat}{ks:List Nat}
  (n:kY P m (.enter f b) (aA l nb) (.ret v) (aA l' a))
  (hb: (ble m nb&&ble m a&&dE 0 ⟨⟨0,0,[],[],[],.run,.normal,none⟩,[],l,nb⟩ ks&&tR l'&&eD a l'&&eD n2 lc&&eD n3 lc'&&ks.all (fun k=>Nat.blt k n2)) =true)
  (he: (a-m+n2,ren (hR m n2 ks) v,renL (eU 0 nb n2 ks) b,sC (aA lc n2) (eU 0 nb n2 ks) l,sC (aA lc' n3) (hR m n2 ks) l',aAX (namesT (hR m n2 ks) l') (l.map fun p=>ks.getD p.1 0) (aA lc n2) lc',sD l') = (n3,v',args',fW (eU 0 nb n2 ks) l,fW (hR m n2 ks) l',sD lc',(l'.map fun p=> (aA l' a).look p.1)))
  (d:eG l) (c:eG l') :Spec P (.enter f args') (aA lc n2) (.ret v') (aA lc' n3) :=by
 simp only [dC]at hb;obtain⟨⟨⟨⟨⟨⟨⟨y,g⟩,e⟩,j⟩,h⟩,s⟩,i⟩,z⟩ :=hb;simp only [Prod.mk.injEq]at he;obtain⟨t,q,w,r,u,x,o⟩ :=he;exact aFb n t q w y g e r d u c j h s i z x o
theorem aWK {P:Program}{f:Nat}{x y:Int}{a p q:AV}{h h':Hp}{r:Res}(e:x=y)(s:Spec P (.enter f [.agg [a,.int .i64 y,p],q]) h r h') :Spec P (.enter f [.agg [a,.int .i64 x,p],q]) h r h':=by rw [e];exact s
def mvN (fr mb o n:Int) :Int:=if o=4∧0≤n∧fr≤n then n+mb else n
mutual
def mvT (fr mb:Int) :XT→XT
 | .mk o n ks ps=>.mk o (mvN fr mb o n) (aXU fr mb ks) ps
def aXU (fr mb:Int) :List XT→List XT
 | [] =>[]
 |t::ts=>mvT fr mb t::aXU fr mb ts
end
mutual
def OkT :XT→Prop
 | .mk o n ks _=> (o=4→n≤1000000) ∧ks.length<1000000∧aWL ks
def aWL :List XT→Prop
 | [] =>True
 |t::ts=>OkT t∧aWL ts
end
section
variable {P :Program}
theorem aFd {call:bB}(hc:dD P call){m:Nat}:∀ {n:Nat} {s:AS} {v:AV} {b:Hp},aFx P call n s=some (v,b) →Ends P m s (.ret v) b
 |0,s,v,b,a=>by simp [aFx]at a
 | n + 1,s,v,b,a=>by
  simp only [aFx]at a;split at a
  · rename_i x d;cases a;exact mO d
  · split at a
    · rename_i e c;exact(cO hc c).ends (aFd hc a)
    ·cases a
def zL :AObj→AObj
 | .cells t n _ _=>.cells t n [] false
 |o=>o
def rK (hp:List (Nat×AObj)) :List (Nat×AObj×Bool) :=hp.map fun p=> (p.1,zL p.2,false)
def aJn (x:Nat) :List (Nat×AObj) →Bool
 | [] =>false
 |p::r=>Nat.beq p.1 x||aJn x r
def aDq (l:List (Nat×AObj)) :List Nat→Bool
 | [] =>true
 |x::r=> !(aJn x l) &&aDq l r
def aAC (l:List (Nat×AObj)) :List (Nat×AObj) →Bool
 | [] =>true
 |p::r=>aDq l (bK p.2) &&aAC l r
theorem aAD {x:Nat}:∀ {l:List (Nat×AObj)},∀p∈l,p.1=x→aJn x l=true
 | q::r,p,a,e=>by
  simp only [aJn,Bool.or_eq_true];rcases zq7.1 a with rfl|a
  ·exact .inl (by rw [e];exact Nat.beq_refl x)
  ·exact .inr (aAD p a e)
theorem xH {l:List (Nat×AObj)}:∀ {k:List Nat},aDq l k=true→∀x∈k,aJn x l=false
 | y::r,h,x,a=>by
  simp only [aDq,dC,Bool.not_eq_true']at h;rcases zq7.1 a with rfl|a
  ·exact h.1
  ·exact xH h.2 x a
theorem xI {l:List (Nat×AObj)}:∀ {k:List (Nat×AObj)},aAC l k=true→∀p∈k,aDq l (bK p.2) =true
 | q::r,h,p,a=>by
  simp only [aAC,dC]at h;rcases zq7.1 a with rfl|a
  ·exact h.1
  ·exact xI h.2 p a
theorem aFe {h:Hp}:∀ {a:List (Nat×AObj)},(a.map fun p=>h.look p.1) = (a.map fun p=>some p.2) →∀p∈a,h.look p.1=some p.2
 | q::r,e,p,a=>by
  simp only [dS,List.cons.injEq]at e;rcases zq7.1 a with rfl|a
  ·exact e.1
  ·exact aFe e.2 p a
theorem kD {h:Hp}{c:List (Nat×AObj)}{nb:Nat}(hl: (c.map fun p=>h.look p.1) = (c.map fun p=>some p.2)){b:Nat}{o:AObj}(e: (aA (rK c) nb).look b=some o) :∃o1,(b,o1) ∈c∧h.look b=some o1∧o=zL o1:=by
 obtain⟨i,hm⟩ :=hQ e;obtain⟨⟨g,f⟩,a,d⟩ :=zq24.1 hm;cases d;exact⟨f,a,aFe hl _ a,rfl⟩
theorem vF {o:AObj}{L:Loc}{i:Nat}:Own (zL o) L i→Own o L i:=by cases o<;>exact id
theorem aRC {E:Emb}{H:Array Obj}{o:AObj}{L:Loc}:OR E H L o→OR E H L (zL o) :=by cases o<;>exact id
theorem aJo (o:AObj) :lM (zL o) =lM o:=by cases o<;>rfl
theorem aPb {E:Emb}{h:Hp}{H:Array Obj}(r:Rel E h H){f:List (Nat×AObj)}{nb:Nat}(hl: (f.map fun p=>h.look p.1) = (f.map fun p=>some p.2))(n:aAC f f=true)(w:h.nb=nb) :Rel E (aA (rK f) nb) H:=by
 subst w;refine⟨fun b o e=>?_,fun b B o F L L' e x k v hm l=>?_,r.fresh,r.imm,fun b o L e k i C=>?_,fun b o e=>?_⟩
 · obtain⟨a,d,c,rfl⟩ :=kD hl e;rcases r.obj0 b a c with⟨D,A⟩ | ⟨L,y,u⟩
   ·exact .inl ⟨by rw [aJo];exact D,A⟩
   ·exact .inr ⟨L,y,aRC u⟩
 · obtain⟨a,d,c,rfl⟩ :=kD hl e;obtain⟨q,m,z,rfl⟩ :=kD hl x;exfalso;have j:Meet a q L L':=by
    obtain⟨i,t,s⟩ :=hm;exact⟨i,vF t,vF s⟩
   rcases r.kin b B a q L L' c z k v j l with⟨g,_⟩ | ⟨g,_⟩
   · have:=xH (xI n _ d) _ g;rw [aAD _ m rfl]at this;cases this
   · have:=xH (xI n _ m) _ g;rw [aAD _ d rfl]at this;cases this
 · obtain⟨a,d,c,rfl⟩ :=kD hl e;exact r.apart b a L c k i (vF C)
 · obtain⟨a,d,c,rfl⟩ :=kD hl e;exact r.keys b a c
theorem aA7 {fr:AFrame}{cs:List AFrame}{h:Hp}{c:List (Nat×AObj)}{nb:Nat}(hl: (c.map fun p=>h.look p.1) = (c.map fun p=>some p.2))(s:aAC c c=true)(t:h.nb=nb) :Leads P ⟨fr,cs,h⟩ ⟨fr,cs,aA (rK c) nb⟩ :=fun E fr d w g f fs r=>by
 have a:∀ {x o},(aA (rK c) nb).look x=some o→∃b,h.look x=some b∧∀L i,Own o L i→Own b L i:=fun {x o} e=>by
  obtain⟨q,_,l,rfl⟩ :=kD hl e;exact⟨q,l,fun L i=>vF⟩
 refine⟨E,fr,d,w,Steps.refl _ _,f,fs,aPb r hl s t,⟨Emb.le.refl E,le_refl _,fun _ _ _=>rfl,fun x o L n j i m _=>by obtain⟨b,e,k⟩ :=a n;exact⟨x,b,L,e,j,k L i m⟩,?_,rfl,rfl,rfl,fun _ _=>rfl,fun _ _=>rfl,fun _ _ e _=>.inl e,fun x o e _=>by obtain⟨b,u,_⟩ :=a e;exact⟨b,u⟩⟩⟩;show h.nb≤nb;omega
theorem aGV {f:Nat}{a:List AV}{g:AFrame}{fr:AFrame}{h:Hp}{b:List (Nat×AObj)}{nb:Nat}{v:AV}(d:cX P (aA [] 0) (.enter f a) =some g)(i:Leads P ⟨g,[],aA [] 0⟩ ⟨fr,[],h⟩)(hl: (b.map fun p=>h.look p.1) = (b.map fun p=>some p.2))(c:aAC b b=true)(j:h.nb=nb)
  (e:vS P ⟨fr,[],aA (rK b) nb⟩ =some (v,aA (rK b) nb)) :kY P 0 (.enter f a) (aA [] 0) (.ret v) (aA (rK b) nb) :=
 ⟨g,d,((i.trans (aA7 hl c j)).toM).ends (mO e)⟩
theorem iZ {n d k:Nat}{c:AIn}{h:Hp}{v:AV}{l:List (Nat×AObj×Bool)}{nb:Nat}
  (i: (sN P n (d+1) k c h).map (fun r=> (r.1,r.2.nb,l.map fun p=>r.2.look p.1)) =some (v,nb,l.map fun p=>some p.2.1)) (hb:h.nb≤nb) :Spec P c h (.ret v) (aA l nb) :=by
 simp only [sN]at i;split at i
 · rename_i g H;cases hr:aFx P (sN P n d) n ⟨g,[],h⟩with
   |none=>rw [hr]at i;cases i
   | some r=>
    rw [hr]at i;simp only [Option.map_some,Option.some.injEq,Prod.mk.injEq]at i;obtain⟨rfl,rfl,F⟩ :=i;refine⟨g,H,?_⟩;have e:=aFd (m:=h.nb) (qO n d) hr
    have t:∀b o,(aA l r.2.nb).look b=some o→r.2.look b=some o:=fun b o e=>by
     obtain⟨M,hm⟩ :=hQ e;have:∀ {k:List (Nat×AObj×Bool)},(k.map fun p=>r.2.look p.1) = (k.map fun p=>some p.2.1) →∀p∈k,r.2.look p.1=some p.2.1:=by
      intro k
      induction k with
      |nil=>intro _ p j;cases j
      | cons q k G=>
       intro e p j;simp only [dS,List.cons.injEq]at e;rcases zq7.1 j with rfl|j
       ·exact e.1
       ·exact G e.2 p j
     exact this F _ hm
    intro hm E fr u w f fs L C s;obtain⟨x,B,I,A,J,D,a⟩ :=e hm E fr u w f fs L C s;exact⟨x,B,I,A,J,D.sub t (le_refl _),⟨a.low,a.imm,a.size,a.keep,fun y z K e=>a.own y z K (t y z e),hb,a.os,a.tape,a.output,a.froz,a.immo,fun b o e=>a.keys b o (t b o e)⟩⟩
 ·cases i
def aVV (τ:Nat→Nat) :List (Nat×AObj×Bool) →List (Nat×AObj×Bool)
 | [] =>[]
 |p::r=> (τ p.1,p.2.1.ren τ,false) ::aVV τ r
theorem aXV {l:List (Nat×AObj×Bool)}(h:eG l=True) :eG l:=h.symm ▸ trivial
theorem aJp {f:Nat}{a:List AV}{v v':AV}{l' lc lc':List (Nat×AObj×Bool)}{b n2 n3:Nat}(o:kY P 0 (.enter f a) (aA [] 0) (.ret v) (aA l' b))
  (hb: (dE 0 ⟨⟨0,0,[],[],[],.run,.normal,none⟩,[],[],0⟩ [] &&tR l'&&eD b l'&&eD n2 lc&&eD n3 lc') =true)
  (he: (b-0+n2,ren (hR 0 n2 []) v,renL (eU 0 0 n2 []) a,sC (aA lc' n3) (hR 0 n2 []) l',aAX (namesT (hR 0 n2 []) l') [] (aA lc n2) lc',sD l') = (n3,v',a,fW (hR 0 n2 []) l',sD lc',(l'.map fun p=> (aA l' b).look p.1)))
  (c:eG l'=True) :Spec P (.enter f a) (aA lc n2) (.ret v') (aA lc' n3) :=by
 simp only [dC]at hb;obtain⟨⟨⟨⟨e,k⟩,i⟩,d⟩,j⟩ :=hb;simp only [Prod.mk.injEq]at he;obtain⟨g,r,l,h,n,q⟩ :=he;refine sg3 (m:=0) (ks:=[]) o ?_ ?_ trivial (aXV c)
 · simp only [dC];exact⟨⟨⟨⟨⟨⟨⟨rfl,by cases b<;>rfl⟩,e⟩,k⟩,i⟩,d⟩,j⟩,rfl⟩
 · simp only [Prod.mk.injEq];exact⟨g,r,l,rfl,h,n,q⟩
theorem aGW {s h:AS}{b:Bool}{is:List Ins}{ps:List Prop}(hl:Leads P s h)(d: (wH P is h).map (fun x=> ((vS P x.1).map Prod.fst,x.2)) =some (some (.bool b),ps))(t:AllP ps) :Ends P 0 s (.ret (.bool b)) (aA [] 0) :=by
 cases hr:wH P is h with
 |none=>rw [hr]at d;cases d
 | some r=>
  obtain⟨s2,qs⟩ :=r;rw [hr]at d;simp only [Option.map_some,Option.some.injEq,Prod.mk.injEq]at d;obtain⟨c,rfl⟩ :=d;cases i:vS P s2 with
  |none=>rw [i]at c;cases c
  | some u=>
   obtain⟨v,D⟩ :=u;rw [i]at c;simp only [Option.map_some,Option.some.injEq]at c;subst c;have y:LeadsM P 0 s s2:= (hl.toM).trans (kX hr (fun p k=>t.mem p k));intro hm E fr j w f fs r m g;obtain⟨A,l,B,C,⟨z,rfl,q⟩,n,a⟩ := (y.ends (mO i)) hm E fr j w f fs r m g;refine⟨_,l,B.p,C,⟨z,rfl,?_⟩,aCD n,⟨fun b hb=>absurd hb (Nat.not_lt_zero _),a.imm,a.size,a.keep,fun F G H e=>?_,le_refl _,a.os,a.tape,a.output,a.froz,a.immo,fun b o e=>?_⟩⟩
   ·simpa only [VR]using q
   ·simp [yX,Hp.look,T.at_leaf]at e
   ·simp [yX,Hp.look,T.at_leaf]at e
end
def dnT (sz:Int)(k:Nat)(o n:Int)(ks:List XT)(ps:List Pat)(x:XT) :XT:=.mk 7 0 [x,.mk o n ((ks.map (mvT sz 1)).set k (.mk 4 sz [] [])) ps] []
section
variable (us :List (Nat×Nat)) (ts:List (Option XT)) (ix:Nat) (u:Nat×Nat) (op nn:Int) (ks:List XT) (ps:List Pat) (k:Nat) (sz:Int)
end
def neT (sz:Int)(a b c:XT) :XT:=.mk 7 0 [a,.mk 7 0 [b,mvT sz 1 c] []] []
theorem aJq (f n:Int)(s:bS)(ps:List Pat)(hl:ps.length<1000000)(j:∀p∈ps,aK PP 147 [Pat.av p] (.int .i64 (bnm p))) :
  ∀ (t:List Pat) (i:Nat) (a:Int),0≤a→a+vP t≤1000000→ps.drop i=t→Ends PP 0 (aGN f n s ps a (i:Int)).as (.ret (.int .i64 (a+vP t))) (aA [] 0)
 | [],i,a,_,_,h=>by
  have:=bJ h;exact Ends.eqv (aUN f n s ps a i sd) (by simp [vP])
 | .mk d g c b::t,i,a,q,hb,h=>by
  obtain⟨k,l,m⟩ :=bH h;have e:=j _ (oG k);have r:=aDi (.mk d g c b);have o:=vE t;rw [vP]at hb ⊢;refine(aUM f n s ps a i d g c b _ sd sd sd e sd sd).ends ?_;exact Ends.eqv (aJq f n s ps hl j t (i+1) (a+bnm (.mk d g c b)) (by omega) (by omega) l) (by rw [Int.add_assoc])
mutual
theorem aJr :∀ (p:Pat),bU p<100000→aK PP 147 [Pat.av p] (.int .i64 (bnm p))
 | .mk f n s a,h=>by
  refine aH kR0 (by simp [AV.keylessL,lK]) rfl ?_;simp only [bU]at h;have:=eV a;have b:=vE a;by_cases g:f=2
  · subst g;exact Ends.eqv (aUK 2 n s a rfl) (by simp [bnm])
  · refine(aUL f n s a (by simpa using g)).ends ?_;exact Ends.eqv (aJq f n s a (by omega) (aM4 a (by omega)) a 0 0 (by omega) (by omega) rfl) (by simp [bnm,g])
theorem aM4 :∀ (b:List Pat),bE b<100000→∀p∈b,aK PP 147 [Pat.av p] (.int .i64 (bnm p))
 | [],_,p,a=>by cases a
 | q::b,h,p,a=>by
  simp only [bE]at h;rcases zq7.1 a with e|a
  ·rw [e];exact aJr q (by omega)
  ·exact aM4 b (by omega) p a
end
def cL (o:Int)(ps:List Pat)(k:Int) :Int:=cV ⟨o,0,[],ps⟩ k
def aRD (o:Int) :Bool:=decide (o=8) ||decide (o=15) ||decide (o=16) ||decide (o=17) ||decide (o=19) ||decide (o=20) ||decide (o=23) ||decide (o=24)
def aGX (o:Int) :Bool:=decide (o=6) ||decide (o=9) ||decide (o=10) ||decide (o=11) ||decide (o=12) ||decide (o=13) ||decide (o=18) ||decide (o=22) ||decide (o=14)
def uE (o:Int)(l:Nat) :Nat:=if aRD o then 1 else if aGX o then l else 0
def zM (t:XT) :Bool:=decide (t.op=1) ||decide (t.op=2) ||decide (t.op=3) ||decide (t.op=4)
mutual
def FineX (B:Int) :XT→Prop
 | .mk o n ks ps=> (o=4→n≤B) ∧ks.length≤1000∧ (∀q∈ps,bU q≤1000) ∧ (o=15→ks.length=1+ps.length) ∧ (o=7→ks.length=2) ∧ (uE o ks.length≤ks.length∧ps.length≤900∧ (aGX o=true→o≠14→ks.length=2) ∧ (∀q∈ps,bnm q=rnm q)) ∧FineXs B ks
def FineXs (B:Int) :List XT→Prop
 | [] =>True
 |t::ts=>FineX B t∧FineXs B ts
end
mutual
theorem FineX.ok {B:Int}(hB:B≤1000000) :∀ {t:XT},FineX B t→OkT t
 | .mk o n b a,h=>by
  simp only [FineX]at h;simp only [OkT];exact⟨fun e=>Int.le_trans (h.1 e) hB,by omega,FineXs.ok hB h.2.2.2.2.2.2⟩
theorem FineXs.ok {B:Int}(hB:B≤1000000) :∀ {a:List XT},FineXs B a→aWL a
 | [],_=>trivial
 |t::a,h=> ⟨FineX.ok hB h.1,FineXs.ok hB h.2⟩
end
theorem zN {o:Int}{ps:List Pat}(h:∀q∈ps,bU q≤1000)(k:Int) :0≤cL o ps k∧cL o ps k≤1000:=by
 unfold cL cV;simp only;split
 ·omega
 · split
   · split
     · rename_i q a;have:=h q (oG a);have:=aDi q;omega
     ·omega
   ·omega
section
variable (o n:Int) (ks:List XT) (ps:List Pat)
theorem aDr (k:Int)(R:Int→Prop)(f:o=5∨o=27∨ (o=7∧k=1) →R 1)(h2:¬ (o=5∨o=27∨ (o=7∧k=1)) →o=15→0<k→∀q,ps[(k-1).toNat]?=some q→R (bnm q))(e:o=15→0<k→∃q,ps[(k-1).toNat]?=some q)
  (d:¬ (o=5∨o=27∨ (o=7∧k=1)) →¬ (o=15∧0<k) →R 0) :R (cL o ps k) :=by
 unfold cL cV;simp only;by_cases a:o=5∨o=27∨ (o=7∧k=1)
 ·rw [if_pos a];exact f a
 · rw [if_neg a];by_cases b:o=15∧k>0
   · rw [if_pos b];obtain⟨q,c⟩ :=e b.1 b.2;rw [c];exact h2 a b.1 b.2 q c
   ·rw [if_neg b];exact d a b
def aRE :List XT→Nat→Nat→Option Nat
 | [],_,_=>none
 |_::_,_,0=>none
 |t::ts,i,m+1=>if zM t then aRE ts (i+1) m else some i
def aVW :XT→Option (Option Nat)
 | .mk o _ ks _=>if o=7 then(match ks[0]? with|some t=>if t.op=7 then some none else none|none=>none)else(aRE ks 0 (uE o ks.length)).map some
end
def dXT :XT:=.mk 0 0 [] []
def aXW (sz:Int) :Option Nat→XT→XT
 |some k,.mk o n ks ps=>dnT sz k o n ks ps (ks.getD k dXT)
 |none,.mk _ _ ks _=>neT sz ((ks.getD 0 dXT).kids.getD 0 dXT) ((ks.getD 0 dXT).kids.getD 1 dXT) (ks.getD 1 dXT)
inductive AtR (α:Type) where
 |go (n:Int)
 |past
 |did (x:α)
mutual
def atT (node:Int) :XT→Int→Int→AtR XT
 | .mk o n ks ps,n0,z0=>
  match aVW (.mk o n ks ps)with
  | some s=>if n0=node then .did (aXW z0 s (.mk o n ks ps))else if n0>node then .past else
   (match aWM node o ps ks 0 (n0+1) z0 with
   | .go m=>.go m
   | .past=>.past
   | .did ks'=>.did (.mk o n ks' ps))
  | none=> (match aWM node o ps ks 0 (n0+1) z0 with
   | .go m=>.go m
   | .past=>.past
   | .did ks'=>.did (.mk o n ks' ps))
def aWM (node:Int)(o:Int)(ps:List Pat) :List XT→Nat→Int→Int→AtR (List XT)
 | [],_,n,_=>.go n
 | t::ts,i,n,z=>
  match atT node t n (z+cL o ps (i:Int))with
  | .go m=> (match aWM node o ps ts (i+1) m z with
   | .go m'=>.go m'
   | .past=>.past
   | .did ts'=>.did (t::ts'))
  | .past=>.past
  | .did t'=>.did (t'::ts)
end
mutual
def eO :XT→Nat
 | .mk _ _ ks _=>aG ks+1
def aG :List XT→Nat
 | [] =>0
 |t::ts=>eO t+aG ts
end
section
variable {s :AS} {v:AV} {s1 s2:LoopState} {p1 p2:Option Code} {b:Bool} {node:Int}
end
section
variable (node B:Int) (hB:B≤1000000)
end
def atF (node:Int) :List XT→Int→AtR (List XT)
 | [],n=>.go n
 | t::ts,n=>match atT node t n 1 with
  | .go m=> (match atF node ts m with
   | .go m'=>.go m'
   | .past=>.past
   | .did ts'=>.did (t::ts'))
  | .past=>.past
  | .did t'=>.did (t'::ts)
def AtR.getD {α:Type}(d:α) :AtR α→α
 | .did x=>x
 |_=>d
def AtR.map {α β:Type}(f:α→β) :AtR α→AtR β
 | .go n=>.go n
 | .past=>.past
 | .did x=>.did (f x)
abbrev FHl (n:Nat)(mn:Int)(cs:List Con)(ts:List XT) :HL:=[(0,(.cells (putCells .leaf 0 [(.gl 1 1 0 n false),(.int .i64 mn),(.ilst 2 (List.map Con.av cs) false)]) 3 [] false),false),(1,gh,false),(2,(.zone true [1] (aEa ts)),false)]
def aEb (g:Int→Int→Bool)(x:Node)(sz:Int) :Nat→List Int→Bool
 |_,[] =>true
 |j,k::ks=>g k (sz+cV x j) &&aEb g x sz (j+1) ks
def gC (p:Prog) :Nat→Int→Int→Bool
 |0,_,_=>true
 | f+1,a,sz=>match p.nodes[a.toNat]? with
  |some x=>if x.op=4∧x.n≥sz then false else aEb (gC p f) x sz 0 x.kids
  |none=>true
noncomputable def aDs (p:Prog) :List (Nat×AObj×Bool) := (aDl p 0 0 0).hp
noncomputable def aRF (p:Prog)(b:Bool) :List (Nat×AObj×Bool) :=bif b then aDs p else aZF p
def pS (a fn sz:Int) :List AV:=[aWE a fn sz,.ptr 5 0,.ptr 6 0,.ptr 0 0]
theorem aPc {p:Prog}{a fn sz b gn tz:Int}:∀ {r:Bool},Spec PP (.enter 145 (pS a fn sz)) (aA (aDs p) 8) (.ret (.bool r)) (aA (aRF p r) 8) →
  Spec PP (.enter 145 (pS a fn sz)) (aA (aDs p++ [(8,(.cells (putCells .leaf 0 [.int .i64 b,.int .i64 gn,.int .i64 tz]) 3 [] false),false)]) 9) (.ret (.bool r)) (aA (aRF p r++ [(8,(.cells (putCells .leaf 0 [.int .i64 b,.int .i64 gn,.int .i64 tz]) 3 [] false),false)]) 9)
 |true,h=>aCE h kR0 (by rfl) (by rfl) kR0 kR0 trivial kR0 kR0 kR0
 |false,h=>aCE h kR0 (by rfl) (by rfl) kR0 kR0 trivial kR0 kR0 kR0
theorem aPd (p:Prog)(a fn sz:Int) : (aDl p a fn sz).as= ⟨(aDl p a fn sz).as.fr,[],aA (aDs p) 8⟩ :=by kernel_rfl
theorem aPe (p:Prog)(a fn sz:Int) :cX PP (aA (aDs p) 8) (.enter 145 (pS a fn sz)) =some (aDl p a fn sz).as.fr:=by kernel_rfl
theorem aJs {p:Prog}(n:FineP p){f:Nat}{a fn sz:Int}{x:Node}(m:0≤a)(g:p.nodes[a.toNat]?=some x)(l:0≤sz)(v:sz≤1000* (a+1))
  (q:∀ (k tz:Int),a<k→k<p.nodes.length→0≤tz→tz≤1000* (k+1) →Spec PP (.enter 145 (pS k fn tz)) (aA (aDs p) 8) (.ret (.bool (gC p f k tz))) (aA (aRF p (gC p f k tz)) 8)) :
  ∀ (t:List Int) (j:Nat),x.kids.drop j=t→Ends PP 8 (zK p a fn sz x.kids ((length x.kids:Nat) :Int) (j:Int)).as (.ret (.bool (aEb (gC p f) x sz j t))) (aA (aRF p (aEb (gC p f) x sz j t)) 8)
 | [],j,h=>by
  have:=bJ h;exact aRq p a fn sz x.kids _ j sd
 | k::t,j,h=>by
  obtain⟨u,w,y⟩ :=bH h;obtain⟨r,e,i⟩ :=n.node _ _ g;have hk:=i k (oG u);have hb:=aJi r (j:Int);have z:=n.small;have s:IntKind.i64.wrap (sz+cV x j) =sz+cV x j:=wrap64 (by omega) (by omega);have c:=aPc (b:=a) (gn:=fn) (tz:=sz) (q k (sz+cV x j) (by omega) (by omega) (by omega) (by omega));have d:=aL2 r (k:= (j:Int)) (by omega) (by omega) e;rw [aEb];cases o:gC p f k (sz+cV x j)
  case false=>
   rw [o]at c;rw [sA];refine aRo p a fn sz x.kids _ j k x _ sd sd sd m g d ?_;rw [s];exact c
  rw [o]at c;rw [lE];refine(aRp p a fn sz x.kids _ j k x _ sd sd sd m g d ?_ sd).ends ?_
  ·rw [s];exact c
  ·exact aJs n m g l v q t (j+1) w
theorem aJt {p:Prog}(m:FineP p)(fn:Int) :∀ (f:Nat) (a b:Int),0≤a→a<p.nodes.length→p.nodes.length-a.toNat≤f→0≤b→b≤1000* (a+1) →
  Spec PP (.enter 145 (pS a fn b)) (aA (aDs p) 8) (.ret (.bool (gC p f a b))) (aA (aRF p (gC p f a b)) 8)
 |0,a,b,g,s,r,_,_=>by omega
 | f + 1,a,b,g,s,r,t,q=>by
  refine⟨_,aPe p a fn b,?_⟩;obtain⟨x,c⟩ :∃x,p.nodes[a.toNat]?=some x:= ⟨_,lZ (by omega)⟩;rw [←aPd];have l:=aJs m (f:=f) (fn:=fn) g c t q (fun k n hk i j o=>aJt m fn f k n (by omega) i (by omega) j o) x.kids 0 rfl;by_cases d:x.op=4
  · by_cases h:x.n≥b
    · have e:gC p (f+1) a b=false:=by rw [gC,c];simp only [d,h,and_self,if_true]
      rw [e];exact aRl p a fn b x g c (by simp [d]) (by simpa using h)
    · have e:gC p (f+1) a b=aEb (gC p f) x b 0 x.kids:=by rw [gC,c];simp only [h,and_false,if_false]
      rw [e];exact(aRm p a fn b x g c (by simp [d]) (by simpa using h)).ends l
  · have e:gC p (f+1) a b=aEb (gC p f) x b 0 x.kids:=by rw [gC,c];simp only [d,false_and,if_false]
    rw [e];exact(aRn p a fn b x g c (by simpa using d)).ends l
def aPf (p:Prog) :List Int→Bool
 | [] =>true
 |a::fs=>gC p p.nodes.length a 1&&aPf p fs
theorem aJu {p:Prog}(c:FineP p) :∀ (t:List Int) (i:Nat),p.funs.drop i=t →
  Ends PP 0 (aGL p (i:Int)).as (.ret (.tup [(.bool (aPf p t)),(.int .i64 0)])) (aA [] 0)
 | [],i,h=>by
  have:=bJ h;exact aUI p i sd
 | a::t,i,h=>by
  obtain⟨f,g,j⟩ :=bH h;have d:=c.funs a (oG f);have k:=c.fsmall;have b:=aJt c i p.nodes.length a 1 d.1 d.2 (by omega) (by omega) (by omega);rw [aPf];cases e:gC p p.nodes.length a 1
  case false=>
   rw [e]at b;exact aUG p i a sd sd sd b
  rw [e]at b;refine(aUH p i a sd sd sd b sd).ends ?_;rw [lE];exact aJu c t (i+1) g
abbrev aPg (a:List Int)(b c d:Int):AV:=.gl 1 1 0 (set a b.toNat (IntKind.i64.wrap (c+d))).length true
abbrev aXX (a:Prog):AV:=.gl 1 1 0 (replicate a.nodes.length (0:Int)).length true
abbrev aVb (a:Nat)(b:Prog):=oC a [(iN b.nodes),(iI b.funs),(nI b.main),(iC b.cons)]
def vG(a:Prog)(c:Int)(b:List Int):TS:=⟨(tf 77 67 [kp 1 0,(2,.nils),(3,(.gl 1 1 0 b.length true)),(4,(nI c))] [kc f77 116,kl f77 116,.inBlock 0,kc f77 15]),[],[aVb 0 a,oL 1 1 (jI b)],2⟩
def pT(a:Prog)(b:List Int)(c:Int):TS:=⟨(tf 77 67 [kp 1 0,(2,.nils),(3,(.gl 1 1 0 b.length true)),(5,(nI c))] [kc f77 244,kl f77 244,.inBlock 2,kc f77 31]),[],[aVb 0 a,oL 1 1 (jI b)],2⟩
def vH(a:Prog)(b:List Int)(c d:Int):TS:=⟨(tf 77 67 [kp 1 0,(2,.nils),(3,(.gl 1 1 0 b.length true)),(5,(nI d)),(6,(nI c))] [kc f77 15652,kl f77 15652,.inBlock 4,.inBlock 3,kc f77 979,kl f77 244,.inBlock 2,kc f77 31]),[],[aVb 0 a,oL 1 1 (jI b)],2⟩
def uF(a:Prog)(b:List Int)(c:Int):TS:=⟨(tf 45 33 [kp 1 0,(2,(bV false)),(3,(iI b)),(4,(nI c))] [kc f45 116,kl f45 116,.inBlock 0,kc f45 15]),[],[aVb 0 a],1⟩
def aMb (a:Prog):=fun b=>(tT 0 (start PP 77 [(Prog.av a)])<|gl 9 Node.av a.nodes<|.i [.mk a.nodes.length] [hr ((a.nodes.length:Nat) :Int),hr ((a.nodes.length:Nat) :Int),hA (a.nodes.length<100000)]<|.i [.lset 1 (jI (replicate a.nodes.length (0:Int)))] [.q (p:=replicate a.nodes.length (aY (0:Int)) = (jI (replicate a.nodes.length (0:Int)))) (aGb _ _ _)]<|.i [.set 10 (aXX a)] [.q (p:=(AV.gl 1 1 0 a.nodes.length true) = (aXX a)) (cE (aKc ..).symm)]<|.W 9 2 [0,1] (vG a 0 (replicate a.nodes.length (0:Int)))) b ⟨kk,trivial⟩
def aXY(c:Prog)(d:Int)(a:List Int):=tT 0 (vG c d a)<|gl 6 aY c.funs<|gd 2 15 (d< (c.funs.length:Int)) (gX aY 9 c.funs d<|fun b=>.i [rn 1,.ans (.ix)] [hA (0≤b),hA (b< (a.length:Int))]<|.y fun e:Int=>.i [.st (aY e) (aY 1)] [.a (((a)[b.toNat]?) =some e) (eZ (f:=aY)),hr (some (aY 1))]<|.i [.lset 1 (jI (set a b.toNat 1))] [.q (p:=(jI a).set (0+b.toNat) (aY 1) = (jI (set a b.toNat 1))) (lB _ _ _ _)]<|.i [.set 3 (.gl 1 1 0 (set a b.toNat 1).length true)] [.q (p:=(AV.gl 1 1 0 a.length true) = (.gl 1 1 0 (set a b.toNat 1).length true)) (cE (jP ..).symm)]<|.i [.set 18 (.gl 1 1 0 (set a b.toNat 1).length true)] [.q (p:=(AV.gl 1 1 0 a.length true) = (.gl 1 1 0 (set a b.toNat 1).length true)) (cE (jP ..).symm)]<|gw 5 17 (d+1)<|.W 3 2 [0,1] (vG c (d+1) (set a b.toNat 1)))<|.W 9 2 [0,1] (pT c a 0)
def aMc:=fun a b c d e f g i j k l m=>aXY a b c|>.t f d g i j k e l m ⟨kk,trivial⟩
def aMd:=fun a b c d=>aXY a b c|>.f d ⟨kk,trivial⟩
def aXZ(a:Prog)(b:List Int)(c:Int):=tT 0 (pT a b c)<|gl 6 Node.av a.nodes<|gd 2 29 (c< (a.nodes.length:Int)) (.W 10 2 [0,1] (vH a b 0 c))<|gz 8 2 1 1 aY b true<|gE 0 2 (.ilst 1 (jI b) true)
def aMe:=fun a b c d=>aXZ a b c|>.t d ⟨kk,trivial⟩
def aMf:=fun a b c d=>aXZ a b c|>.f d tv
def aX0(g:Prog)(a:List Int)(i d:Int):=tT 0 (vH g a i d)<|gX Node.av 7 g.nodes d<|fun f=>gl 2 aY f.kids<|gd 2 40 (i< (f.kids.length:Int)) (.y fun c:Int=>.y fun b:Int=>.y fun e:Int=>.y fun j:Int=>.i [rn 4,.regA (rd 4 (.ans (.idx (Node.av f))::rd 3 (.ans (.idx (aY c))::rd 3 (.ans (.ix)::.ans (.idx (aY b))::rd 3 [.ans (.idx (Node.av f)),.d,.d,.pure (nI e),.d,.ans (.ix),.st (aY j) (aY (IntKind.i64.wrap (b+e)))])))) [(some (.idx (aY b))),none,none,none]] [hA (0≤d),.a (((g.nodes)[d.toNat]?) =some f) (bW (f:=Node.av)),hA (0≤i),.a (((f.kids)[i.toNat]?) =some c) (bW (f:=aY)),hA (0≤d),hA (d< ((a.length:Nat) :Int)),.a (((a)[d.toNat]?) =some b) (eZ (f:=aY)),hA (0≤d),.a (((g.nodes)[d.toNat]?) =some f) (bW (f:=Node.av)),hA (aK PP 116 [(Node.av f),(nI i)] (nI e)),hA (0≤c),hA (c< ((a.length:Nat) :Int)),.a (((a)[c.toNat]?) =some j) (eZ (f:=aY)),hr (some (aY (IntKind.i64.wrap (b+e)))),hr (nI b),.a (((a)[d.toNat]?) =some b) (eZ (f:=aY)),hr (nI b),.a (((a)[d.toNat]?) =some b) (eZ (f:=aY)),hr (nI c),hr (nI c),hr (ilst 1 (jI f.kids) false),hr (ilst 1 (jI f.kids) false),hr (ilst 4 (jN g.nodes) false),hr (ilst 4 (jN g.nodes) false)]<|.i [.lset 1 (jI (set a c.toNat (IntKind.i64.wrap (b+e))))] [.q (p:=(jI a).set (0+c.toNat) (aY (IntKind.i64.wrap (b+e))) = (jI (set a c.toNat (IntKind.i64.wrap (b+e))))) (lB _ _ _ _)]<|.i [.set 3 (aPg a c b e)] [.q (p:=(AV.gl 1 1 0 a.length true) = (aPg a c b e)) (cE (jP ..).symm)]<|.i [.set 43 (aPg a c b e)] [.q (p:=(AV.gl 1 1 0 a.length true) = (aPg a c b e)) (cE (jP ..).symm)]<|.i [.set 53 (aPg a c b e)] [.q (p:=(AV.gl 1 1 0 a.length true) = (aPg a c b e)) (cE (jP ..).symm)]<|gw 4 42 (i+ (1:Int))<|.W 3 2 [0,1] (vH g (set a c.toNat (IntKind.i64.wrap (b+e))) (i+ (1:Int)) d))<|gw 6 31 (d+ (1:Int))<|.W 3 2 [0,1] (pT g a (d+ (1:Int)))
def aMg:=fun d e f g i j k l m a b n o p q c r s t u v=>aX0 d e f g i a b|>.t n j k l m a b o p a q c a b r s t u c c v ⟨kk,trivial⟩
def aMh:=fun a b c d e f g i j=>aX0 a b c d e f g|>.f i j ⟨kk,trivial⟩
def aPh (b:Prog):=fun a c=>(tT 0 (start PP 45 [(Prog.av b)])<|.y fun a:List Int=>gp 8 77 [(Prog.av b)] (iI a)<|.W 9 1 [0] (uF b a 0)) a c tv
def aVc(c:Prog)(d:List Int)(a:Int):=tT 0 (uF c d a)<|gl 5 aY d<|gd 2 10 (a< (d.length:Int)) (.o (.y fun b:Node=>.y fun e:Int=>.i [rn 5,.reg (rd 3 (.ans (.idx (Node.av b))::rd 4 (.b 20 true::rd 3 (.ans (.idx (Node.av b))::rd 4 (.ans (.idx (aY e))::rd 3 [])))))] [hA (0≤a),.a (((c.nodes)[a.toNat]?) =some b) (bW (f:=Node.av)),hA ((b.op==4) =true),hA (0≤a),.a (((c.nodes)[a.toNat]?) =some b) (bW (f:=Node.av)),hA (0≤a),.a (((d)[a.toNat]?) =some e) (bW (f:=aY))]<|gd 0 32 (b.n≥e) (gE 6 1 (bV false))<|gw 6 12 (a+1)<|.W 3 1 [0] (uF c d (a+1)))<|.y fun b:Node=>.i [rn 5,.reg (rd 3 (.ans (.idx (Node.av b))::rd 4 (.b 20 false::rd 12 [])))] [hA (0≤a),.a (((c.nodes)[a.toNat]?) =some b) (bW (f:=Node.av)),hA ((b.op==4) =false)]<|gw 6 12 (a+1)<|.W 3 1 [0] (uF c d (a+1)))<|gE 7 1 (bV true)
def aPi:=fun c d e f g i a b j k l=>aVc c d e|>.t i|>.1 f g a b j a b a k|>.t l tv
def aPj:=fun c d e f g i a b j k l m=>aVc c d e|>.t i|>.1 f g a b j a b a k|>.f l m tv
def aPk:=fun a b c d e f g i j=>aVc a b c|>.t e|>.2 d f g i j tv
def aPl:=fun a b c d=>aVc a b c|>.f d tv
def nU(a b:List Int)(c:Int):TS:=⟨(tf 40 26 [(0,(iI a)),(1,(iI b)),(4,(bV false)),(5,(nI c))] [kc f40 116,kl f40 116,.inBlock 0,kc f40 15]),[(tf 17 8 [(4,(bV false)),(5,(iI a)),(6,(iI b))] [ko f17 6 2,kc f17 7])],[],0⟩
def aZI(a b:List Int):=tT 0 (start PP 17 [(iI a),(iI b)])<|gl 17 aY a<|gl 1 aY b<|.b 2 10 ((a.length:Int) != (b.length:Int)) (gE 10 0 (bV false))<|.W 9 0 [] (nU a b 0)
def aGY:=fun a b c=>aZI a b|>.f c tv
def aX1(b c:List Int)(a:Int):=tT 0 (nU b c a)<|gl 5 aY b<|gd 2 14 (a< (b.length:Int)) (.y fun d:Int=>.y fun e:Int=>.i [rn 5,.reg (.d::.d::.ans (.idx (aY d))::rd 3 [.ans (.idx (aY e)),.d,.d])] [hA (0≤a),.a (((b)[a.toNat]?) =some d) (bW (f:=aY)),hA (0≤a),.a (((c)[a.toNat]?) =some e) (bW (f:=aY))]<|.b 0 25 (d != e) (gE 10 0 (bV false))<|gw 6 16 (a+1)<|.W 3 0 [] (nU b c (a+1)))<|gE 11 0 (bV true)
def aGZ:=fun b c d e f g a i j k l=>aX1 b c d|>.t g e f a i a j|>.f k l tv
def aG0:=fun a b c d=>aX1 a b c|>.f d tv
def iK (x:Node)(i:Nat) :Nat→List Int→List Int→List Int
 |_,[],l=>l
 |j,k::ks,l=>iK x i (j+1) ks (l.set k.toNat (l.getD i 0+cV x j))
def gV :Nat→List Node→List Int→List Int
 |_,[],l=>l
 |i,x::t,l=>gV (i+1) t (iK x i 0 x.kids l)
def oV :List Int→List Int→List Int
 | [],l=>l
 |f::fs,l=>oV fs (l.set f.toNat 1)
def iL (p:Prog) :List Int:=gV 0 p.nodes (oV p.funs (replicate p.nodes.length 0))
theorem rM (x:Node)(i:Nat) :∀ (t:List Int) (j:Nat) (l:List Int),(iK x i j t l).length=l.length
 | [],_,_=>rfl
 |k::t,j,l=>by rw [iK,rM x i t];simp
theorem aA8 :∀ (t:List Node) (i:Nat) (l:List Int),(gV i t l).length=l.length
 | [],_,_=>rfl
 |x::t,i,l=>by rw [gV,aA8 t,rM]
theorem xJ :∀ (t:List Int) (l:List Int),(oV t l).length=l.length
 | [],_=>rfl
 |f::t,l=>by rw [oV,xJ t];simp
theorem aDt (p:Prog) : (iL p).length=p.nodes.length:=by rw [iL,aA8,xJ];simp
def upTo (B:Int)(l:List Int) :Prop:=∀z∈l,0≤z∧z≤B
theorem aRG {B:Int}{l:List Int}(h:upTo B l){i:Nat}(a:i<l.length) :0≤l.getD i 0∧l.getD i 0≤B:=by
 rw [pV,lZ a];exact h _ (List.getElem_mem a)
theorem aJv {B C:Int}{l:List Int}(h:upTo B l)(a:B≤C){i:Nat}{z:Int}(b:0≤z)(c:z≤C) :upTo C (l.set i z) :=fun k hk=>by
 rcases List.mem_or_eq_of_mem_set hk with g|g
 ·have:=h k g;omega
 ·rw [g];exact⟨b,c⟩
theorem aPm {B C:Int}{l:List Int}(h:upTo B l)(a:B≤C) :upTo C l:=fun k hk=>by have:=h k hk;omega
theorem aX2 {p:Prog}(d:FineP p){i:Nat}{x:Node}(c:p.nodes[i]?=some x){b:AV}{h':Hp} :
  ∀ (t:List Int) (j:Nat) (l:List Int) (B:Int),l.length=p.nodes.length→0≤B→upTo B l→B+12*t.length≤1000000→x.kids.drop j=t →
   (upTo (B+12*t.length) (iK x i j t l) →Ends PP 0 (pT p (iK x i j t l) ((i:Int) +1)).as (.ret b) h') →Ends PP 0 (vH p l (j:Int) (i:Int)).as (.ret b) h'
 | [],j,l,B,hl,w,hB,hb,h,hk=>by
  have:=bJ h;have o:= (zq0.1 c).1;have u:=d.small;refine(aMh p l j i x sd sd sd sd).ends (hk ?_);simpa [iK]using hB
 | k::t,j,l,B,hl,w,hB,hb,h,hk=>by
  obtain⟨m,s,z⟩ :=bH h;obtain⟨f,a,e⟩ :=d.node _ _ c;have r:=e k (oG m);have o:= (zq0.1 c).1;have u:=d.small;have A:=aJi f (j:Int);have hz:=aRG hB (i:=i) (by omega);have q:l[i]?=some (l.getD i 0) :=by rw [pV,lZ (by omega)];rfl
  obtain⟨y,n⟩ :∃y,l[k.toNat]?=some y:= ⟨_,lZ (by omega)⟩;simp only [rY]at hb;have v:IntKind.i64.wrap (l.getD i 0+cV x j) =l.getD i 0+cV x j:=wrap64 (by omega) (by omega);have st:=aMg p l j i x k (l.getD i 0) (cV x j) y sd sd sd sd sd (by omega) sd (aL3 f (by omega) (by omega) a) (by omega) (by omega) n sd;rw [v]at st;refine st.ends ?_;refine aX2 d c t (j+1) (l.set k.toNat (l.getD i 0+cV x j)) (B+12) (by simpa using hl) (by omega) (aJv hB (by omega) (by omega) (by omega)) (by omega) s (fun g=>?_);have:=hk (by rw [iK];exact aPm g (by simp only [rY];omega));rw [iK]at this;exact this
theorem rS1 {p:Prog}(a:FineP p) :∀ (t:List Node) (i:Nat) (l:List Int) (B:Int),l.length=p.nodes.length→0≤B→upTo B l→B+120*t.length≤1000000→p.nodes.drop i=t →
  Ends PP 0 (pT p l (i:Int)).as (.ret (.ilst 1 (List.map aY (gV i t l)) true)) (aA [] 0)
 | [],i,l,B,hl,d,hB,hb,h=>by
  have:=bJ h;exact aMf p l i sd
 | x::t,i,l,B,hl,d,hB,hb,h=>by
  obtain⟨b,g,j⟩ :=bH h;obtain⟨k,c,e⟩ :=a.node _ _ b;simp only [rY]at hb;refine(aMe p l i sd).ends ?_;refine aX2 a b x.kids 0 l B hl d hB (by omega) rfl (fun f=>?_);rw [gV];exact rS1 a t (i+1) _ (B+12*x.kids.length) (by rw [rM,hl]) (by omega) f (by omega) g
theorem rS0 {p:Prog}(b:FineP p) :∀ (t:List Int) (i:Nat) (l:List Int),l.length=p.nodes.length→upTo 1 l→p.funs.drop i=t →
  Ends PP 0 (vG p (i:Int) l).as (.ret (.ilst 1 (List.map aY (gV 0 p.nodes (oV t l))) true)) (aA [] 0)
 | [],i,l,hl,hB,h=>by
  have:=bJ h;have k:=b.small;refine(aMd p i l sd).ends ?_;exact rS1 b p.nodes 0 l 1 hl (by omega) hB (by omega) rfl
 | a::t,i,l,hl,hB,h=>by
  obtain⟨c,d,j⟩ :=bH h;have f:=b.funs a (oG c);have g:=b.fsmall;obtain⟨y,e⟩ :∃y,l[a.toNat]?=some y:= ⟨_,lZ (by omega)⟩;refine(aMc p i l a y sd sd sd (by omega) (by omega) e sd).ends ?_;exact rS0 b t (i+1) _ (by simpa using hl) (aJv hB (by omega) (by omega) (by omega)) d
theorem aJw {p:Prog}(a:FineP p) :aK PP 77 [Prog.av p] (.ilst 1 (List.map aY (iL p)) false) :=by
 refine aH kR0 rfl rfl ?_;have c:=a.small;refine Ends.val ?_ (fun E b=>xE);refine(aMb p (by omega)).ends ?_;exact rS0 a p.funs 0 _ (by simp) (fun z hz=>by have:= (List.mem_replicate.1 hz).2;omega) rfl
def mZ (p:Prog)(S:List Int)(i:Nat) :Bool:=match p.nodes[i]?,S[i]? with
 |some x,some s=> !(decide (x.op=4) &&decide (x.n≥s))
 |_,_=>true
def fC (p:Prog)(S:List Int) :Nat→List Int→Bool
 |_,[] =>true
 |i,_::t=>mZ p S i&&fC p S (i+1) t
theorem rSh {p:Prog}(g:p.nodes.length≤320)(S:List Int)(j:S.length=p.nodes.length) :∀ (t:List Int) (i:Nat),S.drop i=t→Ends PP 0 (uF p S (i:Int)).as (.ret (.bool (fC p S i t))) (aA [] 0)
 | [],i,h=>by
  have:=bJ h;exact aPl p S i sd
 | s ::t,i,h=>by
  obtain⟨d,f,k⟩ :=bH h;obtain⟨x,c⟩ :∃x,p.nodes[i]?=some x:= ⟨_,lZ (by omega)⟩;have e:=rSh g S j t (i+1) f;by_cases a:x.op=4
  · by_cases b:x.n≥s
    ·exact Ends.eqv (aPi p S i x s sd sd sd (by simp [a]) sd (by simpa using b)) (by simp only [fC,mZ,c,d,a,b];simp)
    · refine(aPj p S i x s sd sd sd (by simp [a]) sd (by simpa using b) sd).ends ?_;exact Ends.eqv e (by simp only [fC,mZ,c,d,a,b];simp)
  · refine(aPk p S i x sd sd sd (by simpa using a) sd).ends ?_;exact Ends.eqv e (by simp only [fC,mZ,c,d,a];simp)
theorem aMi {p:Prog}(a:FineP p) :aK PP 45 [Prog.av p] (.bool (fC p (iL p) 0 (iL p))) :=by
 refine aH kR0 rfl rfl ?_;refine(aPh p (iL p) (aJw a)).ends ?_;exact rSh a.small (iL p) (aDt p) (iL p) 0 rfl
theorem aX3 (a:List Int)(b:a.length≤1000) :∀ (t:List Int) (i:Nat),a.drop i=t→Ends PP 0 (nU a a (i:Int)).as (.ret (.bool true)) (aA [] 0)
 | [],i,h=>by
  have:=bJ h;exact aG0 a a i sd
 | y::t,i,h=>by
  obtain⟨e,c,d⟩ :=bH h;refine(aGZ a a i y y sd sd sd sd (by simp) sd).ends ?_;exact aX3 a b t (i+1) c
theorem aEc (a:List Int)(b:a.length≤1000) :aK PP 17 [.ilst 1 (List.map aY a) false,.ilst 1 (List.map aY a) false] (.bool true) :=by
 refine aH kR0 rfl rfl ?_;exact(aGY a a (by simp)).ends (aX3 a b a 0 rfl)
theorem nA {lo n:Int}:∀ {b:List Int} {u v:List Bool},marks lo n b u=some v→∀k∈b,lo≤k∧k≤n-1
 | [],_,_,_,k,hk=>by cases hk
 | a ::b,u,v,h,k,hk=>by
  simp only [marks]at h;split at h
  · rename_i g;rcases zq7.1 hk with rfl|hk
    ·exact inB_iff.1 g.1
    ·exact nA h k hk
  ·cases h
theorem vI {lo n:Int}:∀ {b:List Int} {u v:List Bool},marks lo n b u=some v→∀m:Nat,v[m]?=some true→u[m]?=some true∨∃k∈b,k.toNat=m
 | [],u,v,h,m,hm=>by simp only [marks,Option.some.injEq]at h;rw [h];exact .inl hm
 | a ::b,u,v,h,m,hm=>by
  simp only [marks]at h;split at h
  · rcases vI h m hm with g| ⟨k,hk,e⟩
    · by_cases e:a.toNat=m
      ·exact .inr ⟨a,dJ ..,e⟩
      ·rw [getElem?_set_ne e]at g;exact .inl g
    ·exact .inr ⟨k,dR _ hk,e⟩
  ·cases h
theorem nB {lo n:Int}:∀ {b:List Int} {u v:List Bool},marks lo n b u=some v→∀m:Nat,u[m]?=some true→v[m]?=some true
 | [],u,v,h,m,hm=>by simp only [marks,Option.some.injEq]at h;rw [←h];exact hm
 | a ::b,u,v,h,m,hm=>by
  simp only [marks]at h;split at h
  · rename_i g;refine nB h m ?_;by_cases e:a.toNat=m
    ·subst e;rw [hm]at g;exact absurd g.2 (by simp)
    ·rw [getElem?_set_ne e];exact hm
  ·cases h
theorem iM {lo n k:Int}{ks:List Int}{u v:List Bool}(h:marks lo n (k::ks) u=some v) :u[k.toNat]?=some false∧marks lo n ks (u.set k.toNat true) =some v:=by
 simp only [marks]at h;split at h
 ·rename_i g;exact⟨g.2,h⟩
 ·cases h
theorem eE {p:Prog}{i:Nat}{x:Node}{t:List Node}{u v:List Bool}(h:bN p i (x::t) u=some v) :aW p x=true∧∃w,marks ((i:Int) +1) p.nodes.length x.kids u=some w∧bN p (i+1) t w=some v:=by
 simp only [bN]at h;split at h
 · rename_i g;split at h
   ·rename_i w a;exact⟨g,w,a,h⟩
   ·cases h
 ·cases h
theorem zO {p:Prog}:∀ {t:List Node} {i:Nat} {u v:List Bool},bN p i t u=some v→∀m:Nat,m≤i→v[m]?=some true→u[m]?=some true
 | [],i,u,v,h,m,_,hm=>by simp only [bN,Option.some.injEq]at h;rw [h];exact hm
 | x::t,i,u,v,h,m,c,hm=>by
  obtain⟨_,w,a,b⟩ :=eE h;rcases vI a m (zO b m (by omega) hm)with g| ⟨k,hk,e⟩
  ·exact g
  ·have:=nA a k hk;omega
theorem lX {p:Prog}:∀ {t:List Node} {i:Nat} {u v:List Bool},bN p i t u=some v→v.length=u.length
 | [],i,u,v,h=>by simp only [bN,Option.some.injEq]at h;rw [h]
 | x::t,i,u,v,h=>by
  obtain⟨_,w,b,a⟩ :=eE h;rw [lX a,kA b]
theorem jM {p:Prog}:∀ {t:List Node} {i:Nat} {u v:List Bool},bN p i t u=some v→∀ (j:Nat) (x:Node),t[j]?=some x→aW p x=true∧∀k∈x.kids,((i+j:Nat) :Int) <k∧k<p.nodes.length
 | [],i,u,v,h,j,x,a=>by simp at a
 | y::t,i,u,v,h,j,x,a=>by
  obtain⟨g,w,c,b⟩ :=eE h;cases j with
  | zero=>
   simp at a;subst a;exact⟨g,fun k hk=>by have:=nA c k hk;omega⟩
  | succ j=>
   have:=jM b j x (by simpa using a);exact⟨this.1,fun k hk=>by have:=this.2 k hk;omega⟩
theorem zP {p:Prog}:∀ {t:List Node} {i:Nat} {u v:List Bool},bN p i t u=some v→∀m:Nat,v[m]?=some true→u[m]?=some true∨∃ (j:Nat) (x:Node) (k:Int),t[j]?=some x∧k∈x.kids∧k.toNat=m
 | [],i,u,v,h,m,hm=>by simp only [bN,Option.some.injEq]at h;rw [h];exact .inl hm
 | y ::t,i,u,v,h,m,hm=>by
  obtain⟨g,w,d,c⟩ :=eE h;rcases zP c m hm with a| ⟨j,x,k,f,e,n⟩
  · rcases vI d m a with b| ⟨k,o,l⟩
    ·exact .inl b
    ·exact .inr ⟨0,y,k,rfl,o,l⟩
  ·exact .inr ⟨j+1,x,k,by simpa using f,e,n⟩
theorem nV {x:Node}{i:Nat}{lo n:Int}:∀ {t:List Int} {j:Nat} {u v:List Bool} {l:List Int},marks lo n t u=some v→∀m:Nat,u[m]?=some true→ (iK x i j t l)[m]?=l[m]?
 | [],_,_,_,_,_,_,_=>rfl
 | k::t,j,u,v,l,h,m,hm=>by
  obtain⟨b,c⟩ :=iM h;have a:k.toNat≠m:=fun e=>by rw [e,hm]at b;cases b
  rw [iK,nV c m (by rw [getElem?_set_ne a];exact hm),getElem?_set_ne a]
theorem lY {p:Prog}:∀ {t:List Node} {i:Nat} {u v:List Bool} {l:List Int},bN p i t u=some v→∀m:Nat,u[m]?=some true→ (gV i t l)[m]?=l[m]?
 | [],_,_,_,_,_,_,_=>rfl
 | x::t,i,u,v,l,h,m,hm=>by
  obtain⟨_,w,a,b⟩ :=eE h;rw [gV,lY b m (nB a m hm),nV a m hm]
theorem aA9 {lo n:Int}:∀ {t:List Int} {u v:List Bool} {l:List Int},marks lo n t u=some v→∀m:Nat,u[m]?=some true→ (oV t l)[m]?=l[m]?
 | [],_,_,_,_,_,_=>rfl
 | k::t,u,v,l,h,m,hm=>by
  obtain⟨b,c⟩ :=iM h;have a:k.toNat≠m:=fun e=>by rw [e,hm]at b;cases b
  rw [oV,aA9 c m (by rw [getElem?_set_ne a];exact hm),getElem?_set_ne a]
theorem aDu {x:Node}{i:Nat}{lo n:Int}:∀ {t:List Int} {j:Nat} {u v:List Bool} {l:List Int},marks lo n t u=some v→u.length=l.length→u[i]?=some true→∀ (d:Nat) (k:Int),t[d]?=some k→ (iK x i j t l)[k.toNat]?=some (l.getD i 0+cV x ((j+d:Nat) :Int))
 | [],_,_,_,_,_,_,_,d,k,hk=>by simp at hk
 | a::t,j,u,v,l,h,c,o,d,k,hk=>by
  obtain⟨f,m⟩ :=iM h;have b:a.toNat≠i:=fun e=>by rw [e,o]at f;cases f
  have g:a.toNat<u.length:= (zq0.1 f).1;rw [iK];cases d with
  | zero=>
   simp at hk;subst hk;rw [nV m _ (by rw [getElem?_set_self g]),getElem?_set_self (by omega)];simp
  | succ d=>
   have:=aDu (x:=x) (i:=i) (j:=j+1) (l:=l.set a.toNat (l.getD i 0+cV x j)) m (by simpa using c) (by rw [getElem?_set_ne b];exact o) d k (by simpa using hk);rw [this,pV,getElem?_set_ne b,←pV];congr 3;omega
theorem aBa {p:Prog}:∀ {t:List Node} {i:Nat} {u v:List Bool} {l:List Int},bN p i t u=some v→ (∀m,m<v.length→v[m]?=some true) →u.length=l.length→i+t.length≤u.length→∀ (j:Nat) (x:Node) (d:Nat) (k:Int),t[j]?=some x→x.kids[d]?=some k →
  ∃s,(gV i t l)[i+j]?=some s∧ (gV i t l)[k.toNat]?=some (s+cV x d)
 | [],_,_,_,_,_,_,_,_,j,x,d,k,e,_=>by simp at e
 | y ::t,i,u,v,l,h,B,g,o,j,x,d,k,e,hk=>by
  obtain⟨_,w,c,b⟩ :=eE h;have A:=kA c;simp only [rY]at o;rw [gV];cases j with
  | zero=>
   simp at e;subst e;have F:=lX h;have z:u[i]?=some true:=zO h i (le_refl _) (B i (by omega));have q:=aDu (x:=y) (i:=i) (j:=0) (l:=l) c g z d k hk;have r:w[k.toNat]?=some true:=by
    have D:=nA c k (oG hk);have all:∀ {C n:Int} {f:List Int} {u v:List Bool},marks C n f u=some v→∀k∈f,v[k.toNat]?=some true:=by
     intro C n f
     induction f with
     |nil=>intro u v _ k hk;cases hk
     | cons a f H=>
      intro u v h k hk;obtain⟨G,b⟩ :=iM h;rcases zq7.1 hk with rfl|hk
      ·exact nB b _ (getElem?_set_self (zq0.1 G).1)
      ·exact H b k hk
    exact all c k (oG hk)
   refine⟨l.getD i 0,?_,?_⟩
   · show(gV (i+1) t (iK y i 0 y.kids l))[i]?=some (l.getD i 0);rw [lY b i (nB c i z),nV c i z,pV,lZ (by omega)];rfl
   ·rw [lY b _ r,q];simp
  | succ j=>
   obtain⟨s,J,I⟩ :=aBa (l:=iK y i 0 y.kids l) b B (by rw [rM,A,g]) (by omega) j x d k (by simpa using e) hk;exact⟨s,by rw [←J];congr 1;omega,I⟩
structure Sprop (p:Prog) (S:List Int) :Prop where
 len:S.length=p.nodes.length
 root:∀f∈p.funs,S[f.toNat]?=some 1
 kid:∀ (i:Nat) (x:Node) (d:Nat) (k:Int),p.nodes[i]?=some x→x.kids[d]?=some k→∃s,S[i]?=some s∧S[k.toNat]?=some (s+cV x d)
def aG1 (p:Prog) :Prop:=∀m,m<p.nodes.length→ (∃f∈p.funs,f.toNat=m) ∨∃ (i:Nat) (x:Node) (k:Int),p.nodes[i]?=some x∧k∈x.kids∧k.toNat=m∧i<m
theorem aBb {lo n:Int}:∀ {t:List Int} {u v:List Bool} {l:List Int},marks lo n t u=some v→u.length=l.length→∀f∈t,(oV t l)[f.toNat]?=some 1
 | [],_,_,_,_,_,f,b=>by cases b
 | a::t,u,v,l,h,d,f,b=>by
  obtain⟨g,e⟩ :=iM h;have c:a.toNat<u.length:= (zq0.1 g).1;rw [oV];rcases zq7.1 b with rfl|b
  ·rw [aA9 e _ (getElem?_set_self c),getElem?_set_self (by omega)]
  ·exact aBb e (by simpa using d) f b
theorem gW {p:Prog}(N:aE p=true)(b:aM p=true) :FineP p∧Sprop p (iL p) ∧aG1 p:=by
 have C:=N;simp only [aE,dC,decide_eq_true_eq]at C;obtain⟨⟨⟨⟨I,L⟩,R⟩,_⟩,J⟩ :=C;simp only [aM,dC]at b;obtain⟨_,b⟩ :=b;split at b
 · rename_i u o;unfold allT at b;split at b
   · rename_i v q;have t:u.length=p.nodes.length:=by rw [kA o];simp
     have O:v.length=p.nodes.length:=by rw [lX q,t]
     have e:∀m,m<v.length→v[m]?=some true:=fun m hm=>by
      rw [lZ hm];have:=zq27.1 b _ (List.getElem_mem hm);simpa using this
     have c:=jM q;refine⟨⟨I,L,fun i x y=>?_,fun f b=>?_⟩,⟨aDt p,fun f b=>?_,fun i x d k y hk=>?_⟩,fun m hm=>?_⟩
     · have:=c i x y;have r:=zq27.1 J x (oG y);simp only [bA,dC,decide_eq_true_eq]at r;exact⟨aM0 this.1,r.1.1,fun k hk=>by have:=this.2 k hk;omega⟩
     ·have:=nA o f b;omega
     · rw [iL];have z:u[f.toNat]?=some true:=by
        have all:∀ {G n:Int} {w:List Int} {u v:List Bool},marks G n w u=some v→∀k∈w,v[k.toNat]?=some true:=by
         intro G n w
         induction w with
         |nil=>intro u v _ k hk;cases hk
         | cons a w Q=>
          intro u v h k hk;obtain⟨K,D⟩ :=iM h;rcases zq7.1 hk with rfl|hk
          ·exact nB D _ (getElem?_set_self (zq0.1 K).1)
          ·exact Q D k hk
        exact all o f b
       rw [lY q _ z];exact aBb o (by simp) f b
     · obtain⟨s,B,A⟩ :=aBa (l:=oV p.funs (replicate p.nodes.length 0)) q e (by rw [xJ,t];simp) (by omega) i x d k y hk;exact⟨s,by rw [iL,←B];congr 1;omega,A⟩
     · rcases zP q m (e m (by omega))with g| ⟨j,x,k,H,F,M⟩
       · rcases vI o m g with a| ⟨f,B,A⟩
         ·rw [List.getElem?_replicate]at a;split at a<;>simp at a
         ·exact .inl ⟨f,B,A⟩
       · have:= (c j x H).2 k F;exact .inr ⟨j,x,k,H,F,M,by omega⟩
   ·cases b
 ·cases b
inductive Reach (p:Prog) :Nat→Nat→Prop where
 |refl (a:Nat) :Reach p a a
 |step {a i:Nat} {x:Node} {k:Int}:Reach p a i→p.nodes[i]?=some x→k∈x.kids→Reach p a k.toNat
theorem Reach.first {p:Prog}{a m:Nat}(h:Reach p a m) :m=a∨∃ (x:Node) (k:Int),p.nodes[a]?=some x∧k∈x.kids∧Reach p k.toNat m:=by
 induction h with
 |refl=>exact .inl rfl
 | step h hx hk ih=>
  rename_i i x k;rcases ih with rfl| ⟨y,q,h1,h2,h3⟩
  ·exact .inr ⟨x,k,hx,hk,Reach.refl _⟩
  ·exact .inr ⟨y,q,h1,h2,h3.step hx hk⟩
theorem aEd {p:Prog}(hc:aG1 p) :∀m,m<p.nodes.length→∃f∈p.funs,Reach p f.toNat m:=by
 intro m
 induction m using Nat.strongRecOn with
 | ind m ih=>
  intro hm;rcases hc m hm with⟨f,h1,h2⟩ | ⟨i,x,k,h1,h2,h3,h4⟩
  ·exact⟨f,h1,h2 ▸ Reach.refl _⟩
  · obtain⟨f,g1,g2⟩ :=ih i h4 (by omega);exact⟨f,g1,h3 ▸ g2.step h1 h2⟩
theorem aFf {p:Prog}(hp:FineP p){S:List Int}(hS:Sprop p S) :∀ (f:Nat) (a:Nat) (s:Int),a<p.nodes.length→p.nodes.length-a≤f→S[a]?=some s →
  (gC p f (a:Int) s=true↔∀m:Nat,Reach p a m→mZ p S m=true)
 |0,a,s,ha,hf,_=>by omega
 | f + 1,a,s,ha,hf,hs=>by
  obtain⟨x,hx⟩ :∃x,p.nodes[a]?=some x:= ⟨_,lZ ha⟩;obtain⟨_,_,hks⟩ :=hp.node a x hx;have e:gC p (f+1) (a:Int) s= (if x.op=4∧x.n≥s then false else aEb (gC p f) x s 0 x.kids) :=by
   rw [gC];simp only [xW,hx]
  have ok:mZ p S a=true↔¬ (x.op=4∧x.n≥s) :=by
   unfold mZ;rw [hx,hs];by_cases h4:x.op=4<;>by_cases hn:x.n≥s<;>simp [h4,hn]
  have fold:∀ (t:List Int) (j:Nat),x.kids.drop j=t→ (aEb (gC p f) x s j t=true↔∀k∈t,∀m:Nat,Reach p k.toNat m→mZ p S m=true) :=by
   intro t
   induction t with
   |nil=>intro j _;exact⟨fun _ k hk=> (by cases hk),fun _=>rfl⟩
   | cons k t ih=>
    intro j h;obtain⟨g1,g2,g3⟩ :=bH h;have hk:=hks k (oG g1);obtain⟨s',c1,c2⟩ :=hS.kid a x j k hx g1;rw [hs]at c1;cases c1;have hkn: ((k.toNat:Nat) :Int) =k:=by omega
    have w:=aFf hp hS f k.toNat (s+cV x j) (by omega) (by omega) c2;rw [hkn]at w;rw [aEb,dC,w,ih (j+1) g2];constructor
    · intro⟨h1,h2⟩ q hq;rcases zq7.1 hq with rfl|hq
      ·exact h1
      ·exact h2 q hq
    · intro h;exact⟨h k (dJ ..),fun q hq=>h q (dR _ hq)⟩
  rw [e];constructor
  · intro h m hr;split at h
    ·cases h
    · rename_i hno;rcases hr.first with rfl| ⟨y,k,h1,h2,h3⟩
      ·exact ok.2 hno
      · rw [hx]at h1;cases h1;exact(fold x.kids 0 rfl).1 h k h2 m h3
  · intro h;have h0:=ok.1 (h a (Reach.refl _));rw [if_neg h0];refine(fold x.kids 0 rfl).2 fun k hk m hr=>h m ?_;have all:∀ {b m:Nat},Reach p b m→∀ {a:Nat} {x:Node} {k:Int},p.nodes[a]?=some x→k∈x.kids→b=k.toNat→Reach p a m:=by
     intro b m hr
     induction hr with
     |refl=>intro a x k hx hk e;rw [e];exact(Reach.refl a).step hx hk
     |step h hx' hk' ih=>intro a x k hx hk e;exact(ih hx hk e).step hx' hk'
    exact all hr hx hk rfl
theorem aJx {p:Prog}(hp:FineP p){S:List Int}(hS:Sprop p S) :∀ (t:List Int),(∀f∈t,f∈p.funs) → (aPf p t=true↔∀f∈t,∀m:Nat,Reach p f.toNat m→mZ p S m=true)
 | [],_=> ⟨fun _ f hf=> (by cases hf),fun _=>rfl⟩
 | a ::t,ht=>by
  have ha:=hp.funs a (ht a (dJ ..));have han: ((a.toNat:Nat) :Int) =a:=by omega
  have w:=aFf hp hS p.nodes.length a.toNat 1 (by omega) (by omega) (hS.root a (ht a (dJ ..)));rw [han]at w;rw [aPf,dC,w,aJx hp hS t (fun f hf=>ht f (dR _ hf))];constructor
  · intro⟨h1,h2⟩ q hq;rcases zq7.1 hq with rfl|hq
    ·exact h1
    ·exact h2 q hq
  · intro h;exact⟨h a (dJ ..),fun q hq=>h q (dR _ hq)⟩
theorem zQ (p:Prog)(S:List Int) :∀ (t:List Int) (i:Nat),fC p S i t=true↔∀j,j<t.length→mZ p S (i+j) =true
 | [],i=>by simp [fC]
 | a ::t,i=>by
  rw [fC,dC,zQ p S t (i+1)];constructor
  · intro⟨h1,h2⟩ j hj;cases j with
    |zero=>exact h1
    |succ j=>have:=h2 j (by simpa using hj);rw [show i+ (j+1) =i+1+j by omega];exact this
  · intro h;refine⟨h 0 (by simp),fun j hj=>?_⟩;have:=h (j+1) (by simpa using hj);rw [show i+1+j=i+ (j+1)by omega];exact this
theorem aPn {p:Prog}(hp:FineP p){S:List Int}(hS:Sprop p S)(hc:aG1 p) :aPf p p.funs=fC p S 0 S:=by
 rw [Bool.eq_iff_iff,aJx hp hS p.funs (fun f hf=>hf),zQ];constructor
 · intro h j hj;rw [hS.len]at hj;obtain⟨f,h1,h2⟩ :=aEd hc j hj;rw [jS];exact h f h1 j h2
 · intro h f hf m hr;by_cases hm:m<S.length
   ·have:=h m hm;rwa [jS]at this
   · unfold mZ;rw [aPG (by rw [hS.len]at hm;omega)]
def eA (p:Prog) :Bool×Int:=if aM p=true then(fC p (iL p) 0 (iL p),0)else(false,2)
theorem aWN {E:Emb}{e:Nat}{xs:List AV}{n:AV}{cv:Value}(h:VR E (.tup [.ilst e xs true,n]) cv) :VR E (.tup [.ilst e xs false,n]) cv:=by
 simp only [VR]at h ⊢;obtain⟨us,h1,h2⟩ :=h;obtain⟨u,us',rfl,h3,h4⟩ :=h2.cons_inv;exact⟨_,h1,VRs.cons (xE h3) h4⟩
theorem zR {p:Prog}(hs:aE p=true) :aK PP 56 [Prog.av p] (.int .i64 (checkN (aM p))) :=by
 have h2:=aJe p hs;rw [aO0]at h2;exact h2
theorem zS {p:Prog}(hs:aE p=true) :aK PP 57 [Prog.av p] (.tup [.bool (eA p).1,.int .i64 (eA p).2]) :=by
 refine aH kR0 rfl rfl ?_;have hc:=zR hs;have e0: (start PP 57 [Prog.av p]).as= (aVS p).as:=by kernel_rfl
 rw [e0];cases hf:aM p
 case false=>
  rw [hf]at hc;exact Ends.eqv (aUE p _ hc (by rfl)) (by simp [eA,hf,checkN])
 rw [hf]at hc;obtain⟨q1,q2,q3⟩ :=gW hs hf;refine(aUF p _ hc (by rfl)).ends ?_;exact Ends.eqv (aJu q1 p.funs 0 rfl) (by rw [aPn q1 q2 q3];simp [eA,hf])
def aX4 (cons:List Int)(f n:Int) :Option Int:=if f=6 then(if 0≤n then cons[n.toNat]? else none)else some n
mutual
def aZJ (cons:List Int) :Pat→Option Pat
 | .mk f n t ps=>match aX4 cons f n with
  | some n'=>match aRH cons ps with
   |some ps'=>some (.mk f n' t ps')
   |none=>none
  |none=>none
def aRH (cons:List Int) :List Pat→Option (List Pat)
 | [] =>some []
 | p::ps=>match aZJ cons p with
  | some p'=>match aRH cons ps with
   |some ps'=>some (p'::ps')
   |none=>none
  |none=>none
end
def mN (funs cons:List Int)(op n:Int) :Option Int:=
 if op=4∧n<0 then
  match funs[(-1-n).toNat]? with
  |some g=>if -1000000000≤n∧ -1000000000≤g∧g≤1000000000 then some (-1-g)else none
  |none=>none
 else if op=14 then(if 0≤n then cons[n.toNat]? else none)else some n
def aVX (f:Nat→Int→Option (List Node)) :Nat→List Int→Option (List Int×List Node)
 |_,[] =>some ([],[])
 | len,c::cs=>match f len c with
  | some ns=>match aVX f (len+ns.length) cs with
   |some (ks,r) =>some ((len:Int) ::ks,ns++r)
   |none=>none
  |none=>none
def aRI (p:Prog)(funs cons:List Int) :Nat→Nat→Int→Option (List Node)
 |0,_,_=>none
 | k+1, len,at0=>if 0≤at0∧len<1000000 then
   match p.nodes[at0.toNat]? with
   | some y=>if y.kids.length<1000000∧bE y.pats<1000000 then
     match mN funs cons y.op y.n with
     | some n'=>match aRH cons y.pats with
      | some ps'=>match aVX (aRI p funs cons k) (len+1) y.kids with
       |some (ks,r) =>some (⟨y.op,n',ks,ps'⟩ ::r)
       |none=>none
      |none=>none
     |none=>none
    else none
   |none=>none
  else none
abbrev PA (p:Prog) :AV:=.agg [(.ilst 4 (List.map Node.av p.nodes) false),(.ilst 1 (List.map aY p.funs) false),(.int .i64 p.main),(.ilst 2 (List.map Con.av p.cons) false)]
abbrev OL (L:List ONode) :AObj:=.lst 4 (List.map ONode.av L)
abbrev EndsL (s:TS)(L:List ONode) :Prop:=Ends PP 0 s.as (.ret (.gl 0 4 0 (length L) false)) (aA [(0,OL L,true)] 1)
def aVd (p:Prog)(funs cons:List Int)(c:Int)(L:List ONode)(ns:List Node) :Prop:=
 aXs PP (.enter 50 [.gl 0 4 0 (length L) false,PA p,.int .i64 c,.ilst 1 (List.map aY funs) false,.ilst 1 (List.map aY cons) false]) (aA [(0,OL L,true)] 1)
  (.ret (.gl 0 4 0 (length (L++List.map Node.o ns)) false)) (aA [(0,OL (L++List.map Node.o ns),true)] 1)
theorem aX5 (L:List ONode) : (OL L).kl:=bL _ (fun _=>jL _) _
end
end Go.Hb
