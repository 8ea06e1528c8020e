/- A machine on abstract values, its soundness, ways, plain laws. -/
import Derived.Test.YtnljmgihoioocaaGreatHF
import Derived.Test.YtnljmgihoioocaaGreatHG
import Derived.Test.YtnljmgihoioocaaGreatHH
import Derived.Test.YtnljmgihoioocaaGreatHL
import Derived.Test.YtnljmgihoioocaaGreatHM
import Derived.Test.YtnljmgihoioocaaGreatHN
set_option linter.defProp false
set_option linter.unusedVariables false
set_option linter.unusedSimpArgs false
set_option linter.unusedSectionVars false
set_option maxRecDepth 100000
set_option maxHeartbeats 1000000
namespace Go.Hb
open AV (agg cells frzOk ilst keyless keylessL)
open List (drop getElem?_set length map nil_append range set take)
open Go.Proofs Tryz
noncomputable section
theorem aGV {p:Prog}{Z:List Int}(b:Sprop p Z){i:Nat}{x:Node}(f:p.nodes[i]?=some x) :∀ (t:List Int) (j:Nat) (l:List Int) (P:Nat→Prop),x.kids.drop j=t→l.length=p.nodes.length→P i→ (∀m,P m→l[m]?=Z[m]?) →∀m,(P m∨∃k∈t,k.toNat=m) → (jP x i j t l)[m]?=Z[m]?
 | [],j,l,P,h,hl,d,a,m,hm=>by
  rcases hm with hm| ⟨k,hk,_⟩
  ·exact a m hm
  ·cases hk
 | k ::t,j,l,P,h,hl,d,a,m,hm=>by
  obtain⟨r,o,_⟩ :=bE h;obtain⟨s,u,n⟩ :=b.kid i x j k f r;have v:l.getD i 0=s:=by rw [nY,a i d,u];rfl
  have c:k.toNat<l.length:=by have:= (zq0.1 n).1;rw [hl,←b.len];exact this
  rw [jP,v];refine aGV b f t (j+1) (l.set k.toNat (s+dF x j)) (fun m=>P m∨k.toNat=m) o (by simpa using hl) (.inl d) (fun m hm=>?_) m ?_
  · rw [getElem?_set];by_cases g:k.toNat=m
    ·rw [if_pos g,if_pos c,←g,n]
    · rw [if_neg g];rcases hm with hm|hm
      ·exact a m hm
      ·exact absurd hm g
  · rcases hm with hm| ⟨q,hk,e⟩
    ·exact .inl (.inl hm)
    · rcases zq7.1 hk with rfl|hk
      ·exact .inl (.inr e)
      ·exact .inr ⟨q,hk,e⟩
theorem aDX {p:Prog}{Z:List Int}(r:Sprop p Z)(hc:zW p) :∀ (t:List Node) (i:Nat) (l:List Int),p.nodes.drop i=t→l.length=p.nodes.length →
  (∀m,((∃f∈p.funs,f.toNat=m) ∨∃ (b:Nat) (x:Node) (k:Int),p.nodes[b]?=some x∧k∈x.kids∧k.toNat=m∧b<i) →l[m]?=Z[m]?) →∀m,m<p.nodes.length→ (iE i t l)[m]?=Z[m]?
 | [],i,l,h,hl,j,m,hm=>by
  have:=bH h;rcases hc m hm with a| ⟨b,x,k,a,d,c,q⟩
  ·exact j m (.inl a)
  ·exact j m (.inr ⟨b,x,k,a,d,c,by omega⟩)
 | x :: t,i,l,h,hl,j,m,hm=>by
  obtain⟨o,s,w⟩ :=bE h;rw [iE];have v:i<p.nodes.length:= (zq0.1 o).1;refine aDX r hc t (i+1) _ s (by rw [qF,hl]) (fun u n=>?_) m hm;refine aGV r o x.kids 0 l (fun m=> (∃f∈p.funs,f.toNat=m) ∨∃ (b:Nat) (x:Node) (k:Int),p.nodes[b]?=some x∧k∈x.kids∧k.toNat=m∧b<i) rfl hl ?_ j u ?_
  · rcases hc i v with a| ⟨b,y,k,a,d,c,q⟩
    ·exact .inl a
    ·exact .inr ⟨b,y,k,a,d,c,q⟩
  · rcases n with a| ⟨b,y,k,a,d,c,q⟩
    ·exact .inl (.inl a)
    · by_cases g:b<i
      ·exact .inl (.inr ⟨b,y,k,a,d,c,g⟩)
      · have e:b=i:=by omega
        subst e;rw [o]at a;cases a;exact .inr ⟨k,d,c⟩
theorem aGW :∀ (t:List Int) (l:List Int),(∀f∈t,f.toNat<l.length) →∀m,((∃f∈t,f.toNat=m) ∨l[m]?=some 1) → (nH t l)[m]?=some 1
 | [],l,_,m,hm=>by
  rcases hm with⟨f,b,_⟩ |hm
  ·cases b
  ·exact hm
 | a ::t,l,hb,m,hm=>by
  rw [nH];have c:=hb a (cQ ..);refine aGW t _ (fun f b=>by rw [dZ];exact hb f (cL _ b)) m ?_;by_cases g:a.toNat=m
  ·exact .inr (by rw [getElem?_set,if_pos g,if_pos c])
  · rcases hm with⟨f,b,e⟩ |hm
    · rcases zq7.1 b with rfl|b
      ·exact absurd e g
      ·exact .inl ⟨f,b,e⟩
    ·exact .inr (by rw [getElem?_set,if_neg g];exact hm)
theorem aVf {p:Prog}(hp:FineP p){Z:List Int}(b:Sprop p Z)(hc:zW p) :kF p=Z:=by
 have hl: (nH p.funs (List.replicate p.nodes.length 0)).length=p.nodes.length:=by rw [vG];simp
 apply List.ext_getElem?;intro m;by_cases hm:m<p.nodes.length
 · refine aDX b hc p.nodes 0 _ rfl hl (fun d c=>?_) m hm;rcases c with⟨f,a,e⟩ | ⟨g,_,_,_,_,_,h⟩
   · have:=hp.funs f a;rw [aGW p.funs _ (fun f a=>by have:=hp.funs f a;simp;omega) d (.inl ⟨f,a,e⟩),←e,b.root f a]
   ·omega
 ·rw [aIy (by rw [aA9];omega),aIy (by rw [b.len];omega)]
def yJ (l:List Int) :Bool:=l.all fun z=>decide (z≤30)
theorem aN6 (p:Prog)(S:List Int)(a:S.length≤1000) :∀ (t:List Int) (i:Nat),S.drop i=t→Ends PP 0 (aEM p S (i:Int)).as (.ret (.tup [Prog.av (if yJ t then p else rM),.int .i64 (if yJ t then 0 else 3)])) (aA [] 0)
 | [],i,h=>by
  have:=bH h;exact aZT p S (i:Int) sd
 | s ::t,i,h=>by
  obtain⟨c,b,d⟩ :=bE h;by_cases g:s≤30
  · have e:yJ (s::t) =yJ t:=by simp [yJ,g]
    rw [e];exact(aZS p S (i:Int) s sd sd sd (by simpa using g) sd).ends (aN6 p S a t (i+1) b)
  · have e:yJ (s::t) =false:=by simp [yJ,g]
    rw [e];exact Ends.val (aZR p S (i:Int) s sd sd sd (by simpa using g)) (fun E f h=>qJ h)
def aDY (ts:List XT) :Bool:=vK (aD ts:Nat) &&yJ (zF ts)
theorem aVg {B:Int}{ts:List XT}{mn:Int}{cs:List Con}(d:FineXs B ts)(c:mO (rO cs) ts)(hl:ts.length≤320) :
  aK PP 43 [Prog.av (hN ts mn cs)] (.tup [Prog.av (if aDY ts then hN ts mn cs else rM),.int .i64 (if aDY ts then 0 else 3)]) :=by
 have b: (hN ts mn cs).nodes.length=aD ts:=by simp only [hN,aGv];rw [nK]
 refine oI (s:=aZg (hN ts mn cs)) aC aC rfl (by rfl) ?_;by_cases g:aD ts≤300
 · have e:aDY ts=yJ (zF ts) :=by
    have:vK (aD ts:Nat) =true:=by simp [vK];omega
    rw [aDY,this,mL]
   have a:FineP (hN ts mn cs) :=aRe d c (by omega) hl;have hz:=aDP a;rw [aVf a bEe aVd]at hz;rw [e];exact(aZQ _ _ (by rw [b];simp;omega) hz).ends (aN6 _ _ (by rw [aRf];omega) (zF ts) 0 rfl)
 · have e:aDY ts=false:=by
    have:vK (aD ts:Nat) =false:=by simp [vK];omega
    rw [aDY,this,Bool.false_and]
   rw [e];exact Ends.val (aZP _ (by rw [b];simp;omega)) (fun E f h=>qJ h)
theorem bAJ {ts:List XT}{cs:List Con}(hc:cs.length≤20) :aDY ts=aAE 30 cs ts:=by
 have h:yJ (zF ts) = (ts.all fun t=>zOk 30 t 1) :=by
  rw [Bool.eq_iff_iff,←bFi];simp [yJ]
 rw [aDY,aAE,h,decide_eq_true hc,Bool.and_true,Bool.and_comm]
noncomputable def bEv (p:Prog) :Int:=if aM p=false then 2 else if(cP p).1=false then 7 else 0
theorem aIt {p:Prog}(d:aJ p=true) :aK PP 39 [Prog.av p] (.int .i64 (bEv p)) :=by
 refine oI (s:=aZh p) aC aC rfl (by rfl) ?_;have a:=aJz p d;unfold bEv;cases c:aM p
 case false=>
  rw [c]at a;exact aZU p false a rfl
 rw [c]at a;obtain⟨f,_,_⟩ :=iF d c;have b:=aQM f;have e: (cP p).1=gW p (kF p) 0 (kF p) :=by rw [cP,if_pos c]
 rw [←e]at b;cases hc: (cP p).1
 case false=>rw [hc]at b;exact aZV p true false a rfl b rfl
 rw [hc]at b;exact aZW p true true a rfl b rfl
theorem aVh {p:Prog}(d:aJ p=true)(f:aM p=true){ts:List XT}(c:aO p ts p.funs) :aK PP 49 [Prog.av p] (.ilst 1 (map cG (dC ts 0)) false) :=by
 refine oI (s:=aZ0 p) aC aC rfl (by rfl) ?_;have hb:=d;simp only [aJ,dS,decide_eq_true_eq]at hb;obtain⟨hp,_,_⟩ :=iF d f;have k:=aGz d f c;have l:=eQ c;have a:=vJ hp (vW f) ts p.funs c;have n:=aNJ (aEF d) (by omega) c;have i:=aZ9 p ts (qO (m:=0) (ks:=[]) n aC aC trivial ⟨mB _,trivial⟩);refine i.ends ?_
 have j:=aNU (B:=400) p (by decide) (v:=.ilst 1 (map cG (dC ts 0)) false) (hp:=aA [] 0) ts [] 0 [] false a (by omega) (by omega) (by simp;omega) (by simp;omega) (fun r b q h e g o=>by
  rw [aNW (-1) ts 0 false (by omega)]at e;simp only [nil_append]at e g;rw [e,g];exact bAc p ts _ b h (dC ts 0) (hN ts p.main p.cons) (by simp) (aNT ts p.main p.cons (by omega) (by omega) a (by omega)))
 exact j
theorem aN7 {p:Prog}(a:aM p=true) :p.cons.length≤20:=by
 simp only [aM,aCX,dS,decide_eq_true_eq]at a;exact a.1.2.1.2
abbrev aK8 (a:Nat)(b c:Int)(d:List Pat)(e:List RT):=oC a [(nI b),(nI c),(iP d),(.ilst 4 (RTs.av e) false)]
abbrev aRq (a:Nat):=oC a [.nils,(nI 0),(nI 0),.nils,.nils]
abbrev bAK (a b:Int)(c:List Pat)(d e f:List RT):=[aK8 0 a b c d,aRq 1,oC 2 [(.gl 3 4 0 e.length false),(nI a),(nI b),(iP c),(.gl 4 4 0 f.length false)],oL 3 4 (RTs.av e),oL 4 4 (RTs.av f)]
abbrev qL (a:Flow):AV:=.agg [(.ilst 4 (RTs.av a.binds) false),(nI a.last.op),(nI a.last.n),(iP a.last.pats),(.ilst 4 (RTs.av a.last.kids) false)]
abbrev aRr (a:List RT)(b c:Int)(d:List Pat)(e:List RT):AV:=.agg [(.ilst 4 (RTs.av a) false),(nI b),(nI c),(iP d),(.ilst 4 (RTs.av e) false)]
abbrev fD (a b:Int)(c:List Pat)(d:List RT):AV:=.agg [(nI a),(nI b),(iP c),(.ilst 4 (RTs.av d) false)]
abbrev aK9 (a:Flow):AV:=.ilst 4 (RTs.av a.last.kids) false
abbrev qM (a:List RT):AV:=.ilst 4 (RTs.av a) false
def bIr(a:List Int)(b c:Int):TS:=aX PP 81 [(iI a),(nI b),(nI c)] [] 0
def aLa(e:List Int)(b c d:Int)(a:List Int):TS:=⟨(tf 81 23 [(1,(nI b)),(2,(nI c)),(6,.nils),(7,(.gl 0 1 0 a.length false)),(8,(nI d))] [kc f81 116,kl f81 116,.inBlock 0,kc f81 15]),[],[oL 0 1 (jI a)],1⟩
def bG3(a:List RT)(b c:Int)(d:List Pat)(e:List RT):TS:=aX PP 80 [(aRr a b c d e)] [] 0
def bAL(a:List RT)(b c:Int)(d:List Pat)(e:List RT):TS:=aX PP 80 [(aRr a b c d e)] [] 0
def bG4(a:Flow):TS:=aX PP 42 [(qL a)] [] 0
def aEQ(a:Flow)(b c d:Int)(e:List Pat)(f:List RT):TS:=⟨(tf 42 23 [kp 1 0,kp 2 1,kp 3 2,(4,(nI b))] [kc f42 116,kl f42 116,.inBlock 0,kc f42 15]),[],[oC 0 [(.ilst 4 (RTs.av a.binds) false),(nI a.last.op),(nI a.last.n),(iP a.last.pats),(aK9 a)],oC 1 [(nI 0),(nI 0),.nils,.nils],aK8 2 c d e f],3⟩
def aSR(a b:Int)(c:List Pat)(d:List RT)(e:List Int)(f:Int):TS:=aX PP 41 [(fD a b c d),(iI e),(nI f)] [] 0
def yK(a b:Int)(c:List Pat)(f:List RT)(g:List Int)(i j k:Int)(d e:List RT):TS:=⟨(tf 41 155 [(1,(iI g)),(2,(nI i)),kp 3 0,kp 6 1,kp 10 2,(11,(nI j)),(12,(nI k))] [kc f41 4084,kl f41 4084,.inBlock 0,kc f41 511]),[],(bAK a b c f e d),5⟩
def aBh(a b:Int)(c:List Pat)(f:List RT)(g:List Int)(k i j:Int)(d e:List RT):TS:=⟨(tf 41 155 [(1,(iI g)),kp 3 0,kp 6 1,kp 10 2,(14,(nI j)),(15,(nI i))] [kc f41 16372,kl f41 16372,.inBlock 2,kc f41 2047]),[],(bAK a b c f d e),5⟩
def bEw (a:List Int)(b c:Int):=fun d=>(tT 0 (bIr a b c)<|.i [rn 7,.appN (jI a) a.length] [hA (a.length≤1000000),hr (jI a),.q (p:=length (jI a) =a.length) (mR ..)]<|.W 9 1 [0] (aLa a b c 0 a)) d ⟨kk,trivial⟩
def bAM(e:List Int)(b d a:Int)(c:List Int):=tT 0 (aLa e b d a c)<|gd 7 13 (a<d) (gw 9 19 (b+a)<|ga 1 cG c [(b+a)]<|gw 6 15 (a+1)<|.W 3 3 [2] (aLa e b d (a+1) (c++ [(b+a)])))<|gz 8 6 0 1 cG c false<|gE 0 1 (iI c)
def bEx:=fun a b c d e f g i j=>bAM a b c d e|>.t f g i j ⟨kk,trivial⟩
def bEy:=fun a b c d e f=>bAM a b c d e|>.f f tv
def bAN (a:List RT)(b c:Int)(d:List Pat)(e:List RT):=fun f g=>(tT 0 (bG3 a b c d e)<|.i [rn 6,.reg (.d::.d::.app (RTs.av a) a.length::rd 3 [.app (RTs.av (a++ [(RT.mk b c d e)])) (a++ [(RT.mk b c d e)]).length,.d])] [hA (length a≤1000000),hr (RTs.av a),.q (p:=length (RTs.av a) =length a) (aLJ aE _),.q (p:=0+a.length≤length (RTs.av a)) (iY aE _),hA (length (a++ [(RT.mk b c d e)]) ≤1000000),.q (p:=take a.length (drop 0 (RTs.av a)) ++ (RTs.av [(RT.mk b c d e)]) = (RTs.av (a++ [(RT.mk b c d e)]))) (iZ aE _ _),.q (p:=a.length+length (RTs.av [(RT.mk b c d e)]) =length (a++ [(RT.mk b c d e)])) (jA aE _ _),hr (agg [(nI b),(nI c),(iP d),(qM e)]),hr (agg [(nI b),(nI c),(iP d),(qM e)])]<|.i [rn 1,.frz 2 3 (RTs.av (a++ [(RT.mk b c d e)]))] [.q (p:=keylessL (RTs.av (a++ [(RT.mk b c d e)])) =true) bT,.q (p:=frzOk 3 4 (RTs.av (a++ [(RT.mk b c d e)])) (RTs.av (a++ [(RT.mk b c d e)])) (.gl 3 4 0 (a++ [(RT.mk b c d e)]).length false)) (hX aE _)]<|gE 0 4 (.ilst 4 (RTs.av (a++ [(RT.mk b c d e)])) false)) f g tv
def bAO (a:List RT)(b c:Int)(d:List Pat)(e:List RT):=fun f g=>(tT 0 (bAL a b c d e)<|.i [rn 6,.reg (.d::.d::.app (RTs.av a) a.length::rd 3 [.app (RTs.av (a++ [(RT.mk b c d e)])) (a++ [(RT.mk b c d e)]).length,.d])] [hA (length a≤1000000),hr (RTs.av a),.q (p:=length (RTs.av a) =length a) (aLJ aE _),.q (p:=0+a.length≤length (RTs.av a)) (iY aE _),hA (length (a++ [(RT.mk b c d e)]) ≤1000000),.q (p:=take a.length (drop 0 (RTs.av a)) ++ (RTs.av [(RT.mk b c d e)]) = (RTs.av (a++ [(RT.mk b c d e)]))) (iZ aE _ _),.q (p:=a.length+length (RTs.av [(RT.mk b c d e)]) =length (a++ [(RT.mk b c d e)])) (jA aE _ _),hr (agg [(nI b),(nI c),(iP d),(qM e)]),hr (agg [(nI b),(nI c),(iP d),(qM e)])]<|.E 1 4 [3] (.gl 0 4 0 (a++ [(RT.mk b c d e)]).length false) [oL 0 4 (RTs.av (a++ [(RT.mk b c d e)]))] 1) f g ⟨bT,trivial⟩
def bAP (a:Flow):=fun b=>(tT 0 (bG4 a)<|.i [rn 17,aL a.binds] [.q (p:=((RTs.av a.binds).length:Int) = (a.binds.length:Int)) (eM aE _)]<|gw 1 10 ((a.binds.length:Int) -1)<|.W 4 3 [0,1,2] (aEQ a ((a.binds.length:Int) -1) a.last.op a.last.n a.last.pats a.last.kids)) b tv
def bAQ(b:Flow)(a c d:Int)(e:List Pat)(f:List RT):=tT 0 (aEQ b a c d e f)<|gd 6 12 (a≥0) (.y fun g:Int=>.y fun i:Int=>.y fun j:List Pat=>.y fun k:List RT=>.y fun l:Int=>.y fun m:Int=>.y fun n:List Pat=>.y fun o:List RT=>.i [rn 4,.reg (rd 3 [.ans (.idx (RT.av (RT.mk g i j k))),.d,.d,.pure (fD l m n o),.d])] [hA (0≤a),.a (((b.binds)[a.toNat]?) =some (RT.mk g i j k)) (dL aE),hA (aK PP 85 [(fD g i j k),(fD c d e f)] (fD l m n o))]<|gw 4 14 (a-1)<|.W 3 3 [0,1,2] (aEQ b (a-1) l m n o))<|gE 8 3 (fD c d e f)
def bAR:=fun a b c d e f g i j k l m n o p q r s t=>bAQ a b c d e f|>.t p g i j k l m n o q r s t tv
def bAS:=fun a b c d e f g=>bAQ a b c d e f|>.f g tv
def aLb(d e:Int)(f:List Pat)(c:List RT)(i:List Int)(g:Int):=tT 0 (aSR d e f c i g)<|kJ 9 78 [(fD d e f c)]<|fun s=>.b 1 18 s (.y fun j:Int=>.y fun k:Int=>.y fun l:List Pat=>.y fun m:List RT=>gp 5 79 [(fD d e f c),(iI i)] (fD j k l m)<|.i [rn 4,.cnilI 1 0 4] []<|gE 0 2 (.agg [(.ilst 4 (RTs.av ([] :List RT)) true),(nI j),(nI k),(iP l),(qM m)]))<|.b 9 25 (d== (7:Int)) (.y fun j:Int=>.y fun k:Int=>.y fun l:List Pat=>.y fun m:List RT=>giF aE 5 c (0:Int) (RT.mk j k l m)<|.y fun a:Flow=>gp 3 41 [(fD j k l m),(iI i),(nI g)] (qL a)<|gk 0 (.enter 80 [(qL a)]) [aK8 0 d e f c,aRq 1] 2 (.gl 2 4 0 (a.binds++ [a.last]).length false) [aK8 0 d e f c,aRq 1,oL 2 4 (RTs.av (a.binds++ [a.last]))] 3<|gw 8 37 (g+ (((a.binds++ [a.last]).length:Nat) :Int))<|.y fun n:Int=>.y fun o:Int=>.y fun p:List Pat=>.y fun q:List RT=>.y fun r:List Int=>.y fun b:Flow=>.i [rn 3,.reg (.d::.d::.ans (.idx (RT.av (RT.mk n o p q)))::rd 4 [.pure (iI r),.d,.pure (qL b),.d,.d]),rn 1,.reg (rd 3 (.app (RTs.av ((a.binds++ [a.last]) ++b.binds)) ((a.binds++ [a.last]) ++b.binds).length::rd 4 []))] [hA (0≤ (1:Int)),.a (((c)[(1:Int).toNat]?) =some (RT.mk n o p q)) (dL aE),hA (aK PP 81 [(iI i),(nI (IntKind.i64.wrap ((g+ (((a.binds++ [a.last]).length:Nat) :Int)) - (1:Int)))),(nI 1)] (iI r)),hA (aK PP 41 [(fD n o p q),(iI r),(nI (g+ (((a.binds++ [a.last]).length:Nat) :Int)))] (qL b)),hr (agg [(nI n),(nI o),(iP p),(qM q)]),hr (agg [(nI n),(nI o),(iP p),(qM q)]),hr (ilst 4 (RTs.av c) false),hr (ilst 4 (RTs.av c) false),.q (p:=0+ (a.binds++ [a.last]).length≤length (RTs.av (a.binds++ [a.last]))) (iY aE _),hA (length ((a.binds++ [a.last]) ++b.binds) ≤1000000),.q (p:=take (a.binds++ [a.last]).length (drop 0 (RTs.av (a.binds++ [a.last]))) ++ (RTs.av b.binds) = (RTs.av ((a.binds++ [a.last]) ++b.binds))) (iZ aE _ _),.q (p:=(a.binds++ [a.last]).length+length (RTs.av b.binds) =length ((a.binds++ [a.last]) ++b.binds)) (jA aE _ _),hr (agg [(nI b.last.op),(nI b.last.n),(iP b.last.pats),(aK9 b)]),hr (agg [(nI b.last.op),(nI b.last.n),(iP b.last.pats),(aK9 b)])]<|.i [rn 1,.cfrz 1 0 4 (RTs.av ((a.binds++ [a.last]) ++b.binds))] [.q (p:=keylessL (RTs.av ((a.binds++ [a.last]) ++b.binds)) =true) bT,.q (p:=frzOk 4 4 (RTs.av ((a.binds++ [a.last]) ++b.binds)) (RTs.av ((a.binds++ [a.last]) ++b.binds)) (.gl 4 4 0 ((a.binds++ [a.last]) ++b.binds).length false)) (hX aE _)]<|gE 0 5 (.agg [(.ilst 4 (RTs.av ((a.binds++ [a.last]) ++b.binds)) false),(nI b.last.op),(nI b.last.n),(iP b.last.pats),(aK9 b)]))<|gpI 9 82 [(fD d e f c)]<|fun t=>.b 9 59 (d== (26:Int)) (.i [rn 23,.cnil 2 0 4] []<|gu 0 3 (RTs.av ([] :List RT))<|gv 0 2 0 (.gl 3 4 0 ([] :List RT).length false)<|.i [.cnil 2 4 4] []<|gu 0 4 (RTs.av ([] :List RT))<|gv 0 2 4 (.gl 4 4 0 ([] :List RT).length false)<|.W 0 5 [0,1,2,3,4] (yK d e f c i g 0 0 ([] :List RT) ([] :List RT)))<|.i [rn 21,.cnil 2 0 4] []<|gu 0 3 (RTs.av ([] :List RT))<|gv 0 2 0 (.gl 3 4 0 ([] :List RT).length false)<|.i [.cnil 2 4 4] []<|gu 0 4 (RTs.av ([] :List RT))<|gv 0 2 4 (.gl 4 4 0 ([] :List RT).length false)<|.W 0 5 [0,1,2,3,4] (yK d e f c i g t 0 ([] :List RT) ([] :List RT))
def bEz:=fun a b c d e f g i j k l m n o=>aLb a b c d e f g m|>.t n i j k l o tv
def bEA:=fun a b c d e f g i j k l m n o p q r s t u v w x y z A B C D F G=>aLb a b c d e f g t|>.f u|>.t v i j k l w x m y z A n o p q r s B C D F G tv
def bEB:=fun a b c d e f g i j k l m n=>aLb a b c d e f g j|>.f k|>.f l i m|>.t n ⟨bT,⟨bT,trivial⟩⟩
def bEC:=fun a b c d e f g i j k l m n=>aLb a b c d e f g j|>.f k|>.f l i m|>.f n ⟨bT,⟨bT,trivial⟩⟩
def aRs(s t:Int)(u:List Pat)(q:List RT)(p:List Int)(n r o:Int)(a b:List RT):=tT 0 (yK s t u q p n r o a b)<|gd 7 70 (o<r) (.y fun v:Int=>.y fun w:Int=>.y fun x:List Pat=>.y fun y:List RT=>giF aE 9 q o (RT.mk v w x y)<|kJ 8 78 [(fD v w x y)]<|fun z=>.b 1 79 z (.y fun e:Int=>.y fun f:Int=>.y fun g:List Pat=>.y fun i:List RT=>.i [rn 2,.reg (rd 5 (.pure (fD e f g i)::.d::.app (RTs.av (a++ [(RT.mk e f g i)])) (a++ [(RT.mk e f g i)]).length::rd 3 []))] [hA (aK PP 79 [(fD v w x y),(iI p)] (fD e f g i)),.q (p:=0+a.length≤length (RTs.av a)) (iY aE _),hA (length (a++ [(RT.mk e f g i)]) ≤1000000),.q (p:=take a.length (drop 0 (RTs.av a)) ++ (RTs.av [(RT.mk e f g i)]) = (RTs.av (a++ [(RT.mk e f g i)]))) (iZ aE _ _),.q (p:=a.length+length (RTs.av [(RT.mk e f g i)]) =length (a++ [(RT.mk e f g i)])) (jA aE _ _),hr (AV.gl 4 4 0 a.length false),hr (AV.gl 4 4 0 a.length false)]<|gw 4 72 (o+1)<|.W 3 8 [0,1,2,3,7] (yK s t u q p n r (o+1) (a++ [(RT.mk e f g i)]) b))<|.y fun c:Flow=>.y fun d:List RT=>.y fun j:Int=>.y fun k:Int=>.y fun l:List Pat=>.y fun m:List RT=>.i [rn 3,.reg (rd 9 [.pure (qL c),.pure (qM d),.app (RTs.av (b++d)) (b++d).length,.d,.d]),.reg (rd 9 (.pure (fD j k l m)::.d::.app (RTs.av (a++ [(RT.mk j k l m)])) (a++ [(RT.mk j k l m)]).length::rd 3 []))] [hA (aK PP 41 [(fD v w x y),(iI p),(nI (IntKind.i64.wrap (n+ (b.length:Int))))] (qL c)),hA (aK PP 80 [(qL c)] (qM d)),.q (p:=0+b.length≤length (RTs.av b)) (iY aE _),hA (length (b++d) ≤1000000),.q (p:=take b.length (drop 0 (RTs.av b)) ++ (RTs.av d) = (RTs.av (b++d))) (iZ aE _ _),.q (p:=b.length+length (RTs.av d) =length (b++d)) (jA aE _ _),hr (AV.gl 3 4 0 b.length false),hr (AV.gl 3 4 0 b.length false),hr (AV.gl 3 4 0 b.length false),hA (aK PP 83 [(nI (IntKind.i64.wrap ((IntKind.i64.wrap (n+ (((b++d).length:Nat) :Int))) -1)))] (fD j k l m)),.q (p:=0+a.length≤length (RTs.av a)) (iY aE _),hA (length (a++ [(RT.mk j k l m)]) ≤1000000),.q (p:=take a.length (drop 0 (RTs.av a)) ++ (RTs.av [(RT.mk j k l m)]) = (RTs.av (a++ [(RT.mk j k l m)]))) (iZ aE _ _),.q (p:=a.length+length (RTs.av [(RT.mk j k l m)]) =length (a++ [(RT.mk j k l m)])) (jA aE _ _),hr (AV.gl 4 4 0 a.length false),hr (AV.gl 4 4 0 a.length false)]<|gw 4 72 (o+1)<|.W 3 9 [0,1,2,6,8] (yK s t u q p n r (o+1) (a++ [(RT.mk j k l m)]) (b++d)))<|gw 9 121 (n+ (b.length:Int))<|.W 10 5 [0,1,2,3,4] (aBh s t u q p n r (n+ (b.length:Int)) b a)
def bED:=fun a b c d e f g i j k l m n o p q r s t u v w x y z A B=>aRs a b c d e f g i j k|>.t u l m n o v w p x|>.t y q r s t z A B ⟨bT,⟨bT,trivial⟩⟩
def bEE:=fun a b c d e f g i j k l m n o p q r s t u v w x y z A B C D F G H=>aRs a b c d e f g i j k|>.t w l m n o x y p z|>.f A q r s t u v B C D F G H ⟨bT,⟨bT,trivial⟩⟩
def bEF:=fun a b c d e f g i j k l m=>aRs a b c d e f g i j k|>.f l m ⟨bT,⟨bT,trivial⟩⟩
def bAT(o p:Int)(q:List Pat)(c:List RT)(s:List Int)(u j r:Int)(i a:List RT):=tT 0 (aBh o p q c s u j r i a)<|.i [rn 6,aL c] [.q (p:=((RTs.av c).length:Int) = (c.length:Int)) (eM aE _)]<|gd 2 127 (j< (c.length:Int)) (gpI 8 84 [(fD o p q c),(nI j)]<|fun v=>.y fun k:Int=>.y fun l:Int=>.y fun m:List Pat=>.y fun n:List RT=>.y fun t:List Int=>.y fun b:Flow=>.y fun d:Int=>.y fun e:Int=>.y fun f:List Pat=>.y fun g:List RT=>.i [rn 2,.reg (rd 6 (.ans (.idx (RT.av (RT.mk k l m n)))::rd 4 (.pure (iI t)::rd 3 (.pure (qL b)::.pure (fD d e f g)::.d::.app (RTs.av (a++ [(RT.mk d e f g)])) (a++ [(RT.mk d e f g)]).length::rd 3 []))))] [hA (0≤j),.a (((c)[j.toNat]?) =some (RT.mk k l m n)) (dL aE),hA (aK PP 81 [(iI s),(nI r),(nI v)] (iI t)),hA (aK PP 41 [(fD k l m n),(iI t),(nI (IntKind.i64.wrap (r+v)))] (qL b)),hA (aK PP 42 [(qL b)] (fD d e f g)),.q (p:=0+a.length≤length (RTs.av a)) (iY aE _),hA (length (a++ [(RT.mk d e f g)]) ≤1000000),.q (p:=take a.length (drop 0 (RTs.av a)) ++ (RTs.av [(RT.mk d e f g)]) = (RTs.av (a++ [(RT.mk d e f g)]))) (iZ aE _ _),.q (p:=a.length+length (RTs.av [(RT.mk d e f g)]) =length (a++ [(RT.mk d e f g)])) (jA aE _ _),hr (agg [(nI k),(nI l),(iP m),(qM n)]),hr (agg [(nI k),(nI l),(iP m),(qM n)]),hr (ilst 4 (RTs.av c) false),hr (ilst 4 (RTs.av c) false),hr (AV.gl 4 4 0 a.length false),hr (AV.gl 4 4 0 a.length false),hr (AV.gl 4 4 0 a.length false),hr (AV.gl 4 4 0 a.length false)]<|gw 4 129 (j+1)<|.W 3 7 [0,1,2,3,6] (aBh o p q c s u (j+1) r i (a++ [(RT.mk d e f g)])))<|.i [rn 3,.cfrz 2 0 3 (RTs.av i)] [.q (p:=keylessL (RTs.av i) =true) bT,.q (p:=frzOk 3 4 (RTs.av i) (RTs.av i) (.gl 3 4 0 i.length false)) (hX aE _)]<|.i [.cfrz 2 4 4 (RTs.av a)] [.q (p:=keylessL (RTs.av a) =true) bT,.q (p:=frzOk 4 4 (RTs.av a) (RTs.av a) (.gl 4 4 0 a.length false)) (hX aE _)]<|gE 5 5 (aRr i o p q a)
def bEG:=fun a b c d e f g i j k l m n o p q r s t u v w x y z A B C D F=>bAT a b c d e f g i j k|>.t w l x m n o p q r s t u v y z A B C D F ⟨bT,⟨bT,trivial⟩⟩
def bEH:=fun a b c d e f g i j k l=>bAT a b c d e f g i j k|>.f l tv
theorem bG5 {P:Program}{f:Nat}{x y:Int}{v:AV}(e:x=y)(h:aK P f [.int .i64 y] v) :aK P f [.int .i64 x] v:=by rw [e];exact h
theorem bG6 {P:Program}{f:Nat}{x y:Int}{a b v:AV}(e:x=y)(h:aK P f [a,.int .i64 y,b] v) :aK P f [a,.int .i64 x,b] v:=by rw [e];exact h
theorem aRt {P:Program}{f:Nat}{x y:Int}{a b v:AV}(e:x=y)(h:aK P f [a,b,.int .i64 y] v) :aK P f [a,b,.int .i64 x] v:=by rw [e];exact h
theorem aN8 (to:List Int)(n k:Int)(hk:0≤k∧k≤1000)(f:0≤n∧n≤1000000000)(hl:to.length≤900000) :aK PP 81 [.ilst 1 (map cG to) false,.int .i64 n,.int .i64 k] (.ilst 1 (map cG (plc to n k)) false) :=by
 have loop:∀ (d i:Nat),i+d=k.toNat→Ends PP 0 (aLa to n k (i:Int) (to++ (range i).map (fun j=>n+ ((j:Nat) :Int)))).as (.ret (.ilst 1 (map cG (plc to n k)) false)) (aA [] 0) :=by
  intro d
  induction d with
  | zero=>
   intro i b;have e:=bEy to n k (i:Int) (to++ (range i).map (fun j=>n+ ((j:Nat) :Int))) (by simp;omega);rw [show i=k.toNat by omega]at e ⊢;exact e
  | succ d c=>
   intro i b;have e:=bEx to n k (i:Int) (to++ (range i).map (fun j=>n+ ((j:Nat) :Int))) (by simp;omega) (wrap64 (by omega) (by omega)) (by simp;omega) (wrap64 (by omega) (by omega));have a:=c (i+1) (by omega);rw [List.range_succ,aIx,←zq9]at a;exact e.ends a
 refine aG aC rfl rfl ((bEw to n k (by omega)).ends ?_);have:=loop k.toNat 0 (by omega);simpa using this
theorem aIu (to:List Int)(hl:to.length≤1000000) :∀ (t:XT),vY t (to.length:Nat) →aK PP 79 [RT.av t,.ilst 1 (map cG to) false] (RT.av (tC t to))
 | .mk o n d c,h=>by
  simp only [vY]at h;refine aG aC (by simp [keylessL,mA];rfl) (mA _) ?_;simp only [tC];by_cases a:o=4
  · by_cases b:0≤n
    · have f:=h.1 a;obtain⟨y,e⟩ :∃y,to[n.toNat]?=some y:= ⟨_,kX (by omega)⟩;rw [if_pos ⟨a,b⟩,nY,e];exact aYL o n c d to y (by simpa using a) (by simpa using b) b e
    · rw [if_neg (by omega)];exact aYM o n c d to (by simpa using a) (by simpa using b)
  · rw [if_neg (by omega)];exact aYN o n c d to (by simpa using a)
theorem aVi (a:List XT)(l:XT)(h:a.length≤900000) :aK PP 80 [Flow.av ⟨a,l⟩] (.ilst 4 (RTs.av (a++ [l])) false) :=by
 obtain⟨o,n,c,b⟩ :=l;exact aG aC (by simp [keylessL,keyless,Flow.av,RT.av,cells,mB,lY]) (by simp [keyless,mB]) (bAN a o n b c (by omega) (by simp;omega))
theorem aVj (a:List XT)(o n:Int)(ks:List XT)(ps:List Pat)(h:a.length≤900000) :eS PP 0 (.enter 80 [Flow.av ⟨a,.mk o n ks ps⟩]) (aA [] 0) (.ret (.gl 0 4 0 (length (a++ [(RT.mk o n ps ks)])) false)) (aA [(0,(.lst 4 (RTs.av (a++ [(RT.mk o n ps ks)]))),true)] 1) :=
 ⟨(bAL a o n ps ks).as.fr,by kernel_rfl,bAO a o n ps ks (by omega) (by simp;omega)⟩
theorem aIv (f:Flow)(h:f.binds.length≤900000) :aK PP 42 [Flow.av f] (RT.av (clF f)) :=by
 obtain⟨a,⟨i,d,g,j⟩⟩ :=f;simp only at h;have loop:∀ (m:Nat),m≤a.length→∀ (o n:Int) (c:List XT) (b:List Pat),clB (a.drop m) (.mk i d g j) = .mk o n c b→Ends PP 0 (aEQ ⟨a,.mk i d g j⟩ ((m:Int) -1) o n b c).as (.ret (RT.av (clB a (.mk i d g j)))) (aA [] 0) :=by
  intro m
  induction m with
  | zero=>
   intro _ o n c b e;rw [List.drop_zero]at e;rw [e];exact bAS ⟨a,.mk i d g j⟩ (((0:Nat) :Int) -1) o n b c (by decide)
  | succ m u=>
   intro hm o n c b e;obtain⟨⟨q,k,p,l⟩,t⟩ :∃x,a[m]?=some x:= ⟨_,kX (by omega)⟩;have v:a.drop m= .mk q k p l::a.drop (m+1) :=by
    have:=zq0.1 t;obtain⟨r,he⟩ :=this;rw [List.drop_eq_getElem_cons r,he]
   have y:clB (a.drop m) (.mk i d g j) = .mk 7 0 [.mk q k p l,.mk o n c b] [] :=by rw [v,clB,e]
   have s:=bAR ⟨a,.mk i d g j⟩ (((m+1:Nat) :Int) -1) o n b c q k l p 7 0 [] [XT.mk q k p l,XT.mk o n c b] (by simp) (by omega) (by
    show a[(((m+1:Nat) :Int) -1).toNat]?=some (RT.mk q k l p);rw [show(((m+1:Nat) :Int) -1).toNat=m by omega];exact t) (zZ (.mk q k p l) (.mk o n c b)) (wrap64 (by omega) (by omega))
   have w:=u (by omega) 7 0 [.mk q k p l,.mk o n c b] [] y;rw [show(((m+1:Nat) :Int) -1-1) = ((m:Int) -1)by omega]at s;exact s.ends w
 refine aG aC (by simp [keylessL,keyless,Flow.av,RT.av,cells,mB,lY]) (mA _) ((bAP ⟨a,.mk i d g j⟩ (wrap64 (by simp only;omega) (by simp only;omega))).ends ?_);exact loop a.length (Nat.le_refl _) i d g j (by rw [List.drop_length];rfl)
theorem aN9 (o:Int)(ps:List Pat) :∀ (b:List XT) (i m:Nat) (a:List Int) (n:Int),flR o ps b i m a n=flR o ps (b.drop m) (i+m) 0 a n
 | [],i,m,a,n=>by simp [flR]
 |k::b,i,0,a,n=>rfl
 | k::b,i,m+1,a,n=>by
  simp only [flR,List.drop_succ_cons];rw [aN9 o ps b (i+1) m a n,show i+1+m=i+ (m+1)by omega]
theorem bEI (to:List Int)(n:Int) :plc to n 1=to++ [n] :=by simp [plc]
theorem aLc {E:Emb}{xs r:List AV}{cv:Value}(h:VR E (.agg (.ilst 4 xs true::r)) cv) :VR E (.agg (.ilst 4 xs false::r)) cv:=by
 simp only [VR]at h ⊢;obtain⟨e,rfl,a⟩ :=h;obtain⟨d,c,rfl,b,a⟩ :=a.cons_inv;exact⟨_,rfl,VRs.cons (hY b) a⟩
theorem bEJ (f:Flow) :keyless (Flow.av f) =true:=by
 obtain⟨b,⟨e,c,a,d⟩⟩ :=f;simp [keyless,keylessL,Flow.av,RT.av,cells,mB,lY]
structure FlOk (p:Prog) (t:XT) (to:List Int) (z:Int) :Prop where
 fine:FineX 1000000 t
 wx:WX p t
 sc:vY t (to.length:Nat)
 sz:cJ t≤900
 tl:to.length+1000*cJ t≤900100
 z0:0≤z
 z1:z+3000* (cJ t:Nat) ≤100000000
abbrev FlP (t:XT)(to:List Int)(z:Int) :Prop:=aK PP 41 [RT.av t,.ilst 1 (map cG to) false,.int .i64 z] (Flow.av (gK t to z))
section
variable {p :Prog} {o n:Int} {ks:List XT} {ps:List Pat} {to:List Int} {z:Int}
theorem aRu (B:aD ks≤899)(Z:ks.length≤1000)(R:oS p ks)(W:FineXs 1000000 ks)(G:to.length≤900000)(C:0≤z)(J:z≤100000000)(m:Nat)(hm:m≤ks.length)
  (v:∀ (j:Nat) (x:XT),j<m→ks[j]?=some x→vY x (to.length:Nat)) (M:∀ (j:Nat) (x:XT) (Q:Int),j<m→ks[j]?=some x→bJ x=false→0≤Q→Q≤z+3* (aD ks:Nat) -3* (aD (ks.drop j) :Nat) →FlP x to Q) :
  ∀ (tl:List XT) (i:Nat) (l a:List XT),ks.drop i=tl→i≤m→a.length+3*aD tl≤3*aD ks→l.length=i →
   LeadsM PP 0 (yK o n ps ks to z (m:Int) (i:Int) l a).as (aBh o n ps ks to z (m:Int) (z+ (((a++ (mK tl (m-i) to (z+ (a.length:Nat))).1).length:Nat) :Int)) (a++ (mK tl (m-i) to (z+ (a.length:Nat))).1) (l++ (mK tl (m-i) to (z+ (a.length:Nat))).2)).as
 | tl, i, l,a,A,hi,h3,Y=>by
  have hl:=congrArg length A;simp only [List.length_drop]at hl;by_cases H:i<m
  · match tl,A with
    | [],A=>simp at hl;omega
    | .mk h g d c::tl,A=>
     obtain⟨y,T,g3⟩ :=bE A;have hx:=kW y;have N:=wxs_iff.1 R _ (jQ y);have S:aD (ks.drop i) =cJ (.mk h g d c) +aD tl:=by rw [A];rfl
     have V:aD (ks.drop i) ≤aD ks:=by
      have:aD ks=aD (ks.take i) +aD (ks.drop i) :=by rw [←hO,List.take_append_drop]
      omega
     simp only [aD]at h3;obtain⟨m',L⟩ :∃m',m-i=m'+1:= ⟨m-i-1,by omega⟩;have F:m- (i+1) =m':=by omega
     rw [L,mK];by_cases K:bJ (.mk h g d c) =true
     · rw [if_pos K];have U:=aIu to (by omega) (.mk h g d c) (v i _ H y);have st:=bED o n ps ks to z (m:Int) (i:Int) l a h g c d true;have b:=aRu B Z R W G C J m hm v M tl (i+1) (l++ [tC (.mk h g d c) to]) a T (by omega) (by omega) (by simp [Y]);rw [F]at b;generalize X:tC (.mk h g d c) to=q at U b ⊢;obtain⟨u,r,t,s⟩ :=q;have:= (st u r s t (by simp;omega) (by omega) (by simpa using y) (by have:=aCm (.mk h g d c);rw [K]at this;exact this) rfl U (by simp;omega) (wrap64 (by omega) (by omega))).trans b;rw [zq9]at this;exact this
     · have D:bJ (.mk h g d c) =false:=by simpa using K
       rw [if_neg K];have I:= (aHl (.mk h g d c) N to (z+ (a.length:Nat))).2;have h5:=M i (.mk h g d c) (z+ (a.length:Nat)) H y D (by omega) (by rw [S];omega);have X:∀f,gK (.mk h g d c) to (z+ (a.length:Nat)) =f→LeadsM PP 0 (yK o n ps ks to z (m:Int) (i:Int) l a).as (aBh o n ps ks to z (m:Int) (z+ (((a++ (f.binds++f.last:: (mK tl m' to (z+ (a.length:Nat) + (f.binds.length+1:Nat))).1)).length:Nat) :Int)) (a++ (f.binds++f.last:: (mK tl m' to (z+ (a.length:Nat) + (f.binds.length+1:Nat))).1)) (l++ (.mk 4 (z+ (a.length:Nat) + (f.binds.length:Nat)) [] [] :: (mK tl m' to (z+ (a.length:Nat) + (f.binds.length+1:Nat))).2))).as:=by
        rintro⟨k,⟨u,r,t,s⟩⟩ e
        rw [FlP,e]at h5;rw [e]at I;simp only [vR]at I;have hbl:k.length≤3*cJ (.mk h g d c) :=by omega
        have e6:=aVi k (.mk u r t s) (by omega);have e8:=aIn (z+ (a.length:Nat) + (k.length:Nat))
        have st:=bEE o n ps ks to z (m:Int) (i:Int) l a h g c d false ⟨k,.mk u r t s⟩ (k++ [XT.mk u r t s]) 4 (z+ (a.length:Nat) + (k.length:Nat)) [] [] (by simp;omega) (by omega) (by simpa using y) (by have:=aCm (.mk h g d c);rw [D]at this;exact this) rfl
         (aRt (wrap64 (by omega) (by omega)) h5) e6 (by simp;omega)
         (bG5 (by
          have e1:IntKind.i64.wrap (z+ (((length (a++ (k++ [XT.mk u r t s]))) :Nat) :Int)) =z+ (((length (a++ (k++ [XT.mk u r t s]))) :Nat) :Int) :=wrap64 (by simp;omega) (by simp;omega);rw [e1,wrap64 (by simp;omega) (by simp;omega)];simp;omega) e8) (by simp;omega) (wrap64 (by omega) (by omega))
        have b:=aRu B Z R W G C J m hm v M tl (i+1) (l++ [XT.mk 4 (z+ (a.length:Nat) + (k.length:Nat)) [] []]) (a++ (k++ [XT.mk u r t s])) T (by omega) (by simp;omega) (by simp [Y]);rw [F,show z+ (((a++ (k++ [XT.mk u r t s])).length:Nat) :Int) =z+ (a.length:Nat) + (k.length+1:Nat)by simp;omega]at b;have:=st.trans b;simp only [zq9,wA,nil_append]at this ⊢;exact this
       exact X _ rfl
  · have e0:m-i=0:=by omega
    have er:∀w,mK tl (m-i) to w= ([],[]) :=fun w=>by
     rw [e0];cases tl<;>simp only [mK]
    rw [er];simp only [rQ];have O:i=m:=by omega
    subst O;have st:=bEF o n ps ks to z (i:Int) (i:Int) l a (by simp) (wrap64 (by omega) (by omega));exact st
theorem aSS (s:aD ks≤899)(L:oS p ks)(f2:ks.length≤1000)(u:∀q∈ps,cB q≤1000)(I:o=15→ks.length=1+ps.length)(J:∀q∈ps,bnm q=rnm q)(K:o≠7)(h:to.length≤900000)(N:Int)(g:0≤N)(r:N≤100000000)(d:List XT)(D:Nat)
  (H:∀ (j:Nat) (x:XT),D≤j→ks[j]?=some x→FlP x (plc to N (aT o ps (j:Int))) (N+aT o ps (j:Int))) :
  ∀ (l:List XT) (i:Nat) (b:List XT),ks.drop i=l→D≤i→b.length≤i→Ends PP 0 (aBh o n ps ks to z (i:Int) N d b).as (.ret (.agg [(.ilst 4 (RTs.av d) false),(.int .i64 o),(.int .i64 n),(.ilst 4 (Pats.av ps) false),(.ilst 4 (RTs.av (b++flR o ps l i 0 to N)) false)])) (aA [] 0)
 | [],i,b,B,_,_=>by
  have:=bH B;simp only [flR,rQ];exact bEH o n ps ks to z (i:Int) N d b sd
 | .mk F A y w::l,i,b,B,t,Z=>by
  obtain⟨m,O,g3⟩ :=bE B;have T:=kO (o:=o) u (i:Int)
  have V:o=15→0< (i:Int) →∃q,ps[((i:Int) -1).toNat]?=some q:=fun C hi=>by
   have:=I C;exact⟨_,kX (by omega)⟩
  have X:=aNM o n ks ps u J (i:Int) ⟨by omega,by omega⟩ (fun e=>absurd e K) V;have M:=H i _ t m;have k:= (aHl (.mk F A y w) (wxs_iff.1 L _ (jQ m)) (plc to N (aT o ps (i:Int))) (N+aT o ps (i:Int))).2;have hx:=kW m;simp only [flR];have v:∀f,gK (.mk F A y w) (plc to N (aT o ps (i:Int))) (N+aT o ps (i:Int)) =f→Ends PP 0 (aBh o n ps ks to z (i:Int) N d b).as (.ret (.agg [(.ilst 4 (RTs.av d) false),(.int .i64 o),(.int .i64 n),(.ilst 4 (Pats.av ps) false),(.ilst 4 (RTs.av (b++clF f::flR o ps l (i+1) 0 to N)) false)])) (aA [] 0) :=by
   intro f e;rw [FlP,e]at M;rw [e]at k;simp only [vR]at k;have G:=aIv f (by omega);have a:=aSS s L f2 u I J K h N g r d D H l (i+1) (b++ [clF f]) O (by omega) (by simp;omega);generalize hc:clF f=c at G a ⊢;obtain⟨q1,Q,Y,U⟩ :=c;obtain⟨R,⟨w1,w2,W,S⟩⟩ :=f
   have st:=bEG o n ps ks to z (i:Int) N d b (aT o ps (i:Int)) F A w y (plc to N (aT o ps (i:Int))) ⟨R,.mk w1 w2 W S⟩ q1 Q U Y sd X (by omega) (by simpa using m)
    (aN8 to N _ T ⟨g,by omega⟩ h) (aRt (wrap64 (by omega) (by omega)) M) G (by simp;omega) (wrap64 (by omega) (by omega))
   rw [zq9]at a;exact st.ends a
  exact v _ rfl
end
theorem yL {p:Prog}:∀ (k:Nat) (t:XT) (to:List Int) (z:Int),cJ t≤k→FlOk p t to z→FlP t to z
 |0,.mk o n ks ps,to,z,hk,_=>by simp only [cJ]at hk;omega
 | k + 1, .mk o n ks ps,to,z,hk,h=>by
  obtain⟨u,l,a,V,S,Y,O⟩ :=h;have hw':=l;have N:=a;simp only [cJ]at hk V S O;simp only [WX]at l;simp only [vY]at a;simp only [FineX]at u;obtain⟨_,M,f3,f4,f5,⟨g1,g2,g3,f6⟩,U⟩ :=u;refine aG aC (by simp [keylessL,mA];exact⟨rfl,rfl⟩) (bEJ _) ?_;have d:=aCm (.mk o n ks ps);rw [gK];by_cases X:bJ (.mk o n ks ps) =true
  · rw [if_pos X];rw [X]at d;have hs:=aIu to (by omega) (.mk o n ks ps) N;generalize tC (.mk o n ks ps) to=q at hs ⊢;obtain⟨v,i,r,D⟩ :=q;exact Ends.val (bEz o n ps ks to z true v i D r d rfl hs) (fun E cv hv=>aLc hv)
  · have ha':bJ (.mk o n ks ps) =false:=by simpa using X
    rw [if_neg X];rw [ha']at d;by_cases y:o=7
    · rw [if_pos y];obtain⟨rfl,rfl,hl⟩ :=l.1.let7 y;subst y
      match ks,hl with
      | [.mk H F J I,.mk C w B A],_=>
       simp only [oS]at l;simp only [FineXs]at U;simp only [aAk]at a;rw [Int.natCast_zero,show(((0+1:Nat)) :Int) =1 from rfl,(rP []).1,(rP []).2,Int.add_zero]at a;simp only [aD]at hk V S O;have h5:=yL (p:=p) k (.mk H F J I) to z (by omega) ⟨U.1,l.2.1,a.2.1,by omega,by omega,by omega,by omega⟩;have Q:= (aHl (.mk H F J I) l.2.1 to z).2;simp only [flL,flB];have hqq:∀f,gK (.mk H F J I) to z=f→Ends PP 0 (aSR 7 0 [] [XT.mk H F J I,XT.mk C w B A] to z).as (.ret (Flow.av ⟨f.binds++f.last:: (gK (.mk C w B A) (to++ [z+ (f.binds.length:Nat)]) (z+ (f.binds.length+1:Nat))).binds,(gK (.mk C w B A) (to++ [z+ (f.binds.length:Nat)]) (z+ (f.binds.length+1:Nat))).last⟩)) (aA [] 0) :=by
        rintro⟨b,⟨v,i,r,D⟩⟩ e
        rw [FlP,e]at h5;rw [e]at Q;simp only [vR]at Q;have hbl:b.length≤3*cJ (.mk H F J I) :=by omega
        have T:=yL (p:=p) k (.mk C w B A) (to++ [z+ (b.length:Nat)]) (z+ (b.length+1:Nat)) (by omega) ⟨U.2.1,l.2.2.1,by rw [qT,List.length_singleton,Int.natCast_add];exact a.2.2.1,by omega,by simp;omega,by omega,by omega⟩;have G:= (aHl (.mk C w B A) l.2.2.1 (to++ [z+ (b.length:Nat)]) (z+ (b.length+1:Nat))).2;simp only;have hq2:∀M,gK (.mk C w B A) (to++ [z+ (b.length:Nat)]) (z+ (b.length+1:Nat)) =M→Ends PP 0 (aSR 7 0 [] [XT.mk H F J I,XT.mk C w B A] to z).as (.ret (Flow.av ⟨b++ .mk v i r D::M.binds,M.last⟩)) (aA [] 0) :=by
         rintro⟨cs,⟨r1,r2,r3,r4⟩⟩ e2
         rw [FlP,e2]at T;rw [e2]at G;simp only [vR]at G;have hlen: ((((b++ [XT.mk v i r D]).length:Nat)) :Int) = ((b.length+1:Nat) :Int) :=by simp
         have R:=aN8 to (z+ (b.length:Nat)) 1 (by decide) ⟨by omega,by omega⟩ (by omega);rw [bEI]at R
         have st:=bEA 7 0 [] [XT.mk H F J I,XT.mk C w B A] to z false H F I J ⟨b,.mk v i r D⟩ C w A B (to++ [z+ (b.length:Nat)]) ⟨cs,.mk r1 r2 r3 r4⟩ d rfl rfl (by decide) rfl h5
          (qO (m:=0) (ks:=[]) (aVj b v i r D (by omega)) aC aC trivial ⟨mB _,trivial⟩)
          (wrap64 (by simp;omega) (by simp;omega)) (by decide) rfl
          (bG6 (by rw [wrap64 (by simp;omega) (by simp;omega)];simp;omega) R)
          (aRt (by simp) T) (by simp;omega)
         have ev: ((b++ [XT.mk v i r D]) ++cs) =b++XT.mk v i r D::cs:=by simp
         rw [←ev];exact st
        exact hq2 _ rfl
       exact hqq _ rfl
    · rw [if_neg y];have hasz:cX o ks.length=aV o ks.length∨o=26:=by
       by_cases c:o=26
       ·exact .inr c
       ·exact .inl (aGC g3 y c)
      have s:=aNL o n ks ps M;have st:LeadsM PP 0 (aSR o n ps ks to z).as (yK o n ps ks to z ((aV o ks.length:Nat) :Int) ((0:Nat) :Int) [] []).as:=by
       by_cases c:o=26
       · have:aV o ks.length=0:=by rw [c];simp [aV,dR,fJ]
         rw [this];exact bEB o n ps ks to z false _ d rfl (by simpa using y) s (by simpa using c)
       · rw [aGC g3 y c]at s;exact bEC o n ps ks to z false _ d rfl (by simpa using y) s (by simpa using c)
      have L:∀ (j:Nat) (x:XT),ks[j]?=some x→cJ x≤aD ks∧FineX 1000000 x∧WX p x:=fun j x g=> ⟨kW g,fineXs_iff.1 U x (jQ g),wxs_iff.1 l.2 x (jQ g)⟩
      have K:∀ (j:Nat) (x:XT),j<aV o ks.length→ks[j]?=some x→vY x (to.length:Nat) :=fun j x W g=>by
       have:=scxs_iff.1 a.2 j x g;rw [fE,aEO W,Int.add_zero]at this;exact this
      have lo:=aRu (p:=p) (o:=o) (n:=n) (ps:=ps) (to:=to) (z:=z) (by omega) M l.2 U (by omega) Y (by omega) (aV o ks.length) g1 K (fun j x z2 W g _ h1 h2=>by
       obtain⟨v,i,r⟩ :=L j x g;have hdj:cJ x≤aD (ks.drop j) :=kW (j:=0) (by rw [List.getElem?_drop];simpa using g);exact yL (p:=p) k x to z2 (by omega) ⟨i,r,K j x W g,by omega,by omega,h1,by omega⟩) ks 0 [] [] rfl (Nat.zero_le _) (by simp) rfl
      have hsO:= (bEr ks l.2 (aV o ks.length) to z).2;have htk:aD (ks.take (aV o ks.length)) ≤aD ks:=by
       have:aD ks=aD (ks.take (aV o ks.length)) +aD (ks.drop (aV o ks.length)) :=by rw [←hO,List.take_append_drop]
       omega
      rw [Nat.sub_zero,nil_append,nil_append,List.length_nil,Int.natCast_zero,Int.add_zero]at lo;have Z: (mK ks (aV o ks.length) to z).2.length≤aV o ks.length:=flO_len ks _ to z
      have lr:=aSS (p:=p) (o:=o) (n:=n) (ps:=ps) (to:=to) (z:=z) (by omega) l.2 M f3 f4 f6 y (by omega) (z+ ((mK ks (aV o ks.length) to z).1.length:Nat)) (by omega) (by omega) (mK ks (aV o ks.length) to z).1 (aV o ks.length) (fun j x W g=>by
       obtain⟨v,i,r⟩ :=L j x g;have hdj:cJ x≤aD (ks.drop (aV o ks.length)) :=kW (j:=j-aV o ks.length) (by rw [List.getElem?_drop,show aV o ks.length+ (j-aV o ks.length) =j by omega];exact g);have htd:aD ks=aD (ks.take (aV o ks.length)) +aD (ks.drop (aV o ks.length)) :=by rw [←hO,List.take_append_drop]
       have had:=kO (o:=o) f3 (j:Int);have h2:=scxs_iff.1 a.2 j x g;rw [fE]at h2;refine yL (p:=p) k x _ _ (by omega) ⟨i,r,?_,by omega,by rw [aK4];omega,by omega,by omega⟩;rw [aK4,show((to.length+ (aT o ps (j:Int)).toNat:Nat) :Int) = ((to.length:Nat) :Int) +aT o ps (j:Int)by omega];exact h2) (ks.drop (aV o ks.length)) (aV o ks.length) (mK ks (aV o ks.length) to z).2 rfl (Nat.le_refl _) Z
      rw [aN9 o ps ks 0 (aV o ks.length),fE];exact(st.trans lo).ends lr
where flO_len :∀ (ks:List XT) (m:Nat) (to:List Int) (z:Int),(mK ks m to z).2.length≤m
 | [],m,to,z=>by simp [mK]
 |k::ks,0,to,z=>by simp [mK]
 | k ::ks,m+1,to,z=>by
  simp only [mK];split
  · have:=flO_len ks m to z;simp only [qN];omega
  · have:=flO_len ks m to (z+ ((gK k to z).binds.length+1:Nat));simp only [qN];omega
section
variable {P :Program}
def bG7 (P:Program)(is:List Ins)(s:TS) :Option (AV×Nat×List Prop) :=
 match rD P is s.as with
 | some (s1,ps) =>match s1.cs,s1.fr.kind,s1.fr.mode,s1.fr.roundOf,s1.fr.defers with
  | [],.normal,.ret,none,[] =>match P.funcs[s1.fr.fn]? with
   | some fd=>match lR P s1.h s1.fr.tm fd.results.toList with
    |some [v] =>some (v,s1.fr.fn,ps)
    |_=>none
   |none=>none
  |_,_,_,_,_=>none
 |none=>none
theorem aLd {f : Nat} {args : List AV} {is : List Ins}{b:Bool}{ps:List Prop}{cargs:List Value}(hb:uR P f=true)(hk:keylessL args=true)(d:bG7 P is (start P f args) =some (.bool b,f,ps))(r:AllP ps)(w:World)(M:VRs (embOf w) args cargs) :
  Calls P f ⟨cargs⟩ w fun e w'=>e= .returned (.bool b) ∧GrownO w w':=by
 intro j;unfold uR at hb;split at hb
 · rename_i fn H;split at hb
   · rename_i c hc;have W:dA P f args .normal=some ⟨f,dN .leaf 0 args,max fn.ntmps args.length,[.code c],[],.run,.normal,none⟩ :=by simp [dA,H,hc]
     have fr':FR (embOf w) _ (Frame.enter P f ⟨cargs⟩ .normal) :=jU W M;have R:FR (embOf w) (start P f args).as.fr (Frame.enter P f ⟨cargs⟩ .normal) :=by
      have K: (start P f args).as.fr= ⟨f,dK ((range args.length).zip args),max fn.ntmps args.length,[.code c],[],.run,.normal,none⟩ :=by simp [start,H,hc,TS.as,TF.fr]
      rw [K];refine⟨fr'.fn,⟨fr'.tm.1,fun t a e=>?_⟩,fr'.todo,fr'.defers,fr'.mode,fr'.kind,fr'.round⟩;have m:=aLE (aCM e);have A:= (zq0.1 m).1;have V: (dN .leaf 0 args).at t=some a:=by
       unfold dN;rw [bB,if_pos A];exact m
      exact fr'.tm.2 t a V
     have e2 : (start P f args).as.cs = [] := by unfold start;split; · split<;>rfl
                                                 ·rfl
     have e3 : (start P f args).as.h = ⟨.leaf, 0⟩ := by unfold start;split; · split<;>rfl
                                                        ·rfl
     unfold bG7 at d;split at d
     · rename_i s1 qs m;split at d
       · rename_i y F n O C;split at d
         · rename_i N s;split at d
           · rename_i v u;simp only [Option.some.injEq,Prod.mk.injEq]at d;obtain⟨rfl,z,rfl⟩ :=d;have hl:LeadsM P 0 (start P f args).as s1:=hM m (fun p D=>r.mem p D);obtain⟨Y,g,I,w',U,h,k,S,x⟩ :=hl (by rw [e3];exact Nat.le_refl _) (embOf w) _ [] w j R (by rw [e2];rfl) (by rw [e3];exact aTd w);rw [y]at k;have:=k.nil_inv;subst this;obtain⟨X,Q,G⟩ :=xF S h.tm u;simp only [aCy,VR]at G;subst G;have q:=h.mode;rw [n]at q;simp only [MR]at q;have l:=h.defers;rw [C]at l;rw [e3]at x;have B:∀ {b o},¬ (⟨.leaf,0⟩ :Hp).look b=some o:=fun {b o} e=>by simp [Hp.look,T.at_leaf]at e
             refine⟨.returned (.bool b),w',g,⟨rfl,⟨x.os,x.output,fun i J=>?_⟩,x.froz,x.size⟩,U,by rw [h.fn,z],q,l.nil_inv,by rw [h.kind,F],N,by rw [h.fn];exact s,Q⟩;have:=x.keep i J (fun b o L e=>absurd e B);rw [this];cases w.heap[i]? with
             |none=>rfl
             |some ob=>cases ob<;>simp
           ·cases d
         ·cases d
       ·cases d
     ·cases d
   ·cases hb
 ·cases hb
theorem cW {f:Nat}{args:List AV}{b:Bool}{cargs:List Value}(L:List Pf)(is:List Ins)(w:World)(hv:VRs (embOf w) args cargs)(hb:uR P f=true:=by kernel_rfl)(hk:keylessL args=true:=by kernel_rfl)(h0:bG7 P is (start P f args) =some (.bool b,f,L.map Pf.p) :=by kernel_rfl) :
    Calls P f ⟨cargs⟩ w fun e w'=>e= .returned (.bool b) ∧GrownO w w':=aLd hb hk h0 (bEO L) w hv
end
theorem aDj :FitP rM:= ⟨by simp [rM],by simp [rM],by simp [rM],fun x a=>by simp [rM]at a⟩
theorem aVk {cons:List Con}{x:Node}(h:FineN cons x)(hk:x.kids.length≤10)(hl:x.pats.length≤900) :bGI x:=by
 refine⟨by omega,?_⟩;have:=aBb x.pats (fun q a=>by have:= (h.pats q a).1;omega);omega
mutual
theorem bAU {B:Int}:∀ (t:XT) (a:Nat),FineX B t→∀x∈eE t a,x.pats.length≤900
 | .mk o n c d,a,b,x,h=>by
  simp only [FineX]at b;simp only [eE,zq7]at h;rcases h with rfl|h
  ·exact b.2.2.2.2.2.1.2.1
  ·exact aDk c (a+1) b.2.2.2.2.2.2 x h
theorem aDk {B:Int}:∀ (b:List XT) (a:Nat),FineXs B b→∀x∈ (bQ b a).2,x.pats.length≤900
 | [],a,_,x,h=>by simp [bQ]at h
 | t::b,a,c,x,h=>by
  simp only [FineXs]at c;simp only [bQ,zq28]at h;rcases h with h|h
  ·exact bAU t a c.1 x h
  ·exact aDk b _ c.2 x h
end
theorem aVl {B:Int}{ts:List XT}{mn:Int}{cons:List Con}(b:FineXs B ts)(f:mO (rO cons) ts)(g:aD ts≤1000000)(hl:ts.length≤320)(hc:cons.length<1000000) :FitP (hN ts mn cons) :=by
 have hk:=vQ ts 0;have h:=nK ts 0;refine⟨by simp only [hN,aGv];omega,by simp only [hN,aGv];omega,hc,fun x a=>?_⟩;obtain⟨i,c,rfl⟩ :=List.getElem_of_mem a;obtain⟨e,d,_⟩ :=aAa ts 0 b f i _ (kX c);exact aVk e d (aDk ts 0 b _ a)
abbrev bAV (a:Flow):AV:=.agg [(.ilst 4 (RTs.av a.binds) false),(nI a.last.op),(nI a.last.n),(iP a.last.pats),(.ilst 4 (RTs.av a.last.kids) false)]
abbrev yM (a:List RT)(b c d:Int)(e:List Pat)(f:List RT):AV:=.gl 2 4 0 (set a b.toNat (RT.mk c d e f)).length false
abbrev aRv (a:Nat)(b:Prog):=oC a [(iN b.nodes),(iI b.funs),(nI b.main),(iC b.cons)]
abbrev aRw (a:Nat):=oC a [.nils,.nils,(nI 0),.nils]
def bAW(a:Prog):TS:=aX PP 13 [(Prog.av a)] [] 0
def aAc(a:Prog)(b:List RT)(c:Int):TS:=⟨(tf 13 42 [kp 1 0,kp 2 1,(3,(nI 0)),(5,(.gl 2 4 0 b.length false)),(6,(nI c))] [kc f13 500,kl f13 500,.inBlock 0,kc f13 63]),[],[aRv 0 a,aRw 1,oL 2 4 (RTs.av b)],3⟩
def bAX(a:Prog):=tT 0 (bAW a)<|gpI 9 39 [(Prog.av a)]<|fun c=>.b 8 11 (c != 0) (.i [rn 9,.cnilI 1 0 4] []<|.i [.cnilI 1 1 1] []<|.i [.cnilI 1 3 2] []<|gE 0 2 (.tup [(.agg [(.ilst 4 (jN ([] :List Node)) true),(.ilst 1 (jI ([] :List Int)) true),(nI 0),(.ilst 2 (jC ([] :List Con)) true)]),(nI c)]))<|.y fun b:List RT=>gk 5 (.enter 40 [(Prog.av a)]) [aRv 0 a,aRw 1] 2 (.gl 2 4 0 b.length false) [aRv 0 a,aRw 1,oL 2 4 (RTs.av b)] 3<|.W 9 3 [0,1,2] (aAc a b 0)
def aOa:=fun a b c d=>bAX a b c|>.t d tv
def bAY:=fun a b c d e f=>bAX a b d|>.f e c f ⟨bT,trivial⟩
def bAZ(i:Prog)(a:List RT)(b:Int):=tT 0 (aAc i a b)<|gd 8 19 (b< (a.length:Int)) (.i [rn 8,.ans (.ix)] [hA (0≤b),hA (b< (a.length:Int))]<|.y fun j:Int=>.y fun k:Int=>.y fun l:List Pat=>.y fun m:List RT=>gjF aE 0 a b.toNat (RT.mk j k l m)<|.i [rn 1,.toL 26 false [(nI 0)]] [hr (some [(nI 0)]),hr true]<|gu 0 3 (jI [0])<|gs 0 26 (.gl 3 1 0 [0].length true)<|.i [.weak 26] []<|gz 0 26 3 1 cG [0] false<|.y fun g:Flow=>gp 0 41 [(.agg [(nI j),(nI k),(iP l),(.ilst 4 (RTs.av m) false)]),(iI [0]),(nI 1)] (bAV g)<|.y fun c:Int=>.y fun d:Int=>.y fun e:List Pat=>.y fun f:List RT=>gp 0 42 [(bAV g)] (.agg [(nI c),(nI d),(iP e),(.ilst 4 (RTs.av f) false)])<|.i [rn 7,.ans (.ix)] [hA (0≤b),hA (b< (a.length:Int))]<|.i [.st (RT.av (RT.mk j k l m)) (RT.av (RT.mk c d e f))] [.a (((a)[b.toNat]?) =some (RT.mk j k l m)) (aCQ aE),hr (some (RT.av (RT.mk c d e f)))]<|.i [.lset 2 (RTs.av (set a b.toNat (RT.mk c d e f)))] [.q (p:=(RTs.av a).set (0+b.toNat) (RT.av (RT.mk c d e f)) = (RTs.av (set a b.toNat (RT.mk c d e f)))) (aHJ aE _ _ _)]<|.i [.set 5 (yM a b c d e f)] [.q (p:=(AV.gl 2 4 0 a.length false) = (yM a b c d e f)) (bK (dZ ..).symm)]<|.i [.set 17 (yM a b c d e f)] [.q (p:=(AV.gl 2 4 0 a.length false) = (yM a b c d e f)) (bK (dZ ..).symm)]<|.i [.set 22 (yM a b c d e f)] [.q (p:=(AV.gl 2 4 0 a.length false) = (yM a b c d e f)) (bK (dZ ..).symm)]<|.i [.set 29 (yM a b c d e f)] [.q (p:=(AV.gl 2 4 0 a.length false) = (yM a b c d e f)) (bK (dZ ..).symm)]<|gw 5 21 (b+1)<|.W 3 5 [0,1,2] (aAc i (set a b.toNat (RT.mk c d e f)) (b+1)))<|.i [rn 9,.frz 33 2 (RTs.av a)] [.q (p:=keylessL (RTs.av a) =true) bT,.q (p:=frzOk 2 4 (RTs.av a) (RTs.av a) (.gl 2 4 0 a.length false)) (hX aE _)]<|.y fun n:Prog=>gp 0 44 [(.ilst 4 (RTs.av a) false),(nI i.main),(iC i.cons)] (Prog.av n)<|.y fun o:Prog=>.y fun p:Int=>gp 0 43 [(Prog.av n)] (.tup [(Prog.av o),(nI p)])<|gE 6 3 (.tup [(Prog.av o),(nI p)])
def bA0:=fun d e f g i j k l m n o p q a b c r s t=>bAZ d e f|>.t q a b g i j k c l r m n o p s a b c t ⟨bT,trivial⟩
def bA1:=fun a b c d e f g i j=>bAZ a b c|>.f g d i e f j tv
theorem bA2 (p:Prog)(c b:Bool)(f:aK PP 10 [(Prog.av p)] (bV c))(h1: (!c) =true)(h2:aK PP 11 [] (bV b)) :
  ∀ (w:World) (a:List Value),VRs (embOf w) [Prog.av p] a→Calls PP 3 ⟨a⟩ w fun e w'=>e= .returned (.bool b) ∧GrownO w w':=
 fun w a d=>cW [qp f,qp h1,qp h2] [rn 9,pB c,rn 2,bt 13,rn 3,pB b,rn 3] w d
theorem bA3 (p:Prog)(i:Bool)(c:Prog)(d:Int)(k:Prog)(n:Int)(f:Bool)(m:Int)(h:Bool)(l:Int)(g b:Bool)(v:aK PP 10 [(Prog.av p)] (bV i))(h1: (!i) =false)(h2:aK PP 12 [(Prog.av p)] (.tup [(Prog.av c),(nI d)]))(r:aK PP 13 [(Prog.av p)] (.tup [(Prog.av k),(nI n)]))(y:aK PP 14 [(Prog.av p)] (.tup [(bV f),(nI m)]))(z:aK PP 15 [(Prog.av p)] (.tup [(bV h),(nI l)]))(u: (d==n) =true)(s:aK PP 16 [(Prog.av c),(Prog.av k)] (bV g))(q:g=true)(x: (f==h) =true)(o: (m==l) =true)(j:aK PP 11 [] (bV b)) :
  ∀ (w:World) (a:List Value),VRs (embOf w) [Prog.av p] a→Calls PP 3 ⟨a⟩ w fun e w'=>e= .returned (.bool b) ∧GrownO w w':=
 fun w a t=>cW [qp v,qp h1,qp h2,qp r,qp y,qp z,qp u,qp s,qp q,qp x,qp o,qp j] [rn 9,pB i,rn 2,bf 13,rn 5,.pure (.tup [(Prog.av c),(nI d)]),rn 10,.pure (.tup [(Prog.av k),(nI n)]),rn 10,.pure (.tup [(bV f),(nI m)]),rn 9,.pure (.tup [(bV h),(nI l)]),rn 12,bt 38,rn 2,pB g,rn 2,bt 43,rn 5,bt 48,rn 5,bt 53,pB b,rn 4] w t
def NI (p:Prog)(q:List XT)(ts:List XT) :Prop:=NInv p q ts∧mO (rO p.cons) ts
theorem aCv {p:Prog}{q:List XT}:∀a,NI p q a→FineXs 1000000 a∧aD a≤100000∧a.length≤1000:=fun _ h=>bAG h.1
theorem aLe {p:Prog}{q:List XT}:∀ (b:List XT) (a:Int) (l:List Int) (ts':List XT),NI p q b→dC b 0=a::l→atF a b 0= .did ts'→NI p q ts':=fun _ _ _ _ h d c=> ⟨aN5 h.1 d c,(aSy h.2 c).1⟩
theorem aLf {p:Prog}(b:aJ p=true)(c:aM p=true)(hc: (cP p).1=true){ts:List XT}(a:aO p ts p.funs) :NI p (ts.map nfT) ts:=by
 obtain⟨d,_,_⟩ :=iF b c;exact⟨bAI b c hc a,aDg d ts p.funs a⟩
theorem aRx {p:Prog}{q ts:List XT}(h:NI p q ts) :∃m,aBf 1000 ts=some (q,m) ∧NI p q q∧dC q 0= [] ∧m.length≤1000:=by
 obtain⟨m,hm⟩ :=aSP 1000 ts h.1 (by have:=h.1.fs;omega);obtain⟨c,b,a⟩ :=aGQ (I:=NI p q) aLe 1000 ts q m h hm;exact⟨m,hm,c,b,a⟩
theorem aOb (p:Prog)(q:List XT)(A:NI p q q)(hc:p.cons.length≤20)(hl:q.length≤320) :∀ (tl:List XT) (i:Nat) (a:List XT),(∀t∈tl,FlOk p t [0] 1) →a.length=i→a++tl.map nfT=q →
  Ends PP 0 (aAc p (a++tl) (i:Int)).as (.ret (.tup [Prog.av (if aAE 30 p.cons q then hN q p.main p.cons else rM),.int .i64 (if aAE 30 p.cons q then 0 else 3)])) (aA [] 0)
 | [],i,a,_,r,k=>by
  rw [List.map_nil,rQ]at k;rw [rQ,k];obtain⟨C,R,J⟩ :=aCv _ A;have L:=aNT q p.main p.cons J (by omega) C R;have G:=aVg (mn:=p.main) C A.2 hl;rw [bAJ hc]at G;exact bA1 p q (i:Int) (hN q p.main p.cons) _ _ (by rw [k]at r;simp;omega) L G
 | .mk j h g b::tl,i,a,hk,r,k=>by
  have l:=hk (.mk j h g b) (cQ ..);have F:=yL (p:=p) (cJ (.mk j h g b)) (.mk j h g b) [0] 1 (Nat.le_refl _) l;have o:= (aHl (.mk j h g b) l.wx [0] 1).2;have D:=l.sz;have I:a.length+ (tl.length+1) =q.length:=by rw [←k];simp
  have z:∀f,gK (.mk j h g b) [0] 1=f→Ends PP 0 (aAc p (a++XT.mk j h g b::tl) (i:Int)).as (.ret (.tup [Prog.av (if aAE 30 p.cons q then hN q p.main p.cons else rM),.int .i64 (if aAE 30 p.cons q then 0 else 3)])) (aA [] 0) :=by
   intro f e;rw [FlP,e]at F;rw [e]at o;simp only [vR]at o;have B:=aIv f (by omega);have w:nfT (.mk j h g b) =clF f:=by rw [nfT,e]
   rw [eU,w]at k;generalize clF f=c at B k;obtain⟨v,m,s,n⟩ :=c;obtain⟨K,⟨Q,O,N,M⟩⟩ :=f;have u:=aOb p q A hc hl tl (i+1) (a++ [XT.mk v m s n]) (fun t H=>hk t (cL _ H)) (by simp [r]) (by rw [←k];simp);have st:=bA0 p (a++XT.mk j h g b::tl) (i:Int) j h b g ⟨K,.mk Q O N M⟩ v m n s (by simp;omega) (by omega) (by simp;omega) (by rw [tI,←r];exact rl_get ..) F B (wrap64 (by omega) (by omega));refine(Eq.mp ?_ st:LeadsM PP 0 _ (aAc p (a++ [XT.mk v m s n] ++tl) ((i+1:Nat) :Int)).as).ends u;rw [tI,show set (a++XT.mk j h g b::tl) i (RT.mk v m n s) =a++ [XT.mk v m s n] ++tl by rw [←r];exact rl_set ..];rfl
  exact z _ rfl
where
 rl_get {α:Type} {d tl:List α} {x:α}: (d++x::tl)[d.length]?=some x:=by simp
 rl_set {α:Type} {d tl:List α} {x y:α}: (d++x::tl).set d.length y=d++ [y] ++tl:=by simp
theorem aVm {p:Prog}(e:aJ p=true){ts:List XT}(c:aM p=true→aO p ts p.funs) :aK PP 13 [Prog.av p] (.tup [Prog.av (tG p (ts.map nfT)).1,.int .i64 (tG p (ts.map nfT)).2]) :=by
 have kl:∀r:Prog×Int,keyless (.tup [Prog.av r.1,.int .i64 r.2]) =true:=fun r=>rfl;refine oI (s:=bAW p) aC aC rfl (kl _) ?_;have hk:=aIt e;unfold bEv at hk;unfold tG;have hb:=e;simp only [aJ,dS,decide_eq_true_eq]at hb;cases d:aM p
 case false=>
  rw [d]at hk;exact Ends.val (aOa p 2 hk rfl) (fun E l h=>qJ h)
 rw [d]at hk;rw [if_neg (by decide)];cases hc: (cP p).1
 case false=>
  rw [hc]at hk;exact Ends.val (aOa p 7 hk rfl) (fun E l h=>qJ h)
 rw [hc]at hk;rw [if_neg (by decide)];have c:=c d;have a:=aLf e d hc c;obtain⟨m,hm,u,i,n⟩ :=aRx a;have q:=eQ c;have o:=a.1.small;have w:=aNJ (aEF e) (by omega) c;have g:=bAY p 0 ts hk rfl (qO (m:=0) (ks:=[]) w aC aC trivial ⟨mB _,trivial⟩)
 have f:=aOb p (ts.map nfT) u (aN7 d) (by simp;omega) ts 0 [] (fun t b=>by
  obtain⟨v,_,_⟩ :=aCv _ a;obtain⟨j,k⟩ :=List.getElem?_of_mem b;have:=kW k;exact⟨fineXs_iff.1 v t b,wxs_iff.1 a.1.wx t b,a.1.sc t b,by omega,by simp only [List.length_singleton];omega,by decide,by omega⟩) rfl (by simp)
 cases hz:aAE 30 p.cons (ts.map nfT)
 case true=>
  rw [hz]at f;exact g.ends f
 rw [hz]at f;exact g.ends f
theorem aVn {p:Prog}(c:aJ p=true){ts:List XT}(d:aM p=true→aO p ts p.funs) :aK PP 15 [Prog.av p] (.tup [.bool (nX p ts).1,.int .i64 (nX p ts).2]) :=by
 refine oI (s:=aZ1 p) aC aC rfl aC ?_;have hk:=aIt c;unfold bEv at hk;unfold nX;cases b:aM p
 case false=>
  rw [b]at hk;exact aNR p 2 hk rfl
 rw [b]at hk;rw [if_neg (by decide)];cases hc: (cP p).1
 case false=>
  rw [hc]at hk;exact aNR p 7 hk rfl
 rw [hc]at hk;rw [if_neg (by decide)];have e:=bAe p 0 (dC ts 0) hk rfl (aVh c b (d b));have g: (((length (dC ts 0) :Nat) :Int) == (0:Int)) =decide (oU ts<0) :=by
  cases h:dC ts 0 with
  |nil=>rw [aBg h];rfl
  | cons a l=>
   obtain⟨f,i⟩ :=aDV h;rw [f,decide_eq_false (by omega)];simp;omega
 rw [g]at e;exact e
theorem aVo {p:Prog}(e:aJ p=true){ts:List XT}(a:aM p=true→aO p ts p.funs) :FitP (tG p (ts.map nfT)).1:=by
 have hb:=e;simp only [aJ,dS,decide_eq_true_eq]at hb;unfold tG;split
 ·exact aDj
 · split
   ·exact aDj
   · rename_i b hc;split
     · have b:aM p=true:=by simpa using b
       have hc: (cP p).1=true:=by simpa using hc
       have a:=a b;have c:=aLf e b hc a;obtain⟨m,hm,d,_,_⟩ :=aRx c;have f:=eQ a;obtain⟨g,i,h⟩ :=aCv _ d;exact aVl g d.2 (by omega) (by simp;omega) (by omega)
     ·exact aDj
theorem nForms_calls (p:Prog)(hk:aK PP 11 [] (.bool true)) :
  ∀ (w:World) (b:List Value),VRs (embOf w) [Prog.av p] b→Calls PP 3 ⟨b⟩ w fun e w'=>e= .returned (.bool true) ∧GrownO w w':=by
 have i:=aD3 p;cases c:aJ p
 case false=>rw [c]at i;exact bA2 p false true i rfl hk
 rw [c]at i;obtain⟨a,d⟩ :∃a,aM p=true→aO p a p.funs:=by
  cases g:aM p
  case false=>exact⟨[],fun h=>by cases h⟩
  obtain⟨q,_,_⟩ :=iF c g;obtain⟨a,h⟩ :=aYf q;exact⟨a,fun _=>h⟩
 obtain⟨m,j⟩ :∃m,aM p=true→ (cP p).1=true→aO p a p.funs∧NI p (a.map nfT) a∧aBf 1000 a=some (a.map nfT,m) :=by
  cases g:aM p
  case false=>exact⟨[],fun h=>by cases h⟩
  cases hc: (cP p).1
  case false=>exact⟨[],fun _ h=>by cases h⟩
  have f:=aLf c g hc (d g);obtain⟨m,hm,_⟩ :=aRx f;exact⟨m,fun _ _=> ⟨d g,f,hm⟩⟩
 have r:=aVe c (I:=NI p (a.map nfT)) aCv aLe j;have n:=aVm c d;have l:=aN0 c (I:=NI p (a.map nfT)) aCv aLe j;have k:=aVn c d;have o:=aQV (tG p (a.map nfT)).1 (aVo c d);exact bA3 p true (tG p (a.map nfT)).1 (tG p (a.map nfT)).2 (tG p (a.map nfT)).1 (tG p (a.map nfT)).2 (nX p a).1 (nX p a).2 (nX p a).1 (nX p a).2 true true i rfl r n l k (by simp) o rfl (by simp) (by simp) hk
end
end Go.Hb
