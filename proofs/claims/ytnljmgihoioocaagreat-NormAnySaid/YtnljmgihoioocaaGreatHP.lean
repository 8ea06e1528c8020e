/- A machine on abstract values, its soundness, ways, plain laws. -/
import Derived.Test.YtnljmgihoioocaaGreatHF
import Derived.Test.YtnljmgihoioocaaGreatHG
import Derived.Test.YtnljmgihoioocaaGreatHH
import Derived.Test.YtnljmgihoioocaaGreatHO
set_option linter.defProp false
set_option linter.unusedVariables false
set_option linter.unusedSimpArgs false
set_option linter.unusedSectionVars false
set_option maxRecDepth 100000
set_option maxHeartbeats 1000000
namespace Go.Hb
open Int (tmod)
open List (map)
open Go.Proofs
noncomputable section
def NI (p:Prog)(q:List XT)(ts:List XT) :Prop:=NInv p q ts∧oG (zX p.cons) ts
theorem aSw {p:Prog}{q:List XT}:∀a,NI p q a→FineXs 1000000 a∧aD a≤100000∧a.length≤1000:=fun _ h=>aZd h.1
theorem aSx {p:Prog}{q:List XT}:∀ (b:List XT) (a:Int) (l:List Int) (ts':List XT),NI p q b→dB b 0=a::l→vW a b 0= .did ts'→NI p q ts':=fun _ _ _ _ h d c=> ⟨aNP h.1 d c,(aSa h.2 c).1⟩
theorem bDs {p:Prog}(a:aF p=true)(b:aJ p=true)(hc: (cV p).1=true){ts:List XT}(c:aQ p ts p.funs) :NI p (ts.map zZ) ts:=by
 obtain⟨d,_,_⟩ :=iH a b;exact⟨aZg a b hc c,aDf d ts p.funs c⟩
theorem bFy {p:Prog}{q ts:List XT}(h:NI p q ts) :∃m,aCv 1000 ts=some (q,m) ∧NI p q q∧dB q 0= [] ∧m.length≤1000:=by
 obtain⟨m,hm⟩ :=aSq 1000 ts h.1 (by have:=h.1.fs;omega);obtain⟨c,a,b⟩ :=aGP (I:=NI p q) aSx 1000 ts q m h hm;exact⟨m,hm,c,a,b⟩
abbrev aDk (a:List Node)(b:List Int)(c:Int)(d:List Con):AV:=.agg [(iN a),(iI b),(nI c),(iC d)]
abbrev vR (a:List Int):AV:=.ilst 1 (map avU8 a) false
abbrev aBc (a:Prog)(b:Int):AV:=.tup [(Prog.av a),(nI b)]
def bG0(a:Prog)(b:List Int):TS:=cH PP 7 [(Prog.av a),(vR b)] [] 0
def yJ(l:Prog)(a:List Int)(b:List Node)(c:List Int)(d:Int)(e:List Con)(f:List Node)(g:List Int)(i:Int)(j:List Con)(k:Int):TS:=⟨(tf 7 92 [(1,(vR a)),(4,(bV false)),kp 5 0,kp 7 1,(8,(nI k))] [kc Tryz.f7 1012,kl Tryz.f7 1012,.inBlock 0,kc Tryz.f7 127]),[],[oC 0 [(iN b),(iI c),(nI d),(iC e)],oC 1 [(iN f),(iI g),(nI i),(iC j)]],2⟩
def bDt (c:Prog)(d:List Int):=fun f a e b g i j k l m=>(tT 0 (bG0 c d)<|kK 9 25 [(Prog.av c)]<|fun f=>.b 2 17 (!f) .x<|gl 1 avU8 d<|gd 3 21 ((d.length:Int) >60) .x<|.y fun a:Prog=>.y fun e:Int=>gp 5 12 [(Prog.av c)] (aBc a e)<|.b 13 29 (e != 0) .x<|.y fun b:Prog=>gp 5 26 [(Prog.av c)] (Prog.av b)<|.W 10 3 [1,2] (yJ c d a.nodes a.funs a.main a.cons b.nodes b.funs b.main b.cons 0)) f g|>.f i|>.f j a e k|>.f l b m tv
def aZp(n:Prog)(g:List Int)(f:List Node)(o:List Int)(p:Int)(q:List Con)(j:List Node)(k:List Int)(l:Int)(m:List Con)(e:Int):=tT 0 (yJ n g f o p q j k l m e)<|gd 6 34 (e<300) (.y fun c:List Int=>.y fun r:Int=>gp 7 17 [(aDk j k l m)] (.tup [(iI c),(nI r)])<|.b 12 43 (r != (0:Int)) .x<|gl 6 cA c<|.b 2 46 ((c.length:Int) == (0:Int)) .x<|gl 11 avU8 g<|gd 2 56 (e< (g.length:Int)) (gX avU8 4 g e<|fun d=>gw 2 61 d<|gl 1 cA c<|.i [.ans (.ev (nI (tmod d (c.length:Int))))] [hA (aN1 PP .rem 3 (nI d) (nI (c.length:Int)) false false=some (nI (tmod d (c.length:Int))))]<|.y fun a:Int=>.y fun b:Prog=>.y fun i:Int=>.i [rn 3,.reg (rd 3 (.ans (.idx (cA a))::.d::.pure (aBc b i)::rd 6 []))] [hA (0≤ (tmod d (c.length:Int))),.a (((c)[(tmod d (c.length:Int)).toNat]?) =some a) (aZ (f:=cA)),hA (aM PP 19 [(aDk j k l m),(nI a)] (aBc b i))]<|.b 6 76 (i != (0:Int)) .x<|kK 1 10 [(Prog.av b)]<|fun s=>.b 3 81 (!s) .x<|gl 2 Node.av b.nodes<|gl 2 Node.av f<|gd 3 89 ((b.nodes.length:Int) > (f.length:Int)) .x<|gw 10 36 (e+ (1:Int))<|.W 3 3 [0,1] (yJ n g f o p q b.nodes b.funs b.main b.cons (e+ (1:Int))))<|.y fun d:Int=>.y fun a:Prog=>.y fun b:Int=>.i [rn 3,.reg (rd 3 (.ans (.idx (cA d))::.d::.pure (aBc a b)::rd 6 []))] [hA (0≤ (0:Int)),.a (((c)[(0:Int).toNat]?) =some d) (aZ (f:=cA)),hA (aM PP 19 [(aDk j k l m),(nI d)] (aBc a b))]<|.b 6 76 (b != (0:Int)) .x<|kK 1 10 [(Prog.av a)]<|fun i=>.b 3 81 (!i) .x<|gl 2 Node.av a.nodes<|gl 2 Node.av f<|gd 3 89 ((a.nodes.length:Int) > (f.length:Int)) .x<|gw 10 36 (e+ (1:Int))<|.W 3 3 [0,1] (yJ n g f o p q a.nodes a.funs a.main a.cons (e+ (1:Int)))) .x
def bDu:=fun a b c d e f g i j k l m n o p q r s t u v w x y z A B C D F G H I J K=>aZp a b c d e f g i j k l|>.t t m n u|>.f v|>.f w|>.t x o y z A B p q r C D F|>.f G s H|>.f I|>.f J K tv
def aZq:=fun a b c d e f g i j k l m n o p q r s t u v w x y z A B C D F=>aZp a b c d e f g i j k l|>.t s m n t|>.f u|>.f v|>.f w o p q x y z|>.f A r B|>.f C|>.f D F tv
theorem aZr (p:Prog)(b:List Int)(d c:Bool)(f:aM PP 25 [(Prog.av p)] (bV d))(h1: (!d) =true)(h2:aM PP 11 [] (bV c)) :
  ∀ (w:World) (a:List Value),VRs (embOf w) [(Prog.av p),(vR b)] a→Calls PP 7 ⟨a⟩ w fun e w'=>e= .returned (.bool c) ∧GrownO w w':=
 fun w a g=>cW [qp f,qp h1,qp h2] [rn 9,pB d,rn 2,bt 17,rn 8,pB c,rn 3] w g
theorem aZs (p:Prog)(a:List Int)(d c:Bool)(f:aM PP 25 [(Prog.av p)] (bV d))(h1: (!d) =false)(h2:decide ((a.length:Int) > (60:Int)) =true)(g:aM PP 11 [] (bV c)) :
  ∀ (w:World) (b:List Value),VRs (embOf w) [(Prog.av p),(vR a)] b→Calls PP 7 ⟨b⟩ w fun e w'=>e= .returned (.bool c) ∧GrownO w w':=
 fun w b h=>cW [qp f,qp h1,ql avU8 a,qp h2,qp g] [rn 9,pB d,rn 2,bf 17,rn 1,aL a,rn 3,bt 21,rn 3,pB c,rn 3] w h
theorem aZt (p:Prog)(a:List Int)(d:Bool)(g:Prog)(f:Int)(c:Bool)(i:aM PP 25 [(Prog.av p)] (bV d))(h1: (!d) =false)(h2:decide ((a.length:Int) > (60:Int)) =false)(j:aM PP 12 [(Prog.av p)] (aBc g f))(h: (f != (0:Int)) =true)(l:aM PP 11 [] (bV c)) :
  ∀ (w:World) (b:List Value),VRs (embOf w) [(Prog.av p),(vR a)] b→Calls PP 7 ⟨b⟩ w fun e w'=>e= .returned (.bool c) ∧GrownO w w':=
 fun w b k=>cW [qp i,qp h1,ql avU8 a,qp h2,qp j,qp h,qp l] [rn 9,pB d,rn 2,bf 17,rn 1,aL a,rn 3,bf 21,rn 5,.pure (aBc g f),rn 13,bt 29,rn 3,pB c,rn 3] w k
theorem aZu (p:Prog)(b:List Int)(k:List Node)(h:List Int)(j:Int)(i:List Con)(d:List Node)(g:List Int)(c:Int)(f:List Con)(q:Int)(l:List Int)(o:Int)(m n:Bool)(s:decide (q< (300:Int)) =true)(h1:aM PP 17 [(aDk d g c f)] (.tup [(iI l),(nI o)]))(h2: (o != (0:Int)) =false)(v: ((l.length:Int) == (0:Int)) =true)(r:aM PP 16 [(aDk d g c f),(aDk k h j i)] (bV m))(u:m=true)(t:aM PP 11 [] (bV n))(hl:LeadsM PP 0 (start PP 7 [(Prog.av p),(vR b)]).as (yJ p b k h j i d g c f q).as) :
  ∀ (w:World) (a:List Value),VRs (embOf w) [(Prog.av p),(vR b)] a→Calls PP 7 ⟨a⟩ w fun e w'=>e= .returned (.bool n) ∧GrownO w w':=
 fun w a x=>cL hl [qp s,qp h1,qp h2,ql cA l,qp v,qp r,qp u,qp t] [rn 6,bt 34,rn 7,.pure (.tup [(iI l),(nI o)]),rn 12,bf 43,rn 6,aL l,rn 2,bt 46,rn 5,pB m,rn 1,bt 50,pB n,rn 4] w x
theorem aUW (p:Prog)(b:List Int)(j:List Node)(g:List Int)(h:Int)(k:List Con)(d:List Node)(i:List Int)(c:Int)(f:List Con)(m:Int)(l:Bool)(n:decide (m< (300:Int)) =false)(h1:aM PP 11 [] (bV l))(hl:LeadsM PP 0 (start PP 7 [(Prog.av p),(vR b)]).as (yJ p b j g h k d i c f m).as) :
  ∀ (w:World) (a:List Value),VRs (embOf w) [(Prog.av p),(vR b)] a→Calls PP 7 ⟨a⟩ w fun e w'=>e= .returned (.bool l) ∧GrownO w w':=
 fun w a o=>cL hl [qp n,qp h1] [rn 6,bf 34,rn 4,pB l,rn 3] w o
def bG1(a:Prog):TS:=cH PP 25 [(Prog.av a)] [] 0
def aRa(a:Prog):=tT 0 (bG1 a)<|kK 8 10 [(Prog.av a)]<|fun b=>.b 1 5 b (kK 1 27 [(Prog.av a)]<|fun c=>.b 2 9 c (kK 1 58 [(Prog.av a)]<|fun d=>gE 4 1 (bV d))<|gE 6 1 (bV false))<|gE 10 1 (bV false)
def bDv:=fun a b c d e f g i j=>aRa a b e|>.t f c g|>.t i d j tv
def bDw:=fun a b c d e f g=>aRa a b d|>.t e c f|>.f g tv
def bDx:=fun a b c d=>aRa a b c|>.f d tv
theorem bFz :∀ (t:XT) (n a:Int),a∈stT t n→a<n+ (cB t:Nat) :=by
 intro t n a h;obtain⟨d,c⟩ :=at_in t n 0 h;by_cases b:a<n+ (cB t:Nat)
 ·exact b
 ·rw [zY t n 0 (by omega)]at c;cases c
theorem aSy :∀ (b:List XT) (n a:Int),a∈dB b n→a<n+ (aD b:Nat)
 | [],n,a,h=>by simp [dB]at h
 | t::b,n,a,h=>by
  simp only [dB,zq28]at h;simp only [aD];rcases h with h|h
  ·have:=bFz t n a h;omega
  ·have:=aSy b _ a h;omega
theorem aUX {p:Prog}:aM PP 25 [Prog.av p] (.bool (aF p&&aJ p&& (cV p).1)) :=by
 refine aK aC rfl rfl ?_;have b:=vV p;cases a:aF p
 case false=>rw [a]at b;exact bDx p false b rfl
 rw [a]at b;have hb:=a;simp only [aF,cM,decide_eq_true_eq]at hb;have d:=aJB p a;cases c:aJ p
 case false=>rw [c]at d;exact bDw p true false b rfl d rfl
 rw [c]at d;obtain⟨g,_,_⟩ :=iH a c;have f:=aQx g;have e: (cV p).1=hO p (kC p) 0 (kC p) :=by unfold cV;rw [if_pos c]
 rw [e];exact bDv p true true _ b rfl d rfl f
structure Way (p:Prog) (q ts:List XT) :Prop where
 len:ts.length=p.funs.length
 wx:mJ p ts
 sc:∀t∈ts,vX t 1
 nf:ts.map zZ=q
 fits:oD 30 p.cons ts=true
section
variable {p :Prog} (hp:Fs p) {q:List XT} (hq:oD 30 p.cons q=true)
include hp in
theorem Way.fs {ts:List XT}(h:Way p q ts) :Fs (bK ts p.main p.cons) ∧ (cV (bK ts p.main p.cons)).1=true:=aLa hp h.len h.wx h.sc h.fits
include hp in
theorem aUY {ts:List XT}(h:Way p q ts) :aM PP 17 [Prog.av (bK ts p.main p.cons)] (.tup [.ilst 1 (map cA (dB ts 0)) false,.int .i64 0]) :=by
 obtain⟨a,b⟩ :=h.fs hp;have e:=aQT a.sm (ts:=ts) (fun _=>yI ts p.main p.cons);unfold aKZ at e;rw [a.fo,b]at e;exact e
include hp hq in
theorem bFA {ts:List XT}(h:Way p q ts){a:Int}(c:a∈dB ts 0) :∃b,Way p q b∧aM PP 19 [Prog.av (bK ts p.main p.cons),.int .i64 a] (.tup [Prog.av (bK b p.main p.cons),.int .i64 0]) :=by
 obtain⟨j,m⟩ :=h.fs hp;obtain⟨b,d⟩ :=aK7 ts 0 c;obtain⟨g,l,f⟩ :=aZe h.wx h.sc d;have i:oD 30 p.cons b=true:=aSv g (by rw [f,h.nf];exact hq);refine⟨b,⟨by rw [aCb a ts 0 b d];exact h.len,g,l,by rw [f,h.nf],i⟩,?_⟩;have e:=bCV j.sm (ts:=ts) (fun _=>yI ts p.main p.cons) a;have k:=aSy ts 0 a c;have n:=qO ts 0 a c;unfold doX at e;rw [lK,if_neg (by omega),j.fo,m]at e;simp only [Bool.true_eq_false,if_false]at e;rw [show(bK ts p.main p.cons).main=p.main from rfl,show(bK ts p.main p.cons).cons=p.cons from rfl,aNC d i]at e;exact e
theorem Way.size {ts:List XT}(h:Way p q ts) :aD ts≤aD q:=by
 have:= (aCy h.wx).1;rw [h.nf]at this;exact this
end
theorem bHY {n l:Int}(h:l≠0) :aN1 PP .rem 3 (.int .i64 n) (.int .i64 l) false false=some (.int .i64 (tmod n l)) :=by
 simp [aN1,aIy,h]
theorem nAny_calls (p:Prog)(b:List Int)(N:∀n∈b,0≤n∧n≤255)(hk:aM PP 11 [] (.bool true)) :
  ∀ (w:World) (f:List Value),VRs (embOf w) [Prog.av p,.ilst 1 (map avU8 b) false] f→Calls PP 7 ⟨f⟩ w fun e w'=>e= .returned (.bool true) ∧GrownO w w':=by
 have z:=aUX (p:=p);cases q: (aF p&&aJ p&& (cV p).1)
 case false=>rw [q]at z;exact aZr p b false true z rfl hk
 rw [q]at z;simp only [cM]at q;obtain⟨⟨K,M⟩,hc⟩ :=q;by_cases Z:b.length>60
 ·exact aZs p b true true z rfl (by simp;omega) hk
 have x:=Fs.of K M;obtain⟨ts,J⟩ :=aYb x.fine;have j:=bDs K M hc J;obtain⟨m,hm,U,hst,hml⟩ :=bFy j;have G:=aUP K (I:=NI p (ts.map zZ)) (ts:=ts) aSw aSx (fun _ _=> ⟨J,j,hm⟩);have en:aNK p (ts.map zZ) =if oD 30 p.cons (ts.map zZ)then(bK (ts.map zZ) p.main p.cons,0)else(qM,3) :=by
  unfold aNK;rw [M,hc];rfl
 rw [en]at G;cases hz:oD 30 p.cons (ts.map zZ)
 case false=>rw [hz]at G;exact aZt p b true qM 3 true z rfl (by simp;omega) G rfl hk
 rw [hz]at G;have a2:=aNS x J;have L:=eU J;have F:Way p (ts.map zZ) ts:= ⟨L,j.1.wx,j.1.sc,rfl,aSv j.1.wx hz⟩;have st:=bDt p b true (bK (ts.map zZ) p.main p.cons) 0 (bK ts p.main p.cons) z rfl (by simp;omega) G rfl a2;have st:LeadsM PP 0 (start PP 7 [Prog.av p,.ilst 1 (map avU8 b) false]).as (yJ p b (bK (ts.map zZ) p.main p.cons).nodes (bK (ts.map zZ) p.main p.cons).funs p.main p.cons (bK ts p.main p.cons).nodes (bK ts p.main p.cons).funs p.main p.cons ((0:Nat) :Int)).as:=Eq.mp aC st
 have loop:∀ (d i:Nat) (g:List XT),i+d=300→Way p (ts.map zZ) g→LeadsM PP 0 (start PP 7 [Prog.av p,.ilst 1 (map avU8 b) false]).as (yJ p b (bK (ts.map zZ) p.main p.cons).nodes (bK (ts.map zZ) p.main p.cons).funs p.main p.cons (bK g p.main p.cons).nodes (bK g p.main p.cons).funs p.main p.cons (i:Int)).as →
   ∀ (w:World) (f:List Value),VRs (embOf w) [Prog.av p,.ilst 1 (map avU8 b) false] f→Calls PP 7 ⟨f⟩ w fun e w'=>e= .returned (.bool true) ∧GrownO w w':=by
  intro d
  induction d with
  | zero=>
   intro i g hi B hl;exact aUW p b _ _ _ _ _ _ _ _ (i:Int) true (by simp;omega) hk hl
  | succ d X=>
   intro i g hi B hl;have A:=aUY x B;cases r:dB g 0 with
   | nil=>
    rw [r]at A;have o:=aAa B.wx B.sc r;rw [B.nf]at o
    have u:=aQJ (bK (ts.map zZ) p.main p.cons) (by
     obtain⟨Y,f2,f3⟩ :=aSw _ U;exact aUV Y U.2 (by omega) (by have:=x.fine.fsmall;simp;omega) (by have:=x.head.2.2.2.2.2.1;omega))
    rw [←o]at hl A;exact aZu p b _ _ _ _ _ _ _ _ (i:Int) [] 0 true true (by simp;omega) A rfl rfl u rfl hk hl
   | cons a l=>
    have t:¬ ((((a::l).length:Nat) :Int) ==0) =true:=by simp;omega
    rw [r]at A;have s:∀k:Nat,k< (a::l).length→∃y,(a::l)[k]?=some y∧y∈dB g 0:=fun k hk=> ⟨_,kF hk,by rw [r];exact List.getElem_mem ..⟩;have W:=lK (ts.map zZ) p.main p.cons
    have next:∀y,y∈dB g 0→∃c,Way p (ts.map zZ) c∧aM PP 19 [Prog.av (bK g p.main p.cons),.int .i64 y] (.tup [Prog.av (bK c p.main p.cons),.int .i64 0]) ∧aM PP 10 [Prog.av (bK c p.main p.cons)] (.bool true) ∧decide ((((bK c p.main p.cons).nodes.length:Nat) :Int) > (((bK (ts.map zZ) p.main p.cons).nodes.length:Nat) :Int)) =false:=fun y H=>by
     obtain⟨c,v,C⟩ :=bFA x hz B H;have V:=vV (bK c p.main p.cons);rw [(v.fs x).1.sm]at V;have h6:=v.size;exact⟨c,v,C,V,by rw [lK,lK,decide_eq_false_iff_not];omega⟩
    by_cases O:i<b.length
    · obtain⟨y2,D⟩ :∃y2,b[i]?=some y2:= ⟨_,kF O⟩;have h8:=N y2 (kN D);have R:0≤tmod y2 (((a::l).length:Nat) :Int) :=Int.tmod_nonneg _ h8.1;have hm1:tmod y2 (((a::l).length:Nat) :Int) < (((a::l).length:Nat) :Int) :=Int.tmod_lt_of_pos _ (by simp);obtain⟨y,H,h⟩ :=s (tmod y2 (((a::l).length:Nat) :Int)).toNat (by omega);obtain⟨c,v,C,S,Q⟩ :=next y h
      have T:=bDu p b (bK (ts.map zZ) p.main p.cons).nodes (bK (ts.map zZ) p.main p.cons).funs p.main p.cons (bK g p.main p.cons).nodes (bK g p.main p.cons).funs p.main p.cons (i:Int) (a::l) 0 y2 y (bK c p.main p.cons) 0 true (by simp;omega) A rfl (by simpa using t) (by simp;omega) (by omega) (by simpa using D) (wrap64 (by omega) (by omega)) (bHY (by simp;omega)) R H C rfl S rfl Q (wrap64 (by omega) (by omega));exact X (i+1) c (by omega) v (hl.trans T)
    · obtain⟨y,H,h⟩ :=s 0 (by simp);obtain⟨c,v,C,S,Q⟩ :=next y h
      have T:=aZq p b (bK (ts.map zZ) p.main p.cons).nodes (bK (ts.map zZ) p.main p.cons).funs p.main p.cons (bK g p.main p.cons).nodes (bK g p.main p.cons).funs p.main p.cons (i:Int) (a::l) 0 y (bK c p.main p.cons) 0 true (by simp;omega) A rfl (by simpa using t) (by simp;omega) (by decide) H C rfl S rfl Q (wrap64 (by omega) (by omega));exact X (i+1) c (by omega) v (hl.trans T)
 exact loop 300 0 ts rfl F st
section
variable {H :Type} {enc:TypeId×Value→H} {w:World} {spare:Nat→Bool} {held:Bool}
theorem bDy :Tryz.prog.cellsOf 5=1:=by kernel_rfl
abbrev bG2 :={n:Int // 0≤n∧n≤255}
theorem lift_bytesU {a:Nat}{cs:List Value}{x:DataW H×List MemPlace}(h:DataW.trod enc Tryz.prog w 0 spare held a 43 cs=some x) :∃ (l:List Int) (c:Value),cs= [c] ∧ (∀n∈l,0≤n∧n≤255) ∧VR (embOf w) (.ilst 1 (l.map avU8) false) c:=by
 obtain⟨l,c,g,d⟩ :=mY (fun(n:bG2) =>avU8 n.1) Tryz.underlying43 bDy (by omega) h (fun j _ cs x f=>by
  obtain⟨n,rfl,b⟩ :=DataW.trod_int Tryz.underlying5 f;have hr:0≤n∧n≤255:=by
   have k:IntKind.u8.min=0:=by decide
   have i:IntKind.u8.max=255:=by decide
   have b:=b.2;simp only [Lit.wf,cM,decide_eq_true_eq]at b;omega
  exact⟨⟨n,hr⟩,aRr (by simp only [avU8,VR]) rfl rfl⟩)
 refine⟨l.map Subtype.val,c,g,fun n e=>?_,by rw [List.map_map];exact d⟩;obtain⟨x,_,rfl⟩ :=zq24.1 e;exact x.2
end
end
end Go.Hb
