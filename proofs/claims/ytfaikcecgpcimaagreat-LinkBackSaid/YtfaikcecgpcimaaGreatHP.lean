/- A machine on abstract values, its soundness, ways, plain laws. -/
import Derived.Test.YtfaikcecgpcimaaGreatHF
import Derived.Test.YtfaikcecgpcimaaGreatHG
import Derived.Test.YtfaikcecgpcimaaGreatHH
import Derived.Test.YtfaikcecgpcimaaGreatHI
import Derived.Test.YtfaikcecgpcimaaGreatHK
import Derived.Test.YtfaikcecgpcimaaGreatHM
import Derived.Test.YtfaikcecgpcimaaGreatHN
import Derived.Test.YtfaikcecgpcimaaGreatHL
set_option linter.defProp false
set_option linter.unusedVariables false
set_option linter.unusedSimpArgs false
set_option linter.unusedSectionVars false
set_option maxRecDepth 100000
set_option maxHeartbeats 4000000
namespace Go.Hb
open AV (ilst int keyless keylessL)
open Eq (mp)
open List (flatten_cons getElem?_eq_getElem length length_append length_cons length_set map map_cons mem_of_getElem? range replicate set)
open Go.Proofs Tryz
noncomputable section
theorem aPk (l:List LUnit) :Pure PP 35 [.ilst 5 (map LUnit.av l) false] (.bool (iE l&&gB l)) :=by
 have h0:=aSe l;refine aU (by kernel_rfl) rfl rfl ?_;cases e:iE l with
 |false=>rw [e]at h0;exact bAG l false h0 rfl
 | true=>
  rw [e]at h0;have h1:=aVe l (fun u h=>aOV ((aMg e).2 u h));exact bAF l true _ h0 rfl h1
section
variable (l :List LUnit)
end
def ConsTo (uc pc:List Con)(mc:List (Int×Int)) :Prop:=∀ (i:Nat) (d:Con),uc[i]?=some d→0≤lQ mc (i:Int) ∧pc[(lQ mc (i:Int)).toNat]?=some d
theorem ConsTo.at {uc pc:List Con}{mc:List (Int×Int)}(h:ConsTo uc pc mc){n:Int}(h0:0≤n)(h1:n<uc.length) :∃d,uc[n.toNat]?=some d∧0≤lQ mc n∧pc[(lQ mc n).toNat]?=some d:=by
 have e:uc[n.toNat]?=some (uc[n.toNat]'(by omega)) :=getElem?_eq_getElem (by omega);have:=h n.toNat _ e;rw [show((n.toNat:Nat) :Int) =n by omega]at this;exact⟨_,e,this.1,this.2⟩
section
variable (m :Mover) (mc:List (Int×Int))
end
def aC8(b:Prog)(c d:Int)(a:List Int):TS:=cI PP 142 [(Prog.av b),(nI c),(nI d),(.gl 0 1 0 a.length false)] [oL 0 1 (jI a)] 1
def aEk(b:Prog)(n c:Int)(a:List Int)(d e f g i j:Int)(k:List Int)(l:List Pat)(m:Int):TS:=⟨(tf 130 19 [(0,(.gl 0 1 0 a.length false)),(1,(nI d)),(4,(nI 0)),(7,(nI (a.length:Int))),(8,(nI m))] [kc f130 52,kl f130 52,.inBlock 0,kc f130 7]),[(tf 45 9 [(4,(bV false)),(5,(.gl 0 1 0 a.length false)),(6,(nI e))] [ko f45 6 2,kc f45 7]),(tf 142 58 [(2,(nI c)),(3,(.gl 0 1 0 a.length false)),kp 4 1,(8,.nils),kp 9 2,(10,(nI f)),(34,(bV true)),(35,(.gl 0 1 0 a.length false)),(36,(nI g))] [ko f142 58 16,kc f142 59,kc f142 15])],[oL 0 1 (jI a),oC 1 [(iN b.nodes),(iI b.funs),(nI b.main),(iC b.cons)],oC 2 [(nI i),(nI j),(iI k),(iP l)]],3⟩
def jX(a:Prog)(g c:Int)(i d:List Int)(e:Int)(b:List Int)(f:Int):TS:=⟨(tf 142 58 [(2,(nI c)),(3,(.gl 0 1 0 b.length false)),kp 4 1,(8,.nils),(45,(iI d)),(46,(nI e)),(47,(nI f))] [kc f142 244,kl f142 244,.inBlock 0,kc f142 31]),[],[oL 0 1 (jI b),oC 1 [(iN a.nodes),(iI a.funs),(nI a.main),(iC a.cons)]],2⟩
def aJ2(c:Prog)(d e:Int)(b:List Int):=tT 0 (aC8 c d e b)<|gX Node.av 10 c.nodes d<|fun a=>gw 10 20 ((-1:Int) -a.n)<|.b 8 24 (a.op==4) (gd 5 29 (a.n<0) (.b 5 34 (((-1:Int) -a.n) != e) (.W 25 3 [0,1,2] (aEk c d e b ((-1:Int) -a.n) ((-1:Int) -a.n) ((-1:Int) -a.n) ((-1:Int) -a.n) a.op a.n a.kids a.pats 0))<|gl 13 aP a.kids<|.W 4 3 [0,1] (jX c d e b a.kids (a.kids.length:Int) b 0))<|gl 18 aP a.kids<|.W 4 3 [0,1] (jX c d e b a.kids (a.kids.length:Int) b 0))<|gl 23 aP a.kids<|.W 4 3 [0,1] (jX c d e b a.kids (a.kids.length:Int) b 0)
def aWa:=fun a b c d e f g i j k l=>aJ2 a b c d e f g i|>.t j|>.t k|>.t l ⟨kk,trivial⟩
def aWb:=fun a b c d e f g i j k l=>aJ2 a b c d e f g i|>.t j|>.t k|>.f l ⟨kk,trivial⟩
def aWc:=fun a b c d e f g i j k=>aJ2 a b c d e f g i|>.t j|>.f k ⟨kk,trivial⟩
def aWd:=fun a b c d e f g i j=>aJ2 a b c d e f g i|>.f j ⟨kk,trivial⟩
def aPl(e:Prog)(f g:Int)(a:List Int)(i j d k l m:Int)(b:List Int)(n:List Pat)(c:Int):=tT 0 (aEk e f g a i j d k l m b n c)<|gd 5 9 (c< (a.length:Int)) (.i [rn 14,.ans (.ix)] [hA (0≤c),hA (c< (a.length:Int))]<|.y fun o:Int=>gj aP 0 a c.toNat o<|.b 2 16 (i==o) (.b 16 39 (!(decide (c≥0))) (ga 5 aP a [d]<|gl 7 aP b<|.W 4 5 [4,1] (jX e f g a b (b.length:Int) (a++ [d]) 0))<|gl 7 aP b<|.W 4 3 [0,1] (jX e f g a b (b.length:Int) a 0))<|gw 5 18 (c+1)<|.W 3 3 [0,1,2] (aEk e f g a i j d k l m b n (c+1)))<|ga 21 aP a [d]<|gl 7 aP b<|.W 4 5 [4,1] (jX e f g a b (b.length:Int) (a++ [d]) 0)
def aWe:=fun a b c d e f g i j k l m n o p q r s t u=>aPl a b c d e f g i j k l m n|>.t p q r o s|>.t t|>.f u ⟨kk,trivial⟩
def aWf:=fun a b c d e f g i j k l m n o p q r s t u=>aPl a b c d e f g i j k l m n|>.t p q r o s|>.f t u ⟨kk,trivial⟩
def aWg:=fun a b c d e f g i j k l m n o p=>aPl a b c d e f g i j k l m n|>.f o p ⟨kk,trivial⟩
def aWh(a:Prog)(i d:Int)(j e:List Int)(f:Int)(b:List Int)(c:Int):=tT 0 (jX a i d j e f b c)<|gd 5 48 (c<f) (gX aP 6 e c<|fun k=>.y fun g:List Int=>gk 8 (.enter 142 [(Prog.av a),(nI k),(nI d),(.gl 0 1 0 b.length false)]) [oL 0 1 (jI b),oC 1 [(iN a.nodes),(iI a.funs),(nI a.main),(iC a.cons)]] 2 (.gl 2 1 0 g.length false) [oC 1 [(iN a.nodes),(iI a.funs),(nI a.main),(iC a.cons)],oL 2 1 (jI g)] 3<|gw 5 56 (c+1)<|.W 3 3 [2,1] (jX a i d j e f g (c+1)))<|.E 8 2 [0] (.gl 0 1 0 b.length false) [oL 0 1 (jI b)] 1
def aWi:=fun a b c d e f g i j k l m n o p=>aWh a b c d e f g i|>.t l j m n k o p ⟨kk,trivial⟩
def aWj:=fun a b c d e f g i j=>aWh a b c d e f g i|>.f j ⟨kk,trivial⟩
def aF5 (l:List Int)(f:Int) :Bool:=l.any fun x=>decide (x=f)
def uO (but:Int)(out:List Int)(x:Node) :List Int:=if x.op=4∧x.n<0∧ -1-x.n≠but∧aF5 out (-1-x.n) =false then out++ [-1-x.n]else out
theorem aWk (but:Int)(out:List Int)(x:Node) : (uO but out x).length≤out.length+1:=by
 unfold uO;split<;>simp
def nmN (p:Prog)(but:Int) :Nat→Int→List Int→List Int
 |0,_,out=>out
 | k+1,a,out=>match p.nodes[a.toNat]? with
  |some x=>x.kids.foldl (fun o c=>nmN p but k c o) (uO but out x)
  |none=>out
theorem aQo (p:Prog)(but:Int) :∀ (k:Nat) (a:Int) (out:List Int),(nmN p but k a out).length≤out.length+ (pre p k a).length
 |0,a,out=>by simp [nmN]
 | k +1,a,out=>by
  rw [nmN,pre];cases p.nodes[a.toNat]? with
  |none=>simp
  | some x=>
   have key:∀ (cs:List Int) (o:List Int),(cs.foldl (fun o c=>nmN p but k c o) o).length≤o.length+ ((cs.map (pre p k)).flatten).length:=by
    intro cs
    induction cs with
    |nil=>intro o;simp
    | cons c cs ih=>
     intro o;have h1:=ih (nmN p but k c o);have h2:=aQo p but k c o;rw [List.foldl_cons,map_cons,flatten_cons,length_append];omega
   have h1:=key x.kids (uO but out x);have h2:=aWk but out x;simp only [length_cons];omega
abbrev PgC (p:Prog) :AObj:=.cells (putCells .leaf 0 [.ilst 4 (map Node.av p.nodes) false,.ilst 1 (map aP p.funs) false,.int .i64 p.main,.ilst 2 (map Con.av p.cons) false]) 4 [] false
abbrev LIs (l:List Int) :AObj:=.lst 1 (map aP l)
abbrev PAv (p:Prog) :AV:=.agg [.ilst 4 (map Node.av p.nodes) false,.ilst 1 (map aP p.funs) false,.int .i64 p.main,.ilst 2 (map Con.av p.cons) false]
def NMS (f:Nat)(p:Prog)(but a:Int)(l r:List Int) :Prop:=
 aAo PP (.enter f [PAv p,.int .i64 a,.int .i64 but,.gl 0 1 0 (length l) false]) (aD [(0,LIs l,true)] 1) (.ret (.gl 0 1 0 (length r) false)) (aD [(0,LIs r,true)] 1)
abbrev aSo (r:List Int)(s:TS) :Prop:=Ends PP 0 s.as (.ret (.gl 0 1 0 (length r) false)) (aD [(0,LIs r,true)] 1)
theorem aJ3 (l:List Int) : (LIs l).kl:=aE _ (fun _=>rfl) _
section
variable (p :Prog) (but:Int)
theorem aSp {c:Int}{l r:List Int}(h:NMS 142 p but c l r) :Spec PP (.enter 142 [PAv p,.int .i64 c,.int .i64 but,.gl 0 1 0 (length l) false]) (aD [(0,LIs l,true),(1,PgC p,false)] 2) (.ret (.gl 2 1 0 (length r) false)) (aD [(1,PgC p,false),(2,LIs r,true)] 3) :=
 mp (by kernel_rfl) (xB (ks:=[0]) (n2:=2) (lc:=[(0,LIs l,true),(1,PgC p,false)]) (x:=[(1,PgC p,false)]) (args':=[PAv p,.int .i64 c,.int .i64 but,.gl 0 1 0 (length l) false])
  h (by kernel_rfl) (by kernel_rfl) (by kernel_rfl) ⟨aJ3 l,trivial⟩ (by kernel_rfl) (by kernel_rfl) (by kernel_rfl) (by kernel_rfl) ⟨aJ3 r,trivial⟩ (by kernel_rfl))
theorem aPm {a:Int}{l r:List Int}(h:aSo r (aC8 p a but l)) :NMS 142 p but a l r:= ⟨(aC8 p a but l).as.fr,by kernel_rfl,mp (by kernel_rfl) h⟩
theorem aHN {k:Nat}(a:Int)(l:List Int)(ks:List Int)(hk:ks.length<1000000)(ih:∀c∈ks,∀o:List Int,o.length+ (pre p k c).length≤1000000→NMS 142 p but c o (nmN p but k c o)) :∀ (t:List Int) (i:Nat) (o:List Int),ks.drop i=t→o.length+ ((t.map (pre p k)).flatten).length≤1000000 →
  aSo (t.foldl (fun o c=>nmN p but k c o) o) (jX p a but l ks ((ks.length:Nat) :Int) o (i:Int))
 | [],i,o,h,_=>by
  have:=bA h;exact aWj p a but l ks _ o i sd
 | c::t,i,o,h,hb=>by
  obtain⟨q1,q2,q3⟩ :=aY h;simp only [map_cons,flatten_cons,length_append]at hb;have hl:=aQo p but k c o;exact(aWi p a but l ks _ o i c (nmN p but k c o) sd sd sd (aSp p but (ih c (mem_of_getElem? q1) o (by omega))) sd).ends (aHN a l ks hk ih t (i+1) _ q2 (by omega))
theorem aHO (a:Int)(l:List Int)(hl:l.length+1≤1000000)(x:Node)(v f:Int){r:List Int}(hn:aF5 l v=false→aSo r (jX p a but l x.kids ((x.kids.length:Nat) :Int) (l++ [v]) 0))(ho:aF5 l v=true→aSo r (jX p a but l x.kids ((x.kids.length:Nat) :Int) l 0)) :∀ (t:List Int) (i:Nat),l.drop i=t→ (aF5 l v=aF5 t v) →
  aSo r (aEk p a but l v v v v x.op x.n x.kids x.pats (i:Int))
 | [],i,h,e=>by
  have:=bA h;exact(aWg p a but l v v v v _ _ _ _ i sd (by simp;omega)).ends (hn (by rw [e];rfl))
 | y::t,i,h,e=>by
  obtain⟨q1,q2,q3⟩ :=aY h;by_cases g:v=y
  ·exact(aWe p a but l v v v v _ _ _ _ i y sd sd sd sd (by simp [g]) (by simp)).ends (ho (by rw [e,g];simp [aF5]))
  ·exact(aWf p a but l v v v v _ _ _ _ i y sd sd sd sd (by simp [g]) sd).ends (aHO a l hl x v f hn ho t (i+1) q2 (by rw [e];simp [aF5,Ne.symm g]))
end
section
variable {p :Prog} (hp:FineP p) (hn:∀ (i:Nat) (x:Node),p.nodes[i]?=some x→ -1000000000≤x.n∧x.n≤1000000000)
include hp hn
theorem aHP (but:Int) :∀ (k:Nat) (a:Int) (l:List Int),0≤a→a<p.nodes.length→p.nodes.length-a.toNat≤k→l.length+ (pre p k a).length≤1000000→NMS 142 p but a l (nmN p but k a l)
 |0,a,l,h0,h1,h2,_=>by omega
 | k + 1, a,l,h0,h1,h2,hb=>by
  obtain⟨x,hx⟩ :∃x,p.nodes[a.toNat]?=some x:= ⟨_,getElem?_eq_getElem (by omega)⟩;have hm:=hp.node _ _ hx;have hr:=hn _ _ hx;have e:pre p (k+1) a=a:: (x.kids.map (pre p k)).flatten:=by rw [pre,hx]
  rw [e,length_cons]at hb;have w:IntKind.i64.wrap ((-1:Int) -x.n) = -1-x.n:=by apply wrap64<;>omega
  have ih:∀c∈x.kids,∀o:List Int,o.length+ (pre p k c).length≤1000000→NMS 142 p but c o (nmN p but k c o) :=fun c hc o ho=>by
   have:=hm.2.2 c hc;exact aHP but k c o (by omega) (by omega) (by omega) ho
  have hk10:x.kids.length<1000000:=by have:=hm.2.1;omega
  have er:nmN p but (k+1) a l=x.kids.foldl (fun o c=>nmN p but k c o) (uO but l x) :=by rw [nmN,hx]
  have hkids:=fun(o:List Int) (ho:o.length≤l.length+1) =>aHN p but a l x.kids hk10 ih x.kids 0 o rfl (by omega);refine aPm p but ?_;rw [er]
  have same:uO but l x=l→aSo (x.kids.foldl (fun o c=>nmN p but k c o) (uO but l x)) (jX p a but l x.kids ((x.kids.length:Nat) :Int) l 0) :=fun g=>by
   rw [g];exact hkids l (by omega)
  by_cases e4:x.op=4
  · by_cases en:x.n<0
    · by_cases eb: -1-x.n=but
      ·exact(aWb p a but l x h0 hx w (by simp [e4]) (by simp [en]) (by simp [eb])).ends (same (by unfold uO;rw [if_neg (fun g=>g.2.2.1 eb)]))
      · refine(aWa p a but l x h0 hx w (by simp [e4]) (by simp [en]) (by simp [eb])).ends (aHO p but a l (by omega) x (-1-x.n) 0 (fun g=>?_) (fun g=>?_) l 0 rfl rfl)
        · have:uO but l x=l++ [-1-x.n] :=by unfold uO;rw [if_pos ⟨e4,en,eb,g⟩]
          rw [this];exact hkids _ (by simp)
        ·exact same (by unfold uO;rw [if_neg (fun h=>by have:=h.2.2.2;rw [g]at this;cases this)])
    ·exact(aWc p a but l x h0 hx w (by simp [e4]) (by simp;omega)).ends (same (by unfold uO;rw [if_neg (fun g=>en g.2.1)]))
  ·exact(aWd p a but l x h0 hx w (by simp [e4])).ends (same (by unfold uO;rw [if_neg (fun g=>e4 g.1)]))
end
def aA3 (p:Prog)(l:List aB) :Bool:=decide (l.length=p.funs.length) &&eG l&&decide (cZ eH l 0=p.main)
def setF :List Int→Nat→List Int→List Int
 |F,_,[] =>F
 |F,k,y::t=>setF (F.set y.toNat (1+ (k:Int))) (k+1) t
theorem yE :∀ (t F:List Int) (k:Nat),(setF F k t).length=F.length
 | [],F,k=>rfl
 |y::t,F,k=>by rw [setF,yE t,length_set]
theorem uP (B:Nat) :∀ (t F:List Int) (k:Nat),k+t.length≤B→ (∀g∈F,0≤g∧g≤B) →∀g∈setF F k t,0≤g∧g≤B
 | [],F,k,_,h=>h
 | y::t,F,k,hb,h=>by
  rw [length_cons]at hb;rw [setF];refine uP B t _ (k+1) (by omega) (fun g hg=>?_);rcases List.mem_or_eq_of_mem_set hg with g1|g1
  ·exact h g g1
  ·rw [g1];omega
def cH (p:Prog)(i:Nat)(b:Int) :List Int:=nmN p (i:Int) p.nodes.length b []
def fH (p:Prog)(nm:List Int) :List Int:=setF (replicate p.funs.length 0) 0 nm
def gW (l:List aB)(y:Int) :aB:= (l[y.toNat]?).getD []
def lL (p:Prog)(nm:List Int)(b:Int) :List Node:= (cN p (fH p nm) (numsL 0 p.cons.length) p.nodes.length 0 b).getD []
def fD (p:Prog)(l:List aB)(i:Nat)(b:Int)(s:aB) :LUnit:= ⟨s,p.cons,[⟨s,0⟩],(cH p i b).map (gW l),lL p (cH p i b) b⟩
def bK (p:Prog)(l:List aB) :Nat→List Int→List aB→List LUnit
 |i,b::bs,s::ss=>fD p l i b s::bK p l (i+1) bs ss
 |_,_,_=>[]
def aF6 (p:Prog)(l:List aB) :List LUnit×Int:=
 if aR p=true∧aA3 p l=true then(if p.funs.length≤10 then(bK p l 0 p.funs l,0)else([],3))else([],2)
section
variable {p :Prog} (hs:aJ p=true) (hr:aR p=true)
include hs hr
theorem aWl :∀ (i:Nat) (x:Node),p.nodes[i]?=some x→ -1000000000≤x.n∧x.n≤1000000000:=fun i x hx=>by
 have f:=Fs.of hs hr;have hn:= (f.node i x hx).1;have h1:=f.fine.fsmall;have h3:=f.cons;simp only [bH,eP,Bool.and_eq_true]at hn;have hh:=hn.1.1.1;unfold bI at hh;split at hh
 ·simp [cT]at hh;omega
 · split at hh
   ·simp [cT]at hh;omega
   · split at hh
     ·simp [cT]at hh;omega
     · split at hh
       ·simp [cT]at hh;omega
       · split at hh
         ·simp [cT]at hh;omega
         ·have:=of_decide_eq_true hh;omega
def NmI (p:Prog)(out:List Int) :Prop:=out.Nodup∧∀f∈out,0≤f∧f<p.funs.length
omit hs hr in
theorem hasI_mem {l:List Int}{f:Int}:aF5 l f=true↔f∈l:=by
 unfold aF5;rw [List.any_eq_true];exact⟨fun⟨x,h1,h2⟩ =>by have:=of_decide_eq_true h2;exact this ▸ h1,fun h=> ⟨f,h,decide_eq_true rfl⟩⟩
theorem aWm (but:Int){out:List Int}(h:NmI p out){i:Nat}{x:Node}(hx:p.nodes[i]?=some x) :NmI p (uO but out x) :=by
 unfold uO;split
 · rename_i g;have hn:= ((Fs.of hs hr).node i x hx).1;simp only [bH,eP,Bool.and_eq_true]at hn;have hh:=hn.1.1.1;rw [g.1]at hh;simp [bI,cT]at hh;refine⟨?_,fun f hf=>?_⟩
   · rw [List.nodup_append];refine⟨h.1,by simp,fun a ha b hb e=>?_⟩;rw [List.mem_singleton.1 hb]at e;have:=hasI_mem.2 ha;rw [e,g.2.2.2]at this;cases this
   · rcases List.mem_append.1 hf with k|k
     ·exact h.2 f k
     ·rw [List.mem_singleton.1 k];omega
 ·exact h
theorem aQp (but:Int) :∀ (k:Nat) (a:Int) (out:List Int),NmI p out→NmI p (nmN p but k a out)
 |0,a,out,h=>h
 | k +1,a,out,h=>by
  rw [nmN];cases hx:p.nodes[a.toNat]? with
  |none=>exact h
  | some x=>
   have key:∀ (cs:List Int) (o:List Int),NmI p o→NmI p (cs.foldl (fun o c=>nmN p but k c o) o) :=by
    intro cs
    induction cs with
    |nil=>intro o ho;exact ho
    |cons c cs ih=>intro o ho;exact ih _ (aQp but k c o ho)
   exact key x.kids _ (aWm hs hr but h hx)
theorem rZ (i:Nat)(b:Int) :NmI p (cH p i b) ∧ (cH p i b).length≤p.funs.length:=by
 have h:NmI p (cH p i b) :=aQp hs hr _ _ b [] ⟨List.nodup_nil,fun f hf=>by cases hf⟩;refine⟨h,?_⟩;have hd: ((cH p i b).map Int.toNat).Nodup:=by
  have hd:=h.1;rw [List.nodup_iff_pairwise_ne]at hd ⊢;refine List.pairwise_map.2 (hd.imp_of_mem (fun {a b} ha hb hne e=>?_));have:=h.2 a ha;have:=h.2 b hb;exact hne (by omega)
 have:=oI p.funs.length _ hd (fun x hx=>by
  obtain⟨y,hy,rfl⟩ :=List.mem_map.1 hx;have:=h.2 y hy;omega)
 rwa [List.length_map]at this
theorem aWn {nm:List Int}(hl:nm.length≤p.funs.length){b:Int}(hb:b∈p.funs) :cN p (fH p nm) (numsL 0 p.cons.length) p.nodes.length 0 b=some (lL p nm b) ∧ (lL p nm b).length≤p.nodes.length∧∀x∈lL p nm b,aJP x:=by
 have f:=Fs.of hs hr;have hfs:=f.fine.fsmall;have hns:=f.fine.small;have hF: (fH p nm).length=p.funs.length:=by unfold fH;rw [yE,List.length_replicate]
 have hB:∀g∈fH p nm,0≤g∧g≤ (320:Nat) :=uP 320 nm _ 0 (by omega) (fun g hg=>by rw [(List.mem_replicate.1 hg).2];omega)
 have hN:∀ (i:Nat) (x:Node),p.nodes[i]?=some x→MovN p (fH p nm) (numsL 0 p.cons.length) i x:=fun i x hx=>by
  obtain⟨n1,n2⟩ :=f.node i x hx;obtain⟨k0,k1,k2⟩ :=f.fine.node i x hx;have hpk:bW p.cons x.pats=true:=kC fun q hq=> ((yX n1).pats q hq).2;have hsz:bE x.pats≤12*x.pats.length:=yZ (fun q hq=> ((yX n1).pats q hq).1)
  have ha:=aBX (p:=p) (mf:=aDU (fH p nm) 0 []) (mc:=sM p.cons.length) (F:=fH p nm) (C:=numsL 0 p.cons.length) (by rw [←hF];exact qM _) (aEd _) (fun j j0 j1=>by
   have e:=qM (fH p nm) j j0 (by omega);have:=hB _ (mem_of_getElem? e);omega) hfs n1 n2
  exact⟨k1,k2,by omega,⟨_,ha.1.2.1⟩,aB4 (by rw [fL]) x.pats hpk⟩
 have hpre: (pre p p.nodes.length b).length≤p.nodes.length:=by
  obtain⟨f1,f2,e⟩ :=List.append_of_mem hb;have hl:=f.len;rw [e,List.map_append,map_cons,List.flatten_append,flatten_cons,length_append,length_append]at hl;omega
 obtain⟨h0,h1⟩ :=f.fine.funs b hb;obtain⟨ns,e1,e2,e3⟩ :=aCY hN p.nodes.length b 0 h0 h1 (by omega) (by omega);have e:lL p nm b=ns:=by unfold lL;rw [e1];rfl
 rw [e];exact⟨e1,by omega,e3⟩
end
abbrev LUs (l:List LUnit) :AObj:=.lst 5 (map LUnit.av l)
theorem aF7 {α:Type}{l:List α}{i:Nat}{t:List α}(h:l.drop i=t)(hi:i<l.length) :∃x r,t=x::r∧l[i]?=some x∧l.drop (i+1) =r:=by
 have e:=List.drop_eq_getElem_cons hi;exact⟨l[i],l.drop (i+1),by rw [←h,e],getElem?_eq_getElem hi,rfl⟩
section
variable (p :Prog) (l:List aB) (hl:l.length=p.funs.length) (hf:p.funs.length≤1000)
include hl hf
end
theorem jD {p:Prog}{l:List aB}(h:aA3 p l=true) :l.length=p.funs.length∧eG l=true∧cZ eH l 0=p.main:=by
 unfold aA3 at h;simp only [Bool.and_eq_true,decide_eq_true_eq]at h;exact⟨h.1.1,h.1.2,h.2⟩
theorem aAv {α:Type}{f:α→AV}{l:List α}{k:Nat}(h:l.length=k) : ((length (map f l) :Nat) :Int) = (k:Int) :=by rw [List.length_map,h]
def aQq(a:Prog)(b:List aB):TS:=cI PP 51 [(Prog.av a),(iS b)] [] 0
def aPn(a:Prog)(b:List aB):TS:=⟨(tf 51 137 [(1,(iS b)),kp 2 0,kp 4 1,kp 5 2] [kc f51 30,kc f51 31] (defers:=[.fn 61 [(.ptr 2 0),(.func 137 [] [(.ptr 1 0)])]])),[],[oC 0 [(iN a.nodes),(iI a.funs),(nI a.main),(iC a.cons)],oC 1 [(.gl 3 5 0 ([] :List LUnit).length false)],oC 2 [(nI 0)],oL 3 5 (map LUnit.av ([] :List LUnit))],4⟩
def aF8(a:Prog)(c:List aB)(d:Int)(b:List LUnit):TS:=⟨(tf 51 137 [(1,(iS c)),kp 2 0,kp 4 1,kp 5 2,(44,(iI a.funs)),(45,(nI (a.funs.length:Int))),(46,(nI d))] [kc f51 1012,kl f51 1012,.inBlock 0,kc f51 127] (defers:=[.fn 61 [(.ptr 2 0),(.func 137 [] [(.ptr 1 0)])]])),[],[oC 0 [(iN a.nodes),(iI a.funs),(nI a.main),(iC a.cons)],oC 1 [(.gl 3 5 0 b.length false)],oC 2 [(nI 0)],oL 3 5 (map LUnit.av b)],4⟩
def lM(a:Prog)(g:List aB)(i j:Int)(b:aB)(k:List Con)(c d:List Int)(l:Int)(e:List aB)(m:Int)(f:List LUnit):TS:=⟨(tf 51 137 [(1,(iS g)),kp 2 0,kp 4 1,kp 5 2,(7,(nI i)),kp 9 3,kp 10 4,(44,(iI a.funs)),(45,(nI (a.funs.length:Int))),(46,(nI m)),(81,(.gl 5 1 0 c.length false)),(82,(nI j)),(83,(nI l))] [kc f51 8296948,kl f51 8296948,.inBlock 2,kc f51 1037119,.inBlock 1,kc f51 8103,kl f51 1012,.inBlock 0,kc f51 127] (defers:=[.fn 61 [(.ptr 2 0),(.func 137 [] [(.ptr 1 0)])]])),[],[oC 0 [(iN a.nodes),(iI a.funs),(nI a.main),(iC a.cons)],oC 1 [(.gl 6 5 0 f.length false)],oC 2 [(nI 0)],oC 3 [(iN a.nodes),(.gl 7 4 0 ([] :List ONode).length false),(.gl 8 1 0 d.length true),(.gl 9 1 0 ([] :List Int).length false)],oC 4 [(aA b),(iC k),(.slice 10 0 1 1 2 true),(.gl 11 1 0 e.length false),.nils],oL 5 1 (jI c),oL 6 5 (map LUnit.av f),oL 7 4 (map ONode.av ([] :List ONode)),oL 8 1 (jI d),oL 9 1 (jI ([] :List Int)),oC 10 [(aA b),(nI 0)],oL 11 1 (map aA e)],12⟩
def aF9(a:Prog)(g:List aB)(i:Int)(b:aB)(j:List Con)(c:List Int)(d:List aB)(k:Int)(e:List Int)(l:Int)(f:List LUnit):TS:=⟨(tf 51 137 [(1,(iS g)),kp 2 0,kp 4 1,kp 5 2,(7,(nI i)),kp 9 3,kp 10 4,(44,(iI a.funs)),(45,(nI (a.funs.length:Int))),(46,(nI l)),(108,(nI (a.cons.length:Int))),(109,(nI k))] [kc f51 16593908,kl f51 16593908,.inBlock 4,kc f51 2074239,.inBlock 1,kc f51 8103,kl f51 1012,.inBlock 0,kc f51 127] (defers:=[.fn 61 [(.ptr 2 0),(.func 137 [] [(.ptr 1 0)])]])),[],[oC 0 [(iN a.nodes),(iI a.funs),(nI a.main),(iC a.cons)],oC 1 [(.gl 5 5 0 f.length false)],oC 2 [(nI 0)],oC 3 [(iN a.nodes),(.gl 6 4 0 ([] :List ONode).length false),(.gl 7 1 0 c.length true),(.gl 8 1 0 e.length false)],oC 4 [(aA b),(iC j),(.slice 9 0 1 1 2 true),(.gl 10 1 0 d.length false),.nils],oL 5 5 (map LUnit.av f),oL 6 4 (map ONode.av ([] :List ONode)),oL 7 1 (jI c),oL 8 1 (jI e),oC 9 [(aA b),(nI 0)],oL 10 1 (map aA d)],11⟩
def aPo(a:Prog)(e:List aB)(f:Int)(g:List Int)(b:aB)(i:List Con)(c:List aB)(j:List Int)(k:Int)(d:List LUnit):TS:=⟨(tf 51 137 [(1,(iS e)),kp 2 0,kp 4 1,kp 5 2,(7,(nI f)),kp 9 3,kp 10 4,(44,(iI a.funs)),(45,(nI (a.funs.length:Int))),(46,(nI k))] [kc f51 4148478,kc f51 4148479,.inBlock 1,kc f51 8103,kl f51 1012,.inBlock 0,kc f51 127] (defers:=[.fn 61 [(.ptr 2 0),(.func 137 [] [(.ptr 1 0)])]])),[],[oC 0 [(iN a.nodes),(iI a.funs),(nI a.main),(iC a.cons)],oC 1 [(.gl 5 5 0 d.length false)],oC 2 [(nI 0)],oC 3 [(iN a.nodes),(.gl 6 4 0 ([] :List ONode).length false),(iI g),(iI j)],oC 4 [(aA b),(iC i),(.slice 7 0 1 1 2 true),(.gl 8 1 0 c.length false),.nils],oL 5 5 (map LUnit.av d),oL 6 4 (map ONode.av ([] :List ONode)),oC 7 [(aA b),(nI 0)],oL 8 1 (map aA c)],9⟩
def aJ4(a:Prog)(b:List aB):=tT 0 (aQq a b)<|gpI 14 138 [(Prog.av a)]<|fun c=>.b 2 18 (c != 0) (gE 67 4 (.tup [.nils,(nI 2)]))<|gl 1 aA b<|gl 2 aP a.funs<|.b 3 26 ((b.length:Int) != (a.funs.length:Int)) (gE 59 4 (.tup [.nils,(nI 2)]))<|gG 1 139 [(iS b)]<|fun d=>.b 7 4 (!d) (gE 50 4 (.tup [.nils,(nI 2)]))<|.i [rn 6,.cnil 1 0 5] []<|gu 0 3 (map LUnit.av ([] :List LUnit))<|gv 0 1 0 (.gl 3 5 0 ([] :List LUnit).length false)<|.W 0 4 [0,1,2,3] (aPn a b)
def bAH:=fun a b c d e=>aJ4 a b c d|>.t e tv
def bAI:=fun a b c d e f=>aJ4 a b c d|>.f e|>.t f tv
def bAJ:=fun a b c d e f g i j=>aJ4 a b c e|>.f f|>.f g d i|>.t j tv
def bAK:=fun a b c d e f g i j=>aJ4 a b c e|>.f f|>.f g d i|>.f j ⟨kk,trivial⟩
def aWo(a:Prog)(b:List aB):=tT 0 (aPn a b)<|.y fun c:Int=>.i [.reg (.d::.pure (nI c)::rd 3 [.pure (.tup [])])] [hA (Pure PP 140 [(iS b),(.func 141 [] []),(.str 4 1852399981)] (nI c)),hA (Pure PP 67 [(bV (c != a.main)),(nI 2)] (.tup [])),hr (nI a.main),hr (nI a.main)]<|gl 4 aP a.funs<|gd 6 4 ((a.funs.length:Int) >10) (gE 50 5 (.tup [.nils,(nI 3)]))<|gl 10 aP a.funs<|.W 4 4 [0,1,2,3] (aF8 a b 0 ([] :List LUnit))
def bAL:=fun a b c d e f=>aWo a b c d e|>.t f tv
def bAM:=fun a b c d e f=>aWo a b c d e|>.f f ⟨kk,trivial⟩
def pN(b:Prog)(e:List aB)(c:Int)(g:List LUnit):=tT 0 (aF8 b e c g)<|gd 5 47 (c< (b.funs.length:Int)) (gX aP 7 b.funs c<|fun i=>.y fun f:List Int=>gk 9 (.enter 142 [(Prog.av b),(nI i),(nI c),.nils]) [oC 0 [(iN b.nodes),(iI b.funs),(nI b.main),(iC b.cons)],oC 1 [(.gl 3 5 0 g.length false)],oC 2 [(nI 0)],oL 3 5 (map LUnit.av g)] 4 (.gl 4 1 0 f.length false) [oC 0 [(iN b.nodes),(iI b.funs),(nI b.main),(iC b.cons)],oC 1 [(.gl 3 5 0 g.length false)],oC 2 [(nI 0)],oL 3 5 (map LUnit.av g),oL 4 1 (jI f)] 5<|gd 12 4 ((f.length:Int) >20) (gE 50 6 (.tup [.nils,(nI 3)]))<|.o (.y fun a:aB=>.y fun d:List Con=>.i [rn 6,.reg (rd 4 (.ans (.len 10)::rd 4 [])),rn 1,.reg (.d::.d::.ans (.idx (aA a))::rd 3 (.pure (iC d)::.d::.d::.ans (.idx (aA a))::rd 6 []))] [.a (length b.funs=10) (p':=((jI b.funs).length:Int) =10) aAv,hr (ilst 4 (jN b.nodes) false),hr (ilst 4 (jN b.nodes) false),hA (0≤c),.a (((e)[c.toNat]?) =some a) (bF (f:=aA)),hA (Pure PP 143 [(iC b.cons)] (iC d)),hA (0≤c),.a (((e)[c.toNat]?) =some a) (bF (f:=aA)),hr (aA a),hr (aA a),hr (aA a),hr (aA a)]<|.i [rn 9,.cnil 6 1 4] []<|gu 0 9 (map ONode.av ([] :List ONode))<|gv 0 6 1 (.gl 9 4 0 ([] :List ONode).length false)<|.i [.ctoL 6 2 false [(nI 0),(nI 0),(nI 0),(nI 0),(nI 0),(nI 0),(nI 0),(nI 0),(nI 0),(nI 0)]] [hr (some [(nI 0),(nI 0),(nI 0),(nI 0),(nI 0),(nI 0),(nI 0),(nI 0),(nI 0),(nI 0)]),hr true]<|gu 0 5 (jI [0,0,0,0,0,0,0,0,0,0])<|gv 0 6 2 (.gl 5 1 0 [0,0,0,0,0,0,0,0,0,0].length true)<|.i [.cnil 6 3 1] []<|gu 0 10 (jI ([] :List Int))<|gv 0 6 3 (.gl 10 1 0 ([] :List Int).length false)<|.i [.cnil 8 3 1] []<|gu 0 11 (map aA ([] :List aB))<|gv 0 8 3 (.gl 11 1 0 ([] :List aB).length false)<|.W 0 12 [0,1,2,6,8,4,3,9,5,10,7,11] (lM b e i (f.length:Int) a d f [0,0,0,0,0,0,0,0,0,0] 0 ([] :List aB) c g))<|.o (.y fun a:aB=>.y fun d:List Con=>.i [rn 6,.reg (rd 4 (.ans (.len 9)::rd 4 [])),rn 1,.reg (.d::.d::.ans (.idx (aA a))::rd 3 (.pure (iC d)::.d::.d::.ans (.idx (aA a))::rd 6 []))] [.a (length b.funs=9) (p':=((jI b.funs).length:Int) =9) aAv,hr (ilst 4 (jN b.nodes) false),hr (ilst 4 (jN b.nodes) false),hA (0≤c),.a (((e)[c.toNat]?) =some a) (bF (f:=aA)),hA (Pure PP 143 [(iC b.cons)] (iC d)),hA (0≤c),.a (((e)[c.toNat]?) =some a) (bF (f:=aA)),hr (aA a),hr (aA a),hr (aA a),hr (aA a)]<|.i [rn 9,.cnil 6 1 4] []<|gu 0 9 (map ONode.av ([] :List ONode))<|gv 0 6 1 (.gl 9 4 0 ([] :List ONode).length false)<|.i [.ctoL 6 2 false [(nI 0),(nI 0),(nI 0),(nI 0),(nI 0),(nI 0),(nI 0),(nI 0),(nI 0)]] [hr (some [(nI 0),(nI 0),(nI 0),(nI 0),(nI 0),(nI 0),(nI 0),(nI 0),(nI 0)]),hr true]<|gu 0 5 (jI [0,0,0,0,0,0,0,0,0])<|gv 0 6 2 (.gl 5 1 0 [0,0,0,0,0,0,0,0,0].length true)<|.i [.cnil 6 3 1] []<|gu 0 10 (jI ([] :List Int))<|gv 0 6 3 (.gl 10 1 0 ([] :List Int).length false)<|.i [.cnil 8 3 1] []<|gu 0 11 (map aA ([] :List aB))<|gv 0 8 3 (.gl 11 1 0 ([] :List aB).length false)<|.W 0 12 [0,1,2,6,8,4,3,9,5,10,7,11] (lM b e i (f.length:Int) a d f [0,0,0,0,0,0,0,0,0] 0 ([] :List aB) c g))<|.o (.y fun a:aB=>.y fun d:List Con=>.i [rn 6,.reg (rd 4 (.ans (.len 8)::rd 4 [])),rn 1,.reg (.d::.d::.ans (.idx (aA a))::rd 3 (.pure (iC d)::.d::.d::.ans (.idx (aA a))::rd 6 []))] [.a (length b.funs=8) (p':=((jI b.funs).length:Int) =8) aAv,hr (ilst 4 (jN b.nodes) false),hr (ilst 4 (jN b.nodes) false),hA (0≤c),.a (((e)[c.toNat]?) =some a) (bF (f:=aA)),hA (Pure PP 143 [(iC b.cons)] (iC d)),hA (0≤c),.a (((e)[c.toNat]?) =some a) (bF (f:=aA)),hr (aA a),hr (aA a),hr (aA a),hr (aA a)]<|.i [rn 9,.cnil 6 1 4] []<|gu 0 9 (map ONode.av ([] :List ONode))<|gv 0 6 1 (.gl 9 4 0 ([] :List ONode).length false)<|.i [.ctoL 6 2 false [(nI 0),(nI 0),(nI 0),(nI 0),(nI 0),(nI 0),(nI 0),(nI 0)]] [hr (some [(nI 0),(nI 0),(nI 0),(nI 0),(nI 0),(nI 0),(nI 0),(nI 0)]),hr true]<|gu 0 5 (jI [0,0,0,0,0,0,0,0])<|gv 0 6 2 (.gl 5 1 0 [0,0,0,0,0,0,0,0].length true)<|.i [.cnil 6 3 1] []<|gu 0 10 (jI ([] :List Int))<|gv 0 6 3 (.gl 10 1 0 ([] :List Int).length false)<|.i [.cnil 8 3 1] []<|gu 0 11 (map aA ([] :List aB))<|gv 0 8 3 (.gl 11 1 0 ([] :List aB).length false)<|.W 0 12 [0,1,2,6,8,4,3,9,5,10,7,11] (lM b e i (f.length:Int) a d f [0,0,0,0,0,0,0,0] 0 ([] :List aB) c g))<|.o (.y fun a:aB=>.y fun d:List Con=>.i [rn 6,.reg (rd 4 (.ans (.len 7)::rd 4 [])),rn 1,.reg (.d::.d::.ans (.idx (aA a))::rd 3 (.pure (iC d)::.d::.d::.ans (.idx (aA a))::rd 6 []))] [.a (length b.funs=7) (p':=((jI b.funs).length:Int) =7) aAv,hr (ilst 4 (jN b.nodes) false),hr (ilst 4 (jN b.nodes) false),hA (0≤c),.a (((e)[c.toNat]?) =some a) (bF (f:=aA)),hA (Pure PP 143 [(iC b.cons)] (iC d)),hA (0≤c),.a (((e)[c.toNat]?) =some a) (bF (f:=aA)),hr (aA a),hr (aA a),hr (aA a),hr (aA a)]<|.i [rn 9,.cnil 6 1 4] []<|gu 0 9 (map ONode.av ([] :List ONode))<|gv 0 6 1 (.gl 9 4 0 ([] :List ONode).length false)<|.i [.ctoL 6 2 false [(nI 0),(nI 0),(nI 0),(nI 0),(nI 0),(nI 0),(nI 0)]] [hr (some [(nI 0),(nI 0),(nI 0),(nI 0),(nI 0),(nI 0),(nI 0)]),hr true]<|gu 0 5 (jI [0,0,0,0,0,0,0])<|gv 0 6 2 (.gl 5 1 0 [0,0,0,0,0,0,0].length true)<|.i [.cnil 6 3 1] []<|gu 0 10 (jI ([] :List Int))<|gv 0 6 3 (.gl 10 1 0 ([] :List Int).length false)<|.i [.cnil 8 3 1] []<|gu 0 11 (map aA ([] :List aB))<|gv 0 8 3 (.gl 11 1 0 ([] :List aB).length false)<|.W 0 12 [0,1,2,6,8,4,3,9,5,10,7,11] (lM b e i (f.length:Int) a d f [0,0,0,0,0,0,0] 0 ([] :List aB) c g))<|.o (.y fun a:aB=>.y fun d:List Con=>.i [rn 6,.reg (rd 4 (.ans (.len 6)::rd 4 [])),rn 1,.reg (.d::.d::.ans (.idx (aA a))::rd 3 (.pure (iC d)::.d::.d::.ans (.idx (aA a))::rd 6 []))] [.a (length b.funs=6) (p':=((jI b.funs).length:Int) =6) aAv,hr (ilst 4 (jN b.nodes) false),hr (ilst 4 (jN b.nodes) false),hA (0≤c),.a (((e)[c.toNat]?) =some a) (bF (f:=aA)),hA (Pure PP 143 [(iC b.cons)] (iC d)),hA (0≤c),.a (((e)[c.toNat]?) =some a) (bF (f:=aA)),hr (aA a),hr (aA a),hr (aA a),hr (aA a)]<|.i [rn 9,.cnil 6 1 4] []<|gu 0 9 (map ONode.av ([] :List ONode))<|gv 0 6 1 (.gl 9 4 0 ([] :List ONode).length false)<|.i [.ctoL 6 2 false [(nI 0),(nI 0),(nI 0),(nI 0),(nI 0),(nI 0)]] [hr (some [(nI 0),(nI 0),(nI 0),(nI 0),(nI 0),(nI 0)]),hr true]<|gu 0 5 (jI [0,0,0,0,0,0])<|gv 0 6 2 (.gl 5 1 0 [0,0,0,0,0,0].length true)<|.i [.cnil 6 3 1] []<|gu 0 10 (jI ([] :List Int))<|gv 0 6 3 (.gl 10 1 0 ([] :List Int).length false)<|.i [.cnil 8 3 1] []<|gu 0 11 (map aA ([] :List aB))<|gv 0 8 3 (.gl 11 1 0 ([] :List aB).length false)<|.W 0 12 [0,1,2,6,8,4,3,9,5,10,7,11] (lM b e i (f.length:Int) a d f [0,0,0,0,0,0] 0 ([] :List aB) c g))<|.o (.y fun a:aB=>.y fun d:List Con=>.i [rn 6,.reg (rd 4 (.ans (.len 5)::rd 4 [])),rn 1,.reg (.d::.d::.ans (.idx (aA a))::rd 3 (.pure (iC d)::.d::.d::.ans (.idx (aA a))::rd 6 []))] [.a (length b.funs=5) (p':=((jI b.funs).length:Int) =5) aAv,hr (ilst 4 (jN b.nodes) false),hr (ilst 4 (jN b.nodes) false),hA (0≤c),.a (((e)[c.toNat]?) =some a) (bF (f:=aA)),hA (Pure PP 143 [(iC b.cons)] (iC d)),hA (0≤c),.a (((e)[c.toNat]?) =some a) (bF (f:=aA)),hr (aA a),hr (aA a),hr (aA a),hr (aA a)]<|.i [rn 9,.cnil 6 1 4] []<|gu 0 9 (map ONode.av ([] :List ONode))<|gv 0 6 1 (.gl 9 4 0 ([] :List ONode).length false)<|.i [.ctoL 6 2 false [(nI 0),(nI 0),(nI 0),(nI 0),(nI 0)]] [hr (some [(nI 0),(nI 0),(nI 0),(nI 0),(nI 0)]),hr true]<|gu 0 5 (jI [0,0,0,0,0])<|gv 0 6 2 (.gl 5 1 0 [0,0,0,0,0].length true)<|.i [.cnil 6 3 1] []<|gu 0 10 (jI ([] :List Int))<|gv 0 6 3 (.gl 10 1 0 ([] :List Int).length false)<|.i [.cnil 8 3 1] []<|gu 0 11 (map aA ([] :List aB))<|gv 0 8 3 (.gl 11 1 0 ([] :List aB).length false)<|.W 0 12 [0,1,2,6,8,4,3,9,5,10,7,11] (lM b e i (f.length:Int) a d f [0,0,0,0,0] 0 ([] :List aB) c g))<|.o (.y fun a:aB=>.y fun d:List Con=>.i [rn 6,.reg (rd 4 (.ans (.len 4)::rd 4 [])),rn 1,.reg (.d::.d::.ans (.idx (aA a))::rd 3 (.pure (iC d)::.d::.d::.ans (.idx (aA a))::rd 6 []))] [.a (length b.funs=4) (p':=((jI b.funs).length:Int) =4) aAv,hr (ilst 4 (jN b.nodes) false),hr (ilst 4 (jN b.nodes) false),hA (0≤c),.a (((e)[c.toNat]?) =some a) (bF (f:=aA)),hA (Pure PP 143 [(iC b.cons)] (iC d)),hA (0≤c),.a (((e)[c.toNat]?) =some a) (bF (f:=aA)),hr (aA a),hr (aA a),hr (aA a),hr (aA a)]<|.i [rn 9,.cnil 6 1 4] []<|gu 0 9 (map ONode.av ([] :List ONode))<|gv 0 6 1 (.gl 9 4 0 ([] :List ONode).length false)<|.i [.ctoL 6 2 false [(nI 0),(nI 0),(nI 0),(nI 0)]] [hr (some [(nI 0),(nI 0),(nI 0),(nI 0)]),hr true]<|gu 0 5 (jI [0,0,0,0])<|gv 0 6 2 (.gl 5 1 0 [0,0,0,0].length true)<|.i [.cnil 6 3 1] []<|gu 0 10 (jI ([] :List Int))<|gv 0 6 3 (.gl 10 1 0 ([] :List Int).length false)<|.i [.cnil 8 3 1] []<|gu 0 11 (map aA ([] :List aB))<|gv 0 8 3 (.gl 11 1 0 ([] :List aB).length false)<|.W 0 12 [0,1,2,6,8,4,3,9,5,10,7,11] (lM b e i (f.length:Int) a d f [0,0,0,0] 0 ([] :List aB) c g))<|.o (.y fun a:aB=>.y fun d:List Con=>.i [rn 6,.reg (rd 4 (.ans (.len 3)::rd 4 [])),rn 1,.reg (.d::.d::.ans (.idx (aA a))::rd 3 (.pure (iC d)::.d::.d::.ans (.idx (aA a))::rd 6 []))] [.a (length b.funs=3) (p':=((jI b.funs).length:Int) =3) aAv,hr (ilst 4 (jN b.nodes) false),hr (ilst 4 (jN b.nodes) false),hA (0≤c),.a (((e)[c.toNat]?) =some a) (bF (f:=aA)),hA (Pure PP 143 [(iC b.cons)] (iC d)),hA (0≤c),.a (((e)[c.toNat]?) =some a) (bF (f:=aA)),hr (aA a),hr (aA a),hr (aA a),hr (aA a)]<|.i [rn 9,.cnil 6 1 4] []<|gu 0 9 (map ONode.av ([] :List ONode))<|gv 0 6 1 (.gl 9 4 0 ([] :List ONode).length false)<|.i [.ctoL 6 2 false [(nI 0),(nI 0),(nI 0)]] [hr (some [(nI 0),(nI 0),(nI 0)]),hr true]<|gu 0 5 (jI [0,0,0])<|gv 0 6 2 (.gl 5 1 0 [0,0,0].length true)<|.i [.cnil 6 3 1] []<|gu 0 10 (jI ([] :List Int))<|gv 0 6 3 (.gl 10 1 0 ([] :List Int).length false)<|.i [.cnil 8 3 1] []<|gu 0 11 (map aA ([] :List aB))<|gv 0 8 3 (.gl 11 1 0 ([] :List aB).length false)<|.W 0 12 [0,1,2,6,8,4,3,9,5,10,7,11] (lM b e i (f.length:Int) a d f [0,0,0] 0 ([] :List aB) c g))<|.o (.y fun a:aB=>.y fun d:List Con=>.i [rn 6,.reg (rd 4 (.ans (.len 2)::rd 4 [])),rn 1,.reg (.d::.d::.ans (.idx (aA a))::rd 3 (.pure (iC d)::.d::.d::.ans (.idx (aA a))::rd 6 []))] [.a (length b.funs=2) (p':=((jI b.funs).length:Int) =2) aAv,hr (ilst 4 (jN b.nodes) false),hr (ilst 4 (jN b.nodes) false),hA (0≤c),.a (((e)[c.toNat]?) =some a) (bF (f:=aA)),hA (Pure PP 143 [(iC b.cons)] (iC d)),hA (0≤c),.a (((e)[c.toNat]?) =some a) (bF (f:=aA)),hr (aA a),hr (aA a),hr (aA a),hr (aA a)]<|.i [rn 9,.cnil 6 1 4] []<|gu 0 9 (map ONode.av ([] :List ONode))<|gv 0 6 1 (.gl 9 4 0 ([] :List ONode).length false)<|.i [.ctoL 6 2 false [(nI 0),(nI 0)]] [hr (some [(nI 0),(nI 0)]),hr true]<|gu 0 5 (jI [0,0])<|gv 0 6 2 (.gl 5 1 0 [0,0].length true)<|.i [.cnil 6 3 1] []<|gu 0 10 (jI ([] :List Int))<|gv 0 6 3 (.gl 10 1 0 ([] :List Int).length false)<|.i [.cnil 8 3 1] []<|gu 0 11 (map aA ([] :List aB))<|gv 0 8 3 (.gl 11 1 0 ([] :List aB).length false)<|.W 0 12 [0,1,2,6,8,4,3,9,5,10,7,11] (lM b e i (f.length:Int) a d f [0,0] 0 ([] :List aB) c g))<|.y fun a:aB=>.y fun d:List Con=>.i [rn 6,.reg (rd 4 (.ans (.len 1)::rd 4 [])),rn 1,.reg (.d::.d::.ans (.idx (aA a))::rd 3 (.pure (iC d)::.d::.d::.ans (.idx (aA a))::rd 6 []))] [.a (length b.funs=1) (p':=((jI b.funs).length:Int) =1) aAv,hr (ilst 4 (jN b.nodes) false),hr (ilst 4 (jN b.nodes) false),hA (0≤c),.a (((e)[c.toNat]?) =some a) (bF (f:=aA)),hA (Pure PP 143 [(iC b.cons)] (iC d)),hA (0≤c),.a (((e)[c.toNat]?) =some a) (bF (f:=aA)),hr (aA a),hr (aA a),hr (aA a),hr (aA a)]<|.i [rn 9,.cnil 6 1 4] []<|gu 0 9 (map ONode.av ([] :List ONode))<|gv 0 6 1 (.gl 9 4 0 ([] :List ONode).length false)<|.i [.ctoL 6 2 false [(nI 0)]] [hr (some [(nI 0)]),hr true]<|gu 0 5 (jI [0])<|gv 0 6 2 (.gl 5 1 0 [0].length true)<|.i [.cnil 6 3 1] []<|gu 0 10 (jI ([] :List Int))<|gv 0 6 3 (.gl 10 1 0 ([] :List Int).length false)<|.i [.cnil 8 3 1] []<|gu 0 11 (map aA ([] :List aB))<|gv 0 8 3 (.gl 11 1 0 ([] :List aB).length false)<|.W 0 12 [0,1,2,6,8,4,3,9,5,10,7,11] (lM b e i (f.length:Int) a d f [0] 0 ([] :List aB) c g))<|gy 3 1 0 3 5 LUnit.av g false<|gE 23 4 (.tup [(.ilst 5 (map LUnit.av g) false),(nI 0)])
def bAN:=fun c d e f g i j k l a m n o p b q=>pN c d e f|>.t l g a m i n|>.f o|>.1 j k p a b q a b ⟨kk,⟨kk,⟨(aE _ (fun _=>aQ _) _),⟨kk,⟨kk,⟨kk,trivial⟩⟩⟩⟩⟩⟩
def bAO:=fun c d e f g i j k l a m n o p b q=>pN c d e f|>.t l g a m i n|>.f o|>.2|>.1 j k p a b q a b ⟨kk,⟨kk,⟨(aE _ (fun _=>aQ _) _),⟨kk,⟨kk,⟨kk,trivial⟩⟩⟩⟩⟩⟩
def bAP:=fun c d e f g i j k l a m n o p b q=>pN c d e f|>.t l g a m i n|>.f o|>.2|>.2|>.1 j k p a b q a b ⟨kk,⟨kk,⟨(aE _ (fun _=>aQ _) _),⟨kk,⟨kk,⟨kk,trivial⟩⟩⟩⟩⟩⟩
def bAQ:=fun c d e f g i j k l a m n o p b q=>pN c d e f|>.t l g a m i n|>.f o|>.2|>.2|>.2|>.1 j k p a b q a b ⟨kk,⟨kk,⟨(aE _ (fun _=>aQ _) _),⟨kk,⟨kk,⟨kk,trivial⟩⟩⟩⟩⟩⟩
def bAR:=fun c d e f g i j k l a m n o p b q=>pN c d e f|>.t l g a m i n|>.f o|>.2|>.2|>.2|>.2|>.1 j k p a b q a b ⟨kk,⟨kk,⟨(aE _ (fun _=>aQ _) _),⟨kk,⟨kk,⟨kk,trivial⟩⟩⟩⟩⟩⟩
def bAS:=fun c d e f g i j k l a m n o p b q=>pN c d e f|>.t l g a m i n|>.f o|>.2|>.2|>.2|>.2|>.2|>.1 j k p a b q a b ⟨kk,⟨kk,⟨(aE _ (fun _=>aQ _) _),⟨kk,⟨kk,⟨kk,trivial⟩⟩⟩⟩⟩⟩
def bAT:=fun c d e f g i j k l a m n o p b q=>pN c d e f|>.t l g a m i n|>.f o|>.2|>.2|>.2|>.2|>.2|>.2|>.1 j k p a b q a b ⟨kk,⟨kk,⟨(aE _ (fun _=>aQ _) _),⟨kk,⟨kk,⟨kk,trivial⟩⟩⟩⟩⟩⟩
def bAU:=fun c d e f g i j k l a m n o p b q=>pN c d e f|>.t l g a m i n|>.f o|>.2|>.2|>.2|>.2|>.2|>.2|>.2|>.1 j k p a b q a b ⟨kk,⟨kk,⟨(aE _ (fun _=>aQ _) _),⟨kk,⟨kk,⟨kk,trivial⟩⟩⟩⟩⟩⟩
def bAV:=fun c d e f g i j k l a m n o p b q=>pN c d e f|>.t l g a m i n|>.f o|>.2|>.2|>.2|>.2|>.2|>.2|>.2|>.2|>.1 j k p a b q a b ⟨kk,⟨kk,⟨(aE _ (fun _=>aQ _) _),⟨kk,⟨kk,⟨kk,trivial⟩⟩⟩⟩⟩⟩
def aWp:=fun c d e f g i j k l a m n o p b q=>pN c d e f|>.t l g a m i n|>.f o|>.2|>.2|>.2|>.2|>.2|>.2|>.2|>.2|>.2 j k p a b q a b ⟨kk,⟨kk,⟨(aE _ (fun _=>aQ _) _),⟨kk,⟨kk,⟨kk,trivial⟩⟩⟩⟩⟩⟩
def aWq:=fun a b c d e=>pN a b c d|>.f e tv
def aWr(f:Prog)(g:List aB)(j k:Int)(l:aB)(m:List Con)(i b:List Int)(a:Int)(d:List aB)(n:Int)(o:List LUnit):=tT 0 (lM f g j k l m i b a d n o)<|gd 5 84 (a<k) (.i [rn 7,.ans (.ix)] [hA (0≤a),hA (a< (i.length:Int))]<|.y fun c:Int=>gj aP 0 i a.toNat c<|gw 12 94 (1+a)<|.i [.ans (.ix)] [hA (0≤c),hA (c< (b.length:Int))]<|.y fun p:Int=>.i [.st (aP p) (aP (1+a))] [.a (((b)[c.toNat]?) =some p) (iL (f:=aP)),hr (some (aP (1+a)))]<|.i [.lset 8 (jI (set b c.toNat (1+a)))] [.q (p:=(jI b).set (0+c.toNat) (aP (1+a)) = (jI (set b c.toNat (1+a)))) (mV _ _ _ _)]<|.i [.set 91 (.gl 8 1 0 (set b c.toNat (1+a)).length true)] [.q (p:=(AV.gl 8 1 0 b.length true) = (.gl 8 1 0 (set b c.toNat (1+a)).length true)) (cB (length_set ..).symm)]<|.i [.cset 3 2 (.gl 8 1 0 (set b c.toNat (1+a)).length true)] [.q (p:=(AV.gl 8 1 0 b.length true) = (.gl 8 1 0 (set b c.toNat (1+a)).length true)) (cB (length_set ..).symm)]<|.y fun e:aB=>.i [rn 1,.reg (rd 4 [.ans (.idx (aA e)),.d,.d,.app (map aA (d++ [e])) (d++ [e]).length,.d,.d])] [hA (0≤c),.a (((g)[c.toNat]?) =some e) (bF (f:=aA)),hb aA d,hA (length (d++ [e]) ≤1000000),hc aA d [e],he aA d [e]]<|gw 3 105 (a+1)<|.W 3 14 [0,1,2,3,4,5,6,7,8,9,10,13] (lM f g j k l m i (set b c.toNat (1+a)) (a+1) (d++ [e]) n o))<|gl 7 Con.av f.cons<|.W 4 12 [0,1,2,3,4,6,7,8,9,10,11] (aF9 f g j l m b d 0 ([] :List Int) n o)
def bAW:=fun b c d e f g i j k l m n o p q r s t u v a w x y z A=>aWr b c d e f g i j k l m n|>.t r s t o u v a w p x q a y z A ⟨kk,⟨kk,⟨(aE _ (fun _=>aQ _) _),⟨kk,⟨kk,⟨kk,trivial⟩⟩⟩⟩⟩⟩
def bAX:=fun a b c d e f g i j k l m n=>aWr a b c d e f g i j k l m|>.f n ⟨kk,⟨(aE _ (fun _=>aQ _) _),⟨kk,⟨kk,⟨kk,trivial⟩⟩⟩⟩⟩
def aWs(c:Prog)(e:List aB)(f:Int)(g:aB)(i:List Con)(d:List Int)(j:List aB)(a:Int)(b:List Int)(k:Int)(l:List LUnit):=tT 0 (aF9 c e f g i d j a b k l)<|gd 5 110 (a< (c.cons.length:Int)) (ga 17 aP b [a]<|gw 7 122 (a+1)<|.W 3 13 [0,1,2,3,4,5,6,7,12,9,10] (aF9 c e f g i d j (a+1) (b++ [a]) k l))<|.i [rn 2,.cweak 3 2] []<|gy 0 3 2 7 1 aP d false<|gy 0 3 3 8 1 aP b false<|.W 1 11 [0,1,2,3,4,5,6,9,10] (aPo c e f d g i j b k l)
def bAY:=fun a b c d e f g i j k l m n o=>aWs a b c d e f g i j k l|>.t m n o ⟨kk,⟨(aE _ (fun _=>aQ _) _),⟨kk,⟨kk,⟨kk,trivial⟩⟩⟩⟩⟩
def bAZ:=fun a b c d e f g i j k l m=>aWs a b c d e f g i j k l|>.f m ⟨kk,⟨(aE _ (fun _=>aQ _) _),⟨kk,trivial⟩⟩⟩
def bA0 (b:Prog)(l:List aB)(m:Int)(i:List Int)(a:aB)(g:List Con)(d:List aB)(j:List Int)(k:Int)(f:List LUnit):=fun e c n o p q r=>(tT 0 (aPo b l m i a g d j k f)<|.y fun e:List Node=>gk 3 (.enter 144 [(.ptr 3 0),(nI m)]) [oC 0 [(iN b.nodes),(iI b.funs),(nI b.main),(iC b.cons)],oC 1 [(.gl 5 5 0 f.length false)],oC 2 [(nI 0)],oC 3 [(iN b.nodes),(.gl 6 4 0 ([] :List ONode).length false),(iI i),(iI j)],oC 4 [(aA a),(iC g),(.slice 7 0 1 1 2 true),(.gl 8 1 0 d.length false),.nils],oL 5 5 (map LUnit.av f),oL 6 4 (map ONode.av ([] :List ONode)),oC 7 [(aA a),(nI 0)],oL 8 1 (map aA d)] 9 (nI (([] :List ONode).length:Int)) [oC 0 [(iN b.nodes),(iI b.funs),(nI b.main),(iC b.cons)],oC 1 [(.gl 5 5 0 f.length false)],oC 2 [(nI 0)],oC 3 [(iN b.nodes),(.gl 9 4 0 (([] :List ONode) ++map Node.o e).length false),(iI i),(iI j)],oC 4 [(aA a),(iC g),(.slice 7 0 1 1 2 true),(.gl 8 1 0 d.length false),.nils],oL 5 5 (map LUnit.av f),oC 7 [(aA a),(nI 0)],oL 8 1 (map aA d),oL 9 4 (map ONode.av (([] :List ONode) ++map Node.o e))] 10<|.i [rn 10,.ctoL 4 2 true [(aA a),(nI 0)]] [hr (some [(aA a),(nI 0)]),hr true]<|gu 0 7 (map LFun.av [(LFun.mk a 0)])<|gv 0 4 2 (.gl 7 2 0 [(LFun.mk a 0)].length true)<|.i [.cweak 4 2] []<|gy 0 4 2 7 2 LFun.av [(LFun.mk a 0)] false<|gy 0 4 3 8 1 aA d false<|.y fun c:List Node=>.i [.lset 9 (jN c)] [.a ((([] :List ONode) ++map Node.o e) =map Node.o c) (p':=(map ONode.av (([] :List ONode) ++map Node.o e)) = (jN c)) aFF]<|.i [.cset 4 4 (.gl 9 4 0 c.length false)] [.a (c.length= (([] :List ONode) ++map Node.o e).length) (p':=(AV.gl 9 4 0 (([] :List ONode) ++map Node.o e).length false) = (.gl 9 4 0 c.length false)) (fun h=>(cB h.symm))]<|gy 0 4 4 9 4 Node.av c false<|ga 4 LUnit.av f [(LUnit.mk a g [(LFun.mk a 0)] d c)]<|gw 5 135 (k+1)<|.W 3 12 [0,1,2,11] (aF8 b l (k+1) (f++ [(LUnit.mk a g [(LFun.mk a 0)] d c)]))) e n c o p q r ⟨kk,trivial⟩
def bCC(a:List aB)(b:aB):TS:=cI PP 140 [(iS a),(.func 141 [] []),(aA b)] [] 0
def aJ5(a:List aB)(b:aB)(c:Int):TS:=⟨(tf 204 19 [(0,(iS a)),(1,(.func 205 [] [(.ptr 0 0),(.ptr 1 0)])),(4,(nI 0)),(7,(nI (a.length:Int))),(8,(nI c))] [kc f204 52,kl f204 52,.inBlock 0,kc f204 7]),[(tf 140 10 [(6,(nI 0)),(7,(iS a)),(8,(.func 205 [] [(.ptr 0 0),(.ptr 1 0)]))] [ko f140 6 2,kc f140 7])],[oC 0 [(.func 141 [] [])],oC 1 [(aA b)]],2⟩
def bA1 (a:List aB)(b:aB):=(tT 0 (bCC a b)<|gl 19 aA a<|.W 4 2 [0,1] (aJ5 a b 0)) tv
def aPp(c:List aB)(a:aB)(b:Int):=tT 0 (aJ5 c a b)<|gd 5 9 (b< (c.length:Int)) (gX aA 14 c b<|fun e=>.y fun d:aB=>.i [rn 7,.reg (.d::.d::.pure (aA d)::rd 3 [])] [hA (Pure PP 141 [(aA e)] (aA d)),hr (aA a),hr (aA a)]<|.b 3 16 (bL d.length (aC d) a.length (aC a)) (gE 11 2 (nI b))<|gw 5 18 (b+1)<|.W 3 2 [0,1] (aJ5 c a (b+1)))<|gE 11 2 (nI (-1))
def bA2:=fun a b c d e f g i j k=>aPp a b c|>.t f d g i e j|>.t k tv
def bA3:=fun a b c d e f g i j k l=>aPp a b c|>.t f d g i e j|>.f k l tv
def bA4:=fun a b c d=>aPp a b c|>.f d tv
theorem aMM (l:List aB)(s:aB)(hl:l.length<1000000) :∀ (t:List aB) (i:Nat),l.drop i=t→Ends PP 0 (aJ5 l s (i:Int)).as (.ret (.int .i64 (cZ s t i))) (aD [] 0)
 | [],i,h=>by
  have:=bA h;exact bA4 l s i sd
 | c ::t,i,h=>by
  obtain⟨q1,q2,q3⟩ :=aY h;rw [cZ];by_cases e:c=s
  · rw [if_pos e];exact bA2 l s i c c sd sd sd (xY c) (by rw [dG];simp [e])
  · rw [if_neg e];exact(bA3 l s i c c sd sd sd (xY c) (by rw [dG];simp [e]) sd).ends (aMM l s hl t (i+1) q2)
theorem aWt (l:List aB)(s:aB)(hl:l.length<1000000) :Pure PP 140 [.ilst 1 (map aA l) false,.func 141 [] [],aA s] (.int .i64 (cZ s l 0)) :=
 dT (s:=bCC l s) (by kernel_rfl) (by kernel_rfl) (by simp [keylessL,keyless,aA]) (by simp [keyless]) ((bA1 l s).ends (aMM l s hl l 0 rfl))
abbrev aQr (e:Int) :List (AV×Bool) :=[((.iface 201 (.agg [(.int .i64 e)])),false)]
abbrev aMN (p:Prog) :List (Nat×AObj×Bool) :=[(0,PgC p,false),(1,.cells (putCells .leaf 0 [.gl 3 5 0 (length ([] :List LUnit)) false]) 1 [] false,false),(2,.cells (putCells .leaf 0 [.int .i64 0]) 1 [] false,false),(3,LUs [],true)]
def bCD (p:Prog) :TS:=
 {fr:={fn:=51,nt:=137,sl:=[(4,(.ptr 1 0)),(5,(.ptr 2 0))],todo:=[.junk,.code (cd Tryz.f51 [1,1,1,1])],defers:=[.fn 61 [(.ptr 2 0),(.func 137 [] [(.ptr 1 0)])]],mode:=.pan (aQr 2)},cs:=[],hp:=aMN p,nb:=4}
theorem bA5 (p:Prog)(l:List aB)(z:Int)(h0:Pure PP 140 [.ilst 1 (map aA l) false,.func 141 [] [],.str 4 1852399981] (.int .i64 z))(h1:Spec PP (.enter 67 [.bool (z != p.main),.int .i64 2]) (aD (aMN p) 4) (.pan (aQr 2)) (aD (aMN p) 4)) :LeadsM PP 0 (aPn p l).as (bCD p).as:=
 aMr (e:=5) (is1:=[.d,.pure (.int .i64 z),.d,.d,.d]) (v:=.tup []) (h2:=aD (aMN p) 4) (is2:=[]) (os:=[]) (ch:=aQr 2) (h':=aD (aMN p) 4) (js:=[4,5])
  (ps:=[Pure PP 140 [.ilst 1 (map aA l) false,.func 141 [] [],.str 4 1852399981] (.int .i64 z),(int .i64 p.main) = (int .i64 p.main),(int .i64 p.main) = (int .i64 p.main),Spec PP (.enter 67 [.bool (z != p.main),.int .i64 2]) (aD (aMN p) 4) (.pan (aQr 2)) (aD (aMN p) 4)])
  (by kernel_rfl) ⟨h0,rfl,rfl,h1⟩
theorem aWu (p:Prog) :Ends PP 0 (bCD p).as (.ret (.tup [.nils,(.int .i64 2)])) (aD [] 0) :=
 aAM (n1:=5) (ks:=[]) (hp:=[]) (v:=.tup [.nils,(.int .i64 2)]) (ps:=[]) (is:=[.run 43]) (by kernel_rfl) (by kernel_rfl) trivial trivial
theorem aWv {p:Prog}{but a:Int}{r:List Int}(h:NMS 142 p but a [] r) :aAo PP (.enter 142 [PAv p,.int .i64 a,.int .i64 but,.nils]) (aD [] 0) (.ret (.gl 0 1 0 (length r) false)) (aD [(0,LIs r,true)] 1) :=by
 obtain⟨g,hg,he⟩ :=h;have e:dP PP (aD [(0,LIs [],true)] 1) (.enter 142 [PAv p,.int .i64 a,.int .i64 but,.gl 0 1 0 (length ([] :List Int)) false]) =some (aC8 p a but []).as.fr:=by kernel_rfl
 rw [e]at hg;cases hg;have lead:LeadsM PP 0 (cI PP 142 [PAv p,.int .i64 a,.int .i64 but,.nils] [] 0).as (aC8 p a but []).as:=
  aQK (n1:=1) (ks:=[0]) (ps:=[([] :List AV) =map aP ([] :List Int),(AV.gl 0 1 0 0 false) = .gl 0 1 0 (length ([] :List Int)) false]) (is:=[.nilL 3 1,.lset 0 (map aP ([] :List Int)),.set 3 (.gl 0 1 0 (length ([] :List Int)) false)]) (by kernel_rfl) (by kernel_rfl) ⟨aJ3 [],trivial⟩ ⟨rfl,rfl⟩
 have he2:Ends PP 0 (aC8 p a but []).as (.ret (.gl 0 1 0 (length r) false)) (aD [(0,LIs r,true)] 1) :=mp (by kernel_rfl) he;have he3:=lead.ends he2;exact⟨(cI PP 142 [PAv p,.int .i64 a,.int .i64 but,.nils] [] 0).as.fr,by kernel_rfl,mp (by kernel_rfl) he3⟩
abbrev OuC (b n:Nat) :AObj:=.cells (putCells .leaf 0 [.gl b 5 0 n false]) 1 [] false
abbrev LaH (p:Prog)(l2:List LUnit) :List (Nat×AObj×Bool) :=[(0,PgC p,false),(1,OuC 3 (length l2),false),(2,yC,false),(3,LUs l2,true)]
theorem aSq (p:Prog)(l2:List LUnit){but a:Int}{r:List Int}(h:NMS 142 p but a [] r) :
  Spec PP (.enter 142 [PAv p,.int .i64 a,.int .i64 but,.nils]) (aD (LaH p l2) 4) (.ret (.gl 4 1 0 (length r) false)) (aD (LaH p l2++ [(4,LIs r,true)]) 5) :=
 mp (by kernel_rfl) (xB (ks:=[]) (n2:=4) (lc:=LaH p l2) (x:=LaH p l2) (args':=[PAv p,.int .i64 a,.int .i64 but,.nils])
  (aWv h) (by kernel_rfl) (by kernel_rfl) (by kernel_rfl) trivial (by kernel_rfl) (by kernel_rfl) (by kernel_rfl) (by kernel_rfl) ⟨aJ3 r,trivial⟩ (by kernel_rfl))
abbrev UnB (vy:aB)(cs:List Con)(n:Nat) :AObj:=.cells (putCells .leaf 0 [aA vy,.ilst 2 (map Con.av cs) false,.slice 7 0 1 1 2 true,.gl 8 1 0 n false,.nils]) 5 [] false
abbrev FnB (vy:aB) :AObj:=.cells (putCells .leaf 0 [aA vy,.int .i64 0]) 2 [] false
theorem aWw (p:Prog)(l2:List LUnit)(vy:aB)(cs:List Con)(o:List aB){F C:List Int}{b:Int}{ns:List Node}(h:MNS p F C b [] ns) :
  Spec PP (.enter 144 [.ptr 3 0,.int .i64 b])
   (aD [(0,PgC p,false),(1,OuC 5 (length l2),false),(2,yC,false),(3,MC p.nodes F C 6 (length ([] :List ONode)),false),(4,UnB vy cs (length o),false),(5,LUs l2,true),(6,OL [],true),(7,FnB vy,false),(8,iG o,true)] 9)
   (.ret (.int .i64 ((length ([] :List ONode) :Nat) :Int)))
   (aD [(0,PgC p,false),(1,OuC 5 (length l2),false),(2,yC,false),(3,MC p.nodes F C 9 (length (([] :List ONode) ++map Node.o ns)),false),(4,UnB vy cs (length o),false),(5,LUs l2,true),(7,FnB vy,false),(8,iG o,true),(9,OL (([] :List ONode) ++map Node.o ns),true)] 10) :=by
 unfold MNS at h
 exact fM (m:=1) (ks:=[3,6]) (n2:=9) (n3:=10) (v':=.int .i64 ((length ([] :List ONode) :Nat) :Int)) (args':=[.ptr 3 0,.int .i64 b])
  (lc:=[(0,PgC p,false),(1,OuC 5 (length l2),false),(2,yC,false),(3,MC p.nodes F C 6 (length ([] :List ONode)),false),(4,UnB vy cs (length o),false),(5,LUs l2,true),(6,OL [],true),(7,FnB vy,false),(8,iG o,true)])
  (lc':=[(0,PgC p,false),(1,OuC 5 (length l2),false),(2,yC,false),(3,MC p.nodes F C 9 (length (([] :List ONode) ++map Node.o ns)),false),(4,UnB vy cs (length o),false),(5,LUs l2,true),(7,FnB vy,false),(8,iG o,true),(9,OL (([] :List ONode) ++map Node.o ns),true)])
  h (by rfl) (by rfl) (by kernel_rfl) (by rfl) (by rfl) (by kernel_rfl) (by kernel_rfl) ⟨qJ _,trivial⟩ (by kernel_rfl) ⟨qJ _,trivial⟩
theorem aPq (i:Nat) :numsL 0 (i+1) =numsL 0 i++ [(i:Int)] :=by
 refine List.ext_getElem? (fun m=>?_);by_cases hm:m<i
 ·rw [rP 0 (by omega),List.getElem?_append_left (by rw [fL];exact hm),rP 0 hm]
 · by_cases hm2:m=i
   ·rw [hm2,rP 0 (by omega),List.getElem?_append_right (by rw [fL];omega),fL,Nat.sub_self];simp
   ·rw [List.getElem?_eq_none (by rw [fL];omega),List.getElem?_eq_none (by simp [fL];omega)]
section
variable (p :Prog) (l:List aB) (hl:l.length=p.funs.length) (hf:p.funs.length≤1000)
include hl hf
theorem aWx (nm:List Int)(hnm:∀y∈nm,0≤y∧y<p.funs.length)(hn:nm.length≤1000)(b:Int)(vy:aB)(cs:List Con)(i:Int)(l2:List LUnit) :∀ (t:List Int) (k:Nat) (F:List Int) (o:List aB),nm.drop k=t→F.length=p.funs.length→o.length=k →
  LeadsM PP 0 (lM p l b ((nm.length:Nat) :Int) vy cs nm F (k:Int) o i l2).as (aF9 p l b vy cs (setF F k t) (o++t.map (gW l)) 0 [] i l2).as
 | [],k,F,o,h,hF,ho=>by
  have:=bA h;rw [setF,List.map_nil,List.append_nil];exact bAX p l b _ vy cs nm F k o i l2 sd
 | y::t,k,F,o,h,hF,ho=>by
  obtain⟨q1,q2,q3⟩ :=aY h;have hy:=hnm y (mem_of_getElem? q1);obtain⟨s,hs⟩ :∃s,l[y.toNat]?=some s:= ⟨_,getElem?_eq_getElem (by omega)⟩;obtain⟨z,hz⟩ :∃z,F[y.toNat]?=some z:= ⟨_,getElem?_eq_getElem (by omega)⟩;have en:gW l y=s:=by unfold gW;rw [hs];rfl
  have ih:=aWx nm hnm hn b vy cs i l2 t (k+1) (F.set y.toNat (1+ (k:Int))) (o++ [s]) q2 (by rw [length_set];exact hF) (by simp [ho]);rw [setF,map_cons,en,show o++s::t.map (gW l) = (o++ [s]) ++t.map (gW l)by simp];exact(bAW p l b _ vy cs nm F k o i l2 y z s sd sd sd sd sd hy.1 (by omega) hz hs (by simp;omega) sd).trans ih
omit hl hf in
theorem aWy (hc:p.cons.length≤1000)(b:Int)(vy:aB)(cs:List Con)(F:List Int)(o:List aB)(i:Int)(l2:List LUnit) :∀ (j k:Nat),k+j=p.cons.length →
  LeadsM PP 0 (aF9 p l b vy cs F o (k:Int) (numsL 0 k) i l2).as (aPo p l b F vy cs o (numsL 0 p.cons.length) i l2).as
 | 0,k,h=>by
  rw [show k=p.cons.length by omega];exact bAZ p l b vy cs F o _ _ i l2 sd
 | j+1,k,h=>by
  have ih:=aWy hc b vy cs F o i l2 j (k+1) (by omega);rw [aPq]at ih;exact(bAY p l b vy cs F o k _ i l2 sd (by simp [fL];omega) sd).trans ih
theorem bDw (i:Nat)(acc:List LUnit){b:Int}{nm:List Int}{s:aB}{cs:List Con}(hi:i<p.funs.length)(h10:p.funs.length≤10)(hb:p.funs[i]?=some b)(hs:l[i]?=some s)(hn:nm.length≤20)
  (h3:Spec PP (.enter 142 [PAv p,.int .i64 b,.int .i64 (i:Int),.nils]) (aD (LaH p acc) 4) (.ret (.gl 4 1 0 (length nm) false)) (aD (LaH p acc++ [(4,LIs nm,true)]) 5)) (hc:Pure PP 143 [.ilst 2 (map Con.av p.cons) false] (.ilst 2 (map Con.av cs) false)) :
  LeadsM PP 0 (aF8 p l (i:Int) acc).as (lM p l b ((nm.length:Nat) :Int) s cs nm (replicate p.funs.length 0) 0 [] (i:Int) acc).as:=by
 have g0: (decide ((i:Int) < ((length p.funs:Nat) :Int))) =true:=by simp;omega
 have g4: (decide ((((length nm) :Nat) :Int) > (20:Int))) =false:=by simp;omega
 have h3':=h3;rcases(by omega:p.funs.length=1∨p.funs.length=2∨p.funs.length=3∨p.funs.length=4∨p.funs.length=5∨p.funs.length=6∨p.funs.length=7∨p.funs.length=8∨p.funs.length=9∨p.funs.length=10)with e|e|e|e|e|e|e|e|e|e
 ·have:=aWp p l i acc b nm s cs g0 (by omega) hb h3' g4 e hs hc;rw [e];exact this
 ·have:=bAV p l i acc b nm s cs g0 (by omega) hb h3' g4 e hs hc;rw [e];exact this
 ·have:=bAU p l i acc b nm s cs g0 (by omega) hb h3' g4 e hs hc;rw [e];exact this
 ·have:=bAT p l i acc b nm s cs g0 (by omega) hb h3' g4 e hs hc;rw [e];exact this
 ·have:=bAS p l i acc b nm s cs g0 (by omega) hb h3' g4 e hs hc;rw [e];exact this
 ·have:=bAR p l i acc b nm s cs g0 (by omega) hb h3' g4 e hs hc;rw [e];exact this
 ·have:=bAQ p l i acc b nm s cs g0 (by omega) hb h3' g4 e hs hc;rw [e];exact this
 ·have:=bAP p l i acc b nm s cs g0 (by omega) hb h3' g4 e hs hc;rw [e];exact this
 ·have:=bAO p l i acc b nm s cs g0 (by omega) hb h3' g4 e hs hc;rw [e];exact this
 ·have:=bAN p l i acc b nm s cs g0 (by omega) hb h3' g4 e hs hc;rw [e];exact this
theorem aWz (hs:aJ p=true)(hr:aR p=true)(h10:p.funs.length≤10) :∀ (bs:List Int) (ss:List aB) (i:Nat) (acc:List LUnit),p.funs.drop i=bs→l.drop i=ss→acc.length=i →
  Ends PP 0 (aF8 p l (i:Int) acc).as (.ret (.tup [.ilst 5 (map LUnit.av (acc++bK p l i bs ss)) false,.int .i64 0])) (aD [] 0)
 | [],ss,i,acc,h,h2,ha=>by
  have:=bA h;have e:bK p l i [] ss= [] :=by cases ss<;>rfl
  rw [e,List.append_nil];exact aWq p l i acc sd
 | b::bs,ss,i,acc,h,h2,ha=>by
  obtain⟨q1,q2,q3⟩ :=aY h;have hi:= (List.getElem?_eq_some_iff.1 q1).1;obtain⟨s,r,rfl,s1,s2⟩ :=aF7 h2 (by omega);have f:=Fs.of hs hr;have hb:=mem_of_getElem? q1;have hbr:=f.fine.funs b hb;obtain⟨n1,n2⟩ :=rZ hs hr i b;have hsz:=f.fine.small;have hpl: (pre p p.nodes.length b).length≤1000000:=by
   obtain⟨f1,f2,e⟩ :=List.append_of_mem hb;have hl:=f.len;rw [e,List.map_append,map_cons,List.flatten_append,flatten_cons,length_append,length_append]at hl;omega
  have sp:=aHP f.fine (aWl hs hr) (i:Int) p.nodes.length b [] hbr.1 hbr.2 (by omega) (by simp;omega);obtain⟨m1,m2,m3⟩ :=aWn hs hr n2 hb
  have hT:∀x∈p.nodes,pL x.pats=true:=fun x hx=>by
   obtain⟨j,hj⟩ :=List.mem_iff_getElem?.1 hx;exact aBZ x.pats (kC fun q hq=> ((yX (f.node j x hj).1).pats q hq).2)
  have smv:=mNd_spec p (fH p (cH p i b)) (numsL 0 p.cons.length) hT p.nodes.length [] b _ m1;have hc:=f.cons;have ih:=aWz hs hr h10 bs r (i+1) (acc++ [fD p l i b s]) q2 s2 (by simp [ha]);rw [List.append_assoc]at ih;have t1:=bDw p l hl hf i acc (nm:=cH p i b) (cs:=p.cons) hi h10 q1 s1 (by omega) (aSq p acc sp) (aOK p.cons (by omega));have t2:=aWx p l hl hf (cH p i b) n1.2 (by omega) b s p.cons (i:Int) acc (cH p i b) 0 (replicate p.funs.length 0) [] rfl (by simp) rfl;rw [List.nil_append]at t2;have t3:=aWy p l (by omega) b s p.cons (fH p (cH p i b)) ((cH p i b).map (gW l)) (i:Int) acc p.cons.length 0 (by omega);have t4:=bA0 p l b (fH p (cH p i b)) s p.cons ((cH p i b).map (gW l)) (numsL 0 p.cons.length) i acc (lL p (cH p i b) b) (lL p (cH p i b) b) (mp (by kernel_rfl) (aWw p acc s p.cons ((cH p i b).map (gW l)) smv)) (by simp) (by simp) (by simp;omega) sd;exact(((t1.trans t2).trans t3).trans t4).ends ih
end
theorem aWA {E:Emb}{e:Int}{cv:Value}(h:VR E (.tup [.nils,.int .i64 e]) cv) :VR E (.tup [.ilst 5 (map LUnit.av ([] :List LUnit)) false,.int .i64 e]) cv:=by
 simp only [VR]at h ⊢;obtain⟨us,h1,h2⟩ :=h;obtain⟨u,us',rfl,h3,h4⟩ :=h2.cons_inv;exact⟨_,h1,VRs.cons (lH _ h3) h4⟩
theorem aMO (p:Prog)(l:List aB)(hs:aJ p=true)(hl:l.length≤1000) :Pure PP 51 [Prog.av p,.ilst 1 (map aA l) false] (.tup [.ilst 5 (map LUnit.av (aF6 p l).1) false,.int .i64 (aF6 p l).2]) :=by
 have err:∀e:Int,Ends PP 0 (aQq p l).as (.ret (.tup [.nils,.int .i64 e])) (aD [] 0) →Pure PP 51 [Prog.av p,.ilst 1 (map aA l) false] (.tup [.ilst 5 (map LUnit.av ([] :List LUnit)) false,.int .i64 e]) :=fun e h=>
  aHw (dT (s:=aQq p l) (by kernel_rfl) (by kernel_rfl) (by simp [keylessL,keyless,Prog.av]) (by simp [keylessL,keyless]) h) (fun E cv hv=>aWA hv)
 have hF:=aFB hs;have hN:=aCa l (by omega);have hP:=aWt l eH (by omega);unfold aF6;cases e1:aR p with
 |false=>rw [e1]at hF;rw [if_neg (by simp)];exact err 2 (bAH p l _ hF rfl)
 | true =>
  rw [e1]at hF;by_cases n1:l.length=p.funs.length
  · cases n2:eG l with
    | false=>
     rw [n2]at hN;rw [if_neg (fun g=>by have:= (jD g.2).2.1;rw [n2]at this;cases this)];exact err 2 (bAJ p l _ false hF rfl (by simp [n1]) hN rfl)
    | true=>
     rw [n2]at hN;have st:=bAK p l _ true hF rfl (by simp [n1]) hN rfl;by_cases n3:cZ eH l 0=p.main
     · have e2:aA3 p l=true:=by unfold aA3;simp [n1,n2,n3]
       rw [if_pos ⟨rfl,e2⟩];have hR:Pure PP 67 [.bool (cZ eH l 0 != p.main),.int .i64 2] (.tup []) :=by
        rw [n3,show(p.main != p.main) =false by simp];exact aVB 2
       by_cases h10:p.funs.length≤10
       · rw [if_pos h10];have st2:=bAM p l _ hP hR (by simp;omega);have:=aWz p l n1 (by omega) hs e1 h10 p.funs l 0 [] rfl rfl rfl;rw [List.nil_append]at this;exact dT (s:=aQq p l) (by kernel_rfl) (by kernel_rfl) (by simp [keylessL,keyless,Prog.av]) (by simp [keylessL,keyless]) ((st.trans st2).ends this)
       · rw [if_neg h10];exact err 3 (st.ends (bAL p l _ hP hR (by simp;omega)))
     · rw [if_neg (fun g=>n3 (jD g.2).2.2)];have hR:=aVC 2 (aD (aMN p) 4);rw [show(true:Bool) = (cZ eH l 0 != p.main)by simp [n3]]at hR;exact err 2 (st.ends ((bA5 p l _ hP hR).ends (aWu p)))
  · rw [if_neg (fun g=>n1 (jD g.2).1)];exact err 2 (bAI p l _ hF rfl (by simp;omega))
section
variable {P :Program}
def aSr (P:Program)(is:List Ins)(s:TS) :Option (AV×Nat×List Prop) :=
 match vK P is s.as with
 | some (s1,ps) =>match s1.cs,s1.fr.kind,s1.fr.mode,s1.fr.roundOf,s1.fr.defers with
  | [],.normal,.ret,none,[] =>match P.funcs[s1.fr.fn]? with
   | some fd=>match kV P s1.h s1.fr.tm fd.results.toList with
    |some [v] =>some (v,s1.fr.fn,ps)
    |_=>none
   |none=>none
  |_,_,_,_,_=>none
 |none=>none
theorem aJ6 {f : Nat} {args : List AV} {is : List Ins}{b:Bool}{ps:List Prop}{cargs:List Value}(hb:jW P f=true)(hk:keylessL args=true)(h0:aSr P is (start P f args) =some (.bool b,f,ps))(hps:AllP ps)(w:World)(hv:VRs (embOf w) args cargs) :
  Calls P f ⟨cargs⟩ w fun e w'=>e= .returned (.bool b) ∧GrownO w w':=by
 intro base;unfold jW at hb;split at hb
 · rename_i fn hf;split at hb
   · rename_i c hc;have hg:cK P f args .normal=some ⟨f,dA .leaf 0 args,max fn.ntmps args.length,[.code c],[],.run,.normal,none⟩ :=by simp [cK,hf,hc]
     have fr':FR (embOf w) _ (Frame.enter P f ⟨cargs⟩ .normal) :=gR hg hv;have f1:FR (embOf w) (start P f args).as.fr (Frame.enter P f ⟨cargs⟩ .normal) :=by
      have e1: (start P f args).as.fr= ⟨f,mkT ((range args.length).zip args),max fn.ntmps args.length,[.code c],[],.run,.normal,none⟩ :=by simp [start,hf,hc,TS.as,TF.fr]
      rw [e1];refine⟨fr'.fn,⟨fr'.tm.1,fun t a e=>?_⟩,fr'.todo,fr'.defers,fr'.mode,fr'.kind,fr'.round⟩;have h1:=aBD (wZ e);have hlt:= (List.getElem?_eq_some_iff.1 h1).1;have h2: (dA .leaf 0 args).at t=some a:=by
       unfold dA;rw [bX,if_pos hlt];exact h1
      exact fr'.tm.2 t a h2
     have e2 : (start P f args).as.cs = [] := by unfold start;split; · split<;>rfl
                                                 ·rfl
     have e3 : (start P f args).as.h = ⟨.leaf, 0⟩ := by unfold start;split; · split<;>rfl
                                                        ·rfl
     unfold aSr at h0;split at h0
     · rename_i s1 qs h1;split at h0
       · rename_i hcs hkd hmo hro hde;split at h0
         · rename_i fd hfd;split at h0
           · rename_i v hrs;simp only [Option.some.injEq,Prod.mk.injEq]at h0;obtain⟨rfl,hfn,rfl⟩ :=h0;have hl:LeadsM P 0 (start P f args).as s1:=fU h1 (fun p hpp=>hps.mem p hpp);obtain⟨E',g,ccs,w',s2,f2,fs2,r2,x⟩ :=hl (by rw [e3];exact Nat.le_refl _) (embOf w) _ [] w base f1 (by rw [e2];rfl) (by rw [e3];exact aG8 w);rw [hcs]at fs2;have:=fs2.nil_inv;subst this;obtain⟨cv,g1,g2⟩ :=qC r2 f2.tm hrs;simp only [aAA,VR]at g2;subst g2;have fm:=f2.mode;rw [hmo]at fm;simp only [MR]at fm;have fdd:=f2.defers;rw [hde]at fdd;rw [e3]at x;have hno:∀ {b o},¬ (⟨.leaf,0⟩ :Hp).look b=some o:=fun {b o} e=>by simp [Hp.look,T.at_leaf]at e
             refine⟨.returned (.bool b),w',g,⟨rfl,⟨x.os,x.output,fun i hi=>?_⟩,x.froz,x.size⟩,s2,by rw [f2.fn,hfn],fm,fdd.nil_inv,by rw [f2.kind,hkd],fd,by rw [f2.fn];exact hfd,g1⟩;have:=x.keep i hi (fun b o L e=>absurd e hno);rw [this];cases w.heap[i]? with
             |none=>rfl
             |some ob=>cases ob<;>simp
           ·cases h0
         ·cases h0
       ·cases h0
     ·cases h0
   ·cases hb
 ·cases hb
theorem aDV {f : Nat} {args : List AV} {is : List Ins}{b:Bool}{ps:List Prop}{cargs:List Value}{t:TS}(hb:jW P f=true)(hk:keylessL args=true)(hl0:LeadsM P 0 (start P f args).as t.as)(h0:aSr P is t=some (.bool b,f,ps))(hps:AllP ps)(w:World)(hv:VRs (embOf w) args cargs) :
  Calls P f ⟨cargs⟩ w fun e w'=>e= .returned (.bool b) ∧GrownO w w':=by
 intro base;unfold jW at hb;split at hb
 · rename_i fn hf;split at hb
   · rename_i c hc;have hg:cK P f args .normal=some ⟨f,dA .leaf 0 args,max fn.ntmps args.length,[.code c],[],.run,.normal,none⟩ :=by simp [cK,hf,hc]
     have fr':FR (embOf w) _ (Frame.enter P f ⟨cargs⟩ .normal) :=gR hg hv;have f1:FR (embOf w) (start P f args).as.fr (Frame.enter P f ⟨cargs⟩ .normal) :=by
      have e1: (start P f args).as.fr= ⟨f,mkT ((range args.length).zip args),max fn.ntmps args.length,[.code c],[],.run,.normal,none⟩ :=by simp [start,hf,hc,TS.as,TF.fr]
      rw [e1];refine⟨fr'.fn,⟨fr'.tm.1,fun t a e=>?_⟩,fr'.todo,fr'.defers,fr'.mode,fr'.kind,fr'.round⟩;have h1:=aBD (wZ e);have hlt:= (List.getElem?_eq_some_iff.1 h1).1;have h2: (dA .leaf 0 args).at t=some a:=by
       unfold dA;rw [bX,if_pos hlt];exact h1
      exact fr'.tm.2 t a h2
     have e2 : (start P f args).as.cs = [] := by unfold start;split; · split<;>rfl
                                                 ·rfl
     have e3 : (start P f args).as.h = ⟨.leaf, 0⟩ := by unfold start;split; · split<;>rfl
                                                        ·rfl
     unfold aSr at h0;split at h0
     · rename_i s1 qs h1;split at h0
       · rename_i hcs hkd hmo hro hde;split at h0
         · rename_i fd hfd;split at h0
           · rename_i v hrs;simp only [Option.some.injEq,Prod.mk.injEq]at h0;obtain⟨rfl,hfn,rfl⟩ :=h0;have hl:LeadsM P 0 (start P f args).as s1:=hl0.trans (fU h1 (fun p hpp=>hps.mem p hpp));obtain⟨E',g,ccs,w',s2,f2,fs2,r2,x⟩ :=hl (by rw [e3];exact Nat.le_refl _) (embOf w) _ [] w base f1 (by rw [e2];rfl) (by rw [e3];exact aG8 w);rw [hcs]at fs2;have:=fs2.nil_inv;subst this;obtain⟨cv,g1,g2⟩ :=qC r2 f2.tm hrs;simp only [aAA,VR]at g2;subst g2;have fm:=f2.mode;rw [hmo]at fm;simp only [MR]at fm;have fdd:=f2.defers;rw [hde]at fdd;rw [e3]at x;have hno:∀ {b o},¬ (⟨.leaf,0⟩ :Hp).look b=some o:=fun {b o} e=>by simp [Hp.look,T.at_leaf]at e
             refine⟨.returned (.bool b),w',g,⟨rfl,⟨x.os,x.output,fun i hi=>?_⟩,x.froz,x.size⟩,s2,by rw [f2.fn,hfn],fm,fdd.nil_inv,by rw [f2.kind,hkd],fd,by rw [f2.fn];exact hfd,g1⟩;have:=x.keep i hi (fun b o L e=>absurd e hno);rw [this];cases w.heap[i]? with
             |none=>rfl
             |some ob=>cases ob<;>simp
           ·cases h0
         ·cases h0
       ·cases h0
     ·cases h0
   ·cases hb
 ·cases hb
theorem cW {f:Nat}{args:List AV}{b:Bool}{cargs:List Value}(L:List Pf)(is:List Ins)(w:World)(hv:VRs (embOf w) args cargs)(hb:jW P f=true:=by kernel_rfl)(hk:keylessL args=true:=by kernel_rfl)(h0:aSr P is (start P f args) =some (.bool b,f,L.map Pf.p) :=by kernel_rfl) :
    Calls P f ⟨cargs⟩ w fun e w'=>e= .returned (.bool b) ∧GrownO w w':=aJ6 hb hk h0 (aTf L) w hv
theorem cL {f:Nat}{args:List AV}{b:Bool}{cargs:List Value}{t:TS}(hl:LeadsM P 0 (start P f args).as t.as)(L:List Pf)(is:List Ins)(w:World)(hv:VRs (embOf w) args cargs)(hb:jW P f=true:=by kernel_rfl)(hk:keylessL args=true:=by kernel_rfl)(h0:aSr P is t=some (.bool b,f,L.map Pf.p) :=by kernel_rfl) :
    Calls P f ⟨cargs⟩ w fun e w'=>e= .returned (.bool b) ∧GrownO w w':=aDV hb hk hl h0 (aTf L) w hv
end
theorem aSs {x:Node}(h:aJP x) :aYi x:= ⟨by have:=h.1;omega,by have:=h.2;omega⟩
theorem zD :FitP aB6:= ⟨by simp [aB6],by simp [aB6],by simp [aB6],fun x hx=>by cases hx⟩
theorem aSt {l:List LUnit}(hu:∀u∈l,FewU u) :FitP (xX l).1:=by
 unfold xX;split
 · rename_i h0;obtain⟨hl10,hg⟩ :=aB7 hu h0;split
   ·exact zD
   · rename_i c hc;split
     · split
       · rename_i h6;have hp:=bCl (ls:=[]) (cs:=c) hl10 hg (by simp);have h1:=hp.len;have h2:=hp.funs;exact⟨by dsimp only;omega,by simp;omega,by dsimp only;omega,fun x hx=>aSs (hp.fit x hx)⟩
       ·exact zD
     ·exact zD
 ·exact zD
end
end Go.Hb

set_option linter.defProp false
set_option linter.unusedVariables false
set_option linter.unusedSimpArgs false
set_option linter.unusedSectionVars false
set_option maxRecDepth 100000
set_option maxHeartbeats 4000000
namespace Go.Hb
open Bool (and_eq_true)
open Int (tdiv tmod toNat_natCast)
open List (all_eq_true flatten_cons getElem?_eq_getElem getElem?_eq_none getElem?_map length length_append length_map length_replicate map map_append map_congr_left map_cons map_map mem_cons_of_mem mem_cons_self mem_of_getElem? nodup_append nodup_cons replicate)
open Option (map_some)
open Go.Proofs Tryz
noncomputable section
theorem aA4 (p:Prog)(l:List aB) :∀ (bs:List Int) (ss:List aB) (i:Nat),(bK p l i bs ss).length≤bs.length
 | [],ss,i=>by cases ss<;>simp [bK]
 |b::bs,[],i=>by simp [bK]
 | b::bs,s::ss,i=>by
  have:=aA4 p l bs ss (i+1);simp only [bK,List.length_cons];omega
theorem aSu {Z:List Con}(hz: (Z.map Con.name).Nodup){c:Con}(hc:c∈Z) :aAs Z c=some Z:=by
 unfold aAs;split
 · rename_i hf;have:=List.find?_eq_none.1 hf c hc;simp at this
 · rename_i d hf;have h1:=List.mem_of_find?_eq_some hf;have h2:d.name=c.name:=by simpa using List.find?_some hf
   obtain⟨i,hi⟩ :=List.mem_iff_getElem?.1 h1;obtain⟨j,hj⟩ :=List.mem_iff_getElem?.1 hc;have e1:=aB0 hz hi;have e2:=aB0 hz hj;rw [h2,e2]at e1;have e3:j=i:=by omega
   rw [e3,hi]at hj;rw [Option.some.inj hj];simp
theorem aA5 {Y:List Con}(hy: (Y.map Con.name).Nodup) :∀ (t X:List Con),Y=X++t→rU X t=some Y
 | [],X,h=>by rw [h,List.append_nil];rfl
 | c ::t,X,h=>by
  have e:aAs X c=some (X++ [c]) :=by
   unfold aAs;split
   ·rfl
   · rename_i d hf;exfalso;have h1:=List.mem_of_find?_eq_some hf;have h2:d.name=c.name:=by simpa using List.find?_some hf
     rw [h,map_append,nodup_append]at hy;exact hy.2.2 d.name (List.mem_map.2 ⟨d,h1,rfl⟩) c.name (by simp) h2
  rw [rU,e];exact aA5 hy t (X++ [c]) (by rw [h,List.append_assoc];rfl)
theorem aHQ (own:List aB) :∀ (t out:List aB) (s:aB),s∈pK own out t→s∈out∨s∈t
 | [],out,s,h=>.inl h
 | x ::t,out,s,h=>by
  rw [pK]at h;rcases aHQ own t _ s h with g|g
  · split at g
    ·exact .inl g
    · rcases List.mem_append.1 g with g|g
      ·exact .inl g
      ·rw [List.mem_singleton.1 g];exact .inr (mem_cons_self ..)
  ·exact .inr (mem_cons_of_mem _ g)
theorem aC9 (own:List aB) :∀ (l:List LUnit) (out:List aB) (s:aB),s∈lI own out l→s∈out∨∃u∈l,s∈u.needs
 | [],out,s,h=>.inl h
 | u ::l,out,s,h=>by
  rw [lI]at h;rcases aC9 own l _ s h with g| ⟨v,g1,g2⟩
  · rcases aHQ own u.needs out s g with g|g
    ·exact .inl g
    ·exact .inr ⟨u,mem_cons_self ..,g⟩
  ·exact .inr ⟨v,mem_cons_of_mem _ g1,g2⟩
def aMP (own out:List aB) :Prop:=out.Nodup∧∀s∈out,aV own s=false
theorem aHR (own:List aB) :∀ (t out:List aB),aMP own out→aMP own (pK own out t)
 | [],out,h=>h
 | x ::t,out,h=>by
  rw [pK];refine aHR own t _ ?_;split
  ·exact h
  · rename_i g;rw [not_or,Bool.not_eq_true,Bool.not_eq_true]at g;refine⟨?_,fun s hs=>?_⟩
    · rw [nodup_append];refine⟨h.1,by simp,fun a ha b hb e=>?_⟩;rw [List.mem_singleton.1 hb]at e;have:=hasS_mem.2 ha;rw [e,g.2]at this;cases this
    · rcases List.mem_append.1 hs with k|k
      ·exact h.2 s k
      ·rw [List.mem_singleton.1 k];exact g.1
theorem aHS (own:List aB) :∀ (l:List LUnit) (out:List aB),aMP own out→aMP own (lI own out l)
 | [],out,h=>h
 |u::l,out,h=>by rw [lI];exact aHS own l _ (aHR own u.needs out h)
theorem aHT (l:List LUnit) :aMP (bS l) (fG l) :=aHS _ l [] ⟨List.nodup_nil,fun s h=>by cases h⟩
theorem lostU_nil {l:List LUnit}:fG l= [] ↔∀u∈l,∀s∈u.needs,aV (bS l) s=true:=by
 constructor
 · intro h u hu s hs;rcases(mZ (bS l) l []).2 u hu s hs with g|g
   ·exact g
   · change aV (fG l) s=true at g
     rw [h]at g;cases g
 · intro h;cases e:fG l with
   |nil=>rfl
   | cons s r=>
    have hm:s∈fG l:=by rw [e];exact mem_cons_self ..
    have h1:= (aHT l).2 s hm;rcases aC9 (bS l) l [] s hm with g| ⟨u,g1,g2⟩
    ·cases g
    ·rw [h u g1 s g2]at h1;cases h1
structure PartOk (l:List LUnit) (c:List Con) :Prop where
 hl:l.length≤10
 good:∀u∈l,GoodU u
 cons:xT l=some c
 differ:cA (bS l) =true
 size:aZ l≤300
 c20:c.length≤20
 n20: (fG l).length≤20
section
variable {l :List LUnit} {c:List Con}
end
def cJ (p:Prog)(b:Int) :List Int:=pre p p.nodes.length b
def toA (p:Prog)(b:Int) :List Int:=xO (replicate p.nodes.length 0) 0 (cJ p b)
section
variable {p :Prog} (f:Fs p) {b:Int} (hb:b∈p.funs)
include f hb
theorem aPr : (cJ p b).Nodup:=by
 obtain⟨f1,f2,e⟩ :=List.append_of_mem hb;have h:=f.dup;rw [e,map_append,map_cons,List.flatten_append,flatten_cons,nodup_append]at h;exact(List.nodup_append.1 h.2.1).1
theorem qN :∀k∈cJ p b,0≤k∧k<p.nodes.length:=by
 have h:=f.fine.funs b hb;unfold cJ;exact aON f.fine p.nodes.length b h.1 h.2
theorem uQ {j:Nat}{k:Int}(h: (cJ p b)[j]?=some k) :fB (toA p b) k= (j:Int) :=by
 have:=aCN (cJ p b) (replicate p.nodes.length 0) 0 (aPr f hb) (fun x hx=>by rw [length_replicate];exact qN f hb x hx) j k h;unfold toA;rw [this];simp
theorem uR :KidsAfter p (cJ p b) :=by
 have h:=f.fine.funs b hb;exact aCT f.fine _ b h.1 h.2 (by omega)
theorem aDa : (cJ p b)[0]?=some b:=by
 have h:=f.fine.funs b hb;obtain⟨y,g,_,_,h3⟩ :=xP f.fine (f:=p.nodes.length) (a:=b) h.1 h.2 (by omega);unfold cJ;rw [h3];rfl
theorem aEl : (cJ p b).length≤p.nodes.length:=by
 obtain⟨f1,f2,e⟩ :=List.append_of_mem hb;have hl:=f.len;rw [e,map_append,map_cons,List.flatten_append,flatten_cons,length_append,length_append]at hl;unfold cJ;omega
theorem aMQ {a:Prog}{mf mc:List (Int×Int)}(ha:a.nodes= (cJ p b).map fun k=>dV mf mc (toA p b) (nodeAt p k)) :∀ (n:Nat) (k:Int),k∈cJ p b→p.nodes.length-k.toNat≤n→pre a n (fB (toA p b) k) = (pre p n k).map (fB (toA p b))
 |0,k,hk,h=>by have:=qN f hb k hk;omega
 | n+1,k,hk,h=>by
  have hr:=qN f hb k hk;obtain⟨x,hx⟩ :∃x,p.nodes[k.toNat]?=some x:= ⟨_,getElem?_eq_getElem (by omega)⟩;obtain⟨j,hj⟩ :=List.mem_iff_getElem?.1 hk;have e1:a.nodes[(fB (toA p b) k).toNat]?=some (dV mf mc (toA p b) x) :=by
   rw [uQ f hb hj,toNat_natCast,ha,getElem?_map,hj,←eV hx];rfl
  rw [pre,pre,hx,e1];simp only [map_cons,List.map_flatten,map_map,dV];congr 2
  exact map_congr_left (fun c hc=>by
   have hm:= (f.fine.node _ _ hx).2.2 c hc;have ek:cM p k=x.kids:=by unfold cM;rw [hx]
   obtain⟨j2,_,e2⟩ :=uR f hb j k c hj (by rw [ek];exact hc);exact aMQ ha n c (mem_of_getElem? e2) (by omega))
theorem aHU {a:Prog}{mf mc:List (Int×Int)}(ha:a.nodes= (cJ p b).map fun k=>dV mf mc (toA p b) (nodeAt p k))(hf:a.funs= [0]) :dX a= (List.range (cJ p b).length).map fun(i:Nat) => (i:Int) :=by
 have h:=f.fine.funs b hb;have hn:a.nodes.length= (cJ p b).length:=by rw [ha,length_map]
 have h0:=aDa f hb;have e0:fB (toA p b) b=0:=uQ f hb h0;have hpos:0< (cJ p b).length:= (List.getElem?_eq_some_iff.1 h0).1
 have hfa:∀ (i:Nat) (x:Node),a.nodes[i]?=some x→∀k∈x.kids,(i:Int) <k∧k<a.nodes.length:=fun i x hx c hc=>by
  rw [ha,getElem?_map]at hx;cases hk: (cJ p b)[i]? with
  |none=>rw [hk]at hx;cases hx
  | some k=>
   rw [hk]at hx;obtain⟨y,hy⟩ :∃y,p.nodes[k.toNat]?=some y:= ⟨_,getElem?_eq_getElem (by have:=qN f hb k (mem_of_getElem? hk);omega)⟩;rw [map_some,eV hy]at hx;rw [←Option.some.inj hx]at hc;obtain⟨c0,hc0,rfl⟩ :=List.mem_map.1 hc;have ek:cM p k=y.kids:=by unfold cM;rw [hy]
   obtain⟨j2,hj2,e2⟩ :=uR f hb i k c0 hk (by rw [ek];exact hc0);have:= (List.getElem?_eq_some_iff.1 e2).1;rw [uQ f hb e2,hn];omega
 have fuel:∀ (m n:Nat) (k:Int),0≤k→k<a.nodes.length→a.nodes.length-k.toNat≤m→a.nodes.length-k.toNat≤n→pre a m k=pre a n k:=by
  intro m
  induction m with
  |zero=>intro n k h0 h1 h2 _;omega
  | succ m ih=>
   intro n k h0 h1 h2 h3;cases n with
   |zero=>omega
   | succ n=>
    obtain⟨x,hx⟩ :∃x,a.nodes[k.toNat]?=some x:= ⟨_,getElem?_eq_getElem (by omega)⟩;rw [pre,pre,hx];simp only;congr 2
    exact map_congr_left (fun c hc=>by
     have:=hfa _ x hx c hc;exact ih n c (by omega) (by omega) (by omega) (by omega))
 unfold dX;rw [hf];show(pre a a.nodes.length 0++ []) =_;rw [List.append_nil,fuel a.nodes.length p.nodes.length 0 (by omega) (by omega) (by omega) (by have:=aEl f hb;omega),←e0,aMQ f hb ha p.nodes.length b (mem_of_getElem? h0) (by omega)];refine List.ext_getElem? (fun i=>?_);rw [getElem?_map,getElem?_map];by_cases hi:i< (cJ p b).length
 · have e: (cJ p b)[i]?=some (cJ p b)[i] :=getElem?_eq_getElem hi;have e': (pre p p.nodes.length b)[i]?=some (cJ p b)[i] :=e;rw [List.getElem?_range hi,e'];simp only [map_some];rw [uQ f hb e]
 · have e': (pre p p.nodes.length b)[i]?=none:=getElem?_eq_none (by show(cJ p b).length≤i;omega);rw [e',getElem?_eq_none (by simp;omega)];rfl
end
def mfA (p:Prog)(nm:List Int) :List (Int×Int) :=aDU (fH p nm) 0 []
theorem aQs (k:Int) :lQ [] k=0:=rfl
section
variable {p :Prog} (hs:aJ p=true) (hr:aR p=true)
include hs hr
theorem zE {nm:List Int}(hl:nm.length≤p.funs.length){b:Int}(hb:b∈p.funs) :lL p nm b= (cJ p b).map fun k=>dV (mfA p nm) (sM p.cons.length) (toA p b) (nodeAt p k) :=by
 have f:=Fs.of hs hr;have hfs:=f.fine.fsmall;have hns:=f.fine.small;have hbr:=f.fine.funs b hb;have hF: (fH p nm).length=p.funs.length:=by unfold fH;rw [yE,length_replicate]
 have hB:∀g∈fH p nm,0≤g∧g≤ (320:Nat) :=uP 320 nm _ 0 (by omega) (fun g hg=>by rw [(List.mem_replicate.1 hg).2];omega)
 have hm:MOk p (mfA p nm) (sM p.cons.length) (fH p nm) (numsL 0 p.cons.length) :=fun i x hx=>by
  obtain⟨n1,n2⟩ :=f.node i x hx
  exact(aBX (p:=p) (mf:=mfA p nm) (mc:=sM p.cons.length) (F:=fH p nm) (C:=numsL 0 p.cons.length) (by rw [←hF];exact qM _) (aEd _) (fun j j0 j1=>by
   have e:=qM (fH p nm) j j0 (by omega);have:=hB _ (mem_of_getElem? e);unfold mfA;omega) hfs n1 n2).1
 have hle:=aEl f hb
 have e:=yY (to:=toA p b) f.fine hm p.nodes.length b 0 hbr.1 hbr.2 (by omega) (by unfold cJ at hle;omega) (fun i k hk=>by
  have:=uQ f hb (j:=i) (k:=k) hk;rw [this];simp)
 unfold lL;rw [e,Option.getD_some,aOX];rfl
theorem aJ7 (but:Int) :∀ (k:Nat) (a:Int) (out:List Int),but∉out→but∉nmN p but k a out
 |0,a,out,h=>h
 | k +1,a,out,h=>by
  rw [nmN];cases hx:p.nodes[a.toNat]? with
  |none=>exact h
  | some x=>
   have key:∀ (cs:List Int) (o:List Int),but∉o→but∉cs.foldl (fun o c=>nmN p but k c o) o:=by
    intro cs
    induction cs with
    |nil=>intro o ho;exact ho
    |cons c cs ih=>intro o ho;exact ih _ (aJ7 but k c o ho)
   refine key x.kids _ (fun hm=>?_);unfold uO at hm;split at hm
   · rename_i g;rcases List.mem_append.1 hm with m|m
     ·exact h m
     ·exact g.2.2.1 (List.mem_singleton.1 m).symm
   ·exact h hm
theorem aWB {nm:List Int}(hl:nm.length≤p.funs.length){b:Int}(hb:b∈p.funs) : (lL p nm b).map (eQ 1 nm.length) = (cJ p b).map fun k=>dV [] (sM p.cons.length) (toA p b) (nodeAt p k) :=by
 have f:=Fs.of hs hr;rw [zE hs hr hl hb,map_map];refine map_congr_left (fun k hk=>?_);have hkr:=qN f hb k hk;obtain⟨x,hx⟩ :∃x,p.nodes[k.toNat]?=some x:= ⟨_,getElem?_eq_getElem (by omega)⟩;simp only [Function.comp];rw [eV hx];have hn:= (f.node _ x hx).1;simp only [bH,eP,and_eq_true]at hn;have h1:=hn.1.1.1;have hF: (fH p nm).length=p.funs.length:=by unfold fH;rw [yE,length_replicate]
 have hB:∀g∈fH p nm,0≤g∧g≤ (nm.length:Nat) :=uP nm.length nm _ 0 (by omega) (fun g hg=>by rw [(List.mem_replicate.1 hg).2];omega);by_cases e4:x.op=4
 · rw [e4]at h1;simp [bI,cT]at h1;by_cases hneg:0≤x.n
   · have e1:∀mf,bN mf (sM p.cons.length) x.op x.n=x.n:=fun mf=>by unfold bN;rw [if_pos e4,if_pos hneg]
     unfold eQ dV;rw [e1,e1,if_neg (fun g=>by have:=g.2.2;simp only at this;omega)]
   · have hg:=hB _ (mem_of_getElem? (qM (fH p nm) (-1-x.n) (by omega) (by omega)));have e1:bN (mfA p nm) (sM p.cons.length) x.op x.n= -1-lQ (aDU (fH p nm) 0 []) (-1-x.n) :=by unfold bN mfA;rw [if_pos e4,if_neg hneg]
     have e2:bN [] (sM p.cons.length) x.op x.n= -1:=by unfold bN;rw [if_pos e4,if_neg hneg];rfl
     unfold eQ dV;rw [e1,e2];simp only;by_cases g:lQ (aDU (fH p nm) 0 []) (-1-x.n) =0
     ·rw [g,if_neg (fun k=>by omega)];rfl
     ·rw [if_pos ⟨e4,by omega,by omega⟩]
 · have e1:bN (mfA p nm) (sM p.cons.length) x.op x.n=bN [] (sM p.cons.length) x.op x.n:=by unfold bN;rw [if_neg e4,if_neg e4]
   unfold eQ dV;rw [e1,if_neg (fun g=>e4 g.1)]
theorem aWC (l:List aB)(i:Nat){b:Int}(hb:b∈p.funs)(s:aB) :Fs (fC (fD p l i b s)) :=by
 have f:=Fs.of hs hr;have hh:=f.head;obtain⟨n1,n2⟩ :=rZ hs hr i b;have hnodes: (fC (fD p l i b s)).nodes= (cJ p b).map fun k=>dV [] (sM p.cons.length) (toA p b) (nodeAt p k) :=by
  have:=aWB hs hr n2 hb;show(lL p (cH p i b) b).map (eQ 1 ((cH p i b).map (gW l)).length) =_;rw [length_map];exact this
 have hM:MapsOk p (fC (fD p l i b s)) [] (sM p.cons.length) :=by
  refine⟨fun j _ _=> ⟨by rw [aQs];omega,by rw [aQs];show(0:Int) < ((1:Nat) :Int);omega⟩,fun j d hd=>?_⟩;have hj:= (List.getElem?_eq_some_iff.1 hd).1;rw [aL6 (by omega) (by omega),toNat_natCast];exact⟨by omega,hd⟩
 have hlen: (fC (fD p l i b s)).nodes.length= (cJ p b).length:=by rw [hnodes,length_map]
 have h0:=aDa f hb;have hpos:0< (cJ p b).length:= (List.getElem?_eq_some_iff.1 h0).1;have hle:=aEl f hb;refine aB1 (N:= (cJ p b).length) hlen (by omega) (by show 1≤1;omega) (by show 1≤_;omega) (by show(0:Int) ≤0;omega) (by show(0:Int) < ((1:Nat) :Int);omega) hh.2.2.2.2.2.1 (fun c hc=> ⟨hh.2.2.2.2.2.2 c hc,f.scons hc⟩) f.names (fun j x hx=>?_) (fun g hg=>?_) (aHU f hb hnodes rfl)
 · rw [hnodes,getElem?_map]at hx;cases hk: (cJ p b)[j]? with
   |none=>rw [hk]at hx;cases hx
   | some k=>
    rw [hk]at hx;obtain⟨y,hy⟩ :∃y,p.nodes[k.toNat]?=some y:= ⟨_,getElem?_eq_getElem (by have:=qN f hb k (mem_of_getElem? hk);omega)⟩;rw [map_some,eV hy]at hx;rw [←Option.some.inj hx];refine⟨aMn hM _ (f.node _ y hy).1,xU _ (f.snode hy),fun c hc=>?_⟩;obtain⟨c0,hc0,rfl⟩ :=List.mem_map.1 hc;have ek:cM p k=y.kids:=by unfold cM;rw [hy]
    obtain⟨j2,hj2,e2⟩ :=uR f hb j k c0 hk (by rw [ek];exact hc0);have:= (List.getElem?_eq_some_iff.1 e2).1;rw [uQ f hb e2];omega
 · have:g∈ [(0:Int)] :=hg;rw [List.mem_singleton.1 this];omega
end
structure NamesOk (p:Prog) (l:List aB) :Prop where
 named:aA3 p l=true
 short:∀s∈l,s.length≤30
section
variable {p :Prog} {l:List aB} (hs:aJ p=true) (hr:aR p=true) (hN:NamesOk p l)
include hN in
theorem NamesOk.len :l.length=p.funs.length:= (jD hN.named).1
include hN in
theorem NamesOk.nodup :l.Nodup:=by
 have:= (jD hN.named).2.1;unfold eG at this;rw [and_eq_true]at this;exact(iF l).1 this.2
include hN in
theorem NamesOk.ok :∀s∈l,lF s=true:=by
 have:= (jD hN.named).2.1;unfold eG at this;rw [and_eq_true,all_eq_true]at this;exact this.1
include hN in
theorem NamesOk.at {y:Int}(h0:0≤y)(h1:y<p.funs.length) :l[y.toNat]?=some (gW l y) :=by
 have hl:=hN.len;unfold gW;rw [getElem?_eq_getElem (by omega)];rfl
include hN in
theorem NamesOk.inj {y z:Int}(h0:0≤y)(h1:y<p.funs.length)(g0:0≤z)(g1:z<p.funs.length)(e:gW l y=gW l z) :y=z:=by
 have a:=hN.at h0 h1;have b:=hN.at g0 g1;rw [←e]at b;have hl:=hN.len;have:= (List.getElem?_inj (by omega) hN.nodup).1 (a.trans b.symm);omega
include hs hr hN
theorem uS (h10:p.funs.length≤10){i:Nat}{b:Int}{s:aB}(hb:p.funs[i]?=some b)(hsi:l[i]?=some s) :GoodU (fD p l i b s) :=by
 have f:=Fs.of hs hr;have hbm:=mem_of_getElem? hb;have hi:= (List.getElem?_eq_some_iff.1 hb).1;obtain⟨n1,n2⟩ :=rZ hs hr i b;have hsm:=mem_of_getElem? hsi;have hfx:=aWC hs hr l i hbm s;have hnl: (fD p l i b s).nodes.length= (cJ p b).length:=by
  show(lL p (cH p i b) b).length=_;rw [zE hs hr n2 hbm,length_map]
 have hle:=aEl f hbm;have hsmall:=f.fine.small;have hc:=f.cons;have esi:gW l (i:Int) =s:=by unfold gW;rw [toNat_natCast,hsi];rfl
 have hin:∀t∈ (fD p l i b s).needs,∃y∈cH p i b,gW l y=t:=fun t ht=>by
  obtain⟨y,hy,e⟩ :=List.mem_map.1 ht;exact⟨y,hy,e⟩
 have hmem:∀y∈cH p i b,gW l y∈l:=fun y hy=>by
  have:=n1.2 y hy;exact mem_of_getElem? (hN.at this.1 this.2)
 refine⟨⟨by show 1≤30;omega,by show((cH p i b).map (gW l)).length≤25;rw [length_map];omega,?_,fun g hg=>?_,fun t ht=>?_⟩,?_⟩
 · simp only [aJ,and_eq_true,decide_eq_true_eq,eU];refine⟨⟨⟨⟨by rw [hnl];omega,by simp⟩,by show p.cons.length≤25;omega⟩,List.all_eq_true.2 fun d hd=>by simpa using f.scons hd⟩,List.all_eq_true.2 fun x hx=>?_⟩;have hx':x∈lL p (cH p i b) b:=hx;rw [zE hs hr n2 hbm]at hx';obtain⟨k,hk,rfl⟩ :=List.mem_map.1 hx';obtain⟨y,hy⟩ :∃y,p.nodes[k.toNat]?=some y:= ⟨_,getElem?_eq_getElem (by have:=qN f hbm k hk;omega)⟩;rw [eV hy];exact xU _ (f.snode hy)
 · have:g∈ [(⟨s,0⟩ :LFun)] :=hg;rw [List.mem_singleton.1 this];exact hN.short s hsm
 · obtain⟨y,hy,e⟩ :=hin t ht;rw [←e];exact hN.short _ (hmem y hy)
 · unfold iT;simp only [and_eq_true,decide_eq_true_eq,all_eq_true,eG];refine⟨⟨⟨⟨⟨hN.ok s hsm,by show((cH p i b).map (gW l)).length≤20;rw [length_map];omega⟩,fun t ht=>?_,by rfl⟩,fun t ht=>?_,?_⟩,fun t ht=>?_⟩,?_⟩
   · have:t∈ [s] :=ht;rw [List.mem_singleton.1 this];exact hN.ok s hsm
   · obtain⟨y,hy,e⟩ :=hin t ht;rw [←e];exact hN.ok _ (hmem y hy)
   · rw [iF];show((cH p i b).map (gW l)).Nodup;have hd:=n1.1;rw [List.nodup_iff_pairwise_ne]at hd ⊢;refine List.pairwise_map.2 (hd.imp_of_mem (fun {y z} hy hz hne e=>?_));have a1:=n1.2 y hy;have a2:=n1.2 z hz;exact hne (hN.inj a1.1 a1.2 a2.1 a2.2 e)
   · obtain⟨y,hy,e⟩ :=hin t ht;have a1:=n1.2 y hy
     have hne:t≠s:=fun g=>by
      rw [←e,←esi]at g;have:=hN.inj a1.1 a1.2 (by omega) (by omega) g;rw [this]at hy;exact aJ7 hs hr (i:Int) p.nodes.length b [] (by simp) hy
     show(!aV [s] t) =true;simp [aV,Ne.symm hne]
   · rw [if_neg (by show ¬ (1=0);omega)];exact hfx.fo
end
theorem aGa :∀ (t F:List Int) (k:Nat) (m:Nat),(∀y∈t,y.toNat≠m) → (setF F k t)[m]?=F[m]?
 | [],F,k,m,_=>rfl
 | y::t,F,k,m,h=>by
  rw [setF,aGa t _ (k+1) m (fun z hz=>h z (mem_cons_of_mem _ hz)),List.getElem?_set_ne (h y (mem_cons_self ..))]
theorem aQt :∀ (t F:List Int) (k:Nat),t.Nodup→ (∀y∈t,0≤y∧y<F.length) →∀ (j:Nat) (y:Int),t[j]?=some y→ (setF F k t)[y.toNat]?=some (1+ ((k+j:Nat) :Int))
 | [],F,k,_,_,j,y,h=>by simp at h
 | z::t,F,k,hd,hr,0,y,h=>by
  simp only [List.getElem?_cons_zero,Option.some.injEq]at h;subst h;have hz:=hr z (mem_cons_self ..);rw [nodup_cons]at hd
  rw [setF,aGa t _ (k+1) z.toNat (fun y hy e=>by
   have:=hr y (mem_cons_of_mem _ hy);exact hd.1 ((show y=z by omega) ▸ hy)),List.getElem?_set_self (by omega),Nat.add_zero]
 | z::t,F,k,hd,hr,j+1,y,h=>by
  simp only [List.getElem?_cons_succ]at h;rw [nodup_cons]at hd;rw [setF,aQt t _ (k+1) hd.2 (fun y hy=>by rw [List.length_set];exact hr y (mem_cons_of_mem _ hy)) j y h];congr 2;omega
theorem aDb {Z:List Con}(hz: (Z.map Con.name).Nodup) :∀ (t:List Con),(∀c∈t,c∈Z) →rU Z t=some Z
 | [],_=>rfl
 | c::t,h=>by
  rw [rU,aSu hz (h c (mem_cons_self ..))];exact aDb hz t (fun d hd=>h d (mem_cons_of_mem _ hd))
theorem qO {s:aB}:∀ {l:List aB} {j:Nat} (i:Nat),l.Nodup→l[j]?=some s→cZ s l i= ((i+j:Nat) :Int)
 | [],j,i,_,h=>by simp at h
 | x::l,0,i,_,h=>by
  simp only [List.getElem?_cons_zero,Option.some.injEq]at h;rw [cZ,if_pos h,Nat.add_zero]
 | x::l,j+1,i,hd,h=>by
  simp only [List.getElem?_cons_succ]at h;rw [nodup_cons]at hd;have hne:x≠s:=fun e=>hd.1 (by rw [e];exact mem_of_getElem? h);rw [cZ,if_neg hne,qO (i+1) hd.2 h];congr 1;omega
theorem aGb (p:Prog)(but:Int){y:Int}:∀ (k:Nat) (a:Int) (out:List Int),y∈out→y∈nmN p but k a out
 |0,a,out,h=>h
 | k +1,a,out,h=>by
  rw [nmN];cases hx:p.nodes[a.toNat]? with
  |none=>exact h
  | some x=>
   have key:∀ (cs:List Int) (o:List Int),y∈o→y∈cs.foldl (fun o c=>nmN p but k c o) o:=by
    intro cs
    induction cs with
    |nil=>intro o ho;exact ho
    |cons c cs ih=>intro o ho;exact ih _ (aGb p but k c o ho)
   refine key x.kids _ ?_;unfold uO;split
   ·exact List.mem_append_left _ h
   ·exact h
theorem aQu (p:Prog)(but:Int){z:Int}{x:Node}(hz:p.nodes[z.toNat]?=some x)(h4:x.op=4)(hn:x.n<0)(hb: -1-x.n≠but) :∀ (k:Nat) (a:Int) (out:List Int),z∈pre p k a→ -1-x.n∈nmN p but k a out
 |0,a,out,h=>by cases h
 | k + 1, a,out,h=>by
  rw [pre]at h;rw [nmN];cases hx:p.nodes[a.toNat]? with
  |none=>rw [hx]at h;cases h
  | some y=>
   rw [hx]at h;simp only at h ⊢;rcases List.mem_cons.1 h with e|h
   · subst e;rw [hz]at hx;have hx:=Option.some.inj hx;subst hx;have h0: -1-x.n∈uO but out x:=by
      unfold uO;split
      ·simp
      · rename_i g;have:aF5 out (-1-x.n) =true:=by
         cases e:aF5 out (-1-x.n)with
         |true=>rfl
         |false=>exact absurd ⟨h4,hn,hb,e⟩ g
        exact hasI_mem.1 this
     have key:∀ (cs:List Int) (o:List Int),-1-x.n∈o→ -1-x.n∈cs.foldl (fun o c=>nmN p but k c o) o:=by
      intro cs
      induction cs with
      |nil=>intro o ho;exact ho
      |cons c cs ih=>intro o ho;exact ih _ (aGb p but k c o ho)
     exact key _ _ h0
   · obtain⟨L,hL,hzL⟩ :=List.mem_flatten.1 h;obtain⟨c,hc,rfl⟩ :=List.mem_map.1 hL;have key:∀ (cs:List Int) (o:List Int),(c∈cs∨ -1-x.n∈o) → -1-x.n∈cs.foldl (fun o c=>nmN p but k c o) o:=by
      intro cs
      induction cs with
      |nil=>intro o ho;exact ho.resolve_left (by simp)
      | cons d cs ih=>
       intro o ho;refine ih _ ?_;rcases ho with ho|ho
       · rcases List.mem_cons.1 ho with e|ho
         ·exact .inr (e ▸ aQu p but hz h4 hn hb k c o hzL)
         ·exact .inl ho
       ·exact .inr (aGb p but k d o ho)
     exact key _ _ (.inl hc)
section
variable {p :Prog} {l:List aB} (hs:aJ p=true) (hr:aR p=true) (hN:NamesOk p l)
include hs hr hN
theorem aMR (h10:p.funs.length≤10){i:Nat}{b:Int}{s:aB}(hb:p.funs[i]?=some b)(hsi:l[i]?=some s)(off:Nat)(ht:∀ (j:Nat) (k:Int),(cJ p b)[j]?=some k→fB (toL p 0) k= ((off+j:Nat) :Int)) :
  aMx l [] p.cons off (fD p l i b s) = (cJ p b).map (fun k=>dV (sM p.funs.length) (sM p.cons.length) (toL p 0) (nodeAt p k)) ∧aMy off (fD p l i b s) = [fB (toL p 0) b] ∧ (fD p l i b s).nodes.length= (cJ p b).length:=by
 have f:=Fs.of hs hr;have hbm:=mem_of_getElem? hb;have hi:= (List.getElem?_eq_some_iff.1 hb).1;obtain⟨n1,n2⟩ :=rZ hs hr i b;have hg:=uS hs hr hN h10 hb hsi;have hw:=uL hg;have hnodes: (dN (fD p l i b s)).nodes= (cJ p b).map fun k=>dV (mfA p (cH p i b)) (sM p.cons.length) (toA p b) (nodeAt p k) :=zE hs hr n2 hbm;have hwalk:=aHU f hbm (a:=dN (fD p l i b s)) hnodes rfl;have hlen: (fD p l i b s).nodes.length= (cJ p b).length:=by
  have: (dN (fD p l i b s)).nodes.length= (cJ p b).length:=by rw [hnodes,length_map]
  exact this
 have hto:∀j:Nat,j< (cJ p b).length→fB (toL (dN (fD p l i b s)) off) (j:Int) = ((off+j:Nat) :Int) :=fun j hj=>by
  refine hw.toL off j _ ?_;rw [hwalk,getElem?_map,List.getElem?_range hj];rfl
 have h0:=aDa f hbm;have hpos:= (List.getElem?_eq_some_iff.1 h0).1;have esi:gW l (i:Int) =s:=by unfold gW;rw [toNat_natCast,hsi];rfl
 have hF: (fH p (cH p i b)).length=p.funs.length:=by unfold fH;rw [yE,length_replicate]
 refine⟨?_,?_,hlen⟩
 · unfold aMx;rw [hwalk];refine List.ext_getElem? (fun j=>?_);rw [getElem?_map,getElem?_map,getElem?_map];by_cases hj:j< (cJ p b).length
   · have hk : (cJ p b)[j]?=some (cJ p b)[j] :=getElem?_eq_getElem hj;generalize (cJ p b)[j] =k at hk;rw [List.getElem?_range hj,hk];simp only [map_some];have hkr:=qN f hbm k (mem_of_getElem? hk);obtain⟨x,hx⟩ :∃x,p.nodes[k.toNat]?=some x:= ⟨_,getElem?_eq_getElem (by omega)⟩;rw [eV (p:=dN (fD p l i b s)) (k:= (j:Int)) (x:=dV (mfA p (cH p i b)) (sM p.cons.length) (toA p b) (nodeAt p k)) (by rw [toNat_natCast,hnodes,getElem?_map,hk];rfl),eV hx];congr 1;have m1:= (f.node _ x hx).1
     have hcon:∀n:Int,0≤n→n<p.cons.length→lQ (sM p.cons.length) n=lQ (mcU p.cons (fD p l i b s)) (lQ (sM p.cons.length) n) :=fun n a0 a1=>by
      rw [aL6 a0 a1];have hd:p.cons[n.toNat]?=some (p.cons[n.toNat]'(by omega)) :=getElem?_eq_getElem (by omega);have e:=aEi p.cons p.cons 0 [] n.toNat _ hd;rw [show(0:Int) + ((n.toNat:Nat) :Int) =n by omega,aB0 f.names hd]at e;show n=lQ (aMo p.cons p.cons 0 []) n;rw [e];omega
     have hp:fZ (mcU p.cons (fD p l i b s)) (fZ (sM p.cons.length) x.pats) =fZ (sM p.cons.length) x.pats:=uJ (cons:=p.cons) hcon x.pats (kC fun q hq=> ((yX m1).pats q hq).2);have hkids: (x.kids.map (fB (toA p b))).map (fB (toL (dN (fD p l i b s)) off)) =x.kids.map (fB (toL p 0)) :=by
      rw [map_map];refine map_congr_left (fun c hc=>?_);have ek:cM p k=x.kids:=by unfold cM;rw [hx]
      obtain⟨j2,_,e2⟩ :=uR f hbm j k c hk (by rw [ek];exact hc);have hlt:= (List.getElem?_eq_some_iff.1 e2).1;simp only [Function.comp];rw [uQ f hbm e2,hto j2 hlt,ht j2 c e2]
     have hnn : bN (mfU l [] (fD p l i b s)) (mcU p.cons (fD p l i b s)) x.op (bN (mfA p (cH p i b)) (sM p.cons.length) x.op x.n) =bN (sM p.funs.length) (sM p.cons.length) x.op x.n:=by
      have hh:=m1;simp only [bH,eP,and_eq_true]at hh;have h1:=hh.1.1.1;unfold bN;by_cases e4:x.op=4
      · rw [e4] at h1;simp [bI,cT]at h1;rw [if_pos e4,if_pos e4,if_pos e4];by_cases hneg:0≤x.n
        ·rw [if_pos hneg,if_pos hneg,if_pos hneg]
        · rw [if_neg hneg,if_neg hneg,aL6 (by omega) (by omega)];have hun:aH (fD p l i b s) = [s] :=rfl;have eF:=qM (fH p (cH p i b)) (-1-x.n) (by omega) (by omega);obtain⟨g,eg,g0,gn⟩ :∃g:Nat,lQ (mfA p (cH p i b)) (-1-x.n) = (g:Int) ∧g<1+ (cH p i b).length∧ (aH (fD p l i b s) ++ (fD p l i b s).needs)[g]?=some (gW l (-1-x.n)) :=by
           by_cases hbi: -1-x.n= (i:Int)
           · refine⟨0,?_,by omega,by rw [hun,hbi,esi];rfl⟩
             have hno:∀y∈cH p i b,y.toNat≠i:=fun y hy e=>by
              have:=n1.2 y hy;obtain rfl:y= (i:Int) :=by omega
              exact aJ7 hs hr (i:Int) p.nodes.length b [] (by simp) hy
             have:=aGa (cH p i b) (replicate p.funs.length 0) 0 i hno;rw [hbi,toNat_natCast]at eF;unfold mfA;rw [hbi];unfold fH at eF ⊢;rw [this,List.getElem?_replicate,if_pos hi]at eF;have:=Option.some.inj eF;rw [←this];rfl
           · have hm: -1-x.n∈cH p i b:=aQu p (i:Int) hx e4 (by omega) hbi p.nodes.length b [] (mem_of_getElem? hk);obtain⟨m,hm⟩ :=List.mem_iff_getElem?.1 hm;have hml:= (List.getElem?_eq_some_iff.1 hm).1;refine⟨1+m,?_,by omega,?_⟩
             · have:=aQt (cH p i b) (replicate p.funs.length 0) 0 n1.1 (fun y hy=>by rw [length_replicate];exact n1.2 y hy) m _ hm;unfold mfA;unfold fH at eF ⊢;rw [this]at eF;have:=Option.some.inj eF;rw [←this];omega
             · rw [hun,List.getElem?_append_right (by simp),show 1+m- [s].length=m by simp];show((cH p i b).map (gW l))[m]?=_;rw [getElem?_map,hm];rfl
          rw [eg,if_neg (by omega),show(-1:Int) - (-1- (g:Int)) = (g:Int)by omega];obtain⟨s3,hs3,es3⟩ :=aO1 (T:=l) (ls:=[]) (u:=fD p l i b s) (i:= (g:Int)) (by omega) (by show(g:Int) < ((1:Nat) :Int) + (((cH p i b).map (gW l)).length:Int);rw [length_map];omega);rw [toNat_natCast,gn]at hs3;rw [es3,←Option.some.inj hs3];have hat:=hN.at (y:= -1-x.n) (by omega) (by omega);have hix:=qO 0 hN.nodup hat;unfold vO;rw [hix,if_neg (by omega)];omega
      · rw [if_neg e4,if_neg e4,if_neg e4];by_cases e14:x.op=14
        · rw [e14]at h1;simp [bI,cT]at h1;rw [if_pos e14,if_pos e14];exact(hcon x.n (by omega) (by omega)).symm
        ·rw [if_neg e14,if_neg e14]
     show dV _ _ _ (dV _ _ _ x) =dV _ _ _ x;unfold dV;simp only;rw [hp,hkids,hnn]
   ·rw [getElem?_eq_none (by simp;omega),getElem?_eq_none (by omega)];rfl
 · show [fB (toL (dN (fD p l i b s)) off) 0] =_;rw [show(0:Int) = ((0:Nat) :Int)from rfl,hto 0 hpos,ht 0 b h0]
end
theorem aMS {p:Prog}(f:Fs p) :aEc p p.nodes.length=some (lJ p) :=by
 have hs:=f.fine.small;have hw:=Fw.of f.toFm;have hm:MOk p (sM p.funs.length) (sM p.cons.length) (numsL 0 p.funs.length) (numsL 0 p.cons.length) :=fun i x hx=> (aHu f.fine.fsmall (f.node i x hx).1 (f.node i x hx).2).1
 have e:=aBV (to:=toL p 0) (g:=cN p (numsL 0 p.funs.length) (numsL 0 p.cons.length) p.nodes.length) (h:=wB p (sM p.funs.length) (sM p.cons.length) (toL p 0) p.nodes.length) (q:=pre p p.nodes.length) p.funs 0 (fun k hk len h1 h2=>by
   have:=f.fine.funs k hk;exact yY f.fine hm _ k len this.1 this.2 (by omega) h1 h2) (fun k hk=>by
   have:=f.fine.funs k hk;obtain⟨y,g,_,_,h3⟩ :=xP f.fine (f:=p.nodes.length) (a:=k) this.1 this.2 (by omega);exact⟨aJs _ _ _ _ _,by rw [h3];rfl⟩) (by have:=f.len;omega) (fun i b hb=>by
   have:=hw.toL 0 i b hb;rw [this])
 unfold aEc;rw [e];rfl
section
variable {p :Prog} {l:List aB} (hs:aJ p=true) (hr:aR p=true) (hN:NamesOk p l) (h10:p.funs.length≤10)
include hs hr hN h10
theorem aA6 :∀ (bs:List Int) (ss:List aB) (i off:Nat),p.funs.drop i=bs→l.drop i=ss→ (∀ (j:Nat) (k:Int),((bs.map (pre p p.nodes.length)).flatten)[j]?=some k→fB (toL p 0) k= ((off+j:Nat) :Int)) →
  lK l [] p.cons off (bK p l i bs ss) = ((bs.map (pre p p.nodes.length)).flatten).map (fun k=>dV (sM p.funs.length) (sM p.cons.length) (toL p 0) (nodeAt p k)) ∧rY off (bK p l i bs ss) =bs.map (fB (toL p 0)) ∧aZ (bK p l i bs ss) = ((bs.map (pre p p.nodes.length)).flatten).length
 | [],ss,i,off,_,_,_=>by cases ss<;>exact⟨rfl,rfl,rfl⟩
 | b ::bs,ss,i,off,h,h2,ht=>by
  obtain⟨q1,q2,q3⟩ :=aY h;have hi:= (List.getElem?_eq_some_iff.1 q1).1;obtain⟨s,r,rfl,s1,s2⟩ :=aF7 h2 (by rw [hN.len];exact hi);simp only [map_cons,flatten_cons]at ht ⊢
  have ht1:∀ (j:Nat) (k:Int),(cJ p b)[j]?=some k→fB (toL p 0) k= ((off+j:Nat) :Int) :=fun j k hk=>by
   have hlt:= (List.getElem?_eq_some_iff.1 hk).1;exact ht j k (by rw [List.getElem?_append_left (by exact hlt)];exact hk)
  obtain⟨b1,b2,b3⟩ :=aMR hs hr hN h10 q1 s1 off ht1
  obtain⟨c1,c2,c3⟩ :=aA6 bs r (i+1) (off+ (cJ p b).length) q2 s2 (fun j k hk=>by
   have:=ht ((cJ p b).length+j) k (by
    rw [List.getElem?_append_right (by exact Nat.le_add_right _ _)];show((bs.map (pre p p.nodes.length)).flatten)[(cJ p b).length+j- (cJ p b).length]?=some k;rw [show(cJ p b).length+j- (cJ p b).length=j by omega];exact hk)
   rw [this];congr 1;omega)
  rw [bK,lK,rY,aZ,b1,b2,b3,c1,c2,c3,map_append,length_append];exact⟨rfl,rfl,rfl⟩
omit hs hr h10 in
theorem aHV :∀ (bs:List Int) (ss:List aB) (i:Nat),bs.length=ss.length→bS (bK p l i bs ss) =ss
 | [],[],i,_=>rfl
 | [],_::_,i,h=>by simp at h
 |_::_,[],i,h=>by simp at h
 | b::bs,s::ss,i,h=>by
  rw [bK,rR,aHV bs ss (i+1) (by simpa using h)];rfl
omit hN h10 hr in
theorem aGc (hd: (p.cons.map Con.name).Nodup) :∀ (bs:List Int) (ss:List aB) (i:Nat),mY p.cons (bK p l i bs ss) =some p.cons
 | [],ss,i=>by cases ss<;>rfl
 |b::bs,[],i=>rfl
 | b::bs,s::ss,i=>by
  rw [bK,mY,show(fD p l i b s).cons=p.cons from rfl,aDb hd p.cons (fun c h=>h)];exact aGc hd bs ss (i+1)
theorem kQ :∀ (bs:List Int) (ss:List aB) (i:Nat),p.funs.drop i=bs→l.drop i=ss→∀u∈bK p l i bs ss,∃j b s,p.funs[j]?=some b∧l[j]?=some s∧u=fD p l j b s
 | [],ss,i,_,_,u,hu=>by cases ss<;>cases hu
 | b::bs,ss,i,h,h2,u,hu=>by
  obtain⟨q1,q2,q3⟩ :=aY h;have hi:= (List.getElem?_eq_some_iff.1 q1).1;obtain⟨s,r,rfl,s1,s2⟩ :=aF7 h2 (by rw [hN.len];exact hi);rcases List.mem_cons.1 hu with rfl|hu
  ·exact⟨i,b,s,q1,s1,rfl⟩
  ·exact kQ bs r (i+1) q2 s2 u hu
theorem aSw :xX (bK p l 0 p.funs l) = (lJ p,0) ∧iE (bK p l 0 p.funs l) =true∧gB (bK p l 0 p.funs l) =true:=by
 have f:=Fs.of hs hr;have hh:=f.head;have hlen:=hN.len
 have hgood:∀u∈bK p l 0 p.funs l,GoodU u:=fun u hu=>by
  obtain⟨j,b,s,e1,e2,rfl⟩ :=kQ hs hr hN h10 p.funs l 0 rfl rfl u hu;exact uS hs hr hN h10 e1 e2
 have hll:=aA4 p l p.funs l 0;have hun:gB (bK p l 0 p.funs l) =true:=by
  simp only [gB,and_eq_true,decide_eq_true_eq,all_eq_true];exact⟨by omega,fun u hu=> (hgood u hu).formed⟩
 have hsm:iE (bK p l 0 p.funs l) =true:=by
  simp only [iE,and_eq_true,decide_eq_true_eq,all_eq_true];refine⟨fun u hu=>?_,by omega⟩;have hu:=List.mem_of_mem_take hu;have g:= (hgood u hu).few;obtain⟨j,b,s,e1,e2,e⟩ :=kQ hs hr hN h10 p.funs l 0 rfl rfl u hu;unfold qZ;simp only [and_eq_true,decide_eq_true_eq,all_eq_true];exact⟨⟨⟨⟨⟨g.f,g.n⟩,by rw [e];exact hN.short s (mem_of_getElem? e2)⟩,g.nm⟩,g.nd⟩,g.p⟩
 refine⟨?_,hsm,hun⟩;have hall:bS (bK p l 0 p.funs l) =l:=aHV hN p.funs l 0 hlen.symm;have hw:=Fw.of f.toFm;obtain⟨k1,k2,k3⟩ :=aA6 hs hr hN h10 p.funs l 0 0 rfl rfl (fun j k hk=>hw.toL 0 j k hk);have hcons:xT (bK p l 0 p.funs l) =some p.cons:=by
  have hf1:1≤p.funs.length:=hh.2.1;cases e:p.funs with
  |nil=>rw [e]at hf1;simp at hf1
  | cons b bs=>
   cases e2:l with
   |nil=>rw [e2,e]at hlen;simp at hlen
   | cons s ss=>
    unfold xT;rw [bK,mY,show(fD p (s::ss) 0 b s).cons=p.cons from rfl,aA5 f.names p.cons [] rfl];exact aGc (l:=s::ss) hs f.names bs ss 1
 have hdif:cA (bS (bK p l 0 p.funs l)) =true:=by rw [hall];exact(iF l).2 hN.nodup
 have hlost:fG (bK p l 0 p.funs l) = [] :=by
  rw [lostU_nil,hall];intro u hu t ht;obtain⟨j,b,s,e1,e2,e⟩ :=kQ hs hr hN h10 p.funs l 0 rfl rfl u hu;rw [e]at ht;obtain⟨y,hy,e⟩ :=List.mem_map.1 ht;have:= (rZ hs hr j b).1.2 y hy;rw [←e];exact hasS_mem.2 (mem_of_getElem? (hN.at this.1 this.2))
 have hmn:= (jD hN.named).2.2
 have hmain:¬aDG eH (bK p l 0 p.funs l) 0<0:=fun g=>by
  have:= (oJ eH _ 0).1 g;rw [hall]at this;have:= (kP eH l 0).2 this;have:=hh.2.2.2.1;omega
 have hsz:aZ (bK p l 0 p.funs l) =p.nodes.length:=by rw [k3];exact f.len
 unfold xX;rw [if_pos hun,hcons];simp only;rw [if_pos ⟨hdif,hlost,hmain⟩,if_pos ⟨by omega,hh.2.2.2.2.2.1⟩,bAC (cs:=p.cons) (by omega) hgood (ls:=[]) (by simp) (fun u hu=>by have:=aPi hu;rw [hlost]at this;exact this)];simp only [aB9];rw [hall,k1,k2,hmn];unfold lJ;rw [aFK];rfl
end
abbrev zU :List AV:=[.str 0 0,.nils,.nils,.nils,.nils]
theorem aDc :∀n:Nat,cC (eI zU n) =true
 |0=>rfl
 |n+1=>by rw [eI];exact aDc n
theorem aHW :∀n:Nat,(eI zU n).length=n*5
 |0=>rfl
 |n+1=>by rw [eI,length_append,aHW n];simp;omega
theorem aSx (n:Nat) :getCells (putCells .leaf 0 (eI zU n)) 0 (n*5) =some (eI zU n) :=by
 have:=aHy (eI zU n);rw [aHW]at this;exact this
theorem aDd :∀n:Nat,kS true 5 n (eI zU n) =replicate n (AV.agg zU)
 |0=>rfl
 | n+1=>by
  rw [eI,List.replicate_succ,←aDd n];rfl
theorem bDx (n:Nat) :VW (replicate n (AV.agg zU)) (map LUnit.av (replicate n (LUnit.mk [] [] [] [] []))) :=fun E=>by
 induction n with
 |zero=>intro vs h;exact h
 | succ n ih=>
  intro vs h;rw [List.replicate_succ]at h;obtain⟨v,vs',rfl,h1,h2⟩ :=h.cons_inv;rw [List.replicate_succ,map_cons];refine VRs.cons ?_ (ih vs' h2);simp only [VR]at h1;obtain⟨ws,rfl,h5⟩ :=h1;obtain⟨a1,w1,rfl,c1,h5⟩ :=h5.cons_inv;obtain⟨a2,w2,rfl,c2,h5⟩ :=h5.cons_inv;obtain⟨a3,w3,rfl,c3,h5⟩ :=h5.cons_inv;obtain⟨a4,w4,rfl,c4,h5⟩ :=h5.cons_inv;obtain⟨a5,w5,rfl,c5,h5⟩ :=h5.cons_inv;simp only [LUnit.av,VR];exact⟨_,rfl,VRs.cons c1 (VRs.cons (lH _ c2) (VRs.cons (lH _ c3) (VRs.cons (lH _ c4) (VRs.cons (lH _ c5) h5))))⟩
theorem bA6 {n:Nat}(h:0<n) :replicate n (AV.agg zU) ≠ [] :=by
 cases n with
 |zero=>omega
 |succ n=>simp
def bCE(a:Int):TS:=cI PP 135 [(nI a)] [] 0
def bCF(a:List aB):TS:=cI PP 49 [(.gl 0 1 0 a.length false)] [oL 0 1 (map aA a)] 1
def aDe(a:List aB)(b:Int):TS:=⟨(tf 49 18 [(0,(.gl 0 1 0 a.length false)),(2,(.str 0 0)),(3,(nI b))] [kc f49 56,kl f49 56,.inBlock 0,kc f49 15]),[],[oL 0 1 (map aA a)],1⟩
def aJ8(a:List aB)(b:aB)(c d:Int):TS:=⟨(tf 111 18 [(0,(.gl 0 1 0 a.length false)),(1,(aA b)),(4,(bV false)),(5,(nI d))] [kc f111 52,kl f111 52,.inBlock 0,kc f111 7]),[(tf 49 18 [(0,(.gl 0 1 0 a.length false)),(2,(.str 0 0)),(3,(nI c)),(8,(bV false)),(9,(.gl 0 1 0 a.length false)),(11,(aA b))] [ko f49 224 8,kc f49 225,kc f49 113,kl f49 56,.inBlock 0,kc f49 15])],[oL 0 1 (map aA a)],1⟩
def aWD(a b:List LUnit):TS:=cI PP 55 [(.slice 0 0 2 2 1 true)] [oC 0 [(.ilst 5 (map LUnit.av a) false),(.ilst 5 (map LUnit.av b) false)]] 1
def bDy(a:Int):=tT 0 (bCE a)<|gd 10 4 (a<26) (gw 5 6 (97+a)<|.i [rn 1,.set 7 (.int .u8 (97+a))] [.a ((IntKind.u8.wrap (97+a)) = (97+a)) (congrArg (AV.int .u8))]<|.i [rn 1,.ans (.ev (aA (aDT (97+a))))] [hA (jP [(.int .u8 (97+a))] =some (aA (aDT (97+a))))]<|gE 3 1 (aA (aDT (97+a))))<|.y fun b:aB=>.i [rn 3,.reg (.d::.ans (.ev (nI (tdiv a 26)))::.d::.pure (aA b)::.d::.ans (.ev (nI (tmod a 26)))::rd 3 [.own (aA (aDT (IntKind.u8.wrap (IntKind.i64.wrap (97+ (tmod a 26)))))),.ans (.ev (aA (b++ (aDT (IntKind.u8.wrap (IntKind.i64.wrap (97+ (tmod a 26)))))))),.d])] [hA (aM5 PP .quo 3 (nI a) (nI 26) false true=some (nI (tdiv a 26))),hA (Pure PP 135 [(nI (IntKind.i64.wrap ((tdiv a 26) -1)))] (aA b)),hA (aM5 PP .rem 3 (nI a) (nI 26) false true=some (nI (tmod a 26))),hA (jP [(.int .u8 (IntKind.u8.wrap (IntKind.i64.wrap (97+ (tmod a 26)))))] =some (aA (aDT (IntKind.u8.wrap (IntKind.i64.wrap (97+ (tmod a 26))))))),hA (aM5 PP .add 9 (aA b) (aA (aDT (IntKind.u8.wrap (IntKind.i64.wrap (97+ (tmod a 26)))))) false false=some (aA (b++ (aDT (IntKind.u8.wrap (IntKind.i64.wrap (97+ (tmod a 26)))))))),hr (AV.int .u8 (IntKind.u8.wrap (IntKind.i64.wrap (97+ (tmod a 26))))),hr (AV.int .u8 (IntKind.u8.wrap (IntKind.i64.wrap (97+ (tmod a 26)))))]<|gE 1 1 (aA (b++ (aDT (IntKind.u8.wrap (IntKind.i64.wrap (97+ (tmod a 26)))))))
def bA7:=fun a b c d e=>bDy a|>.t b c d e tv
def bA8 (a:List aB):=(tT 1 (bCF a)<|.W 11 1 [] (aDe a 0)) ⟨kk,trivial⟩
def bDz(b:List aB)(a:Int):=tT 1 (aDe b a)<|gpS 4 135 [(nI a)]<|fun c=>gG 0 86 [(aA c)]<|fun d=>.b 2 8 (!d) (gw 12 15 (a+1)<|.W 4 1 [] (aDe b (a+1)))<|gpS 2 135 [(nI a)]<|fun e=>.W 12 1 [] (aJ8 b e a 0)
def aQv:=fun a b c d e f g i j=>bDz a b c f d g|>.f i e j ⟨kk,trivial⟩
def aPs(a:List aB)(e:aB)(c b:Int):=tT 1 (aJ8 a e c b)<|gd 8 9 (b< (a.length:Int)) (.i [rn 8,.ans (.ix)] [hA (0≤b),hA (b< (a.length:Int))]<|.y fun d:aB=>gj aA 0 a b.toNat d<|.b 3 17 (bL d.length (aC d) e.length (aC e)) (gw 15 15 (c+1)<|.W 4 1 [] (aDe a (c+1)))<|gw 6 11 (b+1)<|.W 3 1 [] (aJ8 a e c (b+1)))<|gpS 15 135 [(nI c)]<|fun d=>.E 3 1 [] (aA d) [oL 0 1 (map aA a)] 1
def bA9:=fun a b c d e f g i j k l=>aPs a b c d|>.t f g i e j|>.t k l ⟨kk,trivial⟩
def bBa:=fun a b c d e f g i j k l=>aPs a b c d|>.t f g i e j|>.f k l ⟨kk,trivial⟩
def bBb:=fun a b c d e f g=>aPs a b c d|>.f f e g ⟨kk,trivial⟩
def aWE(a b:List LUnit):=tT 1 (aWD a b)<|gl 36 LUnit.av a<|gw 1 18 (0+ (a.length:Int))<|gd 7 20 ((0+ (a.length:Int)) <0) (.P 4 1 [] [((.iface 9 (.str 16 134789072936214216453580009062074836332)),false)] [oC 0 [(.ilst 5 (map LUnit.av a) false),(.ilst 5 (map LUnit.av b) false)]] 1)<|gl 27 LUnit.av b<|gw 1 18 ((0+ (a.length:Int)) + (b.length:Int))<|gd 7 20 (((0+ (a.length:Int)) + (b.length:Int)) <0) (.P 4 1 [] [((.iface 9 (.str 16 134789072936214216453580009062074836332)),false)] [oC 0 [(.ilst 5 (map LUnit.av a) false),(.ilst 5 (map LUnit.av b) false)]] 1)<|gd 29 6 (((0+ (a.length:Int)) + (b.length:Int)) <0) .x<|gw 12 14 (((0+ (a.length:Int)) + (b.length:Int)) -0)<|gd 7 16 ((((0+ (a.length:Int)) + (b.length:Int)) -0) >0) (.i [rn 7,.appN (eI zU (((0+ (a.length:Int)) + (b.length:Int)) -0).toNat) (((0+ (a.length:Int)) + (b.length:Int)) -0).toNat] [hA ((((0+ (a.length:Int)) + (b.length:Int)) -0) = (((((0+ (a.length:Int)) + (b.length:Int)) -0).toNat:Nat) :Int)),hA (0< (((0+ (a.length:Int)) + (b.length:Int)) -0).toNat),hA ((((0+ (a.length:Int)) + (b.length:Int)) -0).toNat<100000),hr (eI zU (((0+ (a.length:Int)) + (b.length:Int)) -0).toNat),.q (p:=cC (eI zU (((0+ (a.length:Int)) + (b.length:Int)) -0).toNat) =true) (aDc _)]<|.i [.toL 22 true (eI zU (((0+ (a.length:Int)) + (b.length:Int)) -0).toNat)] [.q (p:=getCells (putCells .leaf 0 (eI zU (((0+ (a.length:Int)) + (b.length:Int)) -0).toNat)) 0 ((((0+ (a.length:Int)) + (b.length:Int)) -0).toNat*5) =some (eI zU (((0+ (a.length:Int)) + (b.length:Int)) -0).toNat)) (aSx _),.q (p:=cC (eI zU (((0+ (a.length:Int)) + (b.length:Int)) -0).toNat) =true) (aDc _)]<|.i [.lw 1 (map LUnit.av (replicate (((0+ (a.length:Int)) + (b.length:Int)) -0).toNat (LUnit.mk [] [] [] [] [])))] [.a (0< (((0+ (a.length:Int)) + (b.length:Int)) -0).toNat) (p':=(kS true 5 (((0+ (a.length:Int)) + (b.length:Int)) -0).toNat (eI zU (((0+ (a.length:Int)) + (b.length:Int)) -0).toNat)) ≠ []) (fun h=>(by rw [aDd];exact bA6 h)),.q (p:=VW (kS true 5 (((0+ (a.length:Int)) + (b.length:Int)) -0).toNat (eI zU (((0+ (a.length:Int)) + (b.length:Int)) -0).toNat)) (map LUnit.av (replicate (((0+ (a.length:Int)) + (b.length:Int)) -0).toNat (LUnit.mk [] [] [] [] [])))) (by rw [aDd];exact bDx _)]<|.i [rn 2,.ans (.ev (.gl 1 5 0 0 false))] [.a (0≤ (((0+ (a.length:Int)) + (b.length:Int)) -0).toNat) (p':=aCI PP 22 (.gl 1 5 0 ((((0+ (a.length:Int)) + (b.length:Int)) -0).toNat) false) none (some (nI 0)) (.gl 1 5 0 0 false)) (fun h=>(aKH (k:=0) (by kernel_rfl) (by decide) h))]<|.i [rn 38,.app (map LUnit.av a) a.length] [.q (p:=0+0≤length (map LUnit.av (replicate (((0+ (a.length:Int)) + (b.length:Int)) -0).toNat (LUnit.mk [] [] [] [] [])))) (Nat.zero_le _),hA (a.length≤1000000),.q (p:=List.take 0 (List.drop 0 (map LUnit.av (replicate (((0+ (a.length:Int)) + (b.length:Int)) -0).toNat (LUnit.mk [] [] [] [] [])))) ++ (map LUnit.av a) = (map LUnit.av a)) (by rw [List.take_zero,List.nil_append]),.q (p:=0+length (map LUnit.av a) =a.length) (by rw [Nat.zero_add,length_map])]<|ga 26 LUnit.av a b<|gz 21 2 3 5 LUnit.av (a++b) false<|.E 0 4 [] (.ilst 5 (map LUnit.av (a++b)) false) [oC 0 [(.ilst 5 (map LUnit.av a) false),(.ilst 5 (map LUnit.av b) false)]] 1)<|.i [rn 38,.nilL 31 5] []<|gu 0 1 (map LUnit.av ([] :List LUnit))<|gs 0 31 (.gl 1 5 0 ([] :List LUnit).length false)<|ga 0 LUnit.av ([] :List LUnit) a<|ga 26 LUnit.av (([] :List LUnit) ++a) b<|gz 21 2 3 5 LUnit.av ((([] :List LUnit) ++a) ++b) false<|.E 0 4 [] (.ilst 5 (map LUnit.av ((([] :List LUnit) ++a) ++b)) false) [oC 0 [(.ilst 5 (map LUnit.av a) false),(.ilst 5 (map LUnit.av b) false)]] 1
def bBc:=fun c d e f g a i j k b l m n o=>aWE c d e|>.f f g|>.f a|>.f a i|>.t j k b l b m n o tv
def bBd:=fun b c d e f a g i j k=>aWE b c d|>.f e f|>.f a|>.f a g|>.f i j k tv
def bCG(a:List LUnit):TS:=cI PP 15 [(.ilst 5 (map LUnit.av a) false)] [] 0
def bCH(a:List aB)(b:aB):TS:=cI PP 58 [(iS a),(aA b)] [] 0
def aJ9(a:List aB)(b:aB)(c:Int):TS:=⟨(tf 151 19 [(0,(iS a)),(1,(aA b)),(4,(nI 0)),(7,(nI (a.length:Int))),(8,(nI c))] [kc f151 52,kl f151 52,.inBlock 0,kc f151 7]),[(tf 58 9 [(4,(bV false)),(5,(iS a)),(6,(aA b))] [ko f58 6 2,kc f58 7])],[],0⟩
def bDA(a:List LUnit)(b c:List (aB×Int))(d:List aB)(f:Bool)(g:Int)(e:List aB):TS:=⟨(tf 64 50 [kp 0 0,(2,.nils),(3,(.gl 4 1 0 e.length false)),(13,(.ilst 5 (map LUnit.av a) false)),(14,(nI (a.length:Int))),(15,(nI g))] [kc f64 116,kl f64 116,.inBlock 0,kc f64 15]),[],[oC 0 [(.ilst 5 (map LUnit.av a) false),(.map 1),(.map 2),(.gl 3 1 0 d.length false),(bV f)],(1,(.map (aF aA aP 0 b) b.length),true),(2,(.map (aF aA aP 0 c) c.length),true),oL 3 1 (map aA d),oL 4 1 (map aA e)],5⟩
def bDB(a:List LUnit)(b c:List (aB×Int))(d:List aB)(f:Bool)(g:List aB)(i j:Int)(e:List aB)(k:Int):TS:=⟨(tf 64 50 [kp 0 0,(2,.nils),(3,(.gl 4 1 0 e.length false)),(13,(.ilst 5 (map LUnit.av a) false)),(14,(nI (a.length:Int))),(15,(nI k)),(20,(iS g)),(21,(nI i)),(22,(nI j))] [kc f64 29900,kl f64 29900,.inBlock 2,.inBlock 1,kc f64 935,kl f64 116,.inBlock 0,kc f64 15]),[],[oC 0 [(.ilst 5 (map LUnit.av a) false),(.map 1),(.map 2),(.gl 3 1 0 d.length false),(bV f)],(1,(.map (aF aA aP 0 b) b.length),true),(2,(.map (aF aA aP 0 c) c.length),true),oL 3 1 (map aA d),oL 4 1 (map aA e)],5⟩
def bBe (e:List LUnit):=fun a b c f d g i j=>(tT 0 (bCG e)<|.y fun a:List (aB×Int)=>.y fun b:List (aB×Int)=>.y fun c:List aB=>.y fun f:Bool=>gk 13 (.enter 63 [(.ilst 5 (map LUnit.av e) false)]) [oC 0 [.nils],oC 1 [(nI 0)]] 2 (.ptr 2 0) [oC 0 [.nils],oC 1 [(nI 0)],oC 2 [(.ilst 5 (map LUnit.av e) false),(.map 3),(.map 4),(.gl 5 1 0 c.length false),(bV f)],(3,(.map (aF aA aP 0 a) a.length),true),(4,(.map (aF aA aP 0 b) b.length),true),oL 5 1 (map aA c)] 6<|.y fun d:List aB=>gk 0 (.enter 64 [(.ptr 2 0)]) [oC 0 [.nils],oC 1 [(nI 0)],oC 2 [(.ilst 5 (map LUnit.av e) false),(.map 3),(.map 4),(.gl 5 1 0 c.length false),(bV f)],(3,(.map (aF aA aP 0 a) a.length),true),(4,(.map (aF aA aP 0 b) b.length),true),oL 5 1 (map aA c)] 6 (.gl 6 1 0 d.length false) [oC 0 [.nils],oC 1 [(nI 0)],oC 2 [(.ilst 5 (map LUnit.av e) false),(.map 3),(.map 4),(.gl 5 1 0 c.length false),(bV f)],(3,(.map (aF aA aP 0 a) a.length),true),(4,(.map (aF aA aP 0 b) b.length),true),oL 5 1 (map aA c),oL 6 1 (map aA d)] 7<|gk 5 (.enter 65 [(.gl 6 1 0 d.length false)]) [oC 0 [(.gl 6 1 0 d.length false)],oC 1 [(nI 0)],oC 2 [(.ilst 5 (map LUnit.av e) false),(.map 3),(.map 4),(.gl 5 1 0 c.length false),(bV f)],(3,(.map (aF aA aP 0 a) a.length),true),(4,(.map (aF aA aP 0 b) b.length),true),oL 5 1 (map aA c),oL 6 1 (map aA d)] 7 (.tup []) [oC 0 [(.gl 6 1 0 d.length false)],oC 1 [(nI 0)],oC 2 [(.ilst 5 (map LUnit.av e) false),(.map 3),(.map 4),(.gl 5 1 0 c.length false),(bV f)],(3,(.map (aF aA aP 0 a) a.length),true),(4,(.map (aF aA aP 0 b) b.length),true),oL 5 1 (map aA c),oL 6 1 (map aA d)] 7<|gy 2 0 0 6 1 aA d false<|gE 23 7 (.tup [(iS d),(nI 0)])) a b c f g d i j tv
def bBf (a:List aB)(b:aB):=(tT 0 (bCH a b)<|gl 17 aA a<|.W 4 0 [] (aJ9 a b 0)) tv
def aPt(b:List aB)(c:aB)(a:Int):=tT 0 (aJ9 b c a)<|gd 5 9 (a< (b.length:Int)) (gX aA 14 b a<|fun d=>.b 3 16 (bL c.length (aC c) d.length (aC d)) (gE 12 0 (bV (decide (a≥0))))<|gw 5 18 (a+1)<|.W 3 0 [] (aJ9 b c (a+1)))<|gE 12 0 (bV false)
def bBg:=fun a b c d e f g i=>aPt a b c|>.t e d f g|>.t i tv
def bBh:=fun a b c d e f g i j=>aPt a b c|>.t e d f g|>.f i j tv
def bBi:=fun a b c d=>aPt a b c|>.f d tv
def bDC(a:List LUnit)(b c:List (aB×Int))(d:List aB)(g:Bool)(e:Int)(f:List aB):=tT 4 (bDA a b c d g e f)<|gd 5 16 (e< (a.length:Int)) (gX LUnit.av 6 a e<|fun i=>gl 8 aA i.needs<|.W 4 6 [4] (bDB a b c d g i.needs (i.needs.length:Int) 0 f e))<|.E 8 5 [4] (.gl 4 1 0 f.length false) [oC 0 [(.ilst 5 (map LUnit.av a) false),(.map 1),(.map 2),(.gl 3 1 0 d.length false),(bV g)],(1,(.map (aF aA aP 0 b) b.length),true),(2,(.map (aF aA aP 0 c) c.length),true),oL 3 1 (map aA d),oL 4 1 (map aA f)] 5
def bBj:=fun a b c d e f g i=>bDC a b c d e f g|>.f i ⟨aO (fun _=>rfl) (fun _=>rfl) _ _ _,⟨aO (fun _=>rfl) (fun _=>rfl) _ _ _,⟨kk,⟨kk,trivial⟩⟩⟩⟩
def bR (n:Nat) :aB:=aDT (97+ (n:Int))
theorem yF (n:Nat)(h:n<26) :Pure PP 135 [.int .i64 (n:Int)] (aA (bR n)) :=
 dT (s:=bCE (n:Int)) (by kernel_rfl) (by kernel_rfl) rfl rfl (bA7 (n:Int) (by simp;omega) (by apply wrap64<;>omega) (by rw [IntKind.wrap_u8];omega) (aSf (by omega) (by omega)))
theorem yG (n:Nat)(h:n<26) :lF (bR n) =true:=by
 have key:∀k:Fin 26,lF (bR k.val) =true:=by decide +kernel
 exact key ⟨n,h⟩
theorem aPu {m n:Nat}(hm:m<26)(hn:n<26)(e:bR m=bR n) :m=n:=by
 have key:∀i j:Fin 26,bR i.val=bR j.val→i=j:=by decide +kernel
 have:=key ⟨m,hm⟩ ⟨n,hn⟩ e;exact congrArg Fin.val this
theorem aDM {n:Nat}(hn:n<26) :bR n≠eH:=by
 have key:∀i:Fin 26,bR i.val≠eH:=by decide +kernel
 exact key ⟨n,hn⟩
theorem aMT (l:List aB)(s:aB)(hl:l.length<1000000) :∀ (t:List aB) (i:Nat),l.drop i=t→Ends PP 0 (aJ9 l s (i:Int)).as (.ret (.bool (aV t s))) (aD [] 0)
 | [],i,h=>by
  have:=bA h;exact bBi l s i sd
 | c ::t,i,h=>by
  obtain⟨q1,q2,q3⟩ :=aY h;rw [mC];by_cases e:c=s
  · rw [decide_eq_true e,Bool.true_or];have:=bBg l s i c sd sd sd (by rw [dG];simp [e]);rw [show(decide ((i:Int) ≥0)) =true by simp]at this;exact this
  · rw [decide_eq_false e,Bool.false_or];exact(bBh l s i c sd sd sd (by rw [dG];simp [Ne.symm e]) sd).ends (aMT l s hl t (i+1) q2)
theorem aWF (l:List aB)(s:aB)(hl:l.length<1000000) :Pure PP 58 [.ilst 1 (map aA l) false,aA s] (.bool (aV l s)) :=
 dT (s:=bCH l s) (by kernel_rfl) (by kernel_rfl) (by simp [AV.keylessL,AV.keyless,aA]) (by simp [AV.keyless]) ((bBf l s).ends (aMT l s hl l 0 rfl))
abbrev aWG (l:List aB)(c:Nat)(s:TS) :Prop:=Ends PP 1 s.as (.ret (aA (bR c))) (aD [(0,iG l,true)] 1)
theorem aGd (l:List aB)(hl:l.length<1000000)(n c:Nat)(hn:n<26)(hf:aV l (bR n) =true→aWG l c (aDe l ((n:Int) +1)))(ho:aV l (bR n) =false→n=c) :∀ (t:List aB) (i:Nat),l.drop i=t→ (aV l (bR n) =aV t (bR n)) →aWG l c (aJ8 l (bR n) (n:Int) (i:Int))
 | [],i,h,e=>by
  have:=bA h;have e2:=ho (by rw [e];rfl);subst e2;exact bBb l (bR n) n i (bR n) sd (yF n hn)
 | s::t,i,h,e=>by
  obtain⟨q1,q2,q3⟩ :=aY h;by_cases g:s=bR n
  ·exact(bA9 l (bR n) n i s sd sd sd sd (by rw [dG];simp [g]) sd).ends (hf (by rw [e,mC,decide_eq_true g];rfl))
  ·exact(bBa l (bR n) n i s sd sd sd sd (by rw [dG];simp [g]) sd).ends (aGd l hl n c hn hf ho t (i+1) q2 (by rw [e,mC,decide_eq_false g,Bool.false_or]))
theorem aMU (l:List aB)(hl:l.length<1000000)(c:Nat)(hc:c<26)(hin:∀n,n<c→aV l (bR n) =true)(hout:aV l (bR c) =false) :∀ (j n:Nat),n+j=c→aWG l c (aDe l (n:Int))
 | 0,n,h=>by
  obtain rfl:n=c:=by omega
  exact(aQv l n (bR n) true (bR n) (yF n hc) (by have:=aBS (bR n);rw [yG n hc]at this;exact this) rfl (yF n hc)).ends (aGd l hl n n hc (fun g=>by rw [hout]at g;cases g) (fun _=>rfl) l 0 rfl rfl)
 | j+1,n,h=>by
  have hn:n<26:=by omega
  have ih:=aMU l hl c hc hin hout j (n+1) (by omega);exact(aQv l n (bR n) true (bR n) (yF n hn) (by have:=aBS (bR n);rw [yG n hn]at this;exact this) rfl (yF n hn)).ends (aGd l hl n c hn (fun _=>by rw [show((n:Int) +1) = ((n+1:Nat) :Int)by omega];exact ih) (fun g=>by rw [hin n (by omega)]at g;cases g) l 0 rfl rfl)
theorem aWH (l:List aB)(hl:l.length<1000000)(c:Nat)(hc:c<26)(hin:∀n,n<c→aV l (bR n) =true)(hout:aV l (bR c) =false) :
  vL PP 1 (.enter 49 [.gl 0 1 0 (length l) false]) (aD [(0,iG l,true)] 1) (.ret (aA (bR c))) (aD [(0,iG l,true)] 1) :=
 ⟨(bCF l).as.fr,by kernel_rfl,Eq.mp (by kernel_rfl) ((bA8 l).ends (aMU l hl c hc hin hout c 0 (by omega)))⟩
abbrev aPv (a b:List LUnit) :AObj:=.cells (putCells .leaf 0 [.ilst 5 (map LUnit.av a) false,.ilst 5 (map LUnit.av b) false]) 2 [] false
theorem aWI (a b:List LUnit)(ha:a.length≤1000)(hb:b.length≤1000) :vL PP 1 (.enter 55 [.slice 0 0 2 2 1 true]) (aD [(0,aPv a b,false)] 1) (.ret (.ilst 5 (map LUnit.av (a++b)) false)) (aD [(0,aPv a b,false)] 1) :=by
 suffices hh:Ends PP 1 (aWD a b).as (.ret (.ilst 5 (map LUnit.av (a++b)) false)) (aD [(0,aPv a b,false)] 1)from⟨(aWD a b).as.fr,by kernel_rfl,Eq.mp (by kernel_rfl) hh⟩
 have w1:IntKind.i64.wrap ((0:Int) + ((length a:Nat) :Int)) = (0:Int) + ((length a:Nat) :Int) :=by apply wrap64<;>omega
 have w2:IntKind.i64.wrap (((0:Int) + ((length a:Nat) :Int)) + ((length b:Nat) :Int)) = ((0:Int) + ((length a:Nat) :Int)) + ((length b:Nat) :Int) :=by apply wrap64<;>omega
 have w3:IntKind.i64.wrap ((((0:Int) + ((length a:Nat) :Int)) + ((length b:Nat) :Int)) - (0:Int)) = (((0:Int) + ((length a:Nat) :Int)) + ((length b:Nat) :Int)) - (0:Int) :=by apply wrap64<;>omega
 by_cases h:a.length+b.length=0
 · have h1:=bBd a b w1 (decide_eq_false (by omega)) w2 (decide_eq_false (by omega)) w3 (decide_eq_false (by omega)) (by simp;omega) (by simp;omega);rw [List.nil_append]at h1;exact h1
 ·exact bBc a b w1 (decide_eq_false (by omega)) w2 (decide_eq_false (by omega)) w3 (decide_eq_true (by omega)) (by omega) (by omega) (by omega) (by omega) (by omega) (by simp;omega)
section
variable (l :List LUnit) (mf mh:List (aB×Int)) (od:List aB) (tw:Bool)
theorem bCI (ht:TabI od tw mf mh)(hl:l.length≤11)(hu:∀u∈l,FewU u) :∀ (t:List LUnit) (i:Nat) (acc:List aB),l.drop i=t→acc.length≤25*i →
  Ends PP 4 (aC4 l mf mh od tw (i:Int) acc).as (.ret (.gl 4 1 0 (length (lI od acc t)) false)) (aD (THp l mf mh od tw++ [(4,iG (lI od acc t),true)]) 5)
 | [],i,acc,h,ha=>by
  have:=bA h;exact Eq.mp (by kernel_rfl) (bBj l mf mh od tw i acc sd)
 | u::t,i,acc,h,ha=>by
  obtain⟨q1,q2,q3⟩ :=aY h;have hn:= (hu u (mem_of_getElem? q1)).n;have hlen:=aCR od u.needs acc;exact(aQj l mf mh od tw i acc u sd sd sd).ends ((aQk l mf mh od tw ht u.needs hn i (by omega) u.needs 0 acc rfl (by omega)).ends (bCI ht hl hu t (i+1) _ q2 (by omega)))
theorem aWJ (ht:TabI od tw mf mh)(hl:l.length≤11)(hu:∀u∈l,FewU u) :vL PP 4 (.enter 64 [.ptr 0 0]) (aD (THp l mf mh od tw) 4) (.ret (.gl 4 1 0 (length (lI od [] l)) false)) (aD (THp l mf mh od tw++ [(4,iG (lI od [] l),true)]) 5) :=by
 suffices hh:Ends PP 4 (aMI l mf mh od tw).as (.ret (.gl 4 1 0 (length (lI od [] l)) false)) (aD (THp l mf mh od tw++ [(4,iG (lI od [] l),true)]) 5)from⟨(aMI l mf mh od tw).as.fr,by kernel_rfl,Eq.mp (by kernel_rfl) hh⟩
 exact(aQi l mf mh od tw).ends (bCI l mf mh od tw ht hl hu l 0 [] rfl (by simp))
end
section
variable {l :List LUnit} {c1:List Con} {nm:aB}
end
section
variable {l1 l2:List LUnit} {c1 c2:List Con} {n1 n2:aB}
end
end
end Go.Hb

set_option linter.defProp false
set_option linter.unusedVariables false
set_option linter.unusedSimpArgs false
set_option linter.unusedSectionVars false
set_option maxRecDepth 100000
set_option maxHeartbeats 4000000
namespace Go.Hb
open List (drop length map map_append map_cons map_drop map_take mem_append mem_cons_of_mem mem_cons_self take)
open Go.Proofs
noncomputable section
theorem aMV {u:LUnit}(h:GoodU u) :aMH u:=fun x hx=>by
 obtain⟨i,hi⟩ :=List.mem_iff_getElem?.1 hx;have hn:= (zC h hi).1;have hw: (rX u).funs.length=u.funs.length+u.needs.length:=by simp [rX]
 have h1:=h.few.f;have h2:=h.few.n;have h3:=h.small.2;simp only [bH,eP,Bool.and_eq_true]at hn;have hh:=hn.1.1.1;unfold bI at hh;split at hh
 ·simp [cT]at hh;omega
 · split at hh
   ·simp [cT]at hh;omega
   · split at hh
     ·rw [hw]at hh;simp [cT]at hh;omega
     · split at hh
       ·simp [cT]at hh;omega
       · split at hh
         · simp [cT]at hh;have h4:x.n≤ ((u.cons.length:Nat) :Int) -1:=hh.2;omega
         ·have:=of_decide_eq_true hh;omega
def nmB (m j:Nat) :aB:=if j=m then eH else bR (if m<j then j-1 else j)
def eD (m n:Nat) :List aB:= (List.range n).map (nmB m)
theorem aHX (m n:Nat) :eD m n++ [nmB m n] =eD m (n+1) :=by unfold eD;rw [List.range_succ,map_append];rfl
theorem yH (m n:Nat) : (eD m n).length=n:=by simp [eD]
theorem aWL {m n j:Nat}(h:j<n) : (eD m n)[j]?=some (nmB m j) :=by
 unfold eD;rw [List.getElem?_map,List.getElem?_range h];rfl
theorem yI (m:Nat) :nmB m m=eH:=by unfold nmB;rw [if_pos rfl]
theorem iH {m j:Nat}(h:j≠m) :nmB m j=bR (if m<j then j-1 else j) :=by unfold nmB;rw [if_neg h]
theorem aWM {m j:Nat}(h:j≤20) :lF (nmB m j) =true:=by
 by_cases e:j=m
 ·rw [e,yI];decide +kernel
 ·rw [iH e];exact yG _ (by split<;>omega)
theorem aQw {m i j:Nat}(hi:i≤20)(hj:j≤20)(e:nmB m i=nmB m j) :i=j:=by
 by_cases ei:i=m
 · by_cases ej:j=m
   ·omega
   · rw [ei,yI,iH ej]at e;exact absurd e.symm (aDM (by split<;>omega))
 · by_cases ej:j=m
   · rw [ej,yI,iH ei]at e;exact absurd e (aDM (by split<;>omega))
   · rw [iH ei,iH ej]at e;have:=aPu (by split<;>omega) (by split<;>omega) e;split at this<;>split at this<;>omega
theorem aGe {m n:Nat}(h:n≤20) : (eD m n).Nodup:=by
 unfold eD;rw [List.nodup_iff_pairwise_ne];refine List.pairwise_map.2 (List.pairwise_lt_range.imp_of_mem (fun {i j} hi hj hlt e=>?_));have:=aQw (by have:=List.mem_range.1 hi;omega) (by have:=List.mem_range.1 hj;omega) e;omega
theorem nmsB_mem {m n:Nat}{s:aB}:s∈eD m n↔∃j,j<n∧nmB m j=s:=by
 unfold eD;rw [List.mem_map];exact⟨fun⟨j,a,b⟩ => ⟨j,List.mem_range.1 a,b⟩,fun⟨j,a,b⟩ => ⟨j,List.mem_range.2 a,b⟩⟩
theorem bBk {m j n:Nat}(hj:j≤20)(hjm:j≠m)(hn:n< (if m<j then j-1 else j)) :aV (eD m j) (bR n) =true:=by
 rw [hasS_mem,nmsB_mem];by_cases h:n<m
 · refine⟨n,by split at hn<;>omega,?_⟩;rw [iH (by omega),if_neg (by omega)]
 · refine⟨n+1,by split at hn<;>omega,?_⟩;rw [iH (by omega),if_pos (by omega),Nat.add_sub_cancel]
theorem aWN {m j:Nat}(hj:j≤20)(hjm:j≠m) :aV (eD m j) (bR (if m<j then j-1 else j)) =false:=by
 cases e:aV (eD m j) (bR (if m<j then j-1 else j))with
 |false=>rfl
 | true=>
  rw [hasS_mem,nmsB_mem]at e;obtain⟨k,hk,e⟩ :=e;rw [←iH hjm]at e;have:=aQw (by omega) hj e;omega
theorem bBl {p:Prog}{m:Nat}(hm:p.main= (m:Int))(h1:m<p.funs.length)(h10:p.funs.length≤10) :NamesOk p (eD m p.funs.length) :=by
 have hn:∀s∈eD m p.funs.length,lF s=true:=fun s hs=>by
  obtain⟨j,hj,rfl⟩ :=nmsB_mem.1 hs;exact aWM (by omega)
 refine⟨?_,fun s hs=>?_⟩
 · unfold aA3 eG;simp only [Bool.and_eq_true,decide_eq_true_eq,List.all_eq_true];refine⟨⟨yH _ _,hn,(iF _).2 (aGe (by omega))⟩,?_⟩;rw [hm,qO 0 (aGe (by omega)) (j:=m) (by rw [aWL h1,yI])];simp
 · have:=hn s hs;unfold lF at this;simp only [Bool.and_eq_true,decide_eq_true_eq]at this;omega
section
variable {p :Prog} {l:List aB} (hs:aJ p=true) (hr:aR p=true) (hN:NamesOk p l) (h10:p.funs.length≤10)
theorem yJ (p:Prog)(l:List aB) :∀ (bs:List Int) (ss:List aB) (i:Nat),bs.length=ss.length→ (bK p l i bs ss).map aH=ss.map fun s=>[s]
 | [],[],i,_=>rfl
 | [],_::_,i,h=>by simp at h
 |_::_,[],i,h=>by simp at h
 | b::bs,s::ss,i,h=>by
  rw [bK,map_cons,map_cons,yJ p l bs ss (i+1) (by simpa using h)];rfl
theorem aHY :∀ (t:List aB),(t.map fun s=>[s]).flatten=t
 | [] =>rfl
 |s::t=>by rw [map_cons,List.flatten_cons,aHY t];rfl
abbrev eC (p:Prog)(l:List aB)(o:Nat) :List LUnit:=take o (bK p l 0 p.funs l) ++drop (o+1) (bK p l 0 p.funs l)
theorem aGf {o:Nat}{u:LUnit}(h:u∈eC p l o) :u∈bK p l 0 p.funs l:=by
 rcases List.mem_append.1 h with g|g
 ·exact List.mem_of_mem_take g
 ·exact List.mem_of_mem_drop g
include hN in
theorem aMW (o:Nat) :bS (eC p l o) =take o l++drop (o+1) l:=by
 unfold bS;rw [map_append,map_take,map_drop,yJ p l p.funs l 0 hN.len.symm,←map_take,←map_drop,←map_append,aHY]
include hs hr hN h10
theorem aHZ {o:Nat}:∀u∈eC p l o,GoodU u:=fun u hu=>by
 obtain⟨j,b,s,e1,e2,rfl⟩ :=kQ hs hr hN h10 p.funs l 0 rfl rfl u (aGf hu);exact uS hs hr hN h10 e1 e2
theorem aMX {o:Nat}: (eC p l o).length≤10:=by
 have:=aA4 p l p.funs l 0;simp only [eC,List.length_append,List.length_take,List.length_drop];omega
theorem aQx {o:Nat}:gB (eC p l o) =true:=by
 simp only [gB,Bool.and_eq_true,decide_eq_true_eq,List.all_eq_true];exact⟨aMX hs hr hN h10,fun u hu=> (aHZ hs hr hN h10 u hu).formed⟩
omit hs hr h10 in
theorem aPw {o:Nat}: (bS (eC p l o)).Nodup:=by
 rw [aMW hN];have h:=hN.nodup;have e:take o l++drop (o+1) l=l.eraseIdx o:= (List.eraseIdx_eq_take_drop_succ l o).symm;rw [e];exact(List.eraseIdx_sublist l o).nodup h
omit hs hr h10 in
theorem aCe {o:Nat}{t:aB}(ht:l[o]?=some t){s:aB}:aV (bS (eC p l o)) s=true↔s∈l∧s≠t:=by
 rw [hasS_mem,aMW hN];have ho:= (List.getElem?_eq_some_iff.1 ht).1;have e:l=take o l++t::drop (o+1) l:=by
  conv=>lhs;rw [←List.take_append_drop o l]
  congr 1;rw [List.drop_eq_getElem_cons ho];congr 1;exact(List.getElem?_eq_some_iff.1 ht).2
 have hd:=hN.nodup;rw [e]at hd;have hd2:=List.nodup_append.1 hd;have hd3:=List.nodup_cons.1 hd2.2.1;constructor
 · intro h;rw [mem_append]at h;refine⟨by rw [e];rw [mem_append];exact h.imp id (fun g=>mem_cons_of_mem _ g),fun g=>?_⟩;subst g;rcases h with h|h
   ·exact hd2.2.2 s h s (mem_cons_self ..) rfl
   ·exact hd3.1 h
 · intro⟨h,g⟩;rw [e,mem_append,List.mem_cons]at h;rw [mem_append];rcases h with h|h|h
   ·exact .inl h
   ·exact absurd h g
   ·exact .inr h
theorem aGg {o:Nat}{u:LUnit}(hu:u∈eC p l o){t:aB}(ht:t∈u.needs) :t∈l:=by
 obtain⟨j,b,s,e1,e2,e⟩ :=kQ hs hr hN h10 p.funs l 0 rfl rfl u (aGf hu);rw [e]at ht;obtain⟨y,hy,e⟩ :=List.mem_map.1 ht;have:= (rZ hs hr j b).1.2 y hy;rw [←e];exact List.mem_of_getElem? (hN.at this.1 this.2)
theorem aSy {o:Nat}{t:aB}(ht:l[o]?=some t){u:LUnit}(hu:u∈eC p l o)(hn:aV u.needs t=true) :fG (eC p l o) = [t] :=by
 have h1:=aHT (eC p l o);have hno:aV (bS (eC p l o)) t=false:=by
  cases e:aV (bS (eC p l o)) t with
  |false=>rfl
  |true=>exact absurd rfl ((aCe hN ht).1 e).2
 have h2:t∈fG (eC p l o) :=by
  rcases(mZ (bS (eC p l o)) (eC p l o) []).2 u hu t (hasS_mem.1 hn)with g|g
  ·rw [hno]at g;cases g
  ·exact hasS_mem.1 g
 have h3:∀s∈fG (eC p l o),s=t:=fun s hs2=>by
  have h4:=h1.2 s hs2;rcases aC9 (bS (eC p l o)) (eC p l o) [] s hs2 with g| ⟨v,g1,g2⟩
  ·cases g
  · have:=aGg hs hr hN h10 g1 g2;refine Classical.byContradiction fun hne=>?_;rw [(aCe hN ht).2 ⟨this,hne⟩]at h4;cases h4
 cases e:fG (eC p l o)with
 |nil=>rw [e]at h2;cases h2
 | cons a r=>
  have ea:=h3 a (by rw [e];exact mem_cons_self ..);subst ea;cases r with
  |nil=>rfl
  | cons b r=>
   have eb:=h3 b (by rw [e];exact mem_cons_of_mem _ (mem_cons_self ..));have hd:=h1.1;rw [e,eb]at hd;exact absurd (mem_cons_self ..) (List.nodup_cons.1 hd).1
theorem aSz {o:Nat}{t:aB}(ht:l[o]?=some t)(hn:∀u∈eC p l o,aV u.needs t=false) :fG (eC p l o) = [] :=
 lostU_nil.2 fun u hu s hs2=> (aCe hN ht).2 ⟨aGg hs hr hN h10 hu hs2,fun e=>by
  have:=hn u hu;rw [←e,hasS_mem.2 hs2]at this;cases this⟩
omit hs hr hN h10 in
theorem aPx {l:List LUnit}(h:fG l≠ []) : (xX l).2≠0:=by
 unfold xX;split
 · split
   ·simp
   ·rw [if_neg (fun g=>h g.2.1)];simp
 ·simp
omit hs hr hN h10 in
theorem aH0 (hd: (p.cons.map Con.name).Nodup) :∀ (L:List LUnit),(∀u∈L,u.cons=p.cons) →mY p.cons L=some p.cons
 | [],_=>rfl
 | u::L,h=>by
  rw [mY,h u (mem_cons_self ..),aDb hd p.cons (fun c h=>h)];exact aH0 hd L (fun v hv=>h v (mem_cons_of_mem _ hv))
theorem aSA {o:Nat}(ho:o<p.funs.length)(hom: (o:Int) ≠p.main)(hn:fG (eC p l o) = []) : (xX (eC p l o)).2=0:=by
 have f:=Fs.of hs hr;have hh:=f.head;obtain⟨k1,k2,k3⟩ :=aA6 hs hr hN h10 p.funs l 0 0 rfl rfl (fun j k hk=> (Fw.of f.toFm).toL 0 j k hk);have hsz:aZ (bK p l 0 p.funs l) =p.nodes.length:=by rw [k3];exact f.len
 have hle:aZ (eC p l o) ≤aZ (bK p l 0 p.funs l) :=by
  have e1:=mE (take o (bK p l 0 p.funs l)) (drop o (bK p l 0 p.funs l));rw [List.take_append_drop]at e1;have e2:=mE (take 1 (drop o (bK p l 0 p.funs l))) (drop 1 (drop o (bK p l 0 p.funs l)));rw [List.take_append_drop,List.drop_drop]at e2;have e3:=mE (take o (bK p l 0 p.funs l)) (drop (o+1) (bK p l 0 p.funs l));simp only [eC];omega
 have hc:∀u∈eC p l o,u.cons=p.cons:=fun u hu=>by
  obtain⟨j,b,s,e1,e2,e⟩ :=kQ hs hr hN h10 p.funs l 0 rfl rfl u (aGf hu);rw [e];rfl
 have hcons:∃c,xT (eC p l o) =some c∧c.length≤20:=by
  cases e:eC p l o with
  |nil=>exact⟨[],rfl,by simp⟩
  | cons u L=>
   rw [e]at hc;refine⟨p.cons,?_,hh.2.2.2.2.2.1⟩;unfold xT;rw [mY,hc u (mem_cons_self ..),aA5 f.names p.cons [] rfl];exact aH0 f.names L (fun v hv=>hc v (mem_cons_of_mem _ hv))
 obtain⟨c,hc1,hc2⟩ :=hcons;have hmn:= (jD hN.named).2.2;have hlen:=hN.len;have hmain:aV (bS (eC p l o)) eH=true:=by
  have ht:l[o]?=some l[o] :=List.getElem?_eq_getElem (by omega);refine(aCe hN ht).2 ⟨?_,fun e=>?_⟩
  · cases e:aV l eH with
    |true=>exact hasS_mem.1 e
    | false=>
     have:= (kP eH l 0).2 e;have:=hh.2.2.2.1;omega
  · rw [←e]at ht;have:=qO 0 hN.nodup ht;rw [hmn]at this;omega
 have hdif:cA (bS (eC p l o)) =true:= (iF _).2 (aPw hN);unfold xX;rw [if_pos (aQx hs hr hN h10),hc1];simp only;rw [if_pos ⟨hdif,hn,fun g=>by rw [(oJ eH _ 0).1 g]at hmain;cases hmain⟩,if_pos ⟨by have:=f.fine.small;omega,hc2⟩]
end
abbrev aQy (l:List aB) :TS:=cI PP 65 [.gl 0 1 0 (length l) false] [(0,iG l,true)] 1
theorem bDD :Ends PP 1 (aQy []).as (.ret (.tup [])) (aD [(0,iG [],true)] 1) :=
 aAM (n1:=1) (ks:=[]) (hp:=[(0,iG [],true)]) (v:=.tup []) (ps:=[]) (is:=[.run 123]) (by kernel_rfl) (by kernel_rfl) ⟨jJ _,trivial⟩ trivial
theorem bDE (s:aB) :Ends PP 1 (aQy [s]).as (.ret (.tup [])) (aD [(0,iG [s],true)] 1) :=
 aAM (n1:=1) (ks:=[]) (hp:=[(0,iG [s],true)]) (v:=.tup []) (ps:=[]) (is:=[.run 123]) (by kernel_rfl) (by kernel_rfl) ⟨jJ _,trivial⟩ trivial
theorem aWO {l:List aB}(h:l.length≤1) :vL PP 1 (.enter 65 [.gl 0 1 0 (length l) false]) (aD [(0,iG l,true)] 1) (.ret (.tup [])) (aD [(0,iG l,true)] 1) :=by
 suffices hh:Ends PP 1 (aQy l).as (.ret (.tup [])) (aD [(0,iG l,true)] 1)from⟨(aQy l).as.fr,by kernel_rfl,Eq.mp (by kernel_rfl) hh⟩
 match l,h with
 | [],_=>exact bDD
 | [s],_=>exact bDE s
 |_::_::_,h=>simp at h
abbrev NlC :AObj:=.cells (putCells .leaf 0 [.nils]) 1 [] false
abbrev GlC (b n:Nat) :AObj:=.cells (putCells .leaf 0 [.gl b 1 0 n false]) 1 [] false
abbrev aGE (c0:AObj)(l:List LUnit)(mf mh:List (aB×Int))(od:List aB)(tw:Bool) :List (Nat×AObj×Bool) :=[(0,c0,false),(1,yC,false),(2,aPe l 3 4 5 od tw,false),(3,MTb mf,true),(4,MTb mh,true),(5,iG od,true)]
section
variable (l :List LUnit) (mf mh:List (aB×Int)) (od:List aB) (tw:Bool)
theorem bEz (hs:aAo PP (.enter 63 [.ilst 5 (map LUnit.av l) false]) (aD [] 0) (.ret (.ptr 0 0)) (aD (THp l mf mh od tw) 4)) :
  Spec PP (.enter 63 [.ilst 5 (map LUnit.av l) false]) (aD [(0,NlC,false),(1,yC,false)] 2) (.ret (.ptr 2 0)) (aD (aGE NlC l mf mh od tw) 6) :=
 fM (m:=0) (ks:=[]) (n2:=2) (n3:=6) (v':=.ptr 2 0) (args':=[.ilst 5 (map LUnit.av l) false]) (lc:=[(0,NlC,false),(1,yC,false)]) (lc':=aGE NlC l mf mh od tw)
  hs (by rfl) (by rfl) (by kernel_rfl) (by rfl) (by rfl) (by kernel_rfl) (by kernel_rfl) trivial (by kernel_rfl) ⟨nJ _,nJ _,jJ _,trivial⟩
theorem bEA {n:Nat}{L:List aB}(hs:vL PP 4 (.enter 64 [.ptr 0 0]) (aD (THp l mf mh od tw) 4) (.ret (.gl 4 1 0 n false)) (aD (THp l mf mh od tw++ [(4,iG L,true)]) 5)) :
  Spec PP (.enter 64 [.ptr 2 0]) (aD (aGE NlC l mf mh od tw) 6) (.ret (.gl 6 1 0 n false)) (aD (aGE NlC l mf mh od tw++ [(6,iG L,true)]) 7) :=
 fM (m:=4) (ks:=[2,3,4,5]) (n2:=6) (n3:=7) (v':=.gl 6 1 0 n false) (args':=[.ptr 2 0]) (lc:=aGE NlC l mf mh od tw) (lc':=aGE NlC l mf mh od tw++ [(6,iG L,true)])
  hs (by rfl) (by kernel_rfl) (by kernel_rfl) (by rfl) (by rfl) (by kernel_rfl) (by kernel_rfl) ⟨nJ _,nJ _,jJ _,trivial⟩ (by kernel_rfl) ⟨nJ _,nJ _,jJ _,jJ _,trivial⟩
theorem bFO {L:List aB}(h:L.length≤1) :
  Spec PP (.enter 65 [.gl 6 1 0 (length L) false]) (aD (aGE (GlC 6 L.length) l mf mh od tw++ [(6,iG L,true)]) 7) (.ret (.tup [])) (aD (aGE (GlC 6 L.length) l mf mh od tw++ [(6,iG L,true)]) 7) :=
 fM (m:=1) (ks:=[6]) (n2:=7) (n3:=7) (v':=.tup []) (args':=[.gl 6 1 0 (length L) false]) (lc:=aGE (GlC 6 L.length) l mf mh od tw++ [(6,iG L,true)]) (lc':=aGE (GlC 6 L.length) l mf mh od tw++ [(6,iG L,true)])
  (aWO h) (by rfl) (by kernel_rfl) (by kernel_rfl) (by rfl) (by rfl) (by kernel_rfl) (by kernel_rfl) ⟨jJ _,trivial⟩ (by kernel_rfl) ⟨jJ _,trivial⟩
theorem aKa (l:List LUnit)(hl:l.length≤11)(hu:∀u∈l,FewU u∧aMH u)(h0:gB l=true)(h1: (fG l).length≤1) :Pure PP 15 [.ilst 5 (map LUnit.av l) false] (.tup [.ilst 1 (map aA (fG l)) false,.int .i64 0]) :=by
 obtain⟨mf,mh,ht,hs⟩ :=aVS l hu h0;have hg:=aWJ l mf mh (bS l) (!cA (bS l)) ht hl (fun u h=> (hu u h).1)
 exact dT (s:=bCG l) (by kernel_rfl) (by kernel_rfl) (by simp [AV.keylessL,AV.keyless]) (by simp [AV.keylessL,AV.keyless])
  (bBe l mf mh (bS l) (!cA (bS l)) (fG l) (bEz l mf mh _ _ hs) (bEA l mf mh _ _ hg) (bFO l mf mh _ _ h1))
end
def aGh(a:Prog)(c d:Int)(b:List aB):TS:=⟨(tf 12 157 [kp 2 0,kp 3 1,(4,(bV false)),kp 5 2,(35,(nI (a.funs.length:Int))),(36,(nI d))] [kc Tryz.f12 244,kl Tryz.f12 244,.inBlock 0,kc Tryz.f12 31]),[],[oC 0 [(iN a.nodes),(iI a.funs),(nI a.main),(iC a.cons)],oC 1 [(nI c)],oC 2 [(.gl 3 1 0 b.length false)],oL 3 1 (map aA b)],4⟩
def aDf(a:Prog)(b:Int)(c:List aB):TS:=⟨(tf 12 157 [kp 2 0,kp 3 1,(4,(bV false)),kp 5 2] [kc Tryz.f12 62,kc Tryz.f12 63]),[],[oC 0 [(iN a.nodes),(iI a.funs),(nI a.main),(iC a.cons)],oC 1 [(nI b)],oC 2 [(iS c)]],3⟩
def aDg(j:Prog)(a:Int)(b:List LUnit)(c:Int)(d e f:List LUnit)(g:List aB)(i:Int):TS:=⟨(tf 150 19 [(0,(.ilst 5 (map LUnit.av b) false)),(1,(.func 57 [] [(.ptr 0 0),(.ptr 1 0)])),(4,(nI 0)),(7,(nI c)),(8,(nI i))] [kc Tryz.f150 52,kl Tryz.f150 52,.inBlock 0,kc Tryz.f150 7]),[(tf 56 9 [(4,(bV false)),(5,(.ilst 5 (map LUnit.av d) false)),(6,(.func 57 [] [(.ptr 0 0),(.ptr 1 0)]))] [ko Tryz.f56 6 2,kc Tryz.f56 7]),(tf 12 157 [kp 3 1,(4,(bV false)),kp 5 0,(12,(.ilst 5 (map LUnit.av e) false)),(109,(.ilst 5 (map LUnit.av f) false)),(110,(.func 57 [] [(.ptr 0 0),(.ptr 1 0)]))] [ko Tryz.f12 4094 2,kc Tryz.f12 4095])],[oC 0 [(iS g)],oC 1 [(nI a)]],2⟩
def bBm (a:Prog)(d:Int):=fun b c e f g i j=>(tT 0 (start PP 12 [(Prog.av a),(nI d)])<|gG 10 50 [(Prog.av a)]<|fun b=>.b 2 21 (!b) .x<|gG 1 38 [(Prog.av a)]<|fun c=>.b 3 26 (!c) .x<|gl 2 aP a.funs<|gd 3 31 ((a.funs.length:Int) >10) .x<|gl 11 aP a.funs<|.i [rn 4,.cnil 2 0 1] []<|gu 0 3 (map aA ([] :List aB))<|gv 0 2 0 (.gl 3 1 0 ([] :List aB).length false)<|.W 0 4 [0,1,2,3] (aGh a d 0 ([] :List aB))) b e|>.f f c g|>.f i|>.f j ⟨kk,trivial⟩
def aPy(a:Prog)(d c:Int)(b:List aB):=tT 0 (aGh a d c b)<|gd 5 37 (c< (a.funs.length:Int)) (.b 21 42 (c != a.main) (.y fun e:aB=>gk 3 (.enter 49 [(.gl 3 1 0 b.length false)]) [oC 0 [(iN a.nodes),(iI a.funs),(nI a.main),(iC a.cons)],oC 1 [(nI d)],oC 2 [(.gl 3 1 0 b.length false)],oL 3 1 (map aA b)] 4 (aA e) [oC 0 [(iN a.nodes),(iI a.funs),(nI a.main),(iC a.cons)],oC 1 [(nI d)],oC 2 [(.gl 3 1 0 b.length false)],oL 3 1 (map aA b)] 4<|ga 6 aA b [e]<|gw 5 49 (c+1)<|.W 3 6 [0,1,2,5] (aGh a d (c+1) (b++ [e])))<|ga 6 aA b [(strOf [109,97,105,110])]<|gw 5 49 (c+1)<|.W 3 6 [0,1,2,5] (aGh a d (c+1) (b++ [(strOf [109,97,105,110])])))<|gy 2 2 0 3 1 aA b false<|.W 1 4 [0,1,2] (aDf a d b)
def bBn:=fun a b c d e f g i j k=>aPy a b c d|>.t f|>.t g e i j k ⟨kk,trivial⟩
def bBo:=fun a b c d e f g i=>aPy a b c d|>.t e|>.f f g i ⟨kk,trivial⟩
def bBp:=fun a b c d e=>aPy a b c d|>.f e tv
def bBq (c:Prog)(a:Int)(e:List aB):=fun b i k d j f g l m n o p q r s t u v w x y z A B C=>(tT 0 (aDf c a e)<|.y fun b:List LUnit=>.y fun i:Int=>gp 3 51 [(Prog.av c),(iS e)] (.tup [(.ilst 5 (map LUnit.av b) false),(nI i)])<|.b 12 58 (i != 0) .x<|gl 1 LUnit.av b<|gl 2 aP c.funs<|.b 3 66 ((b.length:Int) != (c.funs.length:Int)) .x<|gG 1 35 [(.ilst 5 (map LUnit.av b) false)]<|fun k=>.b 3 70 (!k) .x<|.y fun d:Prog=>.y fun j:Int=>gp 5 24 [(.ilst 5 (map LUnit.av b) false)] (.tup [(Prog.av d),(nI j)])<|.y fun f:Prog=>.y fun g:Bool=>.i [rn 9,.reg (rd 3 [.b 78 false,.d,.d,.pure (Prog.av f),.pure (bV g),.d,.d]),bf 84,rn 8,bf 87,rn 2,aL b,rn 3,bf 93,rn 6,bf 98,rn 3,.reg (.d::.d::.ans (.ev (.ilst 5 (map LUnit.av (take a.toNat b)) false))::rd 3 [.ans (.ev (.ilst 5 (map LUnit.av (drop ((IntKind.i64.wrap (a+1)).toNat) b)) false)),.d,.call (.ilst 5 (map LUnit.av ((take a.toNat b) ++ (drop ((IntKind.i64.wrap (a+1)).toNat) b))) false) (aD [oC 0 [(iN c.nodes),(iI c.funs),(nI c.main),(iC c.cons)],oC 1 [(nI a)],oC 2 [(iS e)],oC 3 [(iN d.nodes),(iI d.funs),(nI d.main),(iC d.cons)],oC 4 [(.ilst 5 (map LUnit.av (take a.toNat b)) false),(.ilst 5 (map LUnit.av (drop ((IntKind.i64.wrap (a+1)).toNat) b)) false)]] 5),.d])] [hA ((j != 0) =false),hA (Pure PP 54 [(Prog.av c)] (Prog.av f)),hA (Pure PP 26 [(Prog.av d),(Prog.av f)] (bV g)),hr (Prog.av d),hr (Prog.av d),hA ((!g) =false),hA (decide (a<0) =false),hl LUnit.av b,hA (decide (a≥ (b.length:Int)) =false),hA ((a==c.main) =false),.a (0≤a∧a.toNat≤length b) (p':=aCI PP 22 (.ilst 5 (map LUnit.av b) false) none (some (nI a)) (.ilst 5 (map LUnit.av (take a.toNat b)) false)) fun⟨ha,hb⟩=>(aKF (k:=a) (by kernel_rfl) ha hb),.a (0≤ (IntKind.i64.wrap (a+1)) ∧ (IntKind.i64.wrap (a+1)).toNat≤length b) (p':=aCI PP 22 (.ilst 5 (map LUnit.av b) false) (some (nI (IntKind.i64.wrap (a+1)))) none (.ilst 5 (map LUnit.av (drop ((IntKind.i64.wrap (a+1)).toNat) b)) false)) fun⟨ha,hb⟩=>(aNw (k:= (IntKind.i64.wrap (a+1))) (by kernel_rfl) ha hb),hA (Spec PP (.enter 55 [(.slice 4 0 2 2 1 true)]) (aD [oC 0 [(iN c.nodes),(iI c.funs),(nI c.main),(iC c.cons)],oC 1 [(nI a)],oC 2 [(iS e)],oC 3 [(iN d.nodes),(iI d.funs),(nI d.main),(iC d.cons)],oC 4 [(.ilst 5 (map LUnit.av (take a.toNat b)) false),(.ilst 5 (map LUnit.av (drop ((IntKind.i64.wrap (a+1)).toNat) b)) false)]] 5) (.ret (.ilst 5 (map LUnit.av ((take a.toNat b) ++ (drop ((IntKind.i64.wrap (a+1)).toNat) b))) false)) (aD [oC 0 [(iN c.nodes),(iI c.funs),(nI c.main),(iC c.cons)],oC 1 [(nI a)],oC 2 [(iS e)],oC 3 [(iN d.nodes),(iI d.funs),(nI d.main),(iC d.cons)],oC 4 [(.ilst 5 (map LUnit.av (take a.toNat b)) false),(.ilst 5 (map LUnit.av (drop ((IntKind.i64.wrap (a+1)).toNat) b)) false)]] 5))]<|gl 22 LUnit.av ((take a.toNat b) ++ (drop ((IntKind.i64.wrap (a+1)).toNat) b))<|.W 4 5 [2,1] (aDg c a ((take a.toNat b) ++ (drop ((IntKind.i64.wrap (a+1)).toNat) b)) (((take a.toNat b) ++ (drop ((IntKind.i64.wrap (a+1)).toNat) b)).length:Int) ((take a.toNat b) ++ (drop ((IntKind.i64.wrap (a+1)).toNat) b)) ((take a.toNat b) ++ (drop ((IntKind.i64.wrap (a+1)).toNat) b)) ((take a.toNat b) ++ (drop ((IntKind.i64.wrap (a+1)).toNat) b)) e 0)) b i l|>.f m|>.f n k o|>.f p d j q f g r s t u v w x ⟨y,z⟩ ⟨A,B⟩ C tv
def bBr (j:Prog)(d:Int)(e:List LUnit)(f:Int)(k l m:List LUnit)(g:List aB)(a:Int):=fun i b c n o p q r s t u=>(tT 0 (aDg j d e f k l m g a)<|gd 5 9 (a<f) (gX LUnit.av 14 e a<|fun i=>.y fun b:aB=>.y fun c:Bool=>.i [rn 8,.reg (rd 4 [.ans (.idx (aA b)),.d,.pure (bV c),.d])] [hA (0≤d),.a (((g)[d.toNat]?) =some b) (bF (f:=aA)),hA (Pure PP 58 [(iS i.needs),(aA b)] (bV c))]<|.b 3 16 c .x<|gw 5 18 (a+1)<|.W 3 3 [0,1] (aDg j d e f k l m g (a+1))) .x)|>.t n i o p b c q r s|>.f t u tv
theorem bBs (p:Prog)(o:Int)(y0 y1:Bool)(h0:Pure PP 50 [(Prog.av p)] (bV y0))(h1: (!y0) =true)(h2:Pure PP 14 [] (bV y1)) :
  ∀ (w:World) (cargs:List Value),VRs (embOf w) [Prog.av p,.int .i64 o] cargs→Calls PP 12 ⟨cargs⟩ w fun e w'=>e= .returned (.bool y1) ∧GrownO w w':=
 fun w cargs hv=>cW [qp h0,qp h1,qp h2] [rn 10,pB y0,rn 2,bt 21,rn 14,pB y1,rn 3] w hv
theorem bBt (p:Prog)(o:Int)(y0 y1 y2:Bool)(h0:Pure PP 50 [(Prog.av p)] (bV y0))(h1: (!y0) =false)(h2:Pure PP 38 [(Prog.av p)] (bV y1))(h3: (!y1) =true)(h4:Pure PP 14 [] (bV y2)) :
  ∀ (w:World) (cargs:List Value),VRs (embOf w) [Prog.av p,.int .i64 o] cargs→Calls PP 12 ⟨cargs⟩ w fun e w'=>e= .returned (.bool y2) ∧GrownO w w':=
 fun w cargs hv=>cW [qp h0,qp h1,qp h2,qp h3,qp h4] [rn 10,pB y0,rn 2,bf 21,rn 1,pB y1,rn 3,bt 26,rn 9,pB y2,rn 3] w hv
theorem bBu (p:Prog)(o:Int)(y0 y1 y2:Bool)(h0:Pure PP 50 [(Prog.av p)] (bV y0))(h1: (!y0) =false)(h2:Pure PP 38 [(Prog.av p)] (bV y1))(h3: (!y1) =false)(h4:decide ((p.funs.length:Int) > (10:Int)) =true)(h5:Pure PP 14 [] (bV y2)) :
  ∀ (w:World) (cargs:List Value),VRs (embOf w) [Prog.av p,.int .i64 o] cargs→Calls PP 12 ⟨cargs⟩ w fun e w'=>e= .returned (.bool y2) ∧GrownO w w':=
 fun w cargs hv=>cW [qp h0,qp h1,qp h2,qp h3,ql aP p.funs,qp h4,qp h5] [rn 10,pB y0,rn 2,bf 21,rn 1,pB y1,rn 3,bf 26,rn 2,aL p.funs,rn 3,bt 31,rn 3,pB y2,rn 3] w hv
theorem bBv (p:Prog)(o:Int)(c2_0:List aB)(y0:List LUnit)(y1:Int)(y2:Bool)(y3:Prog)(y4:Int)(y5:Prog)(y6 y7:Bool)(h0:Pure PP 51 [(Prog.av p),(iS c2_0)] (.tup [(.ilst 5 (map LUnit.av y0) false),(nI y1)]))(h1: (y1 != (0:Int)) =false)(h2: ((y0.length:Int) != (p.funs.length:Int)) =false)(h3:Pure PP 35 [(.ilst 5 (map LUnit.av y0) false)] (bV y2))(h4: (!y2) =false)(h5:Pure PP 24 [(.ilst 5 (map LUnit.av y0) false)] (.tup [(Prog.av y3),(nI y4)]))(h6: (y4 != (0:Int)) =false)(h7:Pure PP 54 [(Prog.av p)] (Prog.av y5))(h8:Pure PP 26 [(Prog.av y3),(Prog.av y5)] (bV y6))(h9: (!y6) =false)(h10:decide (o< (0:Int)) =true)(h11:Pure PP 14 [] (bV y7))(hl:LeadsM PP 0 (start PP 12 [Prog.av p,.int .i64 o]).as (aDf p o c2_0).as) :
  ∀ (w:World) (cargs:List Value),VRs (embOf w) [Prog.av p,.int .i64 o] cargs→Calls PP 12 ⟨cargs⟩ w fun e w'=>e= .returned (.bool y7) ∧GrownO w w':=
 fun w cargs hv=>cL hl [qp h0,qp h1,ql LUnit.av y0,ql aP p.funs,qp h2,qp h3,qp h4,qp h5,qp h6,qp h7,qp h8,qr (Prog.av y3),qr (Prog.av y3),qp h9,qp h10,qp h11] [rn 3,.pure (.tup [(.ilst 5 (map LUnit.av y0) false),(nI y1)]),rn 12,bf 58,rn 1,aL y0,rn 2,aL p.funs,rn 3,bf 66,rn 1,pB y2,rn 3,bf 70,rn 5,.pure (.tup [(Prog.av y3),(nI y4)]),rn 9,.reg [.d,.d,.d,.b 78 false,.d,.d,.pure (Prog.av y5),.pure (bV y6),.d,.d],bf 84,rn 8,bt 87,rn 15,pB y7,rn 3] w hv
theorem bBw (p:Prog)(o:Int)(c2_0:List aB)(y0:List LUnit)(y1:Int)(y2:Bool)(y3:Prog)(y4:Int)(y5:Prog)(y6 y7:Bool)(h0:Pure PP 51 [(Prog.av p),(iS c2_0)] (.tup [(.ilst 5 (map LUnit.av y0) false),(nI y1)]))(h1: (y1 != (0:Int)) =false)(h2: ((y0.length:Int) != (p.funs.length:Int)) =false)(h3:Pure PP 35 [(.ilst 5 (map LUnit.av y0) false)] (bV y2))(h4: (!y2) =false)(h5:Pure PP 24 [(.ilst 5 (map LUnit.av y0) false)] (.tup [(Prog.av y3),(nI y4)]))(h6: (y4 != (0:Int)) =false)(h7:Pure PP 54 [(Prog.av p)] (Prog.av y5))(h8:Pure PP 26 [(Prog.av y3),(Prog.av y5)] (bV y6))(h9: (!y6) =false)(h10:decide (o< (0:Int)) =false)(h11:decide (o≥ (y0.length:Int)) =true)(h12:Pure PP 14 [] (bV y7))(hl:LeadsM PP 0 (start PP 12 [Prog.av p,.int .i64 o]).as (aDf p o c2_0).as) :
  ∀ (w:World) (cargs:List Value),VRs (embOf w) [Prog.av p,.int .i64 o] cargs→Calls PP 12 ⟨cargs⟩ w fun e w'=>e= .returned (.bool y7) ∧GrownO w w':=
 fun w cargs hv=>cL hl [qp h0,qp h1,ql LUnit.av y0,ql aP p.funs,qp h2,qp h3,qp h4,qp h5,qp h6,qp h7,qp h8,qr (Prog.av y3),qr (Prog.av y3),qp h9,qp h10,ql LUnit.av y0,qp h11,qp h12] [rn 3,.pure (.tup [(.ilst 5 (map LUnit.av y0) false),(nI y1)]),rn 12,bf 58,rn 1,aL y0,rn 2,aL p.funs,rn 3,bf 66,rn 1,pB y2,rn 3,bf 70,rn 5,.pure (.tup [(Prog.av y3),(nI y4)]),rn 9,.reg [.d,.d,.d,.b 78 false,.d,.d,.pure (Prog.av y5),.pure (bV y6),.d,.d],bf 84,rn 8,bf 87,rn 2,aL y0,rn 3,bt 93,rn 9,pB y7,rn 3] w hv
theorem bBx (p:Prog)(o:Int)(c2_0:List aB)(y0:List LUnit)(y1:Int)(y2:Bool)(y3:Prog)(y4:Int)(y5:Prog)(y6 y7:Bool)(h0:Pure PP 51 [(Prog.av p),(iS c2_0)] (.tup [(.ilst 5 (map LUnit.av y0) false),(nI y1)]))(h1: (y1 != (0:Int)) =false)(h2: ((y0.length:Int) != (p.funs.length:Int)) =false)(h3:Pure PP 35 [(.ilst 5 (map LUnit.av y0) false)] (bV y2))(h4: (!y2) =false)(h5:Pure PP 24 [(.ilst 5 (map LUnit.av y0) false)] (.tup [(Prog.av y3),(nI y4)]))(h6: (y4 != (0:Int)) =false)(h7:Pure PP 54 [(Prog.av p)] (Prog.av y5))(h8:Pure PP 26 [(Prog.av y3),(Prog.av y5)] (bV y6))(h9: (!y6) =false)(h10:decide (o< (0:Int)) =false)(h11:decide (o≥ (y0.length:Int)) =false)(h12: (o==p.main) =true)(h13:Pure PP 14 [] (bV y7))(hl:LeadsM PP 0 (start PP 12 [Prog.av p,.int .i64 o]).as (aDf p o c2_0).as) :
  ∀ (w:World) (cargs:List Value),VRs (embOf w) [Prog.av p,.int .i64 o] cargs→Calls PP 12 ⟨cargs⟩ w fun e w'=>e= .returned (.bool y7) ∧GrownO w w':=
 fun w cargs hv=>cL hl [qp h0,qp h1,ql LUnit.av y0,ql aP p.funs,qp h2,qp h3,qp h4,qp h5,qp h6,qp h7,qp h8,qr (Prog.av y3),qr (Prog.av y3),qp h9,qp h10,ql LUnit.av y0,qp h11,qp h12,qp h13] [rn 3,.pure (.tup [(.ilst 5 (map LUnit.av y0) false),(nI y1)]),rn 12,bf 58,rn 1,aL y0,rn 2,aL p.funs,rn 3,bf 66,rn 1,pB y2,rn 3,bf 70,rn 5,.pure (.tup [(Prog.av y3),(nI y4)]),rn 9,.reg [.d,.d,.d,.b 78 false,.d,.d,.pure (Prog.av y5),.pure (bV y6),.d,.d],bf 84,rn 8,bf 87,rn 2,aL y0,rn 3,bf 93,rn 6,bt 98,rn 3,pB y7,rn 3] w hv
theorem bBy (p:Prog)(o:Int)(s0:List LUnit)(t7:Int)(t5 less12 t109:List LUnit)(c2_0:List aB)(t8:Int)(y0:LUnit)(y1:aB)(y2:Bool)(y3:List aB)(y4:Int)(y5:Prog)(y6:Int)(y7:aB)(y8:Bool)(h0:decide (t8<t7) =true)(h1:0≤t8)(h2: ((s0)[t8.toNat]?) =some y0)(h3:0≤o)(h4: ((c2_0)[o.toNat]?) =some y1)(h5:Pure PP 58 [(iS y0.needs),(aA y1)] (bV y2))(h6:y2=true)(h7:Pure PP 15 [(.ilst 5 (map LUnit.av less12) false)] (.tup [(iS y3),(nI y4)]))(h8:Pure PP 24 [(.ilst 5 (map LUnit.av less12) false)] (.tup [(Prog.av y5),(nI y6)]))(h9: (y4 != (0:Int)) =false)(h10: (!((decide ((y3.length:Int) > (0:Int))) == (decide (t8≥ (0:Int))))) =false)(h11:decide (t8≥ (0:Int)) =true)(h12: ((y3.length:Int) != (1:Int)) =false)(h13:0≤ (0:Int))(h14: ((y3)[(0:Int).toNat]?) =some y7)(h15: (!(bL y7.length (aC y7) y1.length (aC y1))) =false)(h16: ((y6== (0:Int)) == (!(decide (t8≥ (0:Int))))) =true)(h17:Pure PP 14 [] (bV y8))(hl:LeadsM PP 0 (start PP 12 [Prog.av p,.int .i64 o]).as (aDg p o s0 t7 t5 less12 t109 c2_0 t8).as) :
  ∀ (w:World) (cargs:List Value),VRs (embOf w) [Prog.av p,.int .i64 o] cargs→Calls PP 12 ⟨cargs⟩ w fun e w'=>e= .returned (.bool y8) ∧GrownO w w':=
 fun w cargs hv=>cL hl [qp h0,qp h1,qg LUnit.av h2,qp h3,qg aA h4,qp h5,qp h6,qp h7,qp h8,qp h9,ql aA y3,qp h10,qp h11,ql aA y3,qp h12,qp h13,qg aA h14,qp h3,qg aA h4,qp h15,qp h16,qp h17] [rn 5,bt 9,rn 14,aI (LUnit.av y0),rn 8,.reg [.d,.d,.d,.d,.ans (.idx (aA y1)),.d,.pure (bV y2),.d],rn 3,bt 16,rn 18,.pure (.tup [(iS y3),(nI y4)]),rn 9,.pure (.tup [(Prog.av y5),(nI y6)]),rn 9,.reg [.d,.d,.d,.b 124 false,.d,.ans (.len (y3.length:Int)),.d,.d,.d,.d,.d,.b 131 false,.d,.d,.b 133 true,.d,.ans (.len (y3.length:Int)),.d,.d,.b 137 false,.d,.ans (.idx (aA y7)),.d,.d,.d,.ans (.idx (aA y1)),.d,.d,.d,.d,.d],bf 148,rn 10,bt 154,pB y8,rn 4] w hv
theorem aWP (p:Prog)(o:Int)(s0:List LUnit)(t7:Int)(t5 less12 t109:List LUnit)(c2_0:List aB)(t8:Int)(y0:List aB)(y1:Int)(y2:Prog)(y3:Int)(y4:Bool)(h0:decide (t8<t7) =false)(h1:Pure PP 15 [(.ilst 5 (map LUnit.av less12) false)] (.tup [(iS y0),(nI y1)]))(h2:Pure PP 24 [(.ilst 5 (map LUnit.av less12) false)] (.tup [(Prog.av y2),(nI y3)]))(h3: (y1 != (0:Int)) =false)(h4: (!((decide ((y0.length:Int) > (0:Int))) ==false)) =false)(h5: ((y3== (0:Int)) ==true) =true)(h6:Pure PP 14 [] (bV y4))(hl:LeadsM PP 0 (start PP 12 [Prog.av p,.int .i64 o]).as (aDg p o s0 t7 t5 less12 t109 c2_0 t8).as) :
  ∀ (w:World) (cargs:List Value),VRs (embOf w) [Prog.av p,.int .i64 o] cargs→Calls PP 12 ⟨cargs⟩ w fun e w'=>e= .returned (.bool y4) ∧GrownO w w':=
 fun w cargs hv=>cL hl [qp h0,qp h1,qp h2,qp h3,ql aA y0,qp h4,qp h5,qp h6] [rn 5,bf 9,rn 18,.pure (.tup [(iS y0),(nI y1)]),rn 9,.pure (.tup [(Prog.av y2),(nI y3)]),rn 9,.reg [.d,.d,.d,.b 124 false,.d,.ans (.len (y0.length:Int)),.d,.d,.d,.d,.d,.b 131 false,.d,.d,.d,.d,.d,.d,.d,.d,.d,.d,.d,.d,.d,.d,.d,.d,.d],rn 10,bt 154,pB y4,rn 4] w hv
abbrev PCl (p:Prog) :AObj:=.cells (putCells .leaf 0 [.ilst 4 (map Node.av p.nodes) false,.ilst 1 (map aP p.funs) false,.int .i64 p.main,.ilst 2 (map Con.av p.cons) false]) 4 [] false
abbrev ICl (o:Int) :AObj:=.cells (putCells .leaf 0 [.int .i64 o]) 1 [] false
abbrev SCl (l:List aB) :AObj:=.cells (putCells .leaf 0 [.ilst 1 (map aA l) false]) 1 [] false
theorem bFP (p:Prog)(o:Int)(l:List aB)(fs:aB)(h:vL PP 1 (.enter 49 [.gl 0 1 0 (length l) false]) (aD [(0,iG l,true)] 1) (.ret (aA fs)) (aD [(0,iG l,true)] 1)) :
  Spec PP (.enter 49 [.gl 3 1 0 (length l) false]) (aD [(0,PCl p,false),(1,ICl o,false),(2,GlC 3 l.length,false),(3,iG l,true)] 4) (.ret (aA fs)) (aD [(0,PCl p,false),(1,ICl o,false),(2,GlC 3 l.length,false),(3,iG l,true)] 4) :=
 fM (m:=1) (ks:=[3]) (n2:=4) (n3:=4) (v':=aA fs) (args':=[.gl 3 1 0 (length l) false]) (lc:=[(0,PCl p,false),(1,ICl o,false),(2,GlC 3 l.length,false),(3,iG l,true)]) (lc':=[(0,PCl p,false),(1,ICl o,false),(2,GlC 3 l.length,false),(3,iG l,true)])
  h (by rfl) (by kernel_rfl) (by kernel_rfl) (by rfl) (by rfl) (by kernel_rfl) (by kernel_rfl) ⟨jJ _,trivial⟩ (by kernel_rfl) ⟨jJ _,trivial⟩
theorem ctB (p q:Prog)(o:Int)(l:List aB)(a b:List LUnit)(ha:a.length≤1000)(hb:b.length≤1000) :
  Spec PP (.enter 55 [.slice 4 0 2 2 1 true]) (aD [(0,PCl p,false),(1,ICl o,false),(2,SCl l,false),(3,PCl q,false),(4,aPv a b,false)] 5) (.ret (.ilst 5 (map LUnit.av (a++b)) false)) (aD [(0,PCl p,false),(1,ICl o,false),(2,SCl l,false),(3,PCl q,false),(4,aPv a b,false)] 5) :=
 fM (m:=1) (ks:=[4]) (n2:=5) (n3:=5) (v':=.ilst 5 (map LUnit.av (a++b)) false) (args':=[.slice 4 0 2 2 1 true]) (lc:=[(0,PCl p,false),(1,ICl o,false),(2,SCl l,false),(3,PCl q,false),(4,aPv a b,false)]) (lc':=[(0,PCl p,false),(1,ICl o,false),(2,SCl l,false),(3,PCl q,false),(4,aPv a b,false)])
  (aWI a b ha hb) (by rfl) (by kernel_rfl) (by kernel_rfl) (by rfl) (by rfl) (by kernel_rfl) (by kernel_rfl) trivial (by kernel_rfl) trivial
section
variable (p :Prog) (o:Int)
theorem aH1 (m:Nat)(hm:p.main= (m:Int))(h10:p.funs.length≤10) :∀ (j i:Nat),i+j=p.funs.length→LeadsM PP 0 (aGh p o (i:Int) (eD m i)).as (aDf p o (eD m p.funs.length)).as
 | 0,i,h=>by
  obtain rfl:i=p.funs.length:=by omega
  exact bBp p o _ _ sd
 | j +1,i,h=>by
  have ih:=aH1 m hm h10 j (i+1) (by omega);have hw:IntKind.i64.wrap ((i:Int) + (1:Int)) = (i:Int) + (1:Int) :=by apply wrap64<;>omega
  have hll: (eD m i).length=i:=yH m i;by_cases e:i=m
  · have h1:=bBo p o i (eD m i) sd (by rw [hm,e];simp) (by simp;omega) hw;have e2:eD m i++ [eH] =eD m (i+1) :=by rw [←aHX,←yI m,e]
    rw [show(strOf [109,97,105,110]) =eH from rfl,e2]at h1;exact h1.trans ih
  · have hf:=aWH (eD m i) (by omega) (if m<i then i-1 else i) (by split<;>omega) (fun n hn=>bBk (by omega) e hn) (aWN (by omega) e);have h1:=bBn p o i (eD m i) _ sd (by rw [hm];simp;omega) (bFP p o _ _ hf) (by simp;omega) hw;rw [←iH e,aHX]at h1;exact h1.trans ih
theorem aMY (L:List LUnit)(names:List aB)(t:aB)(h0:0≤o)(ht:names[o.toNat]?=some t)(hL:L.length≤10)(hf:∀u∈L,u.needs.length≤25)
  (r:Prog×Int) (hlk:Pure PP 24 [.ilst 5 (map LUnit.av L) false] (.tup [Prog.av r.1,.int .i64 r.2]))
  (hyes:∀u∈L,aV u.needs t=true→fG L= [t] ∧r.2≠0) (hno: (∀u∈L,aV u.needs t=false) →fG L= [] ∧r.2=0)
  (hmi: (fG L).length≤1→Pure PP 15 [.ilst 5 (map LUnit.av L) false] (.tup [.ilst 1 (map aA (fG L)) false,.int .i64 0]))
  (hk:Pure PP 14 [] (.bool true)) :∀ (T:List LUnit) (i:Nat),L.drop i=T→ (∀ (j:Nat) (u:LUnit),j<i→L[j]?=some u→aV u.needs t=false) →LeadsM PP 0 (start PP 12 [Prog.av p,.int .i64 o]).as (aDg p o L ((L.length:Nat) :Int) L L L names (i:Int)).as →
  ∀ (w:World) (cargs:List Value),VRs (embOf w) [Prog.av p,.int .i64 o] cargs→Calls PP 12 ⟨cargs⟩ w fun e w'=>e= .returned (.bool true) ∧GrownO w w'
 | [],i,h,hb,hl=>by
  have hi:=bA h
  obtain⟨e1,e2⟩ :=hno (fun u hu=>by
   obtain⟨j,hj⟩ :=List.mem_iff_getElem?.1 hu;have:= (List.getElem?_eq_some_iff.1 hj).1;exact hb j u (by omega) hj)
  have h15:=hmi (by rw [e1];simp);rw [e1]at h15;exact aWP p o L _ L L L names i [] 0 r.1 r.2 true sd h15 hlk rfl rfl (by rw [e2];rfl) hk hl
 | u::T,i,h,hb,hl=>by
  obtain⟨q1,q2,q3⟩ :=aY h;have hum:=List.mem_of_getElem? q1;have hi:= (List.getElem?_eq_some_iff.1 q1).1;have hc:=aWF u.needs t (by have:=hf u hum;omega);cases e:aV u.needs t with
  | true=>
   rw [e]at hc;obtain⟨e1,e2⟩ :=hyes u hum e;have h15:=hmi (by rw [e1];simp);rw [e1]at h15;have hge: (decide ((i:Int) ≥ (0:Int))) =true:=decide_eq_true (by omega);exact bBy p o L _ L L L names i u t true [t] 0 r.1 r.2 t true sd (by omega) sd h0 ht hc rfl h15 hlk rfl (by rw [hge];rfl) hge rfl (by decide) rfl (by rw [aAX];rfl) (by rw [hge];simpa using e2) hk hl
  | false=>
   rw [e]at hc;have h1:=bBr p o L ((L.length:Nat) :Int) L L L names i u t false sd (by omega) sd h0 ht hc rfl (by apply wrap64<;>omega);refine aMY L names t h0 ht hL hf r hlk hyes hno hmi hk T (i+1) q2 (fun j v hj hv=>?_) (hl.trans h1);by_cases g:j=i
   ·subst g;rw [q1]at hv;rw [←Option.some.inj hv];exact e
   ·exact hb j v (by omega) hv
theorem lBack_calls (hk:Pure PP 14 [] (.bool true)) :
  ∀ (w:World) (cargs:List Value),VRs (embOf w) [Prog.av p,.int .i64 o] cargs→Calls PP 12 ⟨cargs⟩ w fun e w'=>e= .returned (.bool true) ∧GrownO w w':=by
 have h0:=vM p;cases es:aJ p with
 |false=>rw [es]at h0;exact bBs p o false true h0 rfl hk
 | true =>
  rw [es]at h0;have h1:=tY p es;cases er:aR p with
  |false=>rw [er]at h1;exact bBt p o true false true h0 rfl h1 rfl hk
  | true=>
   rw [er]at h1;by_cases h10:p.funs.length≤10
   · have f:=Fs.of es er;have hh:=f.head;obtain⟨m,hm⟩ :∃m:Nat,p.main= (m:Int) := ⟨p.main.toNat,by omega⟩;have hmf:m<p.funs.length:=by omega
     have hN:=bBl hm hmf h10;have hA:= (bBm p o true true h0 rfl h1 rfl (by simp;omega)).trans (aH1 p o m hm h10 p.funs.length 0 (by omega));obtain⟨b1,b2,b3⟩ :=aSw es er hN h10
     have hgood:∀u∈bK p (eD m p.funs.length) 0 p.funs (eD m p.funs.length),GoodU u:=fun u hu=>by
      obtain⟨j,b,s,e1,e2,rfl⟩ :=kQ es er hN h10 p.funs _ 0 rfl rfl u hu;exact uS es er hN h10 e1 e2
     have hap:=aMO p (eD m p.funs.length) es (by rw [yH];omega);have eap:aF6 p (eD m p.funs.length) = (bK p (eD m p.funs.length) 0 p.funs (eD m p.funs.length),0) :=by
      unfold aF6;rw [if_pos ⟨er,hN.named⟩,if_pos h10]
     rw [eap]at hap;have hUl: (bK p (eD m p.funs.length) 0 p.funs (eD m p.funs.length)).length=p.funs.length:=by
      have:=congrArg length (yJ p (eD m p.funs.length) p.funs (eD m p.funs.length) 0 hN.len.symm);simpa [yH]using this
     have hgv:=aPk (bK p (eD m p.funs.length) 0 p.funs (eD m p.funs.length));rw [b2,b3]at hgv;have hlk:=aF4 (bK p (eD m p.funs.length) 0 p.funs (eD m p.funs.length)) (by omega) (fun u hu=> ⟨(hgood u hu).few,aMV (hgood u hu)⟩);have hfit:=aSt (fun u hu=> (hgood u hu).few);rw [b1]at hlk hfit;have hord:Pure PP 54 [Prog.av p] (Prog.av (lJ p)) :=aOE (by have:=f.fine.fsmall;omega) (by have:=f.cons;omega) (aMS f);have hsame:=aOO (lJ p) hfit;have hne: (((length (bK p (eD m p.funs.length) 0 p.funs (eD m p.funs.length)) :Nat) :Int) != ((length p.funs:Nat) :Int)) =false:=by rw [hUl];simp
     by_cases c1:o<0
     ·exact bBv p o (eD m p.funs.length) _ 0 true (lJ p) 0 (lJ p) true true hap rfl hne hgv rfl hlk rfl hord hsame rfl (decide_eq_true c1) hk hA
     by_cases c2:o≥p.funs.length
     ·exact bBw p o (eD m p.funs.length) _ 0 true (lJ p) 0 (lJ p) true true hap rfl hne hgv rfl hlk rfl hord hsame rfl (decide_eq_false c1) (decide_eq_true (by rw [hUl];exact c2)) hk hA
     by_cases c3:o=p.main
     ·exact bBx p o (eD m p.funs.length) _ 0 true (lJ p) 0 (lJ p) true true hap rfl hne hgv rfl hlk rfl hord hsame rfl (decide_eq_false c1) (decide_eq_false (by rw [hUl];exact c2)) (by simp [c3]) hk hA
     have hw:IntKind.i64.wrap (o+1) =o+1:=by apply wrap64<;>omega
     have ew: (IntKind.i64.wrap (o+1)).toNat=o.toNat+1:=by rw [hw];omega
     have hB:=bBq p o (eD m p.funs.length) _ 0 true (lJ p) 0 (lJ p) true hap rfl hne hgv rfl hlk rfl hord hsame rfl (decide_eq_false c1) (decide_eq_false (by rw [hUl];exact c2)) (by simp [c3]) (by omega) (by rw [hUl];omega) (by rw [hw];omega) (by rw [ew,hUl];omega)
      (ctB p (lJ p) o (eD m p.funs.length) _ _ (by simp;omega) (by simp;omega))
     rw [ew]at hB;have hll: (eD m p.funs.length).length=p.funs.length:=yH _ _;have ht: (eD m p.funs.length)[o.toNat]?=some (eD m p.funs.length)[o.toNat] :=List.getElem?_eq_getElem (by omega);have hlg:∀u∈eC p (eD m p.funs.length) o.toNat,GoodU u:=aHZ es er hN h10;have hl10:=aMX es er hN h10 (o:=o.toNat);have hfn:∀u∈eC p (eD m p.funs.length) o.toNat,FewU u∧aMH u:=fun u hu=> ⟨(hlg u hu).few,aMV (hlg u hu)⟩
     exact aMY p o (eC p (eD m p.funs.length) o.toNat) (eD m p.funs.length) _ (by omega) ht hl10 (fun u hu=> (hlg u hu).few.n) _ (aF4 _ (by omega) hfn)
      (fun u hu e=>by
       have:=aSy es er hN h10 ht hu e;exact⟨this,aPx (by rw [this];simp)⟩)
      (fun e=>by
       have:=aSz es er hN h10 ht e;exact⟨this,aSA es er hN h10 (by omega) (by omega) this⟩)
      (fun e=>aKa _ (by omega) hfn (aQx es er hN h10) e) hk _ 0 rfl (fun j u hj=>by omega) (hA.trans hB)
   ·exact bBu p o true true true h0 rfl h1 rfl (by simp;omega) hk
end
section
variable {H :Type} {enc:TypeId×Value→H} {w:World} {spare:Nat→Bool} {held:Bool}
section
end
end
end
end Go.Hb
