/- A machine on abstract values, its soundness, ways, plain laws. -/
import Derived.Test.YtnljmgihoioocaaGreatHF
import Derived.Test.YtnljmgihoioocaaGreatHG
import Derived.Test.YtnljmgihoioocaaGreatHH
import Derived.Test.YtnljmgihoioocaaGreatHJ
import Derived.Test.YtnljmgihoioocaaGreatHK
set_option linter.defProp false
set_option linter.unusedVariables false
set_option linter.unusedSimpArgs false
set_option linter.unusedSectionVars false
set_option maxRecDepth 100000
set_option maxHeartbeats 8000000
namespace Go.Hb
open List (count_append drop length map set take)
open Go.Proofs Tryz
noncomputable section
section
variable {p :Prog} {mf mc:List (Int×Int)}
end
def sM :Nat→List (Int×Int)
 |0=>[]
 |n+1=>lH (n:Int) (n:Int) (sM n)
theorem aOu {b d:Type}[DecidableEq b](k a:b)(v:d) :∀ (l:List (b×d)),mR k (lH a v l) =if k=a then some v else mR k l
 | [] =>by simp [lH,mR]
 | e ::l=>by
  simp only [lH];split
  · rename_i h;subst h;simp only [mR];split<;>rfl
  · rename_i h;simp only [mR,aOu k a v l];by_cases c:k=e.1
    · subst c;rw [if_pos rfl,if_pos rfl,if_neg (fun e=>h e.symm)]
    ·rw [if_neg c,if_neg c]
theorem aZl :∀ (n:Nat) (i:Int),0≤i→i<n→mR i (sM n) =some i
 |0,i,a,b=>by omega
 | n+1,i,a,b=>by
  rw [sM,aOu];by_cases h:i= (n:Int)
  ·rw [if_pos h,h]
  ·rw [if_neg h];exact aZl n i a (by omega)
theorem bFo {n:Nat}{i:Int}(a:0≤i)(h1:i<n) :mAt (sM n) i=i:=by unfold mAt;rw [aZl n i a h1];rfl
theorem aVM {P:Program}{m:Nat}{s:AS}{v v':AV}{h':Hp}(h:Ends P m s (.ret v) h')(e:∀ (E:Emb) (b:Value),VR E v b→VR E v' b) :Ends P m s (.ret v') h':=fun hm E fr c w f fs r n a=>by
 obtain⟨g,k,d,o,⟨b,rfl,l⟩,j,i⟩ :=h hm E fr c w f fs r n a;exact⟨_,k,d,o,⟨b,rfl,e d b l⟩,j,i⟩
theorem vX {E:Emb}{e:Nat}{xs:List AV}{cv:Value}(h:VR E (.ilst e xs true) cv) :VR E (.ilst e xs false) cv:=by
 simp only [VR]at h ⊢;obtain⟨n,o,f,m⟩ :=h;refine⟨n,o,f,?_⟩;rcases m with⟨rfl,a,b,rfl,g,_⟩ | ⟨k,a,b,C,i,j,d,_,l⟩
 ·exact .inl ⟨rfl,a,b,rfl,g,fun c=>by cases c⟩
 ·exact .inr ⟨k,a,b,C,i,j,d,(fun c=>by cases c),l⟩
section
variable {p :Prog}
end
def pre (p:Prog) :Nat→Int→List Int
 |0,_=>[]
 | f+1,a=>match p.nodes[a.toNat]? with
  |some x=>a:: (x.kids.map (pre p f)).flatten
  |none=>[]
def aZm :List Int→Int→List Int→List Int
 |l,_,[] =>l
 |l,n,b::bs=>aZm (l.set b.toNat n) (n+1) bs
section
variable {p :Prog}
end
section
variable {p :Prog} {mf mc:List (Int×Int)} {F C:List Int} {to:List Int}
end
theorem aEp {p:Prog}(hp:aK p=true)(a:aN p=true) :FineP p:=by
 have c:=hp;simp only [aK,cF,decide_eq_true_eq]at c;obtain⟨⟨⟨⟨j,e⟩,m⟩,_⟩,l⟩ :=c;simp only [aN,cF]at a;obtain⟨_,a⟩ :=a;split at a
 · rename_i u h;unfold allT at a;split at a
   · rename_i v g;refine⟨j,e,fun i x d=>?_,fun f a=>?_⟩
     · have:=mO g i x d;have b:=zq27.1 l x (iO d);simp only [bB,cF,decide_eq_true_eq]at b;exact⟨aKQ this.1,b.1.1,fun k hk=>by have:=this.2 k hk;omega⟩
     ·have:=qO h f a;omega
   ·cases a
 ·cases a
theorem aZn {n:Nat}{i:Int}(a:0≤i)(h1:i<n) : (numsL 0 n)[i.toNat]?=some i:=by
 rw [fW 0 (by omega)];congr 1;omega
def aJd (n:Nat)(m:List (Int×Int))(l:List Int) :Prop:=∀i:Int,0≤i→i<n→l[i.toNat]?=some (mAt m i)
theorem aS4 (n:Nat) :aJd n (sM n) (numsL 0 n) :=fun i b a=>by rw [aZn b a,bFo b a]
mutual
theorem bGY (cons:List Con){mc:List (Int×Int)}{C:List Int}(hC:aJd cons.length mc C) :∀ (q:Pat),cJ cons q=true→aG4 C q=some (aM5 mc q)
 | .mk f n s e,h=>by
  rw [cJ,cF]at h;have c:=aFm cons hC e h.2;have g:aAN C f n=some (if f=6 then mAt mc n else n) :=by
   unfold aAN;by_cases a:f=6
   · subst a;have b:=h.1;simp only [dL]at b;simp [dH]at b;obtain⟨⟨⟨d,i⟩,_⟩,_⟩ :=b;rw [if_pos rfl,if_pos rfl,if_pos d,hC n d (by omega)]
   ·rw [if_neg a,if_neg a]
  rw [aG4,g];simp only;rw [c,aM5]
theorem aFm (cons:List Con){mc:List (Int×Int)}{C:List Int}(hC:aJd cons.length mc C) :∀ (a:List Pat),bY cons a=true→qP C a=some (oR mc a)
 | [],_=>rfl
 | q::a,h=>by
  rw [bY,cF]at h;rw [qP,bGY cons hC q h.1];simp only;rw [aFm cons hC a h.2,oR]
end
theorem aG9 {cons:List Con}:∀ {a:List Pat},(∀q∈a,cJ cons q=true) →bY cons a=true
 | [],_=>rfl
 | q::a,h=>by
  rw [bY,h q (dT ..),aG9 (fun x b=>h x (eD _ b))];rfl
theorem aJe {c:Nat}:∀ {ps:List Pat},(∀q∈ps,cB q≤c) →aT ps≤c*ps.length
 | [],_=>by simp [aT]
 | q::ps,h=>by
  have d:=h q (dT ..);have b:=aJe (c:=c) (ps:=ps) (fun x a=>h x (eD _ a));simp only [aT,oK];rw [Nat.mul_add,Nat.mul_one];omega
theorem aZo {p:Prog}{mf mc:List (Int×Int)}{F C:List Int}(n:aJd p.funs.length mf F)(hC:aJd p.cons.length mc C)(hB:∀i:Int,0≤i→i<p.funs.length→0≤mAt mf i∧mAt mf i≤1000000)(o:p.funs.length≤320){x:Node}(h:aM p x=true)(l:x.pats.length≤10) :
  (aT x.pats<1000000∧mN F C x.op x.n=some (bN mf mc x.op x.n) ∧qP C x.pats=some (oR mc x.pats)) ∧nOk mf x:=by
 simp only [aM,cF,dC]at h;obtain⟨⟨⟨g,_⟩,k⟩,_⟩ :=h
 have f:∀q∈x.pats,cB q≤12∧cJ p.cons q=true:=fun q f=>by
  have:=zq27.1 k q f;simpa [eQ]using this
 have m:aT x.pats≤12*x.pats.length:=aJe (fun q h=> (f q h).1)
 have d:x.op=4→ -(p.funs.length:Int) ≤x.n∧x.n≤29:=fun e=>by
  rw [e]at g;simp [bO,dH]at g;omega
 have c:x.op=14→0≤x.n∧x.n<p.cons.length:=fun e=>by
  rw [e]at g;simp [bO,dH]at g;omega
 refine⟨⟨by omega,?_,aFm p.cons hC x.pats (aG9 fun q h=> (f q h).2)⟩,by omega,fun e j=>?_⟩
 · unfold mN bN;by_cases b:x.op=4
   · have hr:=d b;by_cases j:x.n<0
     · have hb:=hB (-1-x.n) (by omega) (by omega);rw [if_pos ⟨b,j⟩,if_pos b,if_neg (by omega),n _ (by omega) (by omega)];simp only;rw [if_pos (by omega)]
     ·rw [if_neg (fun h=>j h.2),if_neg (show ¬x.op=14 by omega),if_pos b,if_pos (show 0≤x.n by omega)]
   · rw [if_neg (fun h=>b h.1),if_neg b];by_cases a:x.op=14
     · have hr:=c a;rw [if_pos a,if_pos a,if_pos hr.1,hC _ hr.1 hr.2]
     ·rw [if_neg a,if_neg a]
 · have hr:=d e;have hb:=hB (-1-x.n) (by omega) (by omega);omega
theorem aVN {p:Prog}(c:p.funs.length≤320){x:Node}(h:aM p x=true)(a:x.pats.length≤10) :
  (aT x.pats<1000000∧mN (numsL 0 p.funs.length) (numsL 0 p.cons.length) x.op x.n=some (bN (sM p.funs.length) (sM p.cons.length) x.op x.n) ∧qP (numsL 0 p.cons.length) x.pats=some (oR (sM p.cons.length) x.pats)) ∧nOk (sM p.funs.length) x:=
 aZo (aS4 _) (aS4 _) (fun i b d=>by rw [bFo b d];omega) c h a
def eV (p:Prog)(i:Int) :List Int:=match p.nodes[i.toNat]? with
 |some x=>x.kids
 |none=>[]
section
variable {p :Prog}
theorem vY {q:Int→List Int}(m:Int) :∀ (a:List Int),(∀k∈a,(q k).count m= [k].count m+ (((q k).map (eV p)).flatten).count m) →
  ((a.map q).flatten).count m=a.count m+ ((((a.map q).flatten).map (eV p)).flatten).count m
 | [],_=>rfl
 | k::a,h=>by
  have d:=h k (dT ..);have b:=vY m a (fun x c=>h x (eD _ c));rw [dJ,aED,count_append,wX,List.flatten_append,count_append,d,b,show k::a= [k] ++a from rfl,count_append];omega
theorem aDy (hp:FineP p)(m:Int) :∀ (f:Nat) (a:Int),0≤a→a<p.nodes.length→p.nodes.length-a.toNat≤f→ (pre p f a).count m= [a].count m+ (((pre p f a).map (eV p)).flatten).count m
 |0,a,h,i,g=>by omega
 | f+1,a,h,i,g=>by
  obtain⟨x,c⟩ :∃x,p.nodes[a.toNat]?=some x:= ⟨_,kH (by omega)⟩;obtain⟨_,_,b⟩ :=hp.node _ _ c;have e:pre p (f+1) a=a:: (x.kids.map (pre p f)).flatten:=by rw [pre,c]
  have d:eV p a=x.kids:=by unfold eV;rw [c]
  have j:=vY (p:=p) m x.kids (fun k hk=>by
   have:=b k hk;exact aDy hp m f k (by omega) (by omega) (by omega))
  rw [e,dJ,aED,count_append,d,show a:: (x.kids.map (pre p f)).flatten= [a] ++ (x.kids.map (pre p f)).flatten from rfl,count_append,j]
theorem aZp (hp:FineP p) :∀ (f:Nat) (a:Int),0≤a→a<p.nodes.length→∀y∈pre p f a,0≤y∧y<p.nodes.length
 |0,a,_,_,y,b=>by cases b
 | f +1,a,g,h,y,b=>by
  obtain⟨x,d⟩ :∃x,p.nodes[a.toNat]?=some x:= ⟨_,kH (by omega)⟩;obtain⟨_,_,c⟩ :=hp.node _ _ d;have e:pre p (f+1) a=a:: (x.kids.map (pre p f)).flatten:=by rw [pre,d]
  rw [e]at b;rcases zq7.1 b with rfl|b
  ·exact⟨g,h⟩
  · obtain⟨l,hl,b⟩ :=List.mem_flatten.1 b;obtain⟨k,hk,rfl⟩ :=zq24.1 hl;have:=c k hk;exact aZp hp f k (by omega) (by omega) y b
def lX (u:List Bool)(m:Int) :Nat:=if u[m.toNat]?=some true then 1 else 0
theorem jY {lo n:Int}(c:0≤lo){m:Int}(hm:0≤m) :∀ {a:List Int} {u v:List Bool},marks lo n a u=some v→a.count m+lX u m=lX v m
 | [],u,v,h=>by cases h;simp
 | k ::a,u,v,h=>by
  have hk:=qO h k (dT ..);obtain⟨f,i⟩ :=eU h;have g:=jY c hm i;rw [←g,show k::a= [k] ++a from rfl,count_append];have d:= (zq0.1 f).1;by_cases e:k=m
  · subst e;have b:lX u k=0:=by unfold lX;rw [f];rfl
    have j:lX (u.set k.toNat true) k=1:=by unfold lX;rw [List.getElem?_set_self d];rfl
    rw [b,j];simp;omega
  · have b:lX (u.set k.toNat true) m=lX u m:=by unfold lX;rw [List.getElem?_set_ne (by omega)]
    rw [b,List.count_singleton,if_neg (by simpa using e)];omega
theorem mP {m:Int}(hm:0≤m) :∀ {t:List Node} {i:Nat} {u v:List Bool},bS p i t u=some v→ ((t.map Node.kids).flatten).count m+lX u m=lX v m
 | [],i,u,v,h=>by simp only [bS,Option.some.injEq]at h;subst h;simp
 | x::t,i,u,v,h=>by
  obtain⟨_,w,b,a⟩ :=eI h;have d:=jY (by omega) hm b;have c:=mP hm a;rw [dJ,aED,count_append];omega
theorem aJf {m:Int}:∀ {t:List Node},((t.map Node.kids).flatten).count m≤1→∀ (i j:Nat) (x y:Node),t[i]?=some x→t[j]?=some y→m∈x.kids→m∈y.kids→i=j
 | [],_,i,j,x,y,a,_,_,_=>by simp at a
 | z ::t,h,i,j,x,y,a,b,d,e=>by
  rw [dJ,aED,count_append]at h;have c:∀ {i:Nat} {x:Node},t[i]?=some x→m∈x.kids→0< ((t.map Node.kids).flatten).count m:=fun {i x} a d=>
   List.count_pos_iff.2 (List.mem_flatten.2 ⟨x.kids,zq24.2 ⟨x,iO a,rfl⟩,d⟩)
  cases i with
  | zero=>
   simp only [lF,Option.some.injEq]at a;subst a;cases j with
   |zero=>rfl
   | succ j=>
    simp only [lV]at b;have:=c b e;have:=List.count_pos_iff.2 d;omega
  | succ i=>
   simp only [lV]at a;cases j with
   | zero=>
    simp only [lF,Option.some.injEq]at b;subst b;have:=c a d;have:=List.count_pos_iff.2 e;omega
   | succ j=>
    simp only [lV]at b;rw [aJf (by omega) i j x y a b d e]
theorem aS5 {m:Int}:∀ {t:List Node} {i:Nat} {x:Node},t[i]?=some x→x.kids.count m≤ ((t.map Node.kids).flatten).count m
 | [],i,x,a=>by simp at a
 | z::t,0,x,a=>by
  simp only [lF,Option.some.injEq]at a;subst a;rw [dJ,aED,count_append];omega
 | z::t,i+1,x,a=>by
  simp only [lV]at a;have:=aS5 (m:=m) a;rw [dJ,aED,count_append];omega
theorem aS6 {m i:Int}:∀ (L:List Int),(∀j∈L,m∈eV p j→j=i) → ((L.map (eV p)).flatten).count m≤L.count i* (eV p i).count m
 | [],_=>by simp
 | j ::L,h=>by
  have a:=aS6 L (fun x b=>h x (eD _ b));rw [dJ,aED,count_append,show j::L= [j] ++L from rfl,count_append,Nat.add_mul];by_cases hm:m∈eV p j
  · have:=h j (dT ..) hm;subst this;simp;exact a
  · rw [List.count_eq_zero.2 hm];exact Nat.le_trans (by simpa using a) (Nat.le_add_left ..)
theorem bJr (hp:FineP p)(hK:∀m:Int,0≤m→p.funs.count m+ ((p.nodes.map Node.kids).flatten).count m≤1){L:List Int}(k:∀x∈L,0≤x∧x<p.nodes.length)(t:∀m:Int,L.count m=p.funs.count m+ ((L.map (eV p)).flatten).count m) :∀ (b m:Nat),m≤b→L.count (m:Int) ≤1:=by
 intro b
 induction b with
 | zero=>
  intro m q;have hm:m=0:=by omega
  subst hm;have e:=t ((0:Nat) :Int);have z: ((L.map (eV p)).flatten).count ((0:Nat) :Int) =0:=by
   refine List.count_eq_zero.2 (fun h=>?_);obtain⟨l,hl,a⟩ :=List.mem_flatten.1 h;obtain⟨j,r,rfl⟩ :=zq24.1 hl;unfold eV at a;split at a
   · rename_i x c;have:= (hp.node _ _ c).2.2 _ a;omega
   ·cases a
  have:=hK ((0:Nat) :Int) (by omega);omega
 | succ b C=>
  intro m q;have e:=t (m:Int);have hk:=hK (m:Int) (by omega);by_cases hz: ((L.map (eV p)).flatten).count (m:Int) =0
  ·omega
  · have d:=List.count_pos_iff.1 (Nat.pos_of_ne_zero hz);obtain⟨l,hl,a⟩ :=List.mem_flatten.1 d;obtain⟨i,u,rfl⟩ :=zq24.1 hl;have B:=k i u;obtain⟨x,c⟩ :∃x,p.nodes[i.toNat]?=some x:= ⟨_,kH (by omega)⟩;have s:eV p i=x.kids:=by unfold eV;rw [c]
    rw [s]at a;have A:= (hp.node _ _ c).2.2 _ a;have o:L.count i≤1:=by
     have:=C i.toNat (by omega);rwa [show((i.toNat:Nat) :Int) =i by omega]at this
    have n:=aS6 (p:=p) (m:= (m:Int)) (i:=i) L (fun j r f=>by
     have v:=k j r;obtain⟨y,g⟩ :∃y,p.nodes[j.toNat]?=some y:= ⟨_,kH (by omega)⟩;have D:eV p j=y.kids:=by unfold eV;rw [g]
     rw [D]at f;have:=aJf (by omega) _ _ y x g c f a;omega)
    rw [s]at n;have w:=aS5 (m:= (m:Int)) c;have:L.count i*x.kids.count (m:Int) ≤1*x.kids.count (m:Int) :=Nat.mul_le_mul_right _ o;omega
theorem aAj :∀ (n:Nat) (l:List Nat),l.Nodup→ (∀x∈l,x<n) →l.length≤n
 |0,[],_,_=>by simp
 |0,x::l,_,h=>by have:=h x (dT ..);omega
 | n+1,l,hd,h=>by
  by_cases hm:n∈l
  · have c:=aAj n (l.erase n) (hd.erase n) (fun x a=>by
     have:=h x (List.mem_of_mem_erase a)
     have b:x≠n:=fun e=>by
      subst e;exact hd.not_mem_erase a
     omega)
    rw [List.length_erase_of_mem hm]at c;omega
  · have:=aAj n l hd (fun x a=>by
     have:=h x a;have b:x≠n:=fun e=>hm (e ▸ a);omega)
    omega
end
theorem aHa {L:List Int}(h:∀a,L.count a≤1) :L.Nodup:=List.nodup_iff_count.2 h
theorem aS7 :∀ (n:Nat) (l:List Int),(∀i:Nat,i<n→ (i:Int) ∈l) →n≤l.length
 |0,l,_=>Nat.zero_le _
 | n+1,l,h=>by
  have a:=h n (Nat.lt_succ_self n);have b:=aS7 n (l.erase (n:Int)) (fun i c=> (List.mem_erase_of_ne (by omega)).2 (h i (by omega)));rw [List.length_erase_of_mem a]at b;have:=List.length_pos_of_mem a;omega
theorem all_in {p:Prog}(hp:FineP p)(hK:∀m:Nat,m<p.nodes.length→p.funs.count (m:Int) + ((p.nodes.map Node.kids).flatten).count (m:Int) =1){L:List Int}(h:∀m:Int,L.count m=p.funs.count m+ ((L.map (eV p)).flatten).count m) :∀ (b m:Nat),m≤b→m<p.nodes.length→ (m:Int) ∈L:=by
 intro b
 induction b with
 | zero=>
  intro m g hm;have e:=h (m:Int);have hk:=hK m hm;by_cases hz: ((p.nodes.map Node.kids).flatten).count (m:Int) =0
  ·exact List.count_pos_iff.1 (by omega)
  · obtain⟨l,hl,c⟩ :=List.mem_flatten.1 (List.count_pos_iff.1 (Nat.pos_of_ne_zero hz));obtain⟨x,d,rfl⟩ :=zq24.1 hl;obtain⟨i,a⟩ :=zq38.1 d;have:= (hp.node _ _ a).2.2 _ c;omega
 | succ b j=>
  intro m g hm;have e:=h (m:Int);have hk:=hK m hm;by_cases hz: ((p.nodes.map Node.kids).flatten).count (m:Int) =0
  ·exact List.count_pos_iff.1 (by omega)
  · obtain⟨l,hl,c⟩ :=List.mem_flatten.1 (List.count_pos_iff.1 (Nat.pos_of_ne_zero hz));obtain⟨x,d,rfl⟩ :=zq24.1 hl;obtain⟨i,a⟩ :=zq38.1 d;have k:= (hp.node _ _ a).2.2 _ c;have f:=j i (by omega) (by omega);have: (m:Int) ∈ (L.map (eV p)).flatten:=List.mem_flatten.2 ⟨x.kids,zq24.2 ⟨(i:Int),f,by unfold eV;rw [oM,a]⟩,c⟩;have:=List.count_pos_iff.2 this;exact List.count_pos_iff.1 (by omega)
theorem aHb {p:Prog}(z:aK p=true)(d:aN p=true) : ((p.funs.map (pre p p.nodes.length)).flatten).Nodup∧ ((p.funs.map (pre p p.nodes.length)).flatten).length=p.nodes.length∧ (∀x∈ (p.funs.map (pre p p.nodes.length)).flatten,0≤x∧x<p.nodes.length) ∧
  (∀ (i:Nat) (x:Node),p.nodes[i]?=some x→aM p x=true) :=by
 have f:=aEp z d;simp only [aN,cF]at d;obtain⟨_,d⟩ :=d;split at d
 · rename_i u q;unfold allT at d;split at d
   · rename_i v j
     have hK:∀m:Int,0≤m→p.funs.count m+ ((p.nodes.map Node.kids).flatten).count m≤1:=fun m hm=>by
      have D:=jY (by omega) hm q;have B:=mP hm j;have A:lX v m≤1:=by unfold lX;split<;>omega
      omega
     have c:∀x∈ (p.funs.map (pre p p.nodes.length)).flatten,0≤x∧x<p.nodes.length:=fun x h=>by
      obtain⟨l,hl,r⟩ :=List.mem_flatten.1 h;obtain⟨k,hk,rfl⟩ :=zq24.1 hl;have:=f.funs k hk;exact aZp f _ k this.1 this.2 x r
     have t:∀m:Int,((p.funs.map (pre p p.nodes.length)).flatten).count m=p.funs.count m+ ((((p.funs.map (pre p p.nodes.length)).flatten).map (eV p)).flatten).count m:=fun m=>vY m p.funs (fun k hk=>by
      have:=f.funs k hk;exact aDy f m _ k this.1 this.2 (by omega))
     have hd: ((p.funs.map (pre p p.nodes.length)).flatten).Nodup:=aHa (fun a=>by
      by_cases n:a∈ (p.funs.map (pre p p.nodes.length)).flatten
      · have hr:=c a n;have:=bJr f hK c t a.toNat a.toNat (Nat.le_refl _);rwa [show((a.toNat:Nat) :Int) =a by omega]at this
      ·rw [List.count_eq_zero.2 n];omega)
     refine⟨hd,?_,c,fun i x h=> (mO j i x h).1⟩;have s: (((p.funs.map (pre p p.nodes.length)).flatten).map Int.toNat).Nodup:=by
      rw [List.nodup_iff_pairwise_ne]at hd ⊢;refine List.pairwise_map.2 (hd.imp_of_mem (fun {a b} n hb hne e=>?_));have:=c a n;have:=c b hb;exact hne (by omega)
     have:=aAj p.nodes.length _ s (fun x h=>by
      obtain⟨y,r,rfl⟩ :=zq24.1 h;have:=c y r;omega)
     rw [hJ]at this;refine Nat.le_antisymm this (aS7 _ _ (fun i w=>all_in f (fun m hm=>?_) t i i (Nat.le_refl _) w));have D:=jY (m:= (m:Int)) (by omega) (by omega) q;have B:=mP (m:= (m:Int)) (by omega) j;have o:=hY q;have C:=iM j;rw [aAs]at o;have A:lX (List.replicate p.nodes.length false) (m:Int) =0:=by
      unfold lX;rw [oM,List.getElem?_replicate,if_pos hm];rfl
     have F:lX v (m:Int) =1:=by
      unfold lX;have g:m<v.length:=by omega
      have:=zq27.1 d _ (List.getElem_mem g);rw [oM,kH g,this];rfl
     omega
   ·cases d
 ·cases d
abbrev aAk :AV:=.agg [.ilst 4 (map Node.av ([] :List Node)) true,.ilst 1 (map bU ([] :List Int)) true,.int .i64 0,.ilst 2 (map Con.av ([] :List Con)) true]
def cN (s:cA) :List Con→Int→Int
 | [],_=> -1
 |c::t,i=>if c.name=s then i else cN s t (i+1)
theorem jZ (s:cA) :∀ (l:List Con) (i:Int),0≤i→cN s l i= -1∨ (i≤cN s l i∧cN s l i<i+l.length∧∃d,l[(cN s l i-i).toNat]?=some d∧d.name=s)
 | [],i,h=>.inl rfl
 | c ::t,i,h=>by
  simp only [cN];split
  · rename_i e;exact .inr ⟨by omega,by simp;omega,c,by simp,e⟩
  · rcases jZ s t (i+1) (by omega)with g| ⟨f,j,d,a,b⟩
    ·exact .inl g
    · refine .inr ⟨by omega,by rw [oK];omega,d,?_,b⟩;rw [show(cN s t (i+1) -i).toNat= (cN s t (i+1) - (i+1)).toNat+1 by omega,lV];exact a
abbrev aS8 (a:Nat)(b:Prog):=oC a [(iN b.nodes),(iI b.funs),(nI b.main),(iC b.cons)]
abbrev aJg (a b:Int)(c:cA)(d:List Pat):AV:=.agg [(nI a),(nI b),(dP c),(iP d)]
def aLD(a:List Int)(b:Int):TS:=⟨(tf 50 26 [(0,(iI a)),(1,(iI a)),(4,(bV false)),(5,(nI b))] [kc f50 116,kl f50 116,.inBlock 0,kc f50 15]),[],[],0⟩
def aLE(a b:Int)(c:cA)(d:List Pat)(e:Int):TS:=⟨(tf 92 53 [kp 2 0,kp 3 1,(4,(bV false)),(5,(nI e))] [kc f92 116,kl f92 116,.inBlock 0,kc f92 15]),[],[oC 0 [(nI a),(nI b),(dP c),(iP d)],oC 1 [(nI a),(nI b),(dP c),(iP d)]],2⟩
def aLF(a:Node)(b:Int):TS:=⟨(tf 51 54 [kp 2 0,kp 3 1,(4,(bV false)),(5,(nI b))] [kc f51 116,kl f51 116,.inBlock 0,kc f51 15]),[],[oC 0 [(nI a.op),(nI a.n),(iI a.kids),(iP a.pats)],oC 1 [(nI a.op),(nI a.n),(iI a.kids),(iP a.pats)]],2⟩
def aLG(a:Prog)(b:Int):TS:=⟨(tf 16 75 [kp 2 0,kp 3 1,(4,(bV false)),(5,(nI b))] [kc f16 116,kl f16 116,.inBlock 0,kc f16 15]),[],[aS8 0 a,aS8 1 a],2⟩
def aLH(a:Prog)(b:Int):TS:=⟨(tf 16 75 [kp 2 0,kp 3 1,(4,(bV false)),(6,(nI b))] [kc f16 244,kl f16 244,.inBlock 2,kc f16 31]),[],[aS8 0 a,aS8 1 a],2⟩
def bDt (a:List Int):=fun b=>(tT 0 (start PP 50 [(iI a),(iI a)])<|gl 8 bU a<|gl 1 bU a<|.b 2 10 ((a.length:Int) != (a.length:Int)) .x<|.W 9 0 [] (aLD a 0))|>.f b tv
def bFp(b:List Int)(a:Int):=tT 0 (aLD b a)<|gl 5 bU b<|gd 2 14 (a< (b.length:Int)) (.y fun c:Int=>.i [rn 5,.reg (.d::.d::.ans (.idx (bU c))::rd 3 [.ans (.idx (bU c)),.d,.d])] [hA (0≤a),.a (((b)[a.toNat]?) =some c) (bP (f:=bU)),hA (0≤a),.a (((b)[a.toNat]?) =some c) (bP (f:=bU))]<|.b 0 25 (c != c) .x<|gw 6 16 (a+1)<|.W 3 0 [] (aLD b (a+1)))<|gE 7 0 (bV true)
def bDu:=fun c d e f a b g i=>bFp c d|>.t f e a b a b|>.f g i tv
def bDv:=fun a b c=>bFp a b|>.f c tv
def bDw (c d:Int)(a:cA)(b:List Pat):=fun e f g i=>(tT 0 (start PP 92 [(aJg c d a b),(aJg c d a b)])<|.b 15 11 (c != c) .x<|.b 7 18 (d != d) .x<|.b 7 25 (!(jL a.length (aF a) a.length (aF a))) .x<|gm 2 aH b<|gm 2 aH b<|.b 3 33 ((b.length:Int) != (b.length:Int)) .x<|.W 9 2 [0,1] (aLE c d a b 0))|>.f e|>.f f|>.f g|>.f i tv
def bFq(i j:Int)(k:cA)(b:List Pat)(a:Int):=tT 0 (aLE i j k b a)<|gm 6 aH b<|gd 2 38 (a< (b.length:Int)) (.y fun c:Int=>.y fun d:Int=>.y fun e:cA=>.y fun f:List Pat=>.y fun g:Bool=>.i [rn 5,.reg (rd 3 (.ans (.idx (Pat.av (Pat.mk c d e f)))::rd 4 [.ans (.idx (Pat.av (Pat.mk c d e f))),.d,.pure (bV g),.d]))] [hA (0≤a),.a (((b)[a.toNat]?) =some (Pat.mk c d e f)) (iV aH),hA (0≤a),.a (((b)[a.toNat]?) =some (Pat.mk c d e f)) (iV aH),hA (aJ PP 92 [(aJg c d e f),(aJg c d e f)] (bV g))]<|.b 0 52 (!g) .x<|gw 6 40 (a+1)<|.W 3 2 [0,1] (aLE i j k b (a+1)))<|gE 7 2 (bV true)
def bDx:=fun c d e f g i j k l m n a b o p q=>bFq c d e f g|>.t n i j k l m a b a b o|>.f p q tv
def bDy:=fun a b c d e f=>bFq a b c d e|>.f f tv
def bDz (a:Node):=fun b c d e f g=>(tT 0 (start PP 51 [(Node.av a),(Node.av a)])<|.b 15 11 (a.op != a.op) .x<|.b 7 18 (a.n != a.n) .x<|lW 4 50 [(iI a.kids),(iI a.kids)]<|fun b=>.b 3 26 (!b) .x<|gm 2 aH a.pats<|gm 2 aH a.pats<|.b 3 34 ((a.pats.length:Int) != (a.pats.length:Int)) .x<|.W 9 2 [0,1] (aLF a 0))|>.f c|>.f d b e|>.f f|>.f g tv
def bFr(b:Node)(a:Int):=tT 0 (aLF b a)<|gm 6 aH b.pats<|gd 2 39 (a< (b.pats.length:Int)) (.y fun c:Int=>.y fun d:Int=>.y fun e:cA=>.y fun f:List Pat=>.y fun g:Bool=>.i [rn 5,.reg (rd 3 (.ans (.idx (Pat.av (Pat.mk c d e f)))::rd 4 [.ans (.idx (Pat.av (Pat.mk c d e f))),.d,.pure (bV g),.d]))] [hA (0≤a),.a (((b.pats)[a.toNat]?) =some (Pat.mk c d e f)) (iV aH),hA (0≤a),.a (((b.pats)[a.toNat]?) =some (Pat.mk c d e f)) (iV aH),hA (aJ PP 92 [(aJg c d e f),(aJg c d e f)] (bV g))]<|.b 0 53 (!g) .x<|gw 6 41 (a+1)<|.W 3 2 [0,1] (aLF b (a+1)))<|gE 7 2 (bV true)
def bDA:=fun c d e f g i j k a b l m n=>bFr c d|>.t k e f g i j a b a b l|>.f m n tv
def bDB:=fun a b c=>bFr a b|>.f c tv
def bDC (a:Prog):=fun b c d e f g=>(tT 0 (start PP 16 [(Prog.av a),(Prog.av a)])<|gl 11 Node.av a.nodes<|gl 2 Node.av a.nodes<|.b 2 14 ((a.nodes.length:Int) != (a.nodes.length:Int)) .x<|lW 4 50 [(iI a.funs),(iI a.funs)]<|fun b=>.b 3 22 (!b) .x<|.b 7 29 (a.main != a.main) .x<|gl 2 Con.av a.cons<|gl 2 Con.av a.cons<|.b 3 37 ((a.cons.length:Int) != (a.cons.length:Int)) .x<|.W 9 2 [0,1] (aLG a 0))|>.f c b d|>.f e|>.f f|>.f g tv
def bFs(c:Prog)(b:Int):=tT 0 (aLG c b)<|gl 6 Con.av c.cons<|gd 2 42 (b< (c.cons.length:Int)) (.y fun a:Con=>.i [rn 5,.reg (rd 3 (.ans (.idx (Con.av a))::rd 4 [.ans (.idx (Con.av a)),.d,.d]))] [hA (0≤b),.a (((c.cons)[b.toNat]?) =some a) (bP (f:=Con.av)),hA (0≤b),.a (((c.cons)[b.toNat]?) =some a) (bP (f:=Con.av))]<|.b 0 55 (!((jL a.name.length (aF a.name) a.name.length (aF a.name)) && ((a.args==a.args) &&true))) .x<|gw 6 44 (b+1)<|.W 3 2 [0,1] (aLG c (b+1)))<|.W 9 2 [0,1] (aLH c 0)
def bDD:=fun c d e f a b g i=>bFs c d|>.t f e a b a b|>.f g i tv
def bDE:=fun a b c=>bFs a b|>.f c tv
def bFt(b:Prog)(a:Int):=tT 0 (aLH b a)<|gl 6 Node.av b.nodes<|gd 2 60 (a< (b.nodes.length:Int)) (.y fun c:Node=>.y fun d:Bool=>.i [rn 5,.reg (rd 3 (.ans (.idx (Node.av c))::rd 4 [.ans (.idx (Node.av c)),.d,.pure (bV d),.d]))] [hA (0≤a),.a (((b.nodes)[a.toNat]?) =some c) (bP (f:=Node.av)),hA (0≤a),.a (((b.nodes)[a.toNat]?) =some c) (bP (f:=Node.av)),hA (aJ PP 51 [(Node.av c),(Node.av c)] (bV d))]<|.b 0 74 (!d) .x<|gw 6 62 (a+1)<|.W 3 2 [0,1] (aLH b (a+1)))<|gE 7 2 (bV true)
def bDF:=fun c d e f g a b i j k=>bFt c d|>.t g e f a b a b i|>.f j k tv
def bDG:=fun a b c=>bFt a b|>.f c tv
theorem aHc (s:cA) :jL (length s) (aF s) (length s) (aF s) =true:=by rw [qF];simp
theorem aOv (a:List Int)(b:a.length<1000000) :∀ (t:List Int) (i:Nat),a.drop i=t→Ends PP 0 (aLD a (i:Int)).as (.ret (.bool true)) (aA [] 0)
 | [],i,h=>by
  have:=bJ h;exact bDv a i sd
 | y::t,i,h=>by
  obtain⟨f,c,e⟩ :=bE h;have d:=bDu a i y sd sd sd (by simp) sd;exact d.ends (aOv a b t (i+1) c)
theorem aOw (a:List Int)(b:a.length<1000000) :aJ PP 50 [.ilst 1 (map bU a) false,.ilst 1 (map bU a) false] (.bool true) :=
 aO aC rfl rfl ((bDt a (by simp)).ends (aOv a b a 0 rfl))
theorem aOx (f n:Int)(s:cA)(ps:List Pat)(hl:ps.length<1000000)(b:∀p∈ps,aJ PP 92 [Pat.av p,Pat.av p] (.bool true)) :∀ (t:List Pat) (i:Nat),ps.drop i=t→Ends PP 0 (aLE f n s ps (i:Int)).as (.ret (.bool true)) (aA [] 0)
 | [],i,h=>by
  have:=bJ h;exact bDy f n s ps i sd
 | .mk c d e a::t,i,h=>by
  obtain⟨g,j,l⟩ :=bE h;have k:=bDx f n s ps i c d e a true sd sd sd (b (.mk c d e a) (iO g)) rfl sd;exact k.ends (aOx f n s ps hl b t (i+1) j)
mutual
theorem aZq :∀ (q:Pat),cB q<1000000→aJ PP 92 [Pat.av q,Pat.av q] (.bool true)
 | .mk f n s a,h=>by
  simp only [cB]at h;have:=eT a;exact aO aC (by simp [AV.keylessL,mF]) rfl ((bDw f n s a (by simp) (by simp) (by rw [aHc];rfl) (by simp)).ends (aOx f n s a (by omega) (aLI a (by omega)) a 0 rfl))
theorem aLI :∀ (b:List Pat),aT b<1000000→∀p∈b,aJ PP 92 [Pat.av p,Pat.av p] (.bool true)
 | [],_,p,a=>by cases a
 | q::b,h,p,a=>by
  simp only [aT]at h;rcases zq7.1 a with e|a
  ·rw [e];exact aZq q (by omega)
  ·exact aLI b (by omega) p a
end
theorem aOy (x:Node)(hl:x.pats.length<1000000)(b:∀p∈x.pats,aJ PP 92 [Pat.av p,Pat.av p] (.bool true)) :∀ (t:List Pat) (i:Nat),x.pats.drop i=t→Ends PP 0 (aLF x (i:Int)).as (.ret (.bool true)) (aA [] 0)
 | [],i,h=>by
  have:=bJ h;exact bDB x i sd
 | .mk c d e a::t,i,h=>by
  obtain⟨f,g,k⟩ :=bE h;have j:=bDA x i c d e a true sd sd sd (b (.mk c d e a) (iO f)) rfl sd;exact j.ends (aOy x hl b t (i+1) g)
def bGZ (x:Node) :Prop:=x.kids.length<1000000∧aT x.pats<1000000
structure FitP (q:Prog) :Prop where
 nodes:q.nodes.length≤1000000
 funs:q.funs.length<1000000
 cons:q.cons.length<1000000
 node:∀x∈q.nodes,bGZ x
theorem aZr (x:Node)(h:bGZ x) :aJ PP 51 [Node.av x,Node.av x] (.bool true) :=by
 have:=eT x.pats;have b:=h.1;have a:=h.2;exact aO aC (by simp [AV.keylessL,Node.av,AV.keyless]) rfl ((bDz x true (by simp) (by simp) (aOw x.kids h.1) rfl (by simp)).ends (aOy x (by omega) (aLI x.pats h.2) x.pats 0 rfl))
theorem bFu (p:Prog)(hp:FitP p) :∀ (t:List Node) (i:Nat),p.nodes.drop i=t→Ends PP 0 (aLH p (i:Int)).as (.ret (.bool true)) (aA [] 0)
 | [],i,h=>by
  have:=bJ h;exact bDG p i sd
 | x::t,i,h=>by
  obtain⟨b,a,e⟩ :=bE h;have d:=hp.nodes;have c:=bDF p i x true sd sd sd (aZr x (hp.node x (iO b))) rfl sd;exact c.ends (bFu p hp t (i+1) a)
theorem bFv (p:Prog)(hp:FitP p) :∀ (t:List Con) (i:Nat),p.cons.drop i=t→Ends PP 0 (aLG p (i:Int)).as (.ret (.bool true)) (aA [] 0)
 | [],i,h=>by
  have:=bJ h;exact(bDE p i sd).ends (bFu p hp p.nodes 0 rfl)
 | c::t,i,h=>by
  obtain⟨f,a,e⟩ :=bE h;have d:=hp.cons;have b:=bDD p i c sd sd sd (by rw [aHc];simp) sd;exact b.ends (bFv p hp t (i+1) a)
theorem aHd (p:Prog)(hp:FitP p) :aJ PP 16 [Prog.av p,Prog.av p] (.bool true) :=
 aO aC (by simp [AV.keylessL,Prog.av,AV.keyless]) rfl ((bDC p true (by simp) (aOw p.funs hp.funs) rfl (by simp) (by simp)).ends (bFv p hp p.cons 0 rfl))
theorem aVO {f:Nat}{a:List AV}{v v':AV}(h:aJ PP f a v)(d:∀ (E:Emb) (b:Value),VR E v b→VR E v' b) :aJ PP f a v':=fun e=>by
 obtain⟨g,c,he⟩ :=h e;exact⟨g,c,aVM he d⟩
theorem bDH {E:Emb}{e:Int}{cv:Value}(h:VR E (.tup [aAk,.int .i64 e]) cv) :VR E (.tup [Prog.av ⟨[],[],0,[]⟩,.int .i64 e]) cv:=by
 simp only [VR]at h ⊢;obtain⟨w,j,g⟩ :=h;obtain⟨u,f,rfl,b,i⟩ :=g.cons_inv;simp only [aAk,VR]at b;obtain⟨q,rfl,a⟩ :=b;obtain⟨r,o,rfl,l,a⟩ :=a.cons_inv;obtain⟨v,p,rfl,k,a⟩ :=a.cons_inv;obtain⟨n,t,rfl,c,a⟩ :=a.cons_inv;obtain⟨m,s,rfl,d,a⟩ :=a.cons_inv;refine⟨_,j,VRs.cons ?_ i⟩;simp only [Prog.av,VR];exact⟨_,rfl,VRs.cons (vX l) (VRs.cons (vX k) (VRs.cons c (VRs.cons (vX d) a)))⟩
mutual
theorem aJh (mc:List (Int×Int)) :∀q:Pat,cB (aM5 mc q) =cB q
 | .mk f n t a=>by rw [aM5,cB,cB,aHe mc a]
theorem aHe (mc:List (Int×Int)) :∀a:List Pat,aT (oR mc a) =aT a
 | [] =>rfl
 |q::a=>by rw [oR,aT,aT,aJh mc q,aHe mc a]
end
structure LFun where
 name:cA
 body:Int
def LFun.av (f:LFun) :AV:=.agg [dP f.name,.int .i64 f.body]
structure LUnit where
 name:cA
 cons:List Con
 funs:List LFun
 needs:List cA
 nodes:List Node
def LUnit.av (u:LUnit) :AV:=.agg [dP u.name,.ilst 2 (map Con.av u.cons) false,.ilst 2 (map LFun.av u.funs) false,.ilst 1 (map dP u.needs) false,.ilst 4 (map Node.av u.nodes) false]
structure LPlace where
 nodes:Int
 funs:Int
def LPlace.av (p:LPlace) :AV:=.agg [.int .i64 p.nodes,.int .i64 p.funs]
theorem aRD {l:List ONode}{nn:List Node}(h:l=map Node.o nn) :map ONode.av l=map Node.av nn:=by rw [h,aKS]
abbrev aCA (a:List Int):AV:=.gl 2 1 0 a.length false
abbrev aDz (a b c:Int)(d:List Pat):AV:=.agg [(nI a),(nI b),(.gl 6 1 0 (([] :List Int) ++ [c]).length false),(iP d)]
abbrev vZ (a:Nat)(b:List ONode)(c:List Int)(d:Int)(e:List Con):=oC a [(.gl 3 4 0 b.length false),(aCA c),(nI d),(iC e)]
abbrev wA (a b:Int)(c:List Pat):AV:=.agg [(nI a),(nI b),(.gl 4 1 0 ([] :List Int).length false),(iP c)]
abbrev aDA (a b:Int)(c:List Int)(d:Int)(e:List Pat):AV:=.agg [(nI a),(nI b),(.gl 6 1 0 (c++ [d]).length false),(iP e)]
abbrev wB (a b:Int)(c:List Int)(d:List Pat):AV:=.agg [(nI a),(nI b),(.gl 4 1 0 c.length false),(iP d)]
abbrev nO (a:Nat):=oC a [(.func 119 [] [(.ptr 0 0),(.ptr 1 0)])]
abbrev aRE (a:Nat):=oC a [(.func 119 [] [(.ptr 1 0),(.ptr 2 0)])]
abbrev aRF (a:Nat):=oC a [.nils,.nils,(nI 0),.nils]
abbrev wC (a:Nat)(b:List ONode):=oL a 4 (map ONode.av b)
abbrev lE (a:List XT):AV:=.ilst 1 (XTs.av a) false
def bFw(a:List ONode)(b:List Int)(c:Int)(d:List Con)(e f:Int)(g:List XT)(i:List Pat):TS:=cO PP 119 [(.iptr [(nI e),(nI f),(lE g),(iP i)]),(.ptr 0 0),(.ptr 1 0)] [vZ 0 a b c d,nO 1,oL 2 1 (jI b),wC 3 a] 4
def aRG(d:List ONode)(a:List Int)(e:Int)(f:List Con)(g i:Int)(b:List XT)(j:List Pat)(c:List ONode):TS:=⟨(tf 119 59 [kp 1 0,kp 2 1,(4,(nI 0)),(5,(nI (d.length:Int))),(34,(lE b)),(35,(nI (b.length:Int))),(36,(nI 0))] [kc f119 244,kl f119 244,.inBlock 0,kc f119 31]),[],[vZ 0 c a e f,nO 1,oL 2 1 (jI a),wC 3 c],4⟩
def aZs(d:List ONode)(a:List Int)(e:Int)(f:List Con)(i j:Int)(b:List XT)(k:List Pat)(g:Int)(c:List ONode):TS:=⟨(tf 119 59 [kp 1 0,kp 2 1,(4,(nI 0)),(5,(nI (d.length:Int))),(8,(nI g)),(34,(lE b)),(35,(nI (b.length:Int))),(36,(nI 0))] [kc f119 15667,.inBlock 1,kc f119 1959,kl f119 244,.inBlock 0,kc f119 31]),[],[vZ 0 c a e f,nO 1,oL 2 1 (jI a),wC 3 c],4⟩
def aS9(d:List ONode)(a:List Int)(e:Int)(f:List Con)(m n:Int)(b:List XT)(o:List Pat)(g:Int)(c:List ONode)(i:Nat)(j k:Int)(l:List Pat):TS:=⟨(tf 119 59 [kp 1 0,kp 2 1,(4,(nI 0)),(5,(nI (d.length:Int))),(8,(nI g)),(34,(lE b)),(35,(nI (b.length:Int))),(36,(nI 0))] [kc f119 15667,.inBlock 1,kc f119 1959,kl f119 244,.inBlock 0,kc f119 31]),[],[vZ 0 c a e f,nO 1,oL 2 1 (jI a),(3,(.lst 4 (set (map ONode.av c) i (wA j k l))),false),oL 4 1 (jI ([] :List Int))],5⟩
def aDB(d:List ONode)(a:List Int)(e:Int)(f:List Con)(k l:Int)(b:List XT)(m:List Pat)(c:List ONode)(g:List Int)(i:Value)(j:Int):TS:=⟨(tf 119 59 [kp 1 0,kp 2 1,(4,(nI 0)),(5,(nI (d.length:Int))),(34,(lE b)),(35,(nI (b.length:Int))),(36,(nI j))] [kc f119 244,kl f119 244,.inBlock 0,kc f119 31]),[],[vZ 0 c a e f,nO 1,oL 2 1 (jI a),wC 3 c,(4,(.lstv i 1 (jI g)),true)],5⟩
def aZt(d:List ONode)(a:List Int)(e:Int)(f:List Con)(l m:Int)(b:List XT)(n:List Pat)(g:Int)(c:List ONode)(i:List Int)(j:Value)(k:Int):TS:=⟨(tf 119 59 [kp 1 0,kp 2 1,(4,(nI 0)),(5,(nI (d.length:Int))),(8,(nI g)),(34,(lE b)),(35,(nI (b.length:Int))),(36,(nI k))] [kc f119 15667,.inBlock 1,kc f119 1959,kl f119 244,.inBlock 0,kc f119 31]),[],[vZ 0 c a e f,nO 1,oL 2 1 (jI a),wC 3 c,(4,(.lstv j 1 (jI i)),true)],5⟩
def aTa(e:List ONode)(a:List Int)(f:Int)(g:List Con)(o p:Int)(b:List XT)(q:List Pat)(i:Int)(c:List ONode)(d:List Int)(j:Int)(k:Nat)(l m:Int)(n:List Pat):TS:=⟨(tf 119 59 [kp 1 0,kp 2 1,(4,(nI 0)),(5,(nI (e.length:Int))),(8,(nI i)),(34,(lE b)),(35,(nI (b.length:Int))),(36,(nI j))] [kc f119 15667,.inBlock 1,kc f119 1959,kl f119 244,.inBlock 0,kc f119 31]),[],[vZ 0 c a f g,nO 1,oL 2 1 (jI a),(3,(.lst 4 (set (map ONode.av c) k (wB l m d n))),false),oL 4 1 (jI d)],5⟩
theorem bDI (L:List ONode)(fs:List Int)(mn:Int)(cs:List Con)(j l:Int)(h:List XT)(g:List Pat)(d:Int)(f:List ONode)(ix:Nat)(c e:Int)(a:List Pat)(p:0≤ ((L.length:Nat) :Int))(h1: ((L.length:Nat) :Int) < ((f.length:Nat) :Int))(h2: ((L.length:Nat) :Int).toNat=ix)(n:ix<length f)(v:length (([] :List Int) ++ [d]) ≤1000000){m:Res}{h':Hp}(hk:∀s q r,Ends PP 3 (let u:=Value.slice s q r; (aDB L fs mn cs j l h g (set f ix (ONode.mk c e (KV.val u) a)) (([] :List Int) ++ [d]) u 1)).as m h') :
  Ends PP 3 (aS9 L fs mn cs j l h g d f ix c e a).as m h':=
 aG8 (n1:=7) (t:=fun u=> (aDB L fs mn cs j l h g (set f ix (ONode.mk c e (KV.val u) a)) (([] :List Int) ++ [d]) u 1)) (k:=3) (b:=6) (i:=ix) (o:=2) (ys:=fun u=> (map ONode.av (set f ix (ONode.mk c e (KV.val u) a)))) (ks:=[3,6]) (ps:=fun u=>[NQ (set (map ONode.av f) ix (aDz c e d a)) ix 2 6 1 (jI (([] :List Int) ++ [d])).length u (map ONode.av (set f ix (ONode.mk c e (KV.val u) a))),0≤ ((L.length:Nat) :Int),((L.length:Nat) :Int) < ((f.length:Nat) :Int),(set (map ONode.av f) ix (wA c e a))[(0+ ((L.length:Nat) :Int).toNat)]?=some (wA c e a),0+ ([] :List Int).length≤length (jI ([] :List Int)),length (([] :List Int) ++ [d]) ≤1000000,take ([] :List Int).length (drop 0 (jI ([] :List Int))) ++ (jI [d]) = (jI (([] :List Int) ++ [d])),([] :List Int).length+length (jI [d]) =length (([] :List Int) ++ [d]),0≤ ((L.length:Nat) :Int),((L.length:Nat) :Int) < ((f.length:Nat) :Int),(set (map ONode.av f) ix (wA c e a))[(0+ ((L.length:Nat) :Int).toNat)]?=some (wA c e a),kY (wA c e a) 2 [(.gl 6 1 0 (([] :List Int) ++ [d]).length false)] =some (aDz c e d a),(AV.gl 3 4 0 f.length false) = (AV.gl 3 4 0 f.length false),(AV.gl 3 4 0 f.length false) = (AV.gl 3 4 0 f.length false),(set (map ONode.av f) ix (wA c e a)).set (0+ ((L.length:Nat) :Int).toNat) (aDz c e d a) = (set (map ONode.av f) ix (aDz c e d a)),(AV.gl 3 4 0 f.length false) = (.gl 3 4 0 (set f ix (ONode.mk c e (KV.val u) a)).length false),(AV.gl 3 4 0 f.length false) = (.gl 3 4 0 (set f ix (ONode.mk c e (KV.val u) a)).length false),(AV.gl 3 4 0 f.length false) = (.gl 3 4 0 (set f ix (ONode.mk c e (KV.val u) a)).length false)]) (is:=[.reg [.d,.d,.d,.d,.d,.d,.ans (.ix),.d,.ans (.idx (wA c e a)),.d,.d,.app (jI (([] :List Int) ++ [d])) (([] :List Int) ++ [d]).length,.ans (.ix),.d,.st (wA c e a) (aDz c e d a)],.lset 3 (set (map ONode.av f) ix (aDz c e d a)),.run 1]) (is2:=fun u=>[.set 44 (.gl 3 4 0 (set f ix (ONode.mk c e (KV.val u) a)).length false),.set 47 (.gl 3 4 0 (set f ix (ONode.mk c e (KV.val u) a)).length false),.cset 0 0 (.gl 3 4 0 (set f ix (ONode.mk c e (KV.val u) a)).length false),.run 5]) (fun u=>by kernel_rfl) (fun u=>by kernel_rfl) (fun u=> ⟨(aG _ (fun _=>rfl) _),⟨(aG _ (fun _=>dI _) _),⟨(aG _ (fun _=>rfl) _),trivial⟩⟩⟩) (fun u=> ⟨(bFm [(nI c),(nI e)] [(iP a)] n (hJ ..) (by simp) rfl),p,h1,(aLC h2 n),(aKd _ _),v,(aKe _ _ _),(aKf _ _ _),p,h1,(aLC h2 n),rfl,rfl,rfl,(aZk h2),(bT (eG ..).symm),(bT (eG ..).symm),(bT (eG ..).symm)⟩) hk
theorem bDJ (L:List ONode)(fs:List Int)(mn:Int)(cs:List Con)(m n:Int)(j:List XT)(h:List Pat)(d:Int)(g:List ONode)(f:List Int)(l:Int)(ix:Nat)(c e:Int)(a:List Pat)(r:0≤ ((L.length:Nat) :Int))(h1: ((L.length:Nat) :Int) < ((g.length:Nat) :Int))(h2: ((L.length:Nat) :Int).toNat=ix)(q:ix<length g)(y:length (f++ [d]) ≤1000000)(s: (IntKind.i64.wrap (l+ (1:Int))) = (l+ (1:Int))){p:Res}{h':Hp}(hk:∀x v w,Ends PP 3 (let u:=Value.slice x v w; (aDB L fs mn cs m n j h (set g ix (ONode.mk c e (KV.val u) a)) (f++ [d]) u (l+ (1:Int)))).as p h') :
  Ends PP 3 (aTa L fs mn cs m n j h d g f l ix c e a).as p h':=
 aG8 (n1:=7) (t:=fun u=> (aDB L fs mn cs m n j h (set g ix (ONode.mk c e (KV.val u) a)) (f++ [d]) u (l+ (1:Int)))) (k:=3) (b:=6) (i:=ix) (o:=2) (ys:=fun u=> (map ONode.av (set g ix (ONode.mk c e (KV.val u) a)))) (ks:=[3,6]) (ps:=fun u=>[NQ (set (map ONode.av g) ix (aDA c e f d a)) ix 2 6 1 (jI (f++ [d])).length u (map ONode.av (set g ix (ONode.mk c e (KV.val u) a))),0≤ ((L.length:Nat) :Int),((L.length:Nat) :Int) < ((g.length:Nat) :Int),(set (map ONode.av g) ix (wB c e f a))[(0+ ((L.length:Nat) :Int).toNat)]?=some (wB c e f a),0+f.length≤length (jI f),length (f++ [d]) ≤1000000,take f.length (drop 0 (jI f)) ++ (jI [d]) = (jI (f++ [d])),f.length+length (jI [d]) =length (f++ [d]),0≤ ((L.length:Nat) :Int),((L.length:Nat) :Int) < ((g.length:Nat) :Int),(set (map ONode.av g) ix (wB c e f a))[(0+ ((L.length:Nat) :Int).toNat)]?=some (wB c e f a),kY (wB c e f a) 2 [(.gl 6 1 0 (f++ [d]).length false)] =some (aDA c e f d a),(AV.gl 3 4 0 g.length false) = (AV.gl 3 4 0 g.length false),(AV.gl 3 4 0 g.length false) = (AV.gl 3 4 0 g.length false),(set (map ONode.av g) ix (wB c e f a)).set (0+ ((L.length:Nat) :Int).toNat) (aDA c e f d a) = (set (map ONode.av g) ix (aDA c e f d a)),(AV.gl 3 4 0 g.length false) = (.gl 3 4 0 (set g ix (ONode.mk c e (KV.val u) a)).length false),(AV.gl 3 4 0 g.length false) = (.gl 3 4 0 (set g ix (ONode.mk c e (KV.val u) a)).length false),(AV.gl 3 4 0 g.length false) = (.gl 3 4 0 (set g ix (ONode.mk c e (KV.val u) a)).length false),(nI (IntKind.i64.wrap (l+ (1:Int)))) = (nI (l+ (1:Int)))]) (is:=[.reg [.d,.d,.d,.d,.d,.d,.ans (.ix),.d,.ans (.idx (wB c e f a)),.d,.d,.app (jI (f++ [d])) (f++ [d]).length,.ans (.ix),.d,.st (wB c e f a) (aDA c e f d a)],.lset 3 (set (map ONode.av g) ix (aDA c e f d a)),.run 1]) (is2:=fun u=>[.set 44 (.gl 3 4 0 (set g ix (ONode.mk c e (KV.val u) a)).length false),.set 47 (.gl 3 4 0 (set g ix (ONode.mk c e (KV.val u) a)).length false),.cset 0 0 (.gl 3 4 0 (set g ix (ONode.mk c e (KV.val u) a)).length false),.run 2,.set 57 (nI (l+ (1:Int))),.run 3]) (fun u=>by kernel_rfl) (fun u=>by kernel_rfl) (fun u=> ⟨(aG _ (fun _=>rfl) _),⟨(aG _ (fun _=>dI _) _),⟨(aG _ (fun _=>rfl) _),trivial⟩⟩⟩) (fun u=> ⟨(bFm [(nI c),(nI e)] [(iP a)] q (hJ ..) (by simp) rfl),r,h1,(aLC h2 q),(aKd _ _),y,(aKe _ _ _),(aKf _ _ _),r,h1,(aLC h2 q),rfl,rfl,rfl,(aZk h2),(bT (eG ..).symm),(bT (eG ..).symm),(bT (eG ..).symm),(congrArg (AV.int .i64) s)⟩) hk
def bIp(a:List XT)(b:Int)(c:List Con):TS:=cO PP 76 [(.iptr [(lE a),(nI b),(iC c)])] [] 0
def aLJ(a:List XT)(d:Int)(g e:List Con)(f:Int)(b:List ONode)(c:List Int):TS:=⟨(tf 76 39 [kp 2 0,kp 3 1,kp 4 2,(22,(lE a)),(23,(nI (a.length:Int))),(24,(nI f))] [kc f76 500,kl f76 500,.inBlock 0,kc f76 63]),[],[aRF 0,oC 1 [(.gl 3 4 0 b.length false),(.gl 4 1 0 c.length false),(nI d),(iC e)],aRE 2,wC 3 b,oL 4 1 (jI c)],5⟩
def bDK (a:List ONode)(g:List Int)(i:Int)(j:List Con)(b c:Int)(e:List XT)(f:List Pat):=fun d k l=>(tT 3 (bFw a g i j b c e f)<|.y fun d:List Pat=>.i [rn 12,.reg (rd 14 [.pure (iP d),.d,.d,.app (map ONode.av (a++ [(ONode.mk b c KV.nil d)])) (a++ [(ONode.mk b c KV.nil d)]).length,.d,.d])] [hA (aJ PP 120 [(iP f)] (iP d)),hb ONode.av a,hA (length (a++ [(ONode.mk b c KV.nil d)]) ≤1000000),hc ONode.av a [(ONode.mk b c KV.nil d)],he ONode.av a [(ONode.mk b c KV.nil d)],hr (nI c),hr (nI c),hr (nI b),hr (nI b),hr (AV.gl 3 4 0 a.length false),hr (AV.gl 3 4 0 a.length false)]<|.i [rn 7,aL e] [.q (p:=((XTs.av e).length:Int) = (e.length:Int)) (kM dA _)]<|.W 4 6 [5] (aRG a g i j b c e f (a++ [(ONode.mk b c KV.nil d)]))) d k l ⟨kk,⟨(aG _ (fun _=>dI _) _),trivial⟩⟩
def aZu(c:List ONode)(d:List Int)(e:Int)(f:List Con)(j k:Int)(g:List XT)(l:List Pat)(b:List ONode):=tT 3 (aRG c d e f j k g l b)<|gd 5 37 (0< (g.length:Int)) (.y fun m:Int=>.y fun n:Int=>.y fun o:List XT=>.y fun p:List Pat=>giF dA 6 g 0 (XT.mk m n o p)<|.y fun i:List Node=>gk 7 (.enter 119 [(.iptr [(nI m),(nI n),(lE o),(iP p)]),(.ptr 0 0),(.ptr 1 0)]) [vZ 0 b d e f,nO 1,oL 2 1 (jI d),wC 3 b] 4 (nI (b.length:Int)) [oC 0 [(.gl 4 4 0 (b++map Node.o i).length false),(aCA d),(nI e),(iC f)],nO 1,oL 2 1 (jI d),oL 4 4 (map ONode.av (b++map Node.o i))] 5<|.W 2 5 [4] (aZs c d e f j k g l (b.length:Int) (b++map Node.o i)))<|.y fun a:ONode=>.i [rn 8,.lw 3 (map ONode.av (set b c.length (ONode.mk a.op a.n (KV.row []) a.pats)))] [.a (b[c.length]?=some a) (p':=(map ONode.av b) ≠ []) aKU,.a (b[c.length]?=some a∧a.kv=KV.nil) (p':=VW (map ONode.av b) (map ONode.av (set b c.length (ONode.mk a.op a.n (KV.row []) a.pats)))) fun⟨ha,hb⟩=>(aXM ha hb)]<|.i [.cset 0 0 (.gl 3 4 0 (set b c.length (ONode.mk a.op a.n (KV.row []) a.pats)).length false)] [.q (p:=(AV.gl 3 4 0 b.length false) = (.gl 3 4 0 (set b c.length (ONode.mk a.op a.n (KV.row []) a.pats)).length false)) (bT (eG ..).symm)]<|.E 0 4 [3] (nI (c.length:Int)) [oC 0 [(.gl 3 4 0 (set b c.length (ONode.mk a.op a.n (KV.row []) a.pats)).length false),(aCA d),(nI e),(iC f)],nO 1,oL 2 1 (jI d),oL 3 4 (map ONode.av (set b c.length (ONode.mk a.op a.n (KV.row []) a.pats)))] 4
def bDL:=fun a b c d e f g i j k l m n o p q r s=>aZu a b c d e f g i j|>.t p k l m n q r o s ⟨kk,⟨(aG _ (fun _=>dI _) _),trivial⟩⟩
def bDM:=fun b c d e f g i j k l m a n=>aZu b c d e f g i j k|>.f m l a ⟨a,n⟩ ⟨kk,⟨(aG _ (fun _=>dI _) _),trivial⟩⟩
def aZv(d:List ONode)(e:List Int)(g:Int)(i:List Con)(m n:Int)(j:List XT)(o:List Pat)(b:List ONode)(c:List Int)(f:Value)(k:Int):=tT 3 (aDB d e g i m n j o b c f k)<|gd 5 37 (k< (j.length:Int)) (.y fun p:Int=>.y fun q:Int=>.y fun r:List XT=>.y fun s:List Pat=>giF dA 6 j k (XT.mk p q r s)<|.y fun l:List Node=>gk 7 (.enter 119 [(.iptr [(nI p),(nI q),(lE r),(iP s)]),(.ptr 0 0),(.ptr 1 0)]) [vZ 0 b e g i,nO 1,oL 2 1 (jI e),wC 3 b,(4,(.lstv f 1 (jI c)),true)] 5 (nI (b.length:Int)) [oC 0 [(.gl 5 4 0 (b++map Node.o l).length false),(aCA e),(nI g),(iC i)],nO 1,oL 2 1 (jI e),(4,(.lstv f 1 (jI c)),true),oL 5 4 (map ONode.av (b++map Node.o l))] 6<|.W 2 6 [5,4] (aZt d e g i m n j o (b.length:Int) (b++map Node.o l) c f k))<|.y fun a:ONode=>.i [rn 8,.vfrz 4 3 (map ONode.av (set b d.length (ONode.mk a.op a.n (KV.row c) a.pats)))] [.a (b[d.length]?=some a) (p':=(map ONode.av b) ≠ []) aKU,hk bU c,.a (b[d.length]?=some a∧a.kv=KV.val f) (p':=VQ f 1 (jI c) (map ONode.av b) (map ONode.av (set b d.length (ONode.mk a.op a.n (KV.row c) a.pats)))) fun⟨ha,hb⟩=>(aXN ha hb)]<|.i [.cset 0 0 (.gl 3 4 0 (set b d.length (ONode.mk a.op a.n (KV.row c) a.pats)).length false)] [.q (p:=(AV.gl 3 4 0 b.length false) = (.gl 3 4 0 (set b d.length (ONode.mk a.op a.n (KV.row c) a.pats)).length false)) (bT (eG ..).symm)]<|.E 0 5 [3] (nI (d.length:Int)) [oC 0 [(.gl 3 4 0 (set b d.length (ONode.mk a.op a.n (KV.row c) a.pats)).length false),(aCA e),(nI g),(iC i)],nO 1,oL 2 1 (jI e),oL 3 4 (map ONode.av (set b d.length (ONode.mk a.op a.n (KV.row c) a.pats)))] 4
def bDN:=fun a b c d e f g i j k l m n o p q r s t u v=>aZv a b c d e f g i j k l m|>.t s n o p q t u r v ⟨kk,⟨(aG _ (fun _=>dI _) _),⟨kk,trivial⟩⟩⟩
def bDO:=fun b c d e f g i j k l m n o p a q=>aZv b c d e f g i j k l m n|>.f p o a ⟨a,q⟩ ⟨kk,⟨(aG _ (fun _=>dI _) _),trivial⟩⟩
def bDP (a:List XT)(c:Int)(d:List Con):=fun b e=>(tT 0 (bIp a c d)<|.y fun b:List Con=>.i [rn 5,.reg (rd 8 (.pure (iC b)::rd 3 []))] [hA (aJ PP 90 [(iC d)] (iC b)),hr (nI c),hr (nI c)]<|.i [rn 16,aL a] [.q (p:=((XTs.av a).length:Int) = (a.length:Int)) (kM dA _)]<|.i [rn 4,.cnil 1 0 4] []<|gu 0 3 (map ONode.av ([] :List ONode))<|gv 0 1 0 (.gl 3 4 0 ([] :List ONode).length false)<|.i [.cnil 1 1 1] []<|gu 0 4 (jI ([] :List Int))<|gv 0 1 1 (.gl 4 1 0 ([] :List Int).length false)<|.W 0 5 [0,1,2,3,4] (aLJ a c d b 0 ([] :List ONode) ([] :List Int))) b e ⟨(aG _ (fun _=>dI _) _),⟨kk,trivial⟩⟩
def aZw(g:List XT)(d:Int)(j e:List Con)(f:Int)(a:List ONode)(b:List Int):=tT 0 (aLJ g d j e f a b)<|gd 5 25 (f< (g.length:Int)) (.y fun k:Int=>.y fun l:Int=>.y fun m:List XT=>.y fun n:List Pat=>giF dA 6 g f (XT.mk k l m n)<|.y fun i:List Node=>gk 7 (.enter 119 [(.iptr [(nI k),(nI l),(lE m),(iP n)]),(.ptr 1 0),(.ptr 2 0)]) [aRF 0,oC 1 [(.gl 3 4 0 a.length false),(.gl 4 1 0 b.length false),(nI d),(iC e)],aRE 2,wC 3 a,oL 4 1 (jI b)] 5 (nI (a.length:Int)) [aRF 0,oC 1 [(.gl 5 4 0 (a++map Node.o i).length false),(.gl 4 1 0 b.length false),(nI d),(iC e)],aRE 2,oL 4 1 (jI b),oL 5 4 (map ONode.av (a++map Node.o i))] 6<|ga 7 bU b [(a.length:Int)]<|gw 6 37 (f+1)<|.W 3 8 [0,1,2,5,7] (aLJ g d j e (f+1) (a++map Node.o i) (b++ [(a.length:Int)])))<|.y fun c:List Node=>.i [rn 3,.lset 3 (jN c)] [.a (a=map Node.o c) (p':=(map ONode.av a) = (jN c)) aRD]<|.i [.cset 1 0 (.gl 3 4 0 c.length false)] [.a (c.length=a.length) (p':=(AV.gl 3 4 0 a.length false) = (.gl 3 4 0 c.length false)) (fun h=>(bT h.symm))]<|gy 0 1 0 3 4 Node.av c false<|gy 0 1 1 4 1 bU b false<|gE 5 5 (.agg [(iN c),(iI b),(nI d),(iC e)])
def bDQ:=fun a b c d e f g i j k l m n o p q r s=>aZw a b c d e f g|>.t n i j k l o p m q r s ⟨(aG _ (fun _=>dI _) _),⟨kk,trivial⟩⟩
def bDR:=fun a b c d e f g i j k l=>aZw a b c d e f g|>.f j i k l tv
end
end Go.Hb
