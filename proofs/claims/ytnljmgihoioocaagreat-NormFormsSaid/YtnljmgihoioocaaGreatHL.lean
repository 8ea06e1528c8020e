/- A machine on abstract values, its soundness, ways, plain laws. -/
import Derived.Test.YtnljmgihoioocaaGreatHF
import Derived.Test.YtnljmgihoioocaaGreatHG
import Derived.Test.YtnljmgihoioocaaGreatHH
import Derived.Test.YtnljmgihoioocaaGreatHJ
import Derived.Test.YtnljmgihoioocaaGreatHK
set_option linter.defProp false
set_option linter.unusedVariables false
set_option linter.unusedSimpArgs false
set_option linter.unusedSectionVars false
set_option maxRecDepth 100000
set_option maxHeartbeats 8000000
namespace Go.Hb
open List (count_append drop length map set take)
open Go.Proofs Tryz
noncomputable section
section
variable {p :Prog} {mf mc:List (Int×Int)}
end
section
variable {p :Prog}
end
def pre (p:Prog) :Nat→Int→List Int
 |0,_=>[]
 | f+1,a=>match p.nodes[a.toNat]? with
  |some x=>a:: (x.kids.map (pre p f)).flatten
  |none=>[]
section
variable {p :Prog}
end
section
variable {p :Prog} {mf mc:List (Int×Int)} {F C:List Int} {to:List Int}
end
theorem aNu {p:Prog}(hp:aJ p=true)(a:aM p=true) :FineP p:=by
 have c:=hp;simp only [aJ,dS,decide_eq_true_eq]at c;obtain⟨⟨⟨⟨e,l⟩,m⟩,_⟩,g⟩ :=c;simp only [aM,dS]at a;obtain⟨_,a⟩ :=a;split at a
 · rename_i u j;unfold allT at a;split at a
   · rename_i v h;refine⟨e,l,fun i x d=>?_,fun f a=>?_⟩
     · have:=mJ h i x d;have b:=zq27.1 g x (jQ d);simp only [bO,dS,decide_eq_true_eq]at b;exact⟨aRS this.1,b.1.1,fun k hk=>by have:=this.2 k hk;omega⟩
     ·have:=qG j f a;omega
   ·cases a
 ·cases a
def gG (p:Prog)(i:Int) :List Int:=match p.nodes[i.toNat]? with
 |some x=>x.kids
 |none=>[]
section
variable {p :Prog}
theorem aBa {q:Int→List Int}(m:Int) :∀ (a:List Int),(∀k∈a,(q k).count m= [k].count m+ (((q k).map (gG p)).flatten).count m) →
  ((a.map q).flatten).count m=a.count m+ ((((a.map q).flatten).map (gG p)).flatten).count m
 | [],_=>rfl
 | k::a,h=>by
  have c:=h k (cQ ..);have d:=aBa m a (fun x b=>h x (cL _ b));rw [eU,aLg,count_append,aIx,List.flatten_append,count_append,c,d,show k::a= [k] ++a from rfl,count_append];omega
theorem aIh (hp:FineP p)(m:Int) :∀ (f:Nat) (a:Int),0≤a→a<p.nodes.length→p.nodes.length-a.toNat≤f→ (pre p f a).count m= [a].count m+ (((pre p f a).map (gG p)).flatten).count m
 |0,a,h,g,j=>by omega
 | f+1,a,h,g,j=>by
  obtain⟨x,c⟩ :∃x,p.nodes[a.toNat]?=some x:= ⟨_,kX (by omega)⟩;obtain⟨_,_,b⟩ :=hp.node _ _ c;have e:pre p (f+1) a=a:: (x.kids.map (pre p f)).flatten:=by rw [pre,c]
  have d:gG p a=x.kids:=by unfold gG;rw [c]
  have i:=aBa (p:=p) m x.kids (fun k hk=>by
   have:=b k hk;exact aIh hp m f k (by omega) (by omega) (by omega))
  rw [e,eU,aLg,count_append,d,show a:: (x.kids.map (pre p f)).flatten= [a] ++ (x.kids.map (pre p f)).flatten from rfl,count_append,i]
theorem aYx (hp:FineP p) :∀ (f:Nat) (a:Int),0≤a→a<p.nodes.length→∀y∈pre p f a,0≤y∧y<p.nodes.length
 |0,a,_,_,y,b=>by cases b
 | f +1,a,g,h,y,b=>by
  obtain⟨x,d⟩ :∃x,p.nodes[a.toNat]?=some x:= ⟨_,kX (by omega)⟩;obtain⟨_,_,c⟩ :=hp.node _ _ d;have e:pre p (f+1) a=a:: (x.kids.map (pre p f)).flatten:=by rw [pre,d]
  rw [e]at b;rcases zq7.1 b with rfl|b
  ·exact⟨g,h⟩
  · obtain⟨l,hl,b⟩ :=List.mem_flatten.1 b;obtain⟨k,hk,rfl⟩ :=zq24.1 hl;have:=c k hk;exact aYx hp f k (by omega) (by omega) y b
def yE (u:List Bool)(m:Int) :Nat:=if u[m.toNat]?=some true then 1 else 0
theorem rK {lo n:Int}(b:0≤lo){m:Int}(hm:0≤m) :∀ {a:List Int} {u v:List Bool},marks lo n a u=some v→a.count m+yE u m=yE v m
 | [],u,v,h=>by cases h;simp
 | k ::a,u,v,h=>by
  have hk:=qG h k (cQ ..);obtain⟨f,j⟩ :=lD h;have i:=rK b hm j;rw [←i,show k::a= [k] ++a from rfl,count_append];have c:= (zq0.1 f).1;by_cases e:k=m
  · subst e;have d:yE u k=0:=by unfold yE;rw [f];rfl
    have g:yE (u.set k.toNat true) k=1:=by unfold yE;rw [List.getElem?_set_self c];rfl
    rw [d,g];simp;omega
  · have d:yE (u.set k.toNat true) m=yE u m:=by unfold yE;rw [List.getElem?_set_ne (by omega)]
    rw [d,List.count_singleton,if_neg (by simpa using e)];omega
theorem qI {m:Int}(hm:0≤m) :∀ {t:List Node} {i:Nat} {u v:List Bool},cC p i t u=some v→ ((t.map Node.kids).flatten).count m+yE u m=yE v m
 | [],i,u,v,h=>by simp only [cC,Option.some.injEq]at h;subst h;simp
 | x::t,i,u,v,h=>by
  obtain⟨_,w,b,a⟩ :=gC h;have c:=rK (by omega) hm b;have d:=qI hm a;rw [eU,aLg,count_append];omega
theorem aIi {m:Int}:∀ {t:List Node},((t.map Node.kids).flatten).count m≤1→∀ (i j:Nat) (x y:Node),t[i]?=some x→t[j]?=some y→m∈x.kids→m∈y.kids→i=j
 | [],_,i,j,x,y,a,_,_,_=>by simp at a
 | z ::t,h,i,j,x,y,a,b,c,e=>by
  rw [eU,aLg,count_append]at h;have d:∀ {i:Nat} {x:Node},t[i]?=some x→m∈x.kids→0< ((t.map Node.kids).flatten).count m:=fun {i x} a c=>
   List.count_pos_iff.2 (List.mem_flatten.2 ⟨x.kids,zq24.2 ⟨x,jQ a,rfl⟩,c⟩)
  cases i with
  | zero=>
   simp only [mM,Option.some.injEq]at a;subst a;cases j with
   |zero=>rfl
   | succ j=>
    simp only [rR]at b;have:=d b e;have:=List.count_pos_iff.2 c;omega
  | succ i=>
   simp only [rR]at a;cases j with
   | zero=>
    simp only [mM,Option.some.injEq]at b;subst b;have:=d a c;have:=List.count_pos_iff.2 e;omega
   | succ j=>
    simp only [rR]at b;rw [aIi (by omega) i j x y a b c e]
theorem aSl {m:Int}:∀ {t:List Node} {i:Nat} {x:Node},t[i]?=some x→x.kids.count m≤ ((t.map Node.kids).flatten).count m
 | [],i,x,a=>by simp at a
 | z::t,0,x,a=>by
  simp only [mM,Option.some.injEq]at a;subst a;rw [eU,aLg,count_append];omega
 | z::t,i+1,x,a=>by
  simp only [rR]at a;have:=aSl (m:=m) a;rw [eU,aLg,count_append];omega
theorem aSm {m i:Int}:∀ (L:List Int),(∀j∈L,m∈gG p j→j=i) → ((L.map (gG p)).flatten).count m≤L.count i* (gG p i).count m
 | [],_=>by simp
 | j ::L,h=>by
  have a:=aSm L (fun x b=>h x (cL _ b));rw [eU,aLg,count_append,show j::L= [j] ++L from rfl,count_append,Nat.add_mul];by_cases hm:m∈gG p j
  · have:=h j (cQ ..) hm;subst this;simp;exact a
  · rw [List.count_eq_zero.2 hm];exact Nat.le_trans (by simpa using a) (Nat.le_add_left ..)
theorem bJi (hp:FineP p)(hK:∀m:Int,0≤m→p.funs.count m+ ((p.nodes.map Node.kids).flatten).count m≤1){L:List Int}(d:∀x∈L,0≤x∧x<p.nodes.length)(r:∀m:Int,L.count m=p.funs.count m+ ((L.map (gG p)).flatten).count m) :∀ (b m:Nat),m≤b→L.count (m:Int) ≤1:=by
 intro b
 induction b with
 | zero=>
  intro m o;have hm:m=0:=by omega
  subst hm;have e:=r ((0:Nat) :Int);have z: ((L.map (gG p)).flatten).count ((0:Nat) :Int) =0:=by
   refine List.count_eq_zero.2 (fun h=>?_);obtain⟨l,hl,a⟩ :=List.mem_flatten.1 h;obtain⟨j,t,rfl⟩ :=zq24.1 hl;unfold gG at a;split at a
   · rename_i x c;have:= (hp.node _ _ c).2.2 _ a;omega
   ·cases a
  have:=hK ((0:Nat) :Int) (by omega);omega
 | succ b B=>
  intro m o;have e:=r (m:Int);have hk:=hK (m:Int) (by omega);by_cases hz: ((L.map (gG p)).flatten).count (m:Int) =0
  ·omega
  · have k:=List.count_pos_iff.1 (Nat.pos_of_ne_zero hz);obtain⟨l,hl,a⟩ :=List.mem_flatten.1 k;obtain⟨i,D,rfl⟩ :=zq24.1 hl;have v:=d i D;obtain⟨x,c⟩ :∃x,p.nodes[i.toNat]?=some x:= ⟨_,kX (by omega)⟩;have s:gG p i=x.kids:=by unfold gG;rw [c]
    rw [s]at a;have A:= (hp.node _ _ c).2.2 _ a;have q:L.count i≤1:=by
     have:=B i.toNat (by omega);rwa [show((i.toNat:Nat) :Int) =i by omega]at this
    have n:=aSm (p:=p) (m:= (m:Int)) (i:=i) L (fun j t f=>by
     have w:=d j t;obtain⟨y,g⟩ :∃y,p.nodes[j.toNat]?=some y:= ⟨_,kX (by omega)⟩;have u:gG p j=y.kids:=by unfold gG;rw [g]
     rw [u]at f;have:=aIi (by omega) _ _ y x g c f a;omega)
    rw [s]at n;have C:=aSl (m:= (m:Int)) c;have:L.count i*x.kids.count (m:Int) ≤1*x.kids.count (m:Int) :=Nat.mul_le_mul_right _ q;omega
theorem aDa :∀ (n:Nat) (l:List Nat),l.Nodup→ (∀x∈l,x<n) →l.length≤n
 |0,[],_,_=>by simp
 |0,x::l,_,h=>by have:=h x (cQ ..);omega
 | n+1,l,c,h=>by
  by_cases hm:n∈l
  · have d:=aDa n (l.erase n) (c.erase n) (fun x a=>by
     have:=h x (List.mem_of_mem_erase a)
     have b:x≠n:=fun e=>by
      subst e;exact c.not_mem_erase a
     omega)
    rw [List.length_erase_of_mem hm]at d;omega
  · have:=aDa n l c (fun x a=>by
     have:=h x a;have b:x≠n:=fun e=>hm (e ▸ a);omega)
    omega
end
theorem aGs {L:List Int}(h:∀a,L.count a≤1) :L.Nodup:=List.nodup_iff_count.2 h
theorem aSn :∀ (n:Nat) (l:List Int),(∀i:Nat,i<n→ (i:Int) ∈l) →n≤l.length
 |0,l,_=>Nat.zero_le _
 | n+1,l,h=>by
  have a:=h n (Nat.lt_succ_self n);have b:=aSn n (l.erase (n:Int)) (fun i c=> (List.mem_erase_of_ne (by omega)).2 (h i (by omega)));rw [List.length_erase_of_mem a]at b;have:=List.length_pos_of_mem a;omega
theorem all_in {p:Prog}(hp:FineP p)(hK:∀m:Nat,m<p.nodes.length→p.funs.count (m:Int) + ((p.nodes.map Node.kids).flatten).count (m:Int) =1){L:List Int}(h:∀m:Int,L.count m=p.funs.count m+ ((L.map (gG p)).flatten).count m) :∀ (b m:Nat),m≤b→m<p.nodes.length→ (m:Int) ∈L:=by
 intro b
 induction b with
 | zero=>
  intro m d hm;have e:=h (m:Int);have hk:=hK m hm;by_cases hz: ((p.nodes.map Node.kids).flatten).count (m:Int) =0
  ·exact List.count_pos_iff.1 (by omega)
  · obtain⟨l,hl,c⟩ :=List.mem_flatten.1 (List.count_pos_iff.1 (Nat.pos_of_ne_zero hz));obtain⟨x,g,rfl⟩ :=zq24.1 hl;obtain⟨i,a⟩ :=zq38.1 g;have:= (hp.node _ _ a).2.2 _ c;omega
 | succ b k=>
  intro m d hm;have e:=h (m:Int);have hk:=hK m hm;by_cases hz: ((p.nodes.map Node.kids).flatten).count (m:Int) =0
  ·exact List.count_pos_iff.1 (by omega)
  · obtain⟨l,hl,c⟩ :=List.mem_flatten.1 (List.count_pos_iff.1 (Nat.pos_of_ne_zero hz));obtain⟨x,g,rfl⟩ :=zq24.1 hl;obtain⟨i,a⟩ :=zq38.1 g;have j:= (hp.node _ _ a).2.2 _ c;have f:=k i (by omega) (by omega);have: (m:Int) ∈ (L.map (gG p)).flatten:=List.mem_flatten.2 ⟨x.kids,zq24.2 ⟨(i:Int),f,by unfold gG;rw [tI,a]⟩,c⟩;have:=List.count_pos_iff.2 this;exact List.count_pos_iff.1 (by omega)
theorem aQU {p:Prog}(z:aJ p=true)(d:aM p=true) : ((p.funs.map (pre p p.nodes.length)).flatten).Nodup∧ ((p.funs.map (pre p p.nodes.length)).flatten).length=p.nodes.length∧ (∀x∈ (p.funs.map (pre p p.nodes.length)).flatten,0≤x∧x<p.nodes.length) ∧
  (∀ (i:Nat) (x:Node),p.nodes[i]?=some x→bG p x=true) :=by
 have f:=aNu z d;simp only [aM,dS]at d;obtain⟨_,d⟩ :=d;split at d
 · rename_i u s;unfold allT at d;split at d
   · rename_i v j
     have hK:∀m:Int,0≤m→p.funs.count m+ ((p.nodes.map Node.kids).flatten).count m≤1:=fun m hm=>by
      have A:=rK (by omega) hm s;have D:=qI hm j;have C:yE v m≤1:=by unfold yE;split<;>omega
      omega
     have c:∀x∈ (p.funs.map (pre p p.nodes.length)).flatten,0≤x∧x<p.nodes.length:=fun x h=>by
      obtain⟨l,hl,t⟩ :=List.mem_flatten.1 h;obtain⟨k,hk,rfl⟩ :=zq24.1 hl;have:=f.funs k hk;exact aYx f _ k this.1 this.2 x t
     have w:∀m:Int,((p.funs.map (pre p p.nodes.length)).flatten).count m=p.funs.count m+ ((((p.funs.map (pre p p.nodes.length)).flatten).map (gG p)).flatten).count m:=fun m=>aBa m p.funs (fun k hk=>by
      have:=f.funs k hk;exact aIh f m _ k this.1 this.2 (by omega))
     have q: ((p.funs.map (pre p p.nodes.length)).flatten).Nodup:=aGs (fun a=>by
      by_cases n:a∈ (p.funs.map (pre p p.nodes.length)).flatten
      · have hr:=c a n;have:=bJi f hK c w a.toNat a.toNat (Nat.le_refl _);rwa [show((a.toNat:Nat) :Int) =a by omega]at this
      ·rw [List.count_eq_zero.2 n];omega)
     refine⟨q,?_,c,fun i x h=> (mJ j i x h).1⟩;have o: (((p.funs.map (pre p p.nodes.length)).flatten).map Int.toNat).Nodup:=by
      rw [List.nodup_iff_pairwise_ne]at q ⊢;refine List.pairwise_map.2 (q.imp_of_mem (fun {a b} n hb hne e=>?_));have:=c a n;have:=c b hb;exact hne (by omega)
     have:=aDa p.nodes.length _ o (fun x h=>by
      obtain⟨y,t,rfl⟩ :=zq24.1 h;have:=c y t;omega)
     rw [mR]at this;refine Nat.le_antisymm this (aSn _ _ (fun i B=>all_in f (fun m hm=>?_) w i i (Nat.le_refl _) B));have A:=rK (m:= (m:Int)) (by omega) (by omega) s;have D:=qI (m:= (m:Int)) (by omega) j;have r:=nD s;have F:=pG j;rw [aLh]at r;have C:yE (List.replicate p.nodes.length false) (m:Int) =0:=by
      unfold yE;rw [tI,List.getElem?_replicate,if_pos hm];rfl
     have G:yE v (m:Int) =1:=by
      unfold yE;have g:m<v.length:=by omega
      have:=zq27.1 d _ (List.getElem_mem g);rw [tI,kX g,this];rfl
     omega
   ·cases d
 ·cases d
abbrev aSo (a:Nat)(b:Prog):=oC a [(iN b.nodes),(iI b.funs),(nI b.main),(iC b.cons)]
abbrev aIj (a b:Int)(c:cF)(d:List Pat):AV:=.agg [(nI a),(nI b),(dP c),(iP d)]
def aKF(a:List Int)(b:Int):TS:=⟨(tf 50 26 [(0,(iI a)),(1,(iI a)),(4,(bV false)),(5,(nI b))] [kc f50 116,kl f50 116,.inBlock 0,kc f50 15]),[],[],0⟩
def aKG(a b:Int)(c:cF)(d:List Pat)(e:Int):TS:=⟨(tf 92 53 [kp 2 0,kp 3 1,(4,(bV false)),(5,(nI e))] [kc f92 116,kl f92 116,.inBlock 0,kc f92 15]),[],[oC 0 [(nI a),(nI b),(dP c),(iP d)],oC 1 [(nI a),(nI b),(dP c),(iP d)]],2⟩
def aKH(a:Node)(b:Int):TS:=⟨(tf 51 54 [kp 2 0,kp 3 1,(4,(bV false)),(5,(nI b))] [kc f51 116,kl f51 116,.inBlock 0,kc f51 15]),[],[oC 0 [(nI a.op),(nI a.n),(iI a.kids),(iP a.pats)],oC 1 [(nI a.op),(nI a.n),(iI a.kids),(iP a.pats)]],2⟩
def aKI(a:Prog)(b:Int):TS:=⟨(tf 16 75 [kp 2 0,kp 3 1,(4,(bV false)),(5,(nI b))] [kc f16 116,kl f16 116,.inBlock 0,kc f16 15]),[],[aSo 0 a,aSo 1 a],2⟩
def aKJ(a:Prog)(b:Int):TS:=⟨(tf 16 75 [kp 2 0,kp 3 1,(4,(bV false)),(6,(nI b))] [kc f16 244,kl f16 244,.inBlock 2,kc f16 31]),[],[aSo 0 a,aSo 1 a],2⟩
def bDH (a:List Int):=fun b=>(tT 0 (start PP 50 [(iI a),(iI a)])<|gl 8 cG a<|gl 1 cG a<|.b 2 10 ((a.length:Int) != (a.length:Int)) .x<|.W 9 0 [] (aKF a 0))|>.f b tv
def bE8(b:List Int)(a:Int):=tT 0 (aKF b a)<|gl 5 cG b<|gd 2 14 (a< (b.length:Int)) (.y fun c:Int=>.i [rn 5,.reg (.d::.d::.ans (.idx (cG c))::rd 3 [.ans (.idx (cG c)),.d,.d])] [hA (0≤a),.a (((b)[a.toNat]?) =some c) (bL (f:=cG)),hA (0≤a),.a (((b)[a.toNat]?) =some c) (bL (f:=cG))]<|.b 0 25 (c != c) .x<|gw 6 16 (a+1)<|.W 3 0 [] (aKF b (a+1)))<|gE 7 0 (bV true)
def bDI:=fun c d e f a b g i=>bE8 c d|>.t f e a b a b|>.f g i tv
def bDJ:=fun a b c=>bE8 a b|>.f c tv
def bDK (c d:Int)(a:cF)(b:List Pat):=fun e f g i=>(tT 0 (start PP 92 [(aIj c d a b),(aIj c d a b)])<|.b 15 11 (c != c) .x<|.b 7 18 (d != d) .x<|.b 7 25 (!(kB a.length (aF a) a.length (aF a))) .x<|gm 2 aH b<|gm 2 aH b<|.b 3 33 ((b.length:Int) != (b.length:Int)) .x<|.W 9 2 [0,1] (aKG c d a b 0))|>.f e|>.f f|>.f g|>.f i tv
def bE9(i j:Int)(k:cF)(b:List Pat)(a:Int):=tT 0 (aKG i j k b a)<|gm 6 aH b<|gd 2 38 (a< (b.length:Int)) (.y fun c:Int=>.y fun d:Int=>.y fun e:cF=>.y fun f:List Pat=>.y fun g:Bool=>.i [rn 5,.reg (rd 3 (.ans (.idx (Pat.av (Pat.mk c d e f)))::rd 4 [.ans (.idx (Pat.av (Pat.mk c d e f))),.d,.pure (bV g),.d]))] [hA (0≤a),.a (((b)[a.toNat]?) =some (Pat.mk c d e f)) (dL aH),hA (0≤a),.a (((b)[a.toNat]?) =some (Pat.mk c d e f)) (dL aH),hA (aK PP 92 [(aIj c d e f),(aIj c d e f)] (bV g))]<|.b 0 52 (!g) .x<|gw 6 40 (a+1)<|.W 3 2 [0,1] (aKG i j k b (a+1)))<|gE 7 2 (bV true)
def bDL:=fun c d e f g i j k l m n a b o p q=>bE9 c d e f g|>.t n i j k l m a b a b o|>.f p q tv
def bDM:=fun a b c d e f=>bE9 a b c d e|>.f f tv
def bDN (a:Node):=fun b c d e f g=>(tT 0 (start PP 51 [(Node.av a),(Node.av a)])<|.b 15 11 (a.op != a.op) .x<|.b 7 18 (a.n != a.n) .x<|kJ 4 50 [(iI a.kids),(iI a.kids)]<|fun b=>.b 3 26 (!b) .x<|gm 2 aH a.pats<|gm 2 aH a.pats<|.b 3 34 ((a.pats.length:Int) != (a.pats.length:Int)) .x<|.W 9 2 [0,1] (aKH a 0))|>.f c|>.f d b e|>.f f|>.f g tv
def bFa(b:Node)(a:Int):=tT 0 (aKH b a)<|gm 6 aH b.pats<|gd 2 39 (a< (b.pats.length:Int)) (.y fun c:Int=>.y fun d:Int=>.y fun e:cF=>.y fun f:List Pat=>.y fun g:Bool=>.i [rn 5,.reg (rd 3 (.ans (.idx (Pat.av (Pat.mk c d e f)))::rd 4 [.ans (.idx (Pat.av (Pat.mk c d e f))),.d,.pure (bV g),.d]))] [hA (0≤a),.a (((b.pats)[a.toNat]?) =some (Pat.mk c d e f)) (dL aH),hA (0≤a),.a (((b.pats)[a.toNat]?) =some (Pat.mk c d e f)) (dL aH),hA (aK PP 92 [(aIj c d e f),(aIj c d e f)] (bV g))]<|.b 0 53 (!g) .x<|gw 6 41 (a+1)<|.W 3 2 [0,1] (aKH b (a+1)))<|gE 7 2 (bV true)
def bDO:=fun c d e f g i j k a b l m n=>bFa c d|>.t k e f g i j a b a b l|>.f m n tv
def bDP:=fun a b c=>bFa a b|>.f c tv
def bDQ (a:Prog):=fun b c d e f g=>(tT 0 (start PP 16 [(Prog.av a),(Prog.av a)])<|gl 11 Node.av a.nodes<|gl 2 Node.av a.nodes<|.b 2 14 ((a.nodes.length:Int) != (a.nodes.length:Int)) .x<|kJ 4 50 [(iI a.funs),(iI a.funs)]<|fun b=>.b 3 22 (!b) .x<|.b 7 29 (a.main != a.main) .x<|gl 2 Con.av a.cons<|gl 2 Con.av a.cons<|.b 3 37 ((a.cons.length:Int) != (a.cons.length:Int)) .x<|.W 9 2 [0,1] (aKI a 0))|>.f c b d|>.f e|>.f f|>.f g tv
def bFb(c:Prog)(b:Int):=tT 0 (aKI c b)<|gl 6 Con.av c.cons<|gd 2 42 (b< (c.cons.length:Int)) (.y fun a:Con=>.i [rn 5,.reg (rd 3 (.ans (.idx (Con.av a))::rd 4 [.ans (.idx (Con.av a)),.d,.d]))] [hA (0≤b),.a (((c.cons)[b.toNat]?) =some a) (bL (f:=Con.av)),hA (0≤b),.a (((c.cons)[b.toNat]?) =some a) (bL (f:=Con.av))]<|.b 0 55 (!((kB a.name.length (aF a.name) a.name.length (aF a.name)) && ((a.args==a.args) &&true))) .x<|gw 6 44 (b+1)<|.W 3 2 [0,1] (aKI c (b+1)))<|.W 9 2 [0,1] (aKJ c 0)
def bDR:=fun c d e f a b g i=>bFb c d|>.t f e a b a b|>.f g i tv
def bDS:=fun a b c=>bFb a b|>.f c tv
def bFc(b:Prog)(a:Int):=tT 0 (aKJ b a)<|gl 6 Node.av b.nodes<|gd 2 60 (a< (b.nodes.length:Int)) (.y fun c:Node=>.y fun d:Bool=>.i [rn 5,.reg (rd 3 (.ans (.idx (Node.av c))::rd 4 [.ans (.idx (Node.av c)),.d,.pure (bV d),.d]))] [hA (0≤a),.a (((b.nodes)[a.toNat]?) =some c) (bL (f:=Node.av)),hA (0≤a),.a (((b.nodes)[a.toNat]?) =some c) (bL (f:=Node.av)),hA (aK PP 51 [(Node.av c),(Node.av c)] (bV d))]<|.b 0 74 (!d) .x<|gw 6 62 (a+1)<|.W 3 2 [0,1] (aKJ b (a+1)))<|gE 7 2 (bV true)
def bDT:=fun c d e f g a b i j k=>bFc c d|>.t g e f a b a b i|>.f j k tv
def bDU:=fun a b c=>bFc a b|>.f c tv
theorem aGt (s:cF) :kB (length s) (aF s) (length s) (aF s) =true:=by rw [xM];simp
theorem aNv (a:List Int)(c:a.length<1000000) :∀ (t:List Int) (i:Nat),a.drop i=t→Ends PP 0 (aKF a (i:Int)).as (.ret (.bool true)) (aA [] 0)
 | [],i,h=>by
  have:=bH h;exact bDJ a i sd
 | y::t,i,h=>by
  obtain⟨e,b,f⟩ :=bE h;have d:=bDI a i y sd sd sd (by simp) sd;exact d.ends (aNv a c t (i+1) b)
theorem aNw (a:List Int)(b:a.length<1000000) :aK PP 50 [.ilst 1 (map cG a) false,.ilst 1 (map cG a) false] (.bool true) :=
 aG aC rfl rfl ((bDH a (by simp)).ends (aNv a b a 0 rfl))
theorem aNx (f n:Int)(s:cF)(ps:List Pat)(hl:ps.length<1000000)(b:∀p∈ps,aK PP 92 [Pat.av p,Pat.av p] (.bool true)) :∀ (t:List Pat) (i:Nat),ps.drop i=t→Ends PP 0 (aKG f n s ps (i:Int)).as (.ret (.bool true)) (aA [] 0)
 | [],i,h=>by
  have:=bH h;exact bDM f n s ps i sd
 | .mk d e c a::t,i,h=>by
  obtain⟨j,g,l⟩ :=bE h;have k:=bDL f n s ps i d e c a true sd sd sd (b (.mk d e c a) (jQ j)) rfl sd;exact k.ends (aNx f n s ps hl b t (i+1) g)
mutual
theorem aYy :∀ (q:Pat),cB q<1000000→aK PP 92 [Pat.av q,Pat.av q] (.bool true)
 | .mk f n s a,h=>by
  simp only [cB]at h;have:=fA a;exact aG aC (by simp [AV.keylessL,nB]) rfl ((bDK f n s a (by simp) (by simp) (by rw [aGt];rfl) (by simp)).ends (aNx f n s a (by omega) (aKK a (by omega)) a 0 rfl))
theorem aKK :∀ (b:List Pat),bI b<1000000→∀p∈b,aK PP 92 [Pat.av p,Pat.av p] (.bool true)
 | [],_,p,a=>by cases a
 | q::b,h,p,a=>by
  simp only [bI]at h;rcases zq7.1 a with e|a
  ·rw [e];exact aYy q (by omega)
  ·exact aKK b (by omega) p a
end
theorem aNy (x:Node)(hl:x.pats.length<1000000)(c:∀p∈x.pats,aK PP 92 [Pat.av p,Pat.av p] (.bool true)) :∀ (t:List Pat) (i:Nat),x.pats.drop i=t→Ends PP 0 (aKH x (i:Int)).as (.ret (.bool true)) (aA [] 0)
 | [],i,h=>by
  have:=bH h;exact bDP x i sd
 | .mk e b d a::t,i,h=>by
  obtain⟨g,f,k⟩ :=bE h;have j:=bDO x i e b d a true sd sd sd (c (.mk e b d a) (jQ g)) rfl sd;exact j.ends (aNy x hl c t (i+1) f)
def bGI (x:Node) :Prop:=x.kids.length<1000000∧bI x.pats<1000000
structure FitP (q:Prog) :Prop where
 nodes:q.nodes.length≤1000000
 funs:q.funs.length<1000000
 cons:q.cons.length<1000000
 node:∀x∈q.nodes,bGI x
theorem aYz (x:Node)(h:bGI x) :aK PP 51 [Node.av x,Node.av x] (.bool true) :=by
 have:=fA x.pats;have b:=h.1;have a:=h.2;exact aG aC (by simp [AV.keylessL,Node.av,AV.keyless]) rfl ((bDN x true (by simp) (by simp) (aNw x.kids h.1) rfl (by simp)).ends (aNy x (by omega) (aKK x.pats h.2) x.pats 0 rfl))
theorem bFd (p:Prog)(hp:FitP p) :∀ (t:List Node) (i:Nat),p.nodes.drop i=t→Ends PP 0 (aKJ p (i:Int)).as (.ret (.bool true)) (aA [] 0)
 | [],i,h=>by
  have:=bH h;exact bDU p i sd
 | x::t,i,h=>by
  obtain⟨b,a,d⟩ :=bE h;have e:=hp.nodes;have c:=bDT p i x true sd sd sd (aYz x (hp.node x (jQ b))) rfl sd;exact c.ends (bFd p hp t (i+1) a)
theorem bFe (p:Prog)(hp:FitP p) :∀ (t:List Con) (i:Nat),p.cons.drop i=t→Ends PP 0 (aKI p (i:Int)).as (.ret (.bool true)) (aA [] 0)
 | [],i,h=>by
  have:=bH h;exact(bDS p i sd).ends (bFd p hp p.nodes 0 rfl)
 | c::t,i,h=>by
  obtain⟨d,a,e⟩ :=bE h;have f:=hp.cons;have b:=bDR p i c sd sd sd (by rw [aGt];simp) sd;exact b.ends (bFe p hp t (i+1) a)
theorem aQV (p:Prog)(hp:FitP p) :aK PP 16 [Prog.av p,Prog.av p] (.bool true) :=
 aG aC (by simp [AV.keylessL,Prog.av,AV.keyless]) rfl ((bDQ p true (by simp) (aNw p.funs hp.funs) rfl (by simp) (by simp)).ends (bFe p hp p.cons 0 rfl))
structure LFun where
 name:cF
 body:Int
def LFun.av (f:LFun) :AV:=.agg [dP f.name,.int .i64 f.body]
structure LUnit where
 name:cF
 cons:List Con
 funs:List LFun
 needs:List cF
 nodes:List Node
def LUnit.av (u:LUnit) :AV:=.agg [dP u.name,.ilst 2 (map Con.av u.cons) false,.ilst 2 (map LFun.av u.funs) false,.ilst 1 (map dP u.needs) false,.ilst 4 (map Node.av u.nodes) false]
structure LPlace where
 nodes:Int
 funs:Int
def LPlace.av (p:LPlace) :AV:=.agg [.int .i64 p.nodes,.int .i64 p.funs]
theorem aGu {l:List ONode}{nn:List Node}(h:l=map Node.o nn) :map ONode.av l=map Node.av nn:=by rw [h,bBO]
theorem aIk {f:Nat}{b args':List AV}{v:AV}(h:aK PP f b v)(hl:args'.length=b.length)(B:∀ (E:Emb) (i:Nat) (a q:AV) (c:Value),b[i]?=some a→args'[i]?=some q→VR E q c→VR E a c) :aK PP f args' v:=fun z=>by
 obtain⟨g,j,he⟩ :=h z;simp only [dG,dA]at j;split at j
 · rename_i fn o;split at j
   · rename_i c hc;cases j;refine⟨_,by simp only [dG,dA,o,hc];rfl,?_⟩;intro hm E fr n w d fs r A k;refine he hm E fr n w ?_ fs r A k;refine⟨d.fn,⟨by have:=d.tm.1;rw [hl]at this;exact this,fun t a e=>?_⟩,d.todo,d.defers,d.mode,d.kind,d.round⟩;have u:t<b.length∧b[t]?=some a:=by
      have l: (dN .leaf 0 b).at t=some a:=e;unfold dN at l;rw [bB]at l;split at l
      ·rename_i p;exact⟨p,l⟩
      ·cases l
     have m:args'[t]?=some args'[t] :=kX (by omega)
     obtain⟨s,y,x⟩ :=d.tm.2 t args'[t] (by
      show(dN .leaf 0 args').at t=_;unfold dN;rw [bB,if_pos (by omega)];exact m)
     exact⟨s,y,B E t _ _ s u.2 m x⟩
   ·cases j
 ·cases j
abbrev aCk (a:List Int):AV:=.gl 2 1 0 a.length false
abbrev aDb (a b c:Int)(d:List Pat):AV:=.agg [(nI a),(nI b),(.gl 6 1 0 (([] :List Int) ++ [c]).length false),(iP d)]
abbrev vL (a:Nat)(b:List ONode)(c:List Int)(d:Int)(e:List Con):=oC a [(.gl 3 4 0 b.length false),(aCk c),(nI d),(iC e)]
abbrev vM (a b:Int)(c:List Pat):AV:=.agg [(nI a),(nI b),(.gl 4 1 0 ([] :List Int).length false),(iP c)]
abbrev aDc (a b:Int)(c:List Int)(d:Int)(e:List Pat):AV:=.agg [(nI a),(nI b),(.gl 6 1 0 (c++ [d]).length false),(iP e)]
abbrev vN (a b:Int)(c:List Int)(d:List Pat):AV:=.agg [(nI a),(nI b),(.gl 4 1 0 c.length false),(iP d)]
abbrev nJ (a:Nat):=oC a [(.func 119 [] [(.ptr 0 0),(.ptr 1 0)])]
abbrev aQW (a:Nat):=oC a [(.func 119 [] [(.ptr 1 0),(.ptr 2 0)])]
abbrev aQX (a:Nat):=oC a [.nils,.nils,(nI 0),.nils]
abbrev vO (a:Nat)(b:List ONode):=oL a 4 (map ONode.av b)
abbrev kV (a:List XT):AV:=.ilst 1 (XTs.av a) false
def bFf(a:List ONode)(b:List Int)(c:Int)(d:List Con)(e f:Int)(g:List XT)(i:List Pat):TS:=aX PP 119 [(.iptr [(nI e),(nI f),(kV g),(iP i)]),(.ptr 0 0),(.ptr 1 0)] [vL 0 a b c d,nJ 1,oL 2 1 (jI b),vO 3 a] 4
def aQY(d:List ONode)(a:List Int)(e:Int)(f:List Con)(g i:Int)(b:List XT)(j:List Pat)(c:List ONode):TS:=⟨(tf 119 59 [kp 1 0,kp 2 1,(4,(nI 0)),(5,(nI (d.length:Int))),(34,(kV b)),(35,(nI (b.length:Int))),(36,(nI 0))] [kc f119 244,kl f119 244,.inBlock 0,kc f119 31]),[],[vL 0 c a e f,nJ 1,oL 2 1 (jI a),vO 3 c],4⟩
def aYA(d:List ONode)(a:List Int)(e:Int)(f:List Con)(i j:Int)(b:List XT)(k:List Pat)(g:Int)(c:List ONode):TS:=⟨(tf 119 59 [kp 1 0,kp 2 1,(4,(nI 0)),(5,(nI (d.length:Int))),(8,(nI g)),(34,(kV b)),(35,(nI (b.length:Int))),(36,(nI 0))] [kc f119 15667,.inBlock 1,kc f119 1959,kl f119 244,.inBlock 0,kc f119 31]),[],[vL 0 c a e f,nJ 1,oL 2 1 (jI a),vO 3 c],4⟩
def aSp(d:List ONode)(a:List Int)(e:Int)(f:List Con)(m n:Int)(b:List XT)(o:List Pat)(g:Int)(c:List ONode)(i:Nat)(j k:Int)(l:List Pat):TS:=⟨(tf 119 59 [kp 1 0,kp 2 1,(4,(nI 0)),(5,(nI (d.length:Int))),(8,(nI g)),(34,(kV b)),(35,(nI (b.length:Int))),(36,(nI 0))] [kc f119 15667,.inBlock 1,kc f119 1959,kl f119 244,.inBlock 0,kc f119 31]),[],[vL 0 c a e f,nJ 1,oL 2 1 (jI a),(3,(.lst 4 (set (map ONode.av c) i (vM j k l))),false),oL 4 1 (jI ([] :List Int))],5⟩
def aDd(d:List ONode)(a:List Int)(e:Int)(f:List Con)(k l:Int)(b:List XT)(m:List Pat)(c:List ONode)(g:List Int)(i:Value)(j:Int):TS:=⟨(tf 119 59 [kp 1 0,kp 2 1,(4,(nI 0)),(5,(nI (d.length:Int))),(34,(kV b)),(35,(nI (b.length:Int))),(36,(nI j))] [kc f119 244,kl f119 244,.inBlock 0,kc f119 31]),[],[vL 0 c a e f,nJ 1,oL 2 1 (jI a),vO 3 c,(4,(.lstv i 1 (jI g)),true)],5⟩
def aYB(d:List ONode)(a:List Int)(e:Int)(f:List Con)(l m:Int)(b:List XT)(n:List Pat)(g:Int)(c:List ONode)(i:List Int)(j:Value)(k:Int):TS:=⟨(tf 119 59 [kp 1 0,kp 2 1,(4,(nI 0)),(5,(nI (d.length:Int))),(8,(nI g)),(34,(kV b)),(35,(nI (b.length:Int))),(36,(nI k))] [kc f119 15667,.inBlock 1,kc f119 1959,kl f119 244,.inBlock 0,kc f119 31]),[],[vL 0 c a e f,nJ 1,oL 2 1 (jI a),vO 3 c,(4,(.lstv j 1 (jI i)),true)],5⟩
def aSq(e:List ONode)(a:List Int)(f:Int)(g:List Con)(o p:Int)(b:List XT)(q:List Pat)(i:Int)(c:List ONode)(d:List Int)(j:Int)(k:Nat)(l m:Int)(n:List Pat):TS:=⟨(tf 119 59 [kp 1 0,kp 2 1,(4,(nI 0)),(5,(nI (e.length:Int))),(8,(nI i)),(34,(kV b)),(35,(nI (b.length:Int))),(36,(nI j))] [kc f119 15667,.inBlock 1,kc f119 1959,kl f119 244,.inBlock 0,kc f119 31]),[],[vL 0 c a f g,nJ 1,oL 2 1 (jI a),(3,(.lst 4 (set (map ONode.av c) k (vN l m d n))),false),oL 4 1 (jI d)],5⟩
theorem bDV (L:List ONode)(fs:List Int)(mn:Int)(cs:List Con)(j l:Int)(h:List XT)(g:List Pat)(d:Int)(f:List ONode)(ix:Nat)(c e:Int)(a:List Pat)(p:0≤ ((L.length:Nat) :Int))(h1: ((L.length:Nat) :Int) < ((f.length:Nat) :Int))(h2: ((L.length:Nat) :Int).toNat=ix)(n:ix<length f)(s:length (([] :List Int) ++ [d]) ≤1000000){m:Res}{h':Hp}(hk:∀r v q,Ends PP 3 (let u:=Value.slice r v q; (aDd L fs mn cs j l h g (set f ix (ONode.mk c e (KV.val u) a)) (([] :List Int) ++ [d]) u 1)).as m h') :
  Ends PP 3 (aSp L fs mn cs j l h g d f ix c e a).as m h':=
 aGr (n1:=7) (t:=fun u=> (aDd L fs mn cs j l h g (set f ix (ONode.mk c e (KV.val u) a)) (([] :List Int) ++ [d]) u 1)) (k:=3) (b:=6) (i:=ix) (o:=2) (ys:=fun u=> (map ONode.av (set f ix (ONode.mk c e (KV.val u) a)))) (ks:=[3,6]) (ps:=fun u=>[NQ (set (map ONode.av f) ix (aDb c e d a)) ix 2 6 1 (jI (([] :List Int) ++ [d])).length u (map ONode.av (set f ix (ONode.mk c e (KV.val u) a))),0≤ ((L.length:Nat) :Int),((L.length:Nat) :Int) < ((f.length:Nat) :Int),(set (map ONode.av f) ix (vM c e a))[(0+ ((L.length:Nat) :Int).toNat)]?=some (vM c e a),0+ ([] :List Int).length≤length (jI ([] :List Int)),length (([] :List Int) ++ [d]) ≤1000000,take ([] :List Int).length (drop 0 (jI ([] :List Int))) ++ (jI [d]) = (jI (([] :List Int) ++ [d])),([] :List Int).length+length (jI [d]) =length (([] :List Int) ++ [d]),0≤ ((L.length:Nat) :Int),((L.length:Nat) :Int) < ((f.length:Nat) :Int),(set (map ONode.av f) ix (vM c e a))[(0+ ((L.length:Nat) :Int).toNat)]?=some (vM c e a),kQ (vM c e a) 2 [(.gl 6 1 0 (([] :List Int) ++ [d]).length false)] =some (aDb c e d a),(AV.gl 3 4 0 f.length false) = (AV.gl 3 4 0 f.length false),(AV.gl 3 4 0 f.length false) = (AV.gl 3 4 0 f.length false),(set (map ONode.av f) ix (vM c e a)).set (0+ ((L.length:Nat) :Int).toNat) (aDb c e d a) = (set (map ONode.av f) ix (aDb c e d a)),(AV.gl 3 4 0 f.length false) = (.gl 3 4 0 (set f ix (ONode.mk c e (KV.val u) a)).length false),(AV.gl 3 4 0 f.length false) = (.gl 3 4 0 (set f ix (ONode.mk c e (KV.val u) a)).length false),(AV.gl 3 4 0 f.length false) = (.gl 3 4 0 (set f ix (ONode.mk c e (KV.val u) a)).length false)]) (is:=[.reg [.d,.d,.d,.d,.d,.d,.ans (.ix),.d,.ans (.idx (vM c e a)),.d,.d,.app (jI (([] :List Int) ++ [d])) (([] :List Int) ++ [d]).length,.ans (.ix),.d,.st (vM c e a) (aDb c e d a)],.lset 3 (set (map ONode.av f) ix (aDb c e d a)),.run 1]) (is2:=fun u=>[.set 44 (.gl 3 4 0 (set f ix (ONode.mk c e (KV.val u) a)).length false),.set 47 (.gl 3 4 0 (set f ix (ONode.mk c e (KV.val u) a)).length false),.cset 0 0 (.gl 3 4 0 (set f ix (ONode.mk c e (KV.val u) a)).length false),.run 5]) (fun u=>by kernel_rfl) (fun u=>by kernel_rfl) (fun u=> ⟨(aN _ (fun _=>rfl) _),⟨(aN _ (fun _=>dU _) _),⟨(aN _ (fun _=>rfl) _),trivial⟩⟩⟩) (fun u=> ⟨(bE6 [(nI c),(nI e)] [(iP a)] n (mR ..) (by simp) rfl),p,h1,(aKE h2 n),(aJk _ _),s,(aJl _ _ _),(aJm _ _ _),p,h1,(aKE h2 n),rfl,rfl,rfl,(aYw h2),(bK (dZ ..).symm),(bK (dZ ..).symm),(bK (dZ ..).symm)⟩) hk
theorem bDW (L:List ONode)(fs:List Int)(mn:Int)(cs:List Con)(m n:Int)(j:List XT)(h:List Pat)(d:Int)(g:List ONode)(f:List Int)(l:Int)(ix:Nat)(c e:Int)(a:List Pat)(r:0≤ ((L.length:Nat) :Int))(h1: ((L.length:Nat) :Int) < ((g.length:Nat) :Int))(h2: ((L.length:Nat) :Int).toNat=ix)(q:ix<length g)(x:length (f++ [d]) ≤1000000)(s: (IntKind.i64.wrap (l+ (1:Int))) = (l+ (1:Int))){p:Res}{h':Hp}(hk:∀w y v,Ends PP 3 (let u:=Value.slice w y v; (aDd L fs mn cs m n j h (set g ix (ONode.mk c e (KV.val u) a)) (f++ [d]) u (l+ (1:Int)))).as p h') :
  Ends PP 3 (aSq L fs mn cs m n j h d g f l ix c e a).as p h':=
 aGr (n1:=7) (t:=fun u=> (aDd L fs mn cs m n j h (set g ix (ONode.mk c e (KV.val u) a)) (f++ [d]) u (l+ (1:Int)))) (k:=3) (b:=6) (i:=ix) (o:=2) (ys:=fun u=> (map ONode.av (set g ix (ONode.mk c e (KV.val u) a)))) (ks:=[3,6]) (ps:=fun u=>[NQ (set (map ONode.av g) ix (aDc c e f d a)) ix 2 6 1 (jI (f++ [d])).length u (map ONode.av (set g ix (ONode.mk c e (KV.val u) a))),0≤ ((L.length:Nat) :Int),((L.length:Nat) :Int) < ((g.length:Nat) :Int),(set (map ONode.av g) ix (vN c e f a))[(0+ ((L.length:Nat) :Int).toNat)]?=some (vN c e f a),0+f.length≤length (jI f),length (f++ [d]) ≤1000000,take f.length (drop 0 (jI f)) ++ (jI [d]) = (jI (f++ [d])),f.length+length (jI [d]) =length (f++ [d]),0≤ ((L.length:Nat) :Int),((L.length:Nat) :Int) < ((g.length:Nat) :Int),(set (map ONode.av g) ix (vN c e f a))[(0+ ((L.length:Nat) :Int).toNat)]?=some (vN c e f a),kQ (vN c e f a) 2 [(.gl 6 1 0 (f++ [d]).length false)] =some (aDc c e f d a),(AV.gl 3 4 0 g.length false) = (AV.gl 3 4 0 g.length false),(AV.gl 3 4 0 g.length false) = (AV.gl 3 4 0 g.length false),(set (map ONode.av g) ix (vN c e f a)).set (0+ ((L.length:Nat) :Int).toNat) (aDc c e f d a) = (set (map ONode.av g) ix (aDc c e f d a)),(AV.gl 3 4 0 g.length false) = (.gl 3 4 0 (set g ix (ONode.mk c e (KV.val u) a)).length false),(AV.gl 3 4 0 g.length false) = (.gl 3 4 0 (set g ix (ONode.mk c e (KV.val u) a)).length false),(AV.gl 3 4 0 g.length false) = (.gl 3 4 0 (set g ix (ONode.mk c e (KV.val u) a)).length false),(nI (IntKind.i64.wrap (l+ (1:Int)))) = (nI (l+ (1:Int)))]) (is:=[.reg [.d,.d,.d,.d,.d,.d,.ans (.ix),.d,.ans (.idx (vN c e f a)),.d,.d,.app (jI (f++ [d])) (f++ [d]).length,.ans (.ix),.d,.st (vN c e f a) (aDc c e f d a)],.lset 3 (set (map ONode.av g) ix (aDc c e f d a)),.run 1]) (is2:=fun u=>[.set 44 (.gl 3 4 0 (set g ix (ONode.mk c e (KV.val u) a)).length false),.set 47 (.gl 3 4 0 (set g ix (ONode.mk c e (KV.val u) a)).length false),.cset 0 0 (.gl 3 4 0 (set g ix (ONode.mk c e (KV.val u) a)).length false),.run 2,.set 57 (nI (l+ (1:Int))),.run 3]) (fun u=>by kernel_rfl) (fun u=>by kernel_rfl) (fun u=> ⟨(aN _ (fun _=>rfl) _),⟨(aN _ (fun _=>dU _) _),⟨(aN _ (fun _=>rfl) _),trivial⟩⟩⟩) (fun u=> ⟨(bE6 [(nI c),(nI e)] [(iP a)] q (mR ..) (by simp) rfl),r,h1,(aKE h2 q),(aJk _ _),x,(aJl _ _ _),(aJm _ _ _),r,h1,(aKE h2 q),rfl,rfl,rfl,(aYw h2),(bK (dZ ..).symm),(bK (dZ ..).symm),(bK (dZ ..).symm),(congrArg (AV.int .i64) s)⟩) hk
def bIj(a:List XT)(b:Int)(c:List Con):TS:=aX PP 76 [(.iptr [(kV a),(nI b),(iC c)])] [] 0
def aKL(a:List XT)(d:Int)(g e:List Con)(f:Int)(b:List ONode)(c:List Int):TS:=⟨(tf 76 39 [kp 2 0,kp 3 1,kp 4 2,(22,(kV a)),(23,(nI (a.length:Int))),(24,(nI f))] [kc f76 500,kl f76 500,.inBlock 0,kc f76 63]),[],[aQX 0,oC 1 [(.gl 3 4 0 b.length false),(.gl 4 1 0 c.length false),(nI d),(iC e)],aQW 2,vO 3 b,oL 4 1 (jI c)],5⟩
def bDX (a:List ONode)(g:List Int)(i:Int)(j:List Con)(b c:Int)(e:List XT)(f:List Pat):=fun d k l=>(tT 3 (bFf a g i j b c e f)<|.y fun d:List Pat=>.i [rn 12,.reg (rd 14 [.pure (iP d),.d,.d,.app (map ONode.av (a++ [(ONode.mk b c KV.nil d)])) (a++ [(ONode.mk b c KV.nil d)]).length,.d,.d])] [hA (aK PP 120 [(iP f)] (iP d)),hb ONode.av a,hA (length (a++ [(ONode.mk b c KV.nil d)]) ≤1000000),hc ONode.av a [(ONode.mk b c KV.nil d)],he ONode.av a [(ONode.mk b c KV.nil d)],hr (nI c),hr (nI c),hr (nI b),hr (nI b),hr (AV.gl 3 4 0 a.length false),hr (AV.gl 3 4 0 a.length false)]<|.i [rn 7,aL e] [.q (p:=((XTs.av e).length:Int) = (e.length:Int)) (eM cR _)]<|.W 4 6 [5] (aQY a g i j b c e f (a++ [(ONode.mk b c KV.nil d)]))) d k l ⟨kk,⟨(aN _ (fun _=>dU _) _),trivial⟩⟩
def aYC(c:List ONode)(d:List Int)(e:Int)(f:List Con)(j k:Int)(g:List XT)(l:List Pat)(b:List ONode):=tT 3 (aQY c d e f j k g l b)<|gd 5 37 (0< (g.length:Int)) (.y fun m:Int=>.y fun n:Int=>.y fun o:List XT=>.y fun p:List Pat=>giF cR 6 g 0 (XT.mk m n o p)<|.y fun i:List Node=>gk 7 (.enter 119 [(.iptr [(nI m),(nI n),(kV o),(iP p)]),(.ptr 0 0),(.ptr 1 0)]) [vL 0 b d e f,nJ 1,oL 2 1 (jI d),vO 3 b] 4 (nI (b.length:Int)) [oC 0 [(.gl 4 4 0 (b++map Node.o i).length false),(aCk d),(nI e),(iC f)],nJ 1,oL 2 1 (jI d),oL 4 4 (map ONode.av (b++map Node.o i))] 5<|.W 2 5 [4] (aYA c d e f j k g l (b.length:Int) (b++map Node.o i)))<|.y fun a:ONode=>.i [rn 8,.lw 3 (map ONode.av (set b c.length (ONode.mk a.op a.n (KV.row []) a.pats)))] [.a (b[c.length]?=some a) (p':=(map ONode.av b) ≠ []) aJ0,.a (b[c.length]?=some a∧a.kv=KV.nil) (p':=VW (map ONode.av b) (map ONode.av (set b c.length (ONode.mk a.op a.n (KV.row []) a.pats)))) fun⟨ha,hb⟩=>(aXa ha hb)]<|.i [.cset 0 0 (.gl 3 4 0 (set b c.length (ONode.mk a.op a.n (KV.row []) a.pats)).length false)] [.q (p:=(AV.gl 3 4 0 b.length false) = (.gl 3 4 0 (set b c.length (ONode.mk a.op a.n (KV.row []) a.pats)).length false)) (bK (dZ ..).symm)]<|.E 0 4 [3] (nI (c.length:Int)) [oC 0 [(.gl 3 4 0 (set b c.length (ONode.mk a.op a.n (KV.row []) a.pats)).length false),(aCk d),(nI e),(iC f)],nJ 1,oL 2 1 (jI d),oL 3 4 (map ONode.av (set b c.length (ONode.mk a.op a.n (KV.row []) a.pats)))] 4
def bDY:=fun a b c d e f g i j k l m n o p q r s=>aYC a b c d e f g i j|>.t p k l m n q r o s ⟨kk,⟨(aN _ (fun _=>dU _) _),trivial⟩⟩
def bDZ:=fun b c d e f g i j k l m a n=>aYC b c d e f g i j k|>.f m l a ⟨a,n⟩ ⟨kk,⟨(aN _ (fun _=>dU _) _),trivial⟩⟩
def aYD(d:List ONode)(e:List Int)(g:Int)(i:List Con)(m n:Int)(j:List XT)(o:List Pat)(b:List ONode)(c:List Int)(f:Value)(k:Int):=tT 3 (aDd d e g i m n j o b c f k)<|gd 5 37 (k< (j.length:Int)) (.y fun p:Int=>.y fun q:Int=>.y fun r:List XT=>.y fun s:List Pat=>giF cR 6 j k (XT.mk p q r s)<|.y fun l:List Node=>gk 7 (.enter 119 [(.iptr [(nI p),(nI q),(kV r),(iP s)]),(.ptr 0 0),(.ptr 1 0)]) [vL 0 b e g i,nJ 1,oL 2 1 (jI e),vO 3 b,(4,(.lstv f 1 (jI c)),true)] 5 (nI (b.length:Int)) [oC 0 [(.gl 5 4 0 (b++map Node.o l).length false),(aCk e),(nI g),(iC i)],nJ 1,oL 2 1 (jI e),(4,(.lstv f 1 (jI c)),true),oL 5 4 (map ONode.av (b++map Node.o l))] 6<|.W 2 6 [5,4] (aYB d e g i m n j o (b.length:Int) (b++map Node.o l) c f k))<|.y fun a:ONode=>.i [rn 8,.vfrz 4 3 (map ONode.av (set b d.length (ONode.mk a.op a.n (KV.row c) a.pats)))] [.a (b[d.length]?=some a) (p':=(map ONode.av b) ≠ []) aJ0,hk cG c,.a (b[d.length]?=some a∧a.kv=KV.val f) (p':=VQ f 1 (jI c) (map ONode.av b) (map ONode.av (set b d.length (ONode.mk a.op a.n (KV.row c) a.pats)))) fun⟨ha,hb⟩=>(aXb ha hb)]<|.i [.cset 0 0 (.gl 3 4 0 (set b d.length (ONode.mk a.op a.n (KV.row c) a.pats)).length false)] [.q (p:=(AV.gl 3 4 0 b.length false) = (.gl 3 4 0 (set b d.length (ONode.mk a.op a.n (KV.row c) a.pats)).length false)) (bK (dZ ..).symm)]<|.E 0 5 [3] (nI (d.length:Int)) [oC 0 [(.gl 3 4 0 (set b d.length (ONode.mk a.op a.n (KV.row c) a.pats)).length false),(aCk e),(nI g),(iC i)],nJ 1,oL 2 1 (jI e),oL 3 4 (map ONode.av (set b d.length (ONode.mk a.op a.n (KV.row c) a.pats)))] 4
def bD0:=fun a b c d e f g i j k l m n o p q r s t u v=>aYD a b c d e f g i j k l m|>.t s n o p q t u r v ⟨kk,⟨(aN _ (fun _=>dU _) _),⟨kk,trivial⟩⟩⟩
def bD1:=fun b c d e f g i j k l m n o p a q=>aYD b c d e f g i j k l m n|>.f p o a ⟨a,q⟩ ⟨kk,⟨(aN _ (fun _=>dU _) _),trivial⟩⟩
def bD2 (a:List XT)(c:Int)(d:List Con):=fun b e=>(tT 0 (bIj a c d)<|.y fun b:List Con=>.i [rn 5,.reg (rd 8 (.pure (iC b)::rd 3 []))] [hA (aK PP 90 [(iC d)] (iC b)),hr (nI c),hr (nI c)]<|.i [rn 16,aL a] [.q (p:=((XTs.av a).length:Int) = (a.length:Int)) (eM cR _)]<|.i [rn 4,.cnil 1 0 4] []<|gu 0 3 (map ONode.av ([] :List ONode))<|gv 0 1 0 (.gl 3 4 0 ([] :List ONode).length false)<|.i [.cnil 1 1 1] []<|gu 0 4 (jI ([] :List Int))<|gv 0 1 1 (.gl 4 1 0 ([] :List Int).length false)<|.W 0 5 [0,1,2,3,4] (aKL a c d b 0 ([] :List ONode) ([] :List Int))) b e ⟨(aN _ (fun _=>dU _) _),⟨kk,trivial⟩⟩
def aYE(g:List XT)(d:Int)(j e:List Con)(f:Int)(a:List ONode)(b:List Int):=tT 0 (aKL g d j e f a b)<|gd 5 25 (f< (g.length:Int)) (.y fun k:Int=>.y fun l:Int=>.y fun m:List XT=>.y fun n:List Pat=>giF cR 6 g f (XT.mk k l m n)<|.y fun i:List Node=>gk 7 (.enter 119 [(.iptr [(nI k),(nI l),(kV m),(iP n)]),(.ptr 1 0),(.ptr 2 0)]) [aQX 0,oC 1 [(.gl 3 4 0 a.length false),(.gl 4 1 0 b.length false),(nI d),(iC e)],aQW 2,vO 3 a,oL 4 1 (jI b)] 5 (nI (a.length:Int)) [aQX 0,oC 1 [(.gl 5 4 0 (a++map Node.o i).length false),(.gl 4 1 0 b.length false),(nI d),(iC e)],aQW 2,oL 4 1 (jI b),oL 5 4 (map ONode.av (a++map Node.o i))] 6<|ga 7 cG b [(a.length:Int)]<|gw 6 37 (f+1)<|.W 3 8 [0,1,2,5,7] (aKL g d j e (f+1) (a++map Node.o i) (b++ [(a.length:Int)])))<|.y fun c:List Node=>.i [rn 3,.lset 3 (jN c)] [.a (a=map Node.o c) (p':=(map ONode.av a) = (jN c)) aGu]<|.i [.cset 1 0 (.gl 3 4 0 c.length false)] [.a (c.length=a.length) (p':=(AV.gl 3 4 0 a.length false) = (.gl 3 4 0 c.length false)) (fun h=>(bK h.symm))]<|gy 0 1 0 3 4 Node.av c false<|gy 0 1 1 4 1 cG b false<|gE 5 5 (.agg [(iN c),(iI b),(nI d),(iC e)])
def bD3:=fun a b c d e f g i j k l m n o p q r s=>aYE a b c d e f g|>.t n i j k l o p m q r s ⟨(aN _ (fun _=>dU _) _),⟨kk,trivial⟩⟩
def bD4:=fun a b c d e f g i j k l=>aYE a b c d e f g|>.f j i k l tv
end
end Go.Hb
