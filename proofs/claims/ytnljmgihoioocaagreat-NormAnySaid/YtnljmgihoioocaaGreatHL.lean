/- A machine on abstract values, its soundness, ways, plain laws. -/
import Derived.Test.YtnljmgihoioocaaGreatHF
import Derived.Test.YtnljmgihoioocaaGreatHG
import Derived.Test.YtnljmgihoioocaaGreatHH
import Derived.Test.YtnljmgihoioocaaGreatHJ
import Derived.Test.YtnljmgihoioocaaGreatHK
set_option linter.defProp false
set_option linter.unusedVariables false
set_option linter.unusedSimpArgs false
set_option linter.unusedSectionVars false
set_option maxRecDepth 100000
set_option maxHeartbeats 8000000
namespace Go.Hb
open List (count_append drop length map set take)
open Go.Proofs Tryz
noncomputable section
section
variable {p :Prog} {mf mc:List (Int×Int)}
end
section
variable {p :Prog}
end
def pre (p:Prog) :Nat→Int→List Int
 |0,_=>[]
 | f+1,a=>match p.nodes[a.toNat]? with
  |some x=>a:: (x.kids.map (pre p f)).flatten
  |none=>[]
def aYu :List Int→Int→List Int→List Int
 |l,_,[] =>l
 |l,n,b::bs=>aYu (l.set b.toNat n) (n+1) bs
section
variable {p :Prog}
end
section
variable {p :Prog} {mf mc:List (Int×Int)} {F C:List Int} {to:List Int}
end
theorem aDV {p:Prog}(hp:aF p=true)(a:aJ p=true) :FineP p:=by
 have c:=hp;simp only [aF,cM,decide_eq_true_eq]at c;obtain⟨⟨⟨⟨j,e⟩,m⟩,_⟩,h⟩ :=c;simp only [aJ,cM]at a;obtain⟨_,a⟩ :=a;split at a
 · rename_i u l;unfold allT at a;split at a
   · rename_i v g;refine⟨j,e,fun i x d=>?_,fun f a=>?_⟩
     · have:=mF g i x d;have b:=zq27.1 h x (kN d);simp only [bA,cM,decide_eq_true_eq]at b;exact⟨aJ0 this.1,b.1.1,fun k hk=>by have:=this.2 k hk;omega⟩
     ·have:=qJ l f a;omega
   ·cases a
 ·cases a
def eQ (p:Prog)(i:Int) :List Int:=match p.nodes[i.toNat]? with
 |some x=>x.kids
 |none=>[]
section
variable {p :Prog}
theorem vI {q:Int→List Int}(m:Int) :∀ (a:List Int),(∀k∈a,(q k).count m= [k].count m+ (((q k).map (eQ p)).flatten).count m) →
  ((a.map q).flatten).count m=a.count m+ ((((a.map q).flatten).map (eQ p)).flatten).count m
 | [],_=>rfl
 | k::a,h=>by
  have c:=h k (cN ..);have b:=vI m a (fun x d=>h x (cJ _ d));rw [eK,aDZ,count_append,aG4,List.flatten_append,count_append,c,b,show k::a= [k] ++a from rfl,count_append];omega
theorem aC9 (hp:FineP p)(m:Int) :∀ (f:Nat) (a:Int),0≤a→a<p.nodes.length→p.nodes.length-a.toNat≤f→ (pre p f a).count m= [a].count m+ (((pre p f a).map (eQ p)).flatten).count m
 |0,a,h,g,d=>by omega
 | f+1,a,h,g,d=>by
  obtain⟨x,b⟩ :∃x,p.nodes[a.toNat]?=some x:= ⟨_,kF (by omega)⟩;obtain⟨_,_,c⟩ :=hp.node _ _ b;have e:pre p (f+1) a=a:: (x.kids.map (pre p f)).flatten:=by rw [pre,b]
  have j:eQ p a=x.kids:=by unfold eQ;rw [b]
  have i:=vI (p:=p) m x.kids (fun k hk=>by
   have:=c k hk;exact aC9 hp m f k (by omega) (by omega) (by omega))
  rw [e,eK,aDZ,count_append,j,show a:: (x.kids.map (pre p f)).flatten= [a] ++ (x.kids.map (pre p f)).flatten from rfl,count_append,i]
theorem aYv (hp:FineP p) :∀ (f:Nat) (a:Int),0≤a→a<p.nodes.length→∀y∈pre p f a,0≤y∧y<p.nodes.length
 |0,a,_,_,y,b=>by cases b
 | f +1,a,h,g,y,b=>by
  obtain⟨x,d⟩ :∃x,p.nodes[a.toNat]?=some x:= ⟨_,kF (by omega)⟩;obtain⟨_,_,c⟩ :=hp.node _ _ d;have e:pre p (f+1) a=a:: (x.kids.map (pre p f)).flatten:=by rw [pre,d]
  rw [e]at b;rcases zq7.1 b with rfl|b
  ·exact⟨h,g⟩
  · obtain⟨l,hl,b⟩ :=List.mem_flatten.1 b;obtain⟨k,hk,rfl⟩ :=zq24.1 hl;have:=c k hk;exact aYv hp f k (by omega) (by omega) y b
def lM (u:List Bool)(m:Int) :Nat:=if u[m.toNat]?=some true then 1 else 0
theorem jO {lo n:Int}(b:0≤lo){m:Int}(hm:0≤m) :∀ {a:List Int} {u v:List Bool},marks lo n a u=some v→a.count m+lM u m=lM v m
 | [],u,v,h=>by cases h;simp
 | k ::a,u,v,h=>by
  have hk:=qJ h k (cN ..);obtain⟨f,i⟩ :=lB h;have g:=jO b hm i;rw [←g,show k::a= [k] ++a from rfl,count_append];have c:= (zq0.1 f).1;by_cases e:k=m
  · subst e;have d:lM u k=0:=by unfold lM;rw [f];rfl
    have j:lM (u.set k.toNat true) k=1:=by unfold lM;rw [List.getElem?_set_self c];rfl
    rw [d,j];simp;omega
  · have d:lM (u.set k.toNat true) m=lM u m:=by unfold lM;rw [List.getElem?_set_ne (by omega)]
    rw [d,List.count_singleton,if_neg (by simpa using e)];omega
theorem mI {m:Int}(hm:0≤m) :∀ {t:List Node} {i:Nat} {u v:List Bool},bW p i t u=some v→ ((t.map Node.kids).flatten).count m+lM u m=lM v m
 | [],i,u,v,h=>by simp only [bW,Option.some.injEq]at h;subst h;simp
 | x::t,i,u,v,h=>by
  obtain⟨_,w,b,a⟩ :=gJ h;have d:=jO (by omega) hm b;have c:=mI hm a;rw [eK,aDZ,count_append];omega
theorem aIp {m:Int}:∀ {t:List Node},((t.map Node.kids).flatten).count m≤1→∀ (i j:Nat) (x y:Node),t[i]?=some x→t[j]?=some y→m∈x.kids→m∈y.kids→i=j
 | [],_,i,j,x,y,a,_,_,_=>by simp at a
 | z ::t,h,i,j,x,y,a,b,c,e=>by
  rw [eK,aDZ,count_append]at h;have d:∀ {i:Nat} {x:Node},t[i]?=some x→m∈x.kids→0< ((t.map Node.kids).flatten).count m:=fun {i x} a c=>
   List.count_pos_iff.2 (List.mem_flatten.2 ⟨x.kids,zq24.2 ⟨x,kN a,rfl⟩,c⟩)
  cases i with
  | zero=>
   simp only [jP,Option.some.injEq]at a;subst a;cases j with
   |zero=>rfl
   | succ j=>
    simp only [mM]at b;have:=d b e;have:=List.count_pos_iff.2 c;omega
  | succ i=>
   simp only [mM]at a;cases j with
   | zero=>
    simp only [jP,Option.some.injEq]at b;subst b;have:=d a c;have:=List.count_pos_iff.2 e;omega
   | succ j=>
    simp only [mM]at b;rw [aIp (by omega) i j x y a b c e]
theorem aR1 {m:Int}:∀ {t:List Node} {i:Nat} {x:Node},t[i]?=some x→x.kids.count m≤ ((t.map Node.kids).flatten).count m
 | [],i,x,a=>by simp at a
 | z::t,0,x,a=>by
  simp only [jP,Option.some.injEq]at a;subst a;rw [eK,aDZ,count_append];omega
 | z::t,i+1,x,a=>by
  simp only [mM]at a;have:=aR1 (m:=m) a;rw [eK,aDZ,count_append];omega
theorem aR2 {m i:Int}:∀ (L:List Int),(∀j∈L,m∈eQ p j→j=i) → ((L.map (eQ p)).flatten).count m≤L.count i* (eQ p i).count m
 | [],_=>by simp
 | j ::L,h=>by
  have a:=aR2 L (fun x b=>h x (cJ _ b));rw [eK,aDZ,count_append,show j::L= [j] ++L from rfl,count_append,Nat.add_mul];by_cases hm:m∈eQ p j
  · have:=h j (cN ..) hm;subst this;simp;exact a
  · rw [List.count_eq_zero.2 hm];exact Nat.le_trans (by simpa using a) (Nat.le_add_left ..)
theorem bHV (hp:FineP p)(hK:∀m:Int,0≤m→p.funs.count m+ ((p.nodes.map Node.kids).flatten).count m≤1){L:List Int}(d:∀x∈L,0≤x∧x<p.nodes.length)(s:∀m:Int,L.count m=p.funs.count m+ ((L.map (eQ p)).flatten).count m) :∀ (b m:Nat),m≤b→L.count (m:Int) ≤1:=by
 intro b
 induction b with
 | zero=>
  intro m n;have hm:m=0:=by omega
  subst hm;have e:=s ((0:Nat) :Int);have z: ((L.map (eQ p)).flatten).count ((0:Nat) :Int) =0:=by
   refine List.count_eq_zero.2 (fun h=>?_);obtain⟨l,hl,a⟩ :=List.mem_flatten.1 h;obtain⟨j,t,rfl⟩ :=zq24.1 hl;unfold eQ at a;split at a
   · rename_i x c;have:= (hp.node _ _ c).2.2 _ a;omega
   ·cases a
  have:=hK ((0:Nat) :Int) (by omega);omega
 | succ b w=>
  intro m n;have e:=s (m:Int);have hk:=hK (m:Int) (by omega);by_cases hz: ((L.map (eQ p)).flatten).count (m:Int) =0
  ·omega
  · have k:=List.count_pos_iff.1 (Nat.pos_of_ne_zero hz);obtain⟨l,hl,a⟩ :=List.mem_flatten.1 k;obtain⟨i,D,rfl⟩ :=zq24.1 hl;have u:=d i D;obtain⟨x,c⟩ :∃x,p.nodes[i.toNat]?=some x:= ⟨_,kF (by omega)⟩;have r:eQ p i=x.kids:=by unfold eQ;rw [c]
    rw [r]at a;have v:= (hp.node _ _ c).2.2 _ a;have o:L.count i≤1:=by
     have:=w i.toNat (by omega);rwa [show((i.toNat:Nat) :Int) =i by omega]at this
    have q:=aR2 (p:=p) (m:= (m:Int)) (i:=i) L (fun j t g=>by
     have B:=d j t;obtain⟨y,f⟩ :∃y,p.nodes[j.toNat]?=some y:= ⟨_,kF (by omega)⟩;have C:eQ p j=y.kids:=by unfold eQ;rw [f]
     rw [C]at g;have:=aIp (by omega) _ _ y x f c g a;omega)
    rw [r]at q;have A:=aR1 (m:= (m:Int)) c;have:L.count i*x.kids.count (m:Int) ≤1*x.kids.count (m:Int) :=Nat.mul_le_mul_right _ o;omega
theorem zW :∀ (n:Nat) (l:List Nat),l.Nodup→ (∀x∈l,x<n) →l.length≤n
 |0,[],_,_=>by simp
 |0,x::l,_,h=>by have:=h x (cN ..);omega
 | n+1,l,c,h=>by
  by_cases hm:n∈l
  · have d:=zW n (l.erase n) (c.erase n) (fun x a=>by
     have:=h x (List.mem_of_mem_erase a)
     have b:x≠n:=fun e=>by
      subst e;exact c.not_mem_erase a
     omega)
    rw [List.length_erase_of_mem hm]at d;omega
  · have:=zW n l c (fun x a=>by
     have:=h x a;have b:x≠n:=fun e=>hm (e ▸ a);omega)
    omega
end
theorem aGu {L:List Int}(h:∀a,L.count a≤1) :L.Nodup:=List.nodup_iff_count.2 h
theorem aR3 :∀ (n:Nat) (l:List Int),(∀i:Nat,i<n→ (i:Int) ∈l) →n≤l.length
 |0,l,_=>Nat.zero_le _
 | n+1,l,h=>by
  have a:=h n (Nat.lt_succ_self n);have b:=aR3 n (l.erase (n:Int)) (fun i c=> (List.mem_erase_of_ne (by omega)).2 (h i (by omega)));rw [List.length_erase_of_mem a]at b;have:=List.length_pos_of_mem a;omega
theorem all_in {p:Prog}(hp:FineP p)(hK:∀m:Nat,m<p.nodes.length→p.funs.count (m:Int) + ((p.nodes.map Node.kids).flatten).count (m:Int) =1){L:List Int}(h:∀m:Int,L.count m=p.funs.count m+ ((L.map (eQ p)).flatten).count m) :∀ (b m:Nat),m≤b→m<p.nodes.length→ (m:Int) ∈L:=by
 intro b
 induction b with
 | zero=>
  intro m d hm;have e:=h (m:Int);have hk:=hK m hm;by_cases hz: ((p.nodes.map Node.kids).flatten).count (m:Int) =0
  ·exact List.count_pos_iff.1 (by omega)
  · obtain⟨l,hl,c⟩ :=List.mem_flatten.1 (List.count_pos_iff.1 (Nat.pos_of_ne_zero hz));obtain⟨x,f,rfl⟩ :=zq24.1 hl;obtain⟨i,a⟩ :=zq38.1 f;have:= (hp.node _ _ a).2.2 _ c;omega
 | succ b k=>
  intro m d hm;have e:=h (m:Int);have hk:=hK m hm;by_cases hz: ((p.nodes.map Node.kids).flatten).count (m:Int) =0
  ·exact List.count_pos_iff.1 (by omega)
  · obtain⟨l,hl,c⟩ :=List.mem_flatten.1 (List.count_pos_iff.1 (Nat.pos_of_ne_zero hz));obtain⟨x,f,rfl⟩ :=zq24.1 hl;obtain⟨i,a⟩ :=zq38.1 f;have j:= (hp.node _ _ a).2.2 _ c;have g:=k i (by omega) (by omega);have: (m:Int) ∈ (L.map (eQ p)).flatten:=List.mem_flatten.2 ⟨x.kids,zq24.2 ⟨(i:Int),g,by unfold eQ;rw [oY,a]⟩,c⟩;have:=List.count_pos_iff.2 this;exact List.count_pos_iff.1 (by omega)
theorem aGv {p:Prog}(z:aF p=true)(d:aJ p=true) : ((p.funs.map (pre p p.nodes.length)).flatten).Nodup∧ ((p.funs.map (pre p p.nodes.length)).flatten).length=p.nodes.length∧ (∀x∈ (p.funs.map (pre p p.nodes.length)).flatten,0≤x∧x<p.nodes.length) ∧
  (∀ (i:Nat) (x:Node),p.nodes[i]?=some x→aO p x=true) :=by
 have f:=aDV z d;simp only [aJ,cM]at d;obtain⟨_,d⟩ :=d;split at d
 · rename_i u s;unfold allT at d;split at d
   · rename_i v j
     have hK:∀m:Int,0≤m→p.funs.count m+ ((p.nodes.map Node.kids).flatten).count m≤1:=fun m hm=>by
      have C:=jO (by omega) hm s;have D:=mI hm j;have A:lM v m≤1:=by unfold lM;split<;>omega
      omega
     have c:∀x∈ (p.funs.map (pre p p.nodes.length)).flatten,0≤x∧x<p.nodes.length:=fun x g=>by
      obtain⟨l,hl,t⟩ :=List.mem_flatten.1 g;obtain⟨k,hk,rfl⟩ :=zq24.1 hl;have:=f.funs k hk;exact aYv f _ k this.1 this.2 x t
     have w:∀m:Int,((p.funs.map (pre p p.nodes.length)).flatten).count m=p.funs.count m+ ((((p.funs.map (pre p p.nodes.length)).flatten).map (eQ p)).flatten).count m:=fun m=>vI m p.funs (fun k hk=>by
      have:=f.funs k hk;exact aC9 f m _ k this.1 this.2 (by omega))
     have o: ((p.funs.map (pre p p.nodes.length)).flatten).Nodup:=aGu (fun a=>by
      by_cases n:a∈ (p.funs.map (pre p p.nodes.length)).flatten
      · have hr:=c a n;have:=bHV f hK c w a.toNat a.toNat (Nat.le_refl _);rwa [show((a.toNat:Nat) :Int) =a by omega]at this
      ·rw [List.count_eq_zero.2 n];omega)
     refine⟨o,?_,c,fun i x g=> (mF j i x g).1⟩;have q: (((p.funs.map (pre p p.nodes.length)).flatten).map Int.toNat).Nodup:=by
      rw [List.nodup_iff_pairwise_ne]at o ⊢;refine List.pairwise_map.2 (o.imp_of_mem (fun {a b} n hb hne e=>?_));have:=c a n;have:=c b hb;exact hne (by omega)
     have:=zW p.nodes.length _ q (fun x g=>by
      obtain⟨y,t,rfl⟩ :=zq24.1 g;have:=c y t;omega)
     rw [lN]at this;refine Nat.le_antisymm this (aR3 _ _ (fun i F=>all_in f (fun m hm=>?_) w i i (Nat.le_refl _) F));have C:=jO (m:= (m:Int)) (by omega) (by omega) s;have D:=mI (m:= (m:Int)) (by omega) j;have r:=jV s;have B:=mE j;rw [aIA]at r;have A:lM (List.replicate p.nodes.length false) (m:Int) =0:=by
      unfold lM;rw [oY,List.getElem?_replicate,if_pos hm];rfl
     have G:lM v (m:Int) =1:=by
      unfold lM;have h:m<v.length:=by omega
      have:=zq27.1 d _ (List.getElem_mem h);rw [oY,kF h,this];rfl
     omega
   ·cases d
 ·cases d
abbrev aR4 (a:Nat)(b:Prog):=oC a [(iN b.nodes),(iI b.funs),(nI b.main),(iC b.cons)]
abbrev aIq (a b:Int)(c:cC)(d:List Pat):AV:=.agg [(nI a),(nI b),(dO c),(iP d)]
def aKN(a:List Int)(b:Int):TS:=⟨(tf 50 26 [(0,(iI a)),(1,(iI a)),(4,(bV false)),(5,(nI b))] [kc f50 116,kl f50 116,.inBlock 0,kc f50 15]),[],[],0⟩
def aKO(a b:Int)(c:cC)(d:List Pat)(e:Int):TS:=⟨(tf 92 53 [kp 2 0,kp 3 1,(4,(bV false)),(5,(nI e))] [kc f92 116,kl f92 116,.inBlock 0,kc f92 15]),[],[oC 0 [(nI a),(nI b),(dO c),(iP d)],oC 1 [(nI a),(nI b),(dO c),(iP d)]],2⟩
def aKP(a:Node)(b:Int):TS:=⟨(tf 51 54 [kp 2 0,kp 3 1,(4,(bV false)),(5,(nI b))] [kc f51 116,kl f51 116,.inBlock 0,kc f51 15]),[],[oC 0 [(nI a.op),(nI a.n),(iI a.kids),(iP a.pats)],oC 1 [(nI a.op),(nI a.n),(iI a.kids),(iP a.pats)]],2⟩
def aKQ(a:Prog)(b:Int):TS:=⟨(tf 16 75 [kp 2 0,kp 3 1,(4,(bV false)),(5,(nI b))] [kc f16 116,kl f16 116,.inBlock 0,kc f16 15]),[],[aR4 0 a,aR4 1 a],2⟩
def aKR(a:Prog)(b:Int):TS:=⟨(tf 16 75 [kp 2 0,kp 3 1,(4,(bV false)),(6,(nI b))] [kc f16 244,kl f16 244,.inBlock 2,kc f16 31]),[],[aR4 0 a,aR4 1 a],2⟩
def bCr (a:List Int):=fun b=>(tT 0 (start PP 50 [(iI a),(iI a)])<|gl 8 cA a<|gl 1 cA a<|.b 2 10 ((a.length:Int) != (a.length:Int)) .x<|.W 9 0 [] (aKN a 0))|>.f b tv
def bDZ(b:List Int)(a:Int):=tT 0 (aKN b a)<|gl 5 cA b<|gd 2 14 (a< (b.length:Int)) (.y fun c:Int=>.i [rn 5,.reg (.d::.d::.ans (.idx (cA c))::rd 3 [.ans (.idx (cA c)),.d,.d])] [hA (0≤a),.a (((b)[a.toNat]?) =some c) (aZ (f:=cA)),hA (0≤a),.a (((b)[a.toNat]?) =some c) (aZ (f:=cA))]<|.b 0 25 (c != c) .x<|gw 6 16 (a+1)<|.W 3 0 [] (aKN b (a+1)))<|gE 7 0 (bV true)
def bCs:=fun c d e f a b g i=>bDZ c d|>.t f e a b a b|>.f g i tv
def bCt:=fun a b c=>bDZ a b|>.f c tv
def bCu (c d:Int)(a:cC)(b:List Pat):=fun e f g i=>(tT 0 (start PP 92 [(aIq c d a b),(aIq c d a b)])<|.b 15 11 (c != c) .x<|.b 7 18 (d != d) .x<|.b 7 25 (!(jW a.length (aG a) a.length (aG a))) .x<|gm 2 aE b<|gm 2 aE b<|.b 3 33 ((b.length:Int) != (b.length:Int)) .x<|.W 9 2 [0,1] (aKO c d a b 0))|>.f e|>.f f|>.f g|>.f i tv
def bD0(i j:Int)(k:cC)(b:List Pat)(a:Int):=tT 0 (aKO i j k b a)<|gm 6 aE b<|gd 2 38 (a< (b.length:Int)) (.y fun c:Int=>.y fun d:Int=>.y fun e:cC=>.y fun f:List Pat=>.y fun g:Bool=>.i [rn 5,.reg (rd 3 (.ans (.idx (Pat.av (Pat.mk c d e f)))::rd 4 [.ans (.idx (Pat.av (Pat.mk c d e f))),.d,.pure (bV g),.d]))] [hA (0≤a),.a (((b)[a.toNat]?) =some (Pat.mk c d e f)) (iM aE),hA (0≤a),.a (((b)[a.toNat]?) =some (Pat.mk c d e f)) (iM aE),hA (aM PP 92 [(aIq c d e f),(aIq c d e f)] (bV g))]<|.b 0 52 (!g) .x<|gw 6 40 (a+1)<|.W 3 2 [0,1] (aKO i j k b (a+1)))<|gE 7 2 (bV true)
def bCv:=fun c d e f g i j k l m n a b o p q=>bD0 c d e f g|>.t n i j k l m a b a b o|>.f p q tv
def bCw:=fun a b c d e f=>bD0 a b c d e|>.f f tv
def bCx (a:Node):=fun b c d e f g=>(tT 0 (start PP 51 [(Node.av a),(Node.av a)])<|.b 15 11 (a.op != a.op) .x<|.b 7 18 (a.n != a.n) .x<|kK 4 50 [(iI a.kids),(iI a.kids)]<|fun b=>.b 3 26 (!b) .x<|gm 2 aE a.pats<|gm 2 aE a.pats<|.b 3 34 ((a.pats.length:Int) != (a.pats.length:Int)) .x<|.W 9 2 [0,1] (aKP a 0))|>.f c|>.f d b e|>.f f|>.f g tv
def bD1(b:Node)(a:Int):=tT 0 (aKP b a)<|gm 6 aE b.pats<|gd 2 39 (a< (b.pats.length:Int)) (.y fun c:Int=>.y fun d:Int=>.y fun e:cC=>.y fun f:List Pat=>.y fun g:Bool=>.i [rn 5,.reg (rd 3 (.ans (.idx (Pat.av (Pat.mk c d e f)))::rd 4 [.ans (.idx (Pat.av (Pat.mk c d e f))),.d,.pure (bV g),.d]))] [hA (0≤a),.a (((b.pats)[a.toNat]?) =some (Pat.mk c d e f)) (iM aE),hA (0≤a),.a (((b.pats)[a.toNat]?) =some (Pat.mk c d e f)) (iM aE),hA (aM PP 92 [(aIq c d e f),(aIq c d e f)] (bV g))]<|.b 0 53 (!g) .x<|gw 6 41 (a+1)<|.W 3 2 [0,1] (aKP b (a+1)))<|gE 7 2 (bV true)
def bCy:=fun c d e f g i j k a b l m n=>bD1 c d|>.t k e f g i j a b a b l|>.f m n tv
def bCz:=fun a b c=>bD1 a b|>.f c tv
def bCA (a:Prog):=fun b c d e f g=>(tT 0 (start PP 16 [(Prog.av a),(Prog.av a)])<|gl 11 Node.av a.nodes<|gl 2 Node.av a.nodes<|.b 2 14 ((a.nodes.length:Int) != (a.nodes.length:Int)) .x<|kK 4 50 [(iI a.funs),(iI a.funs)]<|fun b=>.b 3 22 (!b) .x<|.b 7 29 (a.main != a.main) .x<|gl 2 Con.av a.cons<|gl 2 Con.av a.cons<|.b 3 37 ((a.cons.length:Int) != (a.cons.length:Int)) .x<|.W 9 2 [0,1] (aKQ a 0))|>.f c b d|>.f e|>.f f|>.f g tv
def bD2(c:Prog)(b:Int):=tT 0 (aKQ c b)<|gl 6 Con.av c.cons<|gd 2 42 (b< (c.cons.length:Int)) (.y fun a:Con=>.i [rn 5,.reg (rd 3 (.ans (.idx (Con.av a))::rd 4 [.ans (.idx (Con.av a)),.d,.d]))] [hA (0≤b),.a (((c.cons)[b.toNat]?) =some a) (aZ (f:=Con.av)),hA (0≤b),.a (((c.cons)[b.toNat]?) =some a) (aZ (f:=Con.av))]<|.b 0 55 (!((jW a.name.length (aG a.name) a.name.length (aG a.name)) && ((a.args==a.args) &&true))) .x<|gw 6 44 (b+1)<|.W 3 2 [0,1] (aKQ c (b+1)))<|.W 9 2 [0,1] (aKR c 0)
def bCB:=fun c d e f a b g i=>bD2 c d|>.t f e a b a b|>.f g i tv
def bCC:=fun a b c=>bD2 a b|>.f c tv
def bD3(b:Prog)(a:Int):=tT 0 (aKR b a)<|gl 6 Node.av b.nodes<|gd 2 60 (a< (b.nodes.length:Int)) (.y fun c:Node=>.y fun d:Bool=>.i [rn 5,.reg (rd 3 (.ans (.idx (Node.av c))::rd 4 [.ans (.idx (Node.av c)),.d,.pure (bV d),.d]))] [hA (0≤a),.a (((b.nodes)[a.toNat]?) =some c) (aZ (f:=Node.av)),hA (0≤a),.a (((b.nodes)[a.toNat]?) =some c) (aZ (f:=Node.av)),hA (aM PP 51 [(Node.av c),(Node.av c)] (bV d))]<|.b 0 74 (!d) .x<|gw 6 62 (a+1)<|.W 3 2 [0,1] (aKR b (a+1)))<|gE 7 2 (bV true)
def bCD:=fun c d e f g a b i j k=>bD3 c d|>.t g e f a b a b i|>.f j k tv
def bCE:=fun a b c=>bD3 a b|>.f c tv
theorem aGw (s:cC) :jW (length s) (aG s) (length s) (aG s) =true:=by rw [xM];simp
theorem aNt (a:List Int)(c:a.length<1000000) :∀ (t:List Int) (i:Nat),a.drop i=t→Ends PP 0 (aKN a (i:Int)).as (.ret (.bool true)) (aA [] 0)
 | [],i,h=>by
  have:=bL h;exact bCt a i sd
 | y::t,i,h=>by
  obtain⟨e,b,f⟩ :=bI h;have d:=bCs a i y sd sd sd (by simp) sd;exact d.ends (aNt a c t (i+1) b)
theorem aNu (a:List Int)(b:a.length<1000000) :aM PP 50 [.ilst 1 (map cA a) false,.ilst 1 (map cA a) false] (.bool true) :=
 aK aC rfl rfl ((bCr a (by simp)).ends (aNt a b a 0 rfl))
theorem aNv (f n:Int)(s:cC)(ps:List Pat)(hl:ps.length<1000000)(e:∀p∈ps,aM PP 92 [Pat.av p,Pat.av p] (.bool true)) :∀ (t:List Pat) (i:Nat),ps.drop i=t→Ends PP 0 (aKO f n s ps (i:Int)).as (.ret (.bool true)) (aA [] 0)
 | [],i,h=>by
  have:=bL h;exact bCw f n s ps i sd
 | .mk b c d a::t,i,h=>by
  obtain⟨g,j,l⟩ :=bI h;have k:=bCv f n s ps i b c d a true sd sd sd (e (.mk b c d a) (kN g)) rfl sd;exact k.ends (aNv f n s ps hl e t (i+1) j)
mutual
theorem aYw :∀ (q:Pat),bX q<1000000→aM PP 92 [Pat.av q,Pat.av q] (.bool true)
 | .mk f n s a,h=>by
  simp only [bX]at h;have:=eD a;exact aK aC (by simp [AV.keylessL,kW]) rfl ((bCu f n s a (by simp) (by simp) (by rw [aGw];rfl) (by simp)).ends (aNv f n s a (by omega) (aKS a (by omega)) a 0 rfl))
theorem aKS :∀ (b:List Pat),bD b<1000000→∀p∈b,aM PP 92 [Pat.av p,Pat.av p] (.bool true)
 | [],_,p,a=>by cases a
 | q::b,h,p,a=>by
  simp only [bD]at h;rcases zq7.1 a with e|a
  ·rw [e];exact aYw q (by omega)
  ·exact aKS b (by omega) p a
end
theorem aNw (x:Node)(hl:x.pats.length<1000000)(e:∀p∈x.pats,aM PP 92 [Pat.av p,Pat.av p] (.bool true)) :∀ (t:List Pat) (i:Nat),x.pats.drop i=t→Ends PP 0 (aKP x (i:Int)).as (.ret (.bool true)) (aA [] 0)
 | [],i,h=>by
  have:=bL h;exact bCz x i sd
 | .mk b c d a::t,i,h=>by
  obtain⟨f,g,k⟩ :=bI h;have j:=bCy x i b c d a true sd sd sd (e (.mk b c d a) (kN f)) rfl sd;exact j.ends (aNw x hl e t (i+1) g)
def bFq (x:Node) :Prop:=x.kids.length<1000000∧bD x.pats<1000000
structure FitP (q:Prog) :Prop where
 nodes:q.nodes.length≤1000000
 funs:q.funs.length<1000000
 cons:q.cons.length<1000000
 node:∀x∈q.nodes,bFq x
theorem aYx (x:Node)(h:bFq x) :aM PP 51 [Node.av x,Node.av x] (.bool true) :=by
 have:=eD x.pats;have a:=h.1;have b:=h.2;exact aK aC (by simp [AV.keylessL,Node.av,AV.keyless]) rfl ((bCx x true (by simp) (by simp) (aNu x.kids h.1) rfl (by simp)).ends (aNw x (by omega) (aKS x.pats h.2) x.pats 0 rfl))
theorem bD4 (p:Prog)(hp:FitP p) :∀ (t:List Node) (i:Nat),p.nodes.drop i=t→Ends PP 0 (aKR p (i:Int)).as (.ret (.bool true)) (aA [] 0)
 | [],i,h=>by
  have:=bL h;exact bCE p i sd
 | x::t,i,h=>by
  obtain⟨a,b,e⟩ :=bI h;have d:=hp.nodes;have c:=bCD p i x true sd sd sd (aYx x (hp.node x (kN a))) rfl sd;exact c.ends (bD4 p hp t (i+1) b)
theorem bD5 (p:Prog)(hp:FitP p) :∀ (t:List Con) (i:Nat),p.cons.drop i=t→Ends PP 0 (aKQ p (i:Int)).as (.ret (.bool true)) (aA [] 0)
 | [],i,h=>by
  have:=bL h;exact(bCC p i sd).ends (bD4 p hp p.nodes 0 rfl)
 | c::t,i,h=>by
  obtain⟨d,a,f⟩ :=bI h;have e:=hp.cons;have b:=bCB p i c sd sd sd (by rw [aGw];simp) sd;exact b.ends (bD5 p hp t (i+1) a)
theorem aQJ (p:Prog)(hp:FitP p) :aM PP 16 [Prog.av p,Prog.av p] (.bool true) :=
 aK aC (by simp [AV.keylessL,Prog.av,AV.keyless]) rfl ((bCA p true (by simp) (aNu p.funs hp.funs) rfl (by simp) (by simp)).ends (bD5 p hp p.cons 0 rfl))
structure LFun where
 name:cC
 body:Int
def LFun.av (f:LFun) :AV:=.agg [dO f.name,.int .i64 f.body]
structure LUnit where
 name:cC
 cons:List Con
 funs:List LFun
 needs:List cC
 nodes:List Node
def LUnit.av (u:LUnit) :AV:=.agg [dO u.name,.ilst 2 (map Con.av u.cons) false,.ilst 2 (map LFun.av u.funs) false,.ilst 1 (map dO u.needs) false,.ilst 4 (map Node.av u.nodes) false]
structure LPlace where
 nodes:Int
 funs:Int
def LPlace.av (p:LPlace) :AV:=.agg [.int .i64 p.nodes,.int .i64 p.funs]
theorem aQK {l:List ONode}{nn:List Node}(h:l=map Node.o nn) :map ONode.av l=map Node.av nn:=by rw [h,aJ2]
abbrev aCo (a:List Int):AV:=.gl 2 1 0 a.length false
abbrev aDa (a b c:Int)(d:List Pat):AV:=.agg [(nI a),(nI b),(.gl 6 1 0 (([] :List Int) ++ [c]).length false),(iP d)]
abbrev vJ (a:Nat)(b:List ONode)(c:List Int)(d:Int)(e:List Con):=oC a [(.gl 3 4 0 b.length false),(aCo c),(nI d),(iC e)]
abbrev vK (a b:Int)(c:List Pat):AV:=.agg [(nI a),(nI b),(.gl 4 1 0 ([] :List Int).length false),(iP c)]
abbrev aDb (a b:Int)(c:List Int)(d:Int)(e:List Pat):AV:=.agg [(nI a),(nI b),(.gl 6 1 0 (c++ [d]).length false),(iP e)]
abbrev vL (a b:Int)(c:List Int)(d:List Pat):AV:=.agg [(nI a),(nI b),(.gl 4 1 0 c.length false),(iP d)]
abbrev nF (a:Nat):=oC a [(.func 119 [] [(.ptr 0 0),(.ptr 1 0)])]
abbrev aQL (a:Nat):=oC a [(.func 119 [] [(.ptr 1 0),(.ptr 2 0)])]
abbrev aQM (a:Nat):=oC a [.nils,.nils,(nI 0),.nils]
abbrev vM (a:Nat)(b:List ONode):=oL a 4 (map ONode.av b)
abbrev kU (a:List XT):AV:=.ilst 1 (XTs.av a) false
def bD6(a:List ONode)(b:List Int)(c:Int)(d:List Con)(e f:Int)(g:List XT)(i:List Pat):TS:=cH PP 119 [(.iptr [(nI e),(nI f),(kU g),(iP i)]),(.ptr 0 0),(.ptr 1 0)] [vJ 0 a b c d,nF 1,oL 2 1 (jI b),vM 3 a] 4
def aQN(d:List ONode)(a:List Int)(e:Int)(f:List Con)(g i:Int)(b:List XT)(j:List Pat)(c:List ONode):TS:=⟨(tf 119 59 [kp 1 0,kp 2 1,(4,(nI 0)),(5,(nI (d.length:Int))),(34,(kU b)),(35,(nI (b.length:Int))),(36,(nI 0))] [kc f119 244,kl f119 244,.inBlock 0,kc f119 31]),[],[vJ 0 c a e f,nF 1,oL 2 1 (jI a),vM 3 c],4⟩
def aYy(d:List ONode)(a:List Int)(e:Int)(f:List Con)(i j:Int)(b:List XT)(k:List Pat)(g:Int)(c:List ONode):TS:=⟨(tf 119 59 [kp 1 0,kp 2 1,(4,(nI 0)),(5,(nI (d.length:Int))),(8,(nI g)),(34,(kU b)),(35,(nI (b.length:Int))),(36,(nI 0))] [kc f119 15667,.inBlock 1,kc f119 1959,kl f119 244,.inBlock 0,kc f119 31]),[],[vJ 0 c a e f,nF 1,oL 2 1 (jI a),vM 3 c],4⟩
def aR5(d:List ONode)(a:List Int)(e:Int)(f:List Con)(m n:Int)(b:List XT)(o:List Pat)(g:Int)(c:List ONode)(i:Nat)(j k:Int)(l:List Pat):TS:=⟨(tf 119 59 [kp 1 0,kp 2 1,(4,(nI 0)),(5,(nI (d.length:Int))),(8,(nI g)),(34,(kU b)),(35,(nI (b.length:Int))),(36,(nI 0))] [kc f119 15667,.inBlock 1,kc f119 1959,kl f119 244,.inBlock 0,kc f119 31]),[],[vJ 0 c a e f,nF 1,oL 2 1 (jI a),(3,(.lst 4 (set (map ONode.av c) i (vK j k l))),false),oL 4 1 (jI ([] :List Int))],5⟩
def aDc(d:List ONode)(a:List Int)(e:Int)(f:List Con)(k l:Int)(b:List XT)(m:List Pat)(c:List ONode)(g:List Int)(i:Value)(j:Int):TS:=⟨(tf 119 59 [kp 1 0,kp 2 1,(4,(nI 0)),(5,(nI (d.length:Int))),(34,(kU b)),(35,(nI (b.length:Int))),(36,(nI j))] [kc f119 244,kl f119 244,.inBlock 0,kc f119 31]),[],[vJ 0 c a e f,nF 1,oL 2 1 (jI a),vM 3 c,(4,(.lstv i 1 (jI g)),true)],5⟩
def aYz(d:List ONode)(a:List Int)(e:Int)(f:List Con)(l m:Int)(b:List XT)(n:List Pat)(g:Int)(c:List ONode)(i:List Int)(j:Value)(k:Int):TS:=⟨(tf 119 59 [kp 1 0,kp 2 1,(4,(nI 0)),(5,(nI (d.length:Int))),(8,(nI g)),(34,(kU b)),(35,(nI (b.length:Int))),(36,(nI k))] [kc f119 15667,.inBlock 1,kc f119 1959,kl f119 244,.inBlock 0,kc f119 31]),[],[vJ 0 c a e f,nF 1,oL 2 1 (jI a),vM 3 c,(4,(.lstv j 1 (jI i)),true)],5⟩
def aR6(e:List ONode)(a:List Int)(f:Int)(g:List Con)(o p:Int)(b:List XT)(q:List Pat)(i:Int)(c:List ONode)(d:List Int)(j:Int)(k:Nat)(l m:Int)(n:List Pat):TS:=⟨(tf 119 59 [kp 1 0,kp 2 1,(4,(nI 0)),(5,(nI (e.length:Int))),(8,(nI i)),(34,(kU b)),(35,(nI (b.length:Int))),(36,(nI j))] [kc f119 15667,.inBlock 1,kc f119 1959,kl f119 244,.inBlock 0,kc f119 31]),[],[vJ 0 c a f g,nF 1,oL 2 1 (jI a),(3,(.lst 4 (set (map ONode.av c) k (vL l m d n))),false),oL 4 1 (jI d)],5⟩
theorem bCF (L:List ONode)(fs:List Int)(mn:Int)(cs:List Con)(j l:Int)(g:List XT)(h:List Pat)(d:Int)(f:List ONode)(ix:Nat)(c e:Int)(a:List Pat)(p:0≤ ((L.length:Nat) :Int))(h1: ((L.length:Nat) :Int) < ((f.length:Nat) :Int))(h2: ((L.length:Nat) :Int).toNat=ix)(n:ix<length f)(q:length (([] :List Int) ++ [d]) ≤1000000){m:Res}{h':Hp}(hk:∀r s v,Ends PP 3 (let u:=Value.slice r s v; (aDc L fs mn cs j l g h (set f ix (ONode.mk c e (KV.val u) a)) (([] :List Int) ++ [d]) u 1)).as m h') :
  Ends PP 3 (aR5 L fs mn cs j l g h d f ix c e a).as m h':=
 aGt (n1:=7) (t:=fun u=> (aDc L fs mn cs j l g h (set f ix (ONode.mk c e (KV.val u) a)) (([] :List Int) ++ [d]) u 1)) (k:=3) (b:=6) (i:=ix) (o:=2) (ys:=fun u=> (map ONode.av (set f ix (ONode.mk c e (KV.val u) a)))) (ks:=[3,6]) (ps:=fun u=>[NQ (set (map ONode.av f) ix (aDa c e d a)) ix 2 6 1 (jI (([] :List Int) ++ [d])).length u (map ONode.av (set f ix (ONode.mk c e (KV.val u) a))),0≤ ((L.length:Nat) :Int),((L.length:Nat) :Int) < ((f.length:Nat) :Int),(set (map ONode.av f) ix (vK c e a))[(0+ ((L.length:Nat) :Int).toNat)]?=some (vK c e a),0+ ([] :List Int).length≤length (jI ([] :List Int)),length (([] :List Int) ++ [d]) ≤1000000,take ([] :List Int).length (drop 0 (jI ([] :List Int))) ++ (jI [d]) = (jI (([] :List Int) ++ [d])),([] :List Int).length+length (jI [d]) =length (([] :List Int) ++ [d]),0≤ ((L.length:Nat) :Int),((L.length:Nat) :Int) < ((f.length:Nat) :Int),(set (map ONode.av f) ix (vK c e a))[(0+ ((L.length:Nat) :Int).toNat)]?=some (vK c e a),kO (vK c e a) 2 [(.gl 6 1 0 (([] :List Int) ++ [d]).length false)] =some (aDa c e d a),(AV.gl 3 4 0 f.length false) = (AV.gl 3 4 0 f.length false),(AV.gl 3 4 0 f.length false) = (AV.gl 3 4 0 f.length false),(set (map ONode.av f) ix (vK c e a)).set (0+ ((L.length:Nat) :Int).toNat) (aDa c e d a) = (set (map ONode.av f) ix (aDa c e d a)),(AV.gl 3 4 0 f.length false) = (.gl 3 4 0 (set f ix (ONode.mk c e (KV.val u) a)).length false),(AV.gl 3 4 0 f.length false) = (.gl 3 4 0 (set f ix (ONode.mk c e (KV.val u) a)).length false),(AV.gl 3 4 0 f.length false) = (.gl 3 4 0 (set f ix (ONode.mk c e (KV.val u) a)).length false)]) (is:=[.reg [.d,.d,.d,.d,.d,.d,.ans (.ix),.d,.ans (.idx (vK c e a)),.d,.d,.app (jI (([] :List Int) ++ [d])) (([] :List Int) ++ [d]).length,.ans (.ix),.d,.st (vK c e a) (aDa c e d a)],.lset 3 (set (map ONode.av f) ix (aDa c e d a)),.run 1]) (is2:=fun u=>[.set 44 (.gl 3 4 0 (set f ix (ONode.mk c e (KV.val u) a)).length false),.set 47 (.gl 3 4 0 (set f ix (ONode.mk c e (KV.val u) a)).length false),.cset 0 0 (.gl 3 4 0 (set f ix (ONode.mk c e (KV.val u) a)).length false),.run 5]) (fun u=>by kernel_rfl) (fun u=>by kernel_rfl) (fun u=> ⟨(aH _ (fun _=>rfl) _),⟨(aH _ (fun _=>dJ _) _),⟨(aH _ (fun _=>rfl) _),trivial⟩⟩⟩) (fun u=> ⟨(bDX [(nI c),(nI e)] [(iP a)] n (lN ..) (by simp) rfl),p,h1,(aKM h2 n),(aJm _ _),q,(aJn _ _ _),(aJo _ _ _),p,h1,(aKM h2 n),rfl,rfl,rfl,(aYt h2),(cI (fK ..).symm),(cI (fK ..).symm),(cI (fK ..).symm)⟩) hk
theorem bCG (L:List ONode)(fs:List Int)(mn:Int)(cs:List Con)(m n:Int)(h:List XT)(j:List Pat)(d:Int)(g:List ONode)(f:List Int)(l:Int)(ix:Nat)(c e:Int)(a:List Pat)(r:0≤ ((L.length:Nat) :Int))(h1: ((L.length:Nat) :Int) < ((g.length:Nat) :Int))(h2: ((L.length:Nat) :Int).toNat=ix)(q:ix<length g)(s:length (f++ [d]) ≤1000000)(w: (IntKind.i64.wrap (l+ (1:Int))) = (l+ (1:Int))){p:Res}{h':Hp}(hk:∀v x y,Ends PP 3 (let u:=Value.slice v x y; (aDc L fs mn cs m n h j (set g ix (ONode.mk c e (KV.val u) a)) (f++ [d]) u (l+ (1:Int)))).as p h') :
  Ends PP 3 (aR6 L fs mn cs m n h j d g f l ix c e a).as p h':=
 aGt (n1:=7) (t:=fun u=> (aDc L fs mn cs m n h j (set g ix (ONode.mk c e (KV.val u) a)) (f++ [d]) u (l+ (1:Int)))) (k:=3) (b:=6) (i:=ix) (o:=2) (ys:=fun u=> (map ONode.av (set g ix (ONode.mk c e (KV.val u) a)))) (ks:=[3,6]) (ps:=fun u=>[NQ (set (map ONode.av g) ix (aDb c e f d a)) ix 2 6 1 (jI (f++ [d])).length u (map ONode.av (set g ix (ONode.mk c e (KV.val u) a))),0≤ ((L.length:Nat) :Int),((L.length:Nat) :Int) < ((g.length:Nat) :Int),(set (map ONode.av g) ix (vL c e f a))[(0+ ((L.length:Nat) :Int).toNat)]?=some (vL c e f a),0+f.length≤length (jI f),length (f++ [d]) ≤1000000,take f.length (drop 0 (jI f)) ++ (jI [d]) = (jI (f++ [d])),f.length+length (jI [d]) =length (f++ [d]),0≤ ((L.length:Nat) :Int),((L.length:Nat) :Int) < ((g.length:Nat) :Int),(set (map ONode.av g) ix (vL c e f a))[(0+ ((L.length:Nat) :Int).toNat)]?=some (vL c e f a),kO (vL c e f a) 2 [(.gl 6 1 0 (f++ [d]).length false)] =some (aDb c e f d a),(AV.gl 3 4 0 g.length false) = (AV.gl 3 4 0 g.length false),(AV.gl 3 4 0 g.length false) = (AV.gl 3 4 0 g.length false),(set (map ONode.av g) ix (vL c e f a)).set (0+ ((L.length:Nat) :Int).toNat) (aDb c e f d a) = (set (map ONode.av g) ix (aDb c e f d a)),(AV.gl 3 4 0 g.length false) = (.gl 3 4 0 (set g ix (ONode.mk c e (KV.val u) a)).length false),(AV.gl 3 4 0 g.length false) = (.gl 3 4 0 (set g ix (ONode.mk c e (KV.val u) a)).length false),(AV.gl 3 4 0 g.length false) = (.gl 3 4 0 (set g ix (ONode.mk c e (KV.val u) a)).length false),(nI (IntKind.i64.wrap (l+ (1:Int)))) = (nI (l+ (1:Int)))]) (is:=[.reg [.d,.d,.d,.d,.d,.d,.ans (.ix),.d,.ans (.idx (vL c e f a)),.d,.d,.app (jI (f++ [d])) (f++ [d]).length,.ans (.ix),.d,.st (vL c e f a) (aDb c e f d a)],.lset 3 (set (map ONode.av g) ix (aDb c e f d a)),.run 1]) (is2:=fun u=>[.set 44 (.gl 3 4 0 (set g ix (ONode.mk c e (KV.val u) a)).length false),.set 47 (.gl 3 4 0 (set g ix (ONode.mk c e (KV.val u) a)).length false),.cset 0 0 (.gl 3 4 0 (set g ix (ONode.mk c e (KV.val u) a)).length false),.run 2,.set 57 (nI (l+ (1:Int))),.run 3]) (fun u=>by kernel_rfl) (fun u=>by kernel_rfl) (fun u=> ⟨(aH _ (fun _=>rfl) _),⟨(aH _ (fun _=>dJ _) _),⟨(aH _ (fun _=>rfl) _),trivial⟩⟩⟩) (fun u=> ⟨(bDX [(nI c),(nI e)] [(iP a)] q (lN ..) (by simp) rfl),r,h1,(aKM h2 q),(aJm _ _),s,(aJn _ _ _),(aJo _ _ _),r,h1,(aKM h2 q),rfl,rfl,rfl,(aYt h2),(cI (fK ..).symm),(cI (fK ..).symm),(cI (fK ..).symm),(congrArg (AV.int .i64) w)⟩) hk
def bGR(a:List XT)(b:Int)(c:List Con):TS:=cH PP 76 [(.iptr [(kU a),(nI b),(iC c)])] [] 0
def aKT(a:List XT)(d:Int)(g e:List Con)(f:Int)(b:List ONode)(c:List Int):TS:=⟨(tf 76 39 [kp 2 0,kp 3 1,kp 4 2,(22,(kU a)),(23,(nI (a.length:Int))),(24,(nI f))] [kc f76 500,kl f76 500,.inBlock 0,kc f76 63]),[],[aQM 0,oC 1 [(.gl 3 4 0 b.length false),(.gl 4 1 0 c.length false),(nI d),(iC e)],aQL 2,vM 3 b,oL 4 1 (jI c)],5⟩
def bCH (a:List ONode)(g:List Int)(i:Int)(j:List Con)(b c:Int)(e:List XT)(f:List Pat):=fun d k l=>(tT 3 (bD6 a g i j b c e f)<|.y fun d:List Pat=>.i [rn 12,.reg (rd 14 [.pure (iP d),.d,.d,.app (map ONode.av (a++ [(ONode.mk b c KV.nil d)])) (a++ [(ONode.mk b c KV.nil d)]).length,.d,.d])] [hA (aM PP 120 [(iP f)] (iP d)),hb ONode.av a,hA (length (a++ [(ONode.mk b c KV.nil d)]) ≤1000000),hc ONode.av a [(ONode.mk b c KV.nil d)],he ONode.av a [(ONode.mk b c KV.nil d)],hr (nI c),hr (nI c),hr (nI b),hr (nI b),hr (AV.gl 3 4 0 a.length false),hr (AV.gl 3 4 0 a.length false)]<|.i [rn 7,aL e] [.q (p:=((XTs.av e).length:Int) = (e.length:Int)) (jY cY _)]<|.W 4 6 [5] (aQN a g i j b c e f (a++ [(ONode.mk b c KV.nil d)]))) d k l ⟨kk,⟨(aH _ (fun _=>dJ _) _),trivial⟩⟩
def aYA(c:List ONode)(d:List Int)(e:Int)(f:List Con)(j k:Int)(g:List XT)(l:List Pat)(b:List ONode):=tT 3 (aQN c d e f j k g l b)<|gd 5 37 (0< (g.length:Int)) (.y fun m:Int=>.y fun n:Int=>.y fun o:List XT=>.y fun p:List Pat=>giF cY 6 g 0 (XT.mk m n o p)<|.y fun i:List Node=>gk 7 (.enter 119 [(.iptr [(nI m),(nI n),(kU o),(iP p)]),(.ptr 0 0),(.ptr 1 0)]) [vJ 0 b d e f,nF 1,oL 2 1 (jI d),vM 3 b] 4 (nI (b.length:Int)) [oC 0 [(.gl 4 4 0 (b++map Node.o i).length false),(aCo d),(nI e),(iC f)],nF 1,oL 2 1 (jI d),oL 4 4 (map ONode.av (b++map Node.o i))] 5<|.W 2 5 [4] (aYy c d e f j k g l (b.length:Int) (b++map Node.o i)))<|.y fun a:ONode=>.i [rn 8,.lw 3 (map ONode.av (set b c.length (ONode.mk a.op a.n (KV.row []) a.pats)))] [.a (b[c.length]?=some a) (p':=(map ONode.av b) ≠ []) aJ4,.a (b[c.length]?=some a∧a.kv=KV.nil) (p':=VW (map ONode.av b) (map ONode.av (set b c.length (ONode.mk a.op a.n (KV.row []) a.pats)))) fun⟨ha,hb⟩=>(aWP ha hb)]<|.i [.cset 0 0 (.gl 3 4 0 (set b c.length (ONode.mk a.op a.n (KV.row []) a.pats)).length false)] [.q (p:=(AV.gl 3 4 0 b.length false) = (.gl 3 4 0 (set b c.length (ONode.mk a.op a.n (KV.row []) a.pats)).length false)) (cI (fK ..).symm)]<|.E 0 4 [3] (nI (c.length:Int)) [oC 0 [(.gl 3 4 0 (set b c.length (ONode.mk a.op a.n (KV.row []) a.pats)).length false),(aCo d),(nI e),(iC f)],nF 1,oL 2 1 (jI d),oL 3 4 (map ONode.av (set b c.length (ONode.mk a.op a.n (KV.row []) a.pats)))] 4
def bCI:=fun a b c d e f g i j k l m n o p q r s=>aYA a b c d e f g i j|>.t p k l m n q r o s ⟨kk,⟨(aH _ (fun _=>dJ _) _),trivial⟩⟩
def bCJ:=fun b c d e f g i j k l m a n=>aYA b c d e f g i j k|>.f m l a ⟨a,n⟩ ⟨kk,⟨(aH _ (fun _=>dJ _) _),trivial⟩⟩
def aYB(d:List ONode)(e:List Int)(g:Int)(i:List Con)(m n:Int)(j:List XT)(o:List Pat)(b:List ONode)(c:List Int)(f:Value)(k:Int):=tT 3 (aDc d e g i m n j o b c f k)<|gd 5 37 (k< (j.length:Int)) (.y fun p:Int=>.y fun q:Int=>.y fun r:List XT=>.y fun s:List Pat=>giF cY 6 j k (XT.mk p q r s)<|.y fun l:List Node=>gk 7 (.enter 119 [(.iptr [(nI p),(nI q),(kU r),(iP s)]),(.ptr 0 0),(.ptr 1 0)]) [vJ 0 b e g i,nF 1,oL 2 1 (jI e),vM 3 b,(4,(.lstv f 1 (jI c)),true)] 5 (nI (b.length:Int)) [oC 0 [(.gl 5 4 0 (b++map Node.o l).length false),(aCo e),(nI g),(iC i)],nF 1,oL 2 1 (jI e),(4,(.lstv f 1 (jI c)),true),oL 5 4 (map ONode.av (b++map Node.o l))] 6<|.W 2 6 [5,4] (aYz d e g i m n j o (b.length:Int) (b++map Node.o l) c f k))<|.y fun a:ONode=>.i [rn 8,.vfrz 4 3 (map ONode.av (set b d.length (ONode.mk a.op a.n (KV.row c) a.pats)))] [.a (b[d.length]?=some a) (p':=(map ONode.av b) ≠ []) aJ4,hk cA c,.a (b[d.length]?=some a∧a.kv=KV.val f) (p':=VQ f 1 (jI c) (map ONode.av b) (map ONode.av (set b d.length (ONode.mk a.op a.n (KV.row c) a.pats)))) fun⟨ha,hb⟩=>(aWQ ha hb)]<|.i [.cset 0 0 (.gl 3 4 0 (set b d.length (ONode.mk a.op a.n (KV.row c) a.pats)).length false)] [.q (p:=(AV.gl 3 4 0 b.length false) = (.gl 3 4 0 (set b d.length (ONode.mk a.op a.n (KV.row c) a.pats)).length false)) (cI (fK ..).symm)]<|.E 0 5 [3] (nI (d.length:Int)) [oC 0 [(.gl 3 4 0 (set b d.length (ONode.mk a.op a.n (KV.row c) a.pats)).length false),(aCo e),(nI g),(iC i)],nF 1,oL 2 1 (jI e),oL 3 4 (map ONode.av (set b d.length (ONode.mk a.op a.n (KV.row c) a.pats)))] 4
def bCK:=fun a b c d e f g i j k l m n o p q r s t u v=>aYB a b c d e f g i j k l m|>.t s n o p q t u r v ⟨kk,⟨(aH _ (fun _=>dJ _) _),⟨kk,trivial⟩⟩⟩
def bCL:=fun b c d e f g i j k l m n o p a q=>aYB b c d e f g i j k l m n|>.f p o a ⟨a,q⟩ ⟨kk,⟨(aH _ (fun _=>dJ _) _),trivial⟩⟩
def bCM (a:List XT)(c:Int)(d:List Con):=fun b e=>(tT 0 (bGR a c d)<|.y fun b:List Con=>.i [rn 5,.reg (rd 8 (.pure (iC b)::rd 3 []))] [hA (aM PP 90 [(iC d)] (iC b)),hr (nI c),hr (nI c)]<|.i [rn 16,aL a] [.q (p:=((XTs.av a).length:Int) = (a.length:Int)) (jY cY _)]<|.i [rn 4,.cnil 1 0 4] []<|gu 0 3 (map ONode.av ([] :List ONode))<|gv 0 1 0 (.gl 3 4 0 ([] :List ONode).length false)<|.i [.cnil 1 1 1] []<|gu 0 4 (jI ([] :List Int))<|gv 0 1 1 (.gl 4 1 0 ([] :List Int).length false)<|.W 0 5 [0,1,2,3,4] (aKT a c d b 0 ([] :List ONode) ([] :List Int))) b e ⟨(aH _ (fun _=>dJ _) _),⟨kk,trivial⟩⟩
def aYC(g:List XT)(d:Int)(j e:List Con)(f:Int)(a:List ONode)(b:List Int):=tT 0 (aKT g d j e f a b)<|gd 5 25 (f< (g.length:Int)) (.y fun k:Int=>.y fun l:Int=>.y fun m:List XT=>.y fun n:List Pat=>giF cY 6 g f (XT.mk k l m n)<|.y fun i:List Node=>gk 7 (.enter 119 [(.iptr [(nI k),(nI l),(kU m),(iP n)]),(.ptr 1 0),(.ptr 2 0)]) [aQM 0,oC 1 [(.gl 3 4 0 a.length false),(.gl 4 1 0 b.length false),(nI d),(iC e)],aQL 2,vM 3 a,oL 4 1 (jI b)] 5 (nI (a.length:Int)) [aQM 0,oC 1 [(.gl 5 4 0 (a++map Node.o i).length false),(.gl 4 1 0 b.length false),(nI d),(iC e)],aQL 2,oL 4 1 (jI b),oL 5 4 (map ONode.av (a++map Node.o i))] 6<|ga 7 cA b [(a.length:Int)]<|gw 6 37 (f+1)<|.W 3 8 [0,1,2,5,7] (aKT g d j e (f+1) (a++map Node.o i) (b++ [(a.length:Int)])))<|.y fun c:List Node=>.i [rn 3,.lset 3 (jN c)] [.a (a=map Node.o c) (p':=(map ONode.av a) = (jN c)) aQK]<|.i [.cset 1 0 (.gl 3 4 0 c.length false)] [.a (c.length=a.length) (p':=(AV.gl 3 4 0 a.length false) = (.gl 3 4 0 c.length false)) (fun h=>(cI h.symm))]<|gy 0 1 0 3 4 Node.av c false<|gy 0 1 1 4 1 cA b false<|gE 5 5 (.agg [(iN c),(iI b),(nI d),(iC e)])
def bCN:=fun a b c d e f g i j k l m n o p q r s=>aYC a b c d e f g|>.t n i j k l o p m q r s ⟨(aH _ (fun _=>dJ _) _),⟨kk,trivial⟩⟩
def bCO:=fun a b c d e f g i j k l=>aYC a b c d e f g|>.f j i k l tv
end
end Go.Hb
