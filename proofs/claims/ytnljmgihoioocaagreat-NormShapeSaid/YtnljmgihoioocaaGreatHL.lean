/- A machine on abstract values, its soundness, ways, plain laws. -/
import Derived.Test.YtnljmgihoioocaaGreatHF
import Derived.Test.YtnljmgihoioocaaGreatHG
import Derived.Test.YtnljmgihoioocaaGreatHH
import Derived.Test.YtnljmgihoioocaaGreatHJ
import Derived.Test.YtnljmgihoioocaaGreatHK
set_option linter.defProp false
set_option linter.unusedVariables false
set_option linter.unusedSimpArgs false
set_option linter.unusedSectionVars false
set_option maxRecDepth 100000
set_option maxHeartbeats 8000000
namespace Go.Hb
open List (count_append drop length map set take)
open Go.Proofs Tryz
noncomputable section
section
variable {p :Prog} {mf mc:List (Int×Int)}
end
section
variable {p :Prog}
end
def pre (p:Prog) :Nat→Int→List Int
 |0,_=>[]
 | f+1,a=>match p.nodes[a.toNat]? with
  |some x=>a:: (x.kids.map (pre p f)).flatten
  |none=>[]
def aYp :List Int→Int→List Int→List Int
 |l,_,[] =>l
 |l,n,b::bs=>aYp (l.set b.toNat n) (n+1) bs
section
variable {p :Prog}
end
section
variable {p :Prog} {mf mc:List (Int×Int)} {F C:List Int} {to:List Int}
end
theorem aDQ {p:Prog}(hp:aF p=true)(a:aK p=true) :FineP p:=by
 have d:=hp;simp only [aF,cP,decide_eq_true_eq]at d;obtain⟨⟨⟨⟨h,g⟩,m⟩,_⟩,j⟩ :=d;simp only [aK,cP]at a;obtain⟨_,a⟩ :=a;split at a
 · rename_i u e;unfold allT at a;split at a
   · rename_i v l;refine⟨h,g,fun i x c=>?_,fun f a=>?_⟩
     · have:=mK l i x c;have b:=zq27.1 j x (kS c);simp only [bD,cP,decide_eq_true_eq]at b;exact⟨aJZ this.1,b.1.1,fun k hk=>by have:=this.2 k hk;omega⟩
     ·have:=qG e f a;omega
   ·cases a
 ·cases a
def eU (p:Prog)(i:Int) :List Int:=match p.nodes[i.toNat]? with
 |some x=>x.kids
 |none=>[]
section
variable {p :Prog}
theorem vI {q:Int→List Int}(m:Int) :∀ (a:List Int),(∀k∈a,(q k).count m= [k].count m+ (((q k).map (eU p)).flatten).count m) →
  ((a.map q).flatten).count m=a.count m+ ((((a.map q).flatten).map (eU p)).flatten).count m
 | [],_=>rfl
 | k::a,h=>by
  have b:=h k (cQ ..);have d:=vI m a (fun x c=>h x (cH _ c));rw [eI,aCv,count_append,aG2,List.flatten_append,count_append,b,d,show k::a= [k] ++a from rfl,count_append];omega
theorem aC5 (hp:FineP p)(m:Int) :∀ (f:Nat) (a:Int),0≤a→a<p.nodes.length→p.nodes.length-a.toNat≤f→ (pre p f a).count m= [a].count m+ (((pre p f a).map (eU p)).flatten).count m
 |0,a,g,h,j=>by omega
 | f+1,a,g,h,j=>by
  obtain⟨x,b⟩ :∃x,p.nodes[a.toNat]?=some x:= ⟨_,kR (by omega)⟩;obtain⟨_,_,c⟩ :=hp.node _ _ b;have e:pre p (f+1) a=a:: (x.kids.map (pre p f)).flatten:=by rw [pre,b]
  have d:eU p a=x.kids:=by unfold eU;rw [b]
  have i:=vI (p:=p) m x.kids (fun k hk=>by
   have:=c k hk;exact aC5 hp m f k (by omega) (by omega) (by omega))
  rw [e,eI,aCv,count_append,d,show a:: (x.kids.map (pre p f)).flatten= [a] ++ (x.kids.map (pre p f)).flatten from rfl,count_append,i]
theorem aYq (hp:FineP p) :∀ (f:Nat) (a:Int),0≤a→a<p.nodes.length→∀y∈pre p f a,0≤y∧y<p.nodes.length
 |0,a,_,_,y,b=>by cases b
 | f +1,a,h,g,y,b=>by
  obtain⟨x,d⟩ :∃x,p.nodes[a.toNat]?=some x:= ⟨_,kR (by omega)⟩;obtain⟨_,_,c⟩ :=hp.node _ _ d;have e:pre p (f+1) a=a:: (x.kids.map (pre p f)).flatten:=by rw [pre,d]
  rw [e]at b;rcases zq7.1 b with rfl|b
  ·exact⟨h,g⟩
  · obtain⟨l,hl,b⟩ :=List.mem_flatten.1 b;obtain⟨k,hk,rfl⟩ :=zq24.1 hl;have:=c k hk;exact aYq hp f k (by omega) (by omega) y b
def lQ (u:List Bool)(m:Int) :Nat:=if u[m.toNat]?=some true then 1 else 0
theorem jV {lo n:Int}(d:0≤lo){m:Int}(hm:0≤m) :∀ {a:List Int} {u v:List Bool},marks lo n a u=some v→a.count m+lQ u m=lQ v m
 | [],u,v,h=>by cases h;simp
 | k ::a,u,v,h=>by
  have hk:=qG h k (cQ ..);obtain⟨f,j⟩ :=lH h;have g:=jV d hm j;rw [←g,show k::a= [k] ++a from rfl,count_append];have b:= (zq0.1 f).1;by_cases e:k=m
  · subst e;have c:lQ u k=0:=by unfold lQ;rw [f];rfl
    have i:lQ (u.set k.toNat true) k=1:=by unfold lQ;rw [List.getElem?_set_self b];rfl
    rw [c,i];simp;omega
  · have c:lQ (u.set k.toNat true) m=lQ u m:=by unfold lQ;rw [List.getElem?_set_ne (by omega)]
    rw [c,List.count_singleton,if_neg (by simpa using e)];omega
theorem mM {m:Int}(hm:0≤m) :∀ {t:List Node} {i:Nat} {u v:List Bool},bT p i t u=some v→ ((t.map Node.kids).flatten).count m+lQ u m=lQ v m
 | [],i,u,v,h=>by simp only [bT,Option.some.injEq]at h;subst h;simp
 | x::t,i,u,v,h=>by
  obtain⟨_,w,a,b⟩ :=gV h;have d:=jV (by omega) hm a;have c:=mM hm b;rw [eI,aCv,count_append];omega
theorem aIm {m:Int}:∀ {t:List Node},((t.map Node.kids).flatten).count m≤1→∀ (i j:Nat) (x y:Node),t[i]?=some x→t[j]?=some y→m∈x.kids→m∈y.kids→i=j
 | [],_,i,j,x,y,a,_,_,_=>by simp at a
 | z ::t,h,i,j,x,y,a,b,d,e=>by
  rw [eI,aCv,count_append]at h;have c:∀ {i:Nat} {x:Node},t[i]?=some x→m∈x.kids→0< ((t.map Node.kids).flatten).count m:=fun {i x} a d=>
   List.count_pos_iff.2 (List.mem_flatten.2 ⟨x.kids,zq24.2 ⟨x,kS a,rfl⟩,d⟩)
  cases i with
  | zero=>
   simp only [jK,Option.some.injEq]at a;subst a;cases j with
   |zero=>rfl
   | succ j=>
    simp only [lS]at b;have:=c b e;have:=List.count_pos_iff.2 d;omega
  | succ i=>
   simp only [lS]at a;cases j with
   | zero=>
    simp only [jK,Option.some.injEq]at b;subst b;have:=c a d;have:=List.count_pos_iff.2 e;omega
   | succ j=>
    simp only [lS]at b;rw [aIm (by omega) i j x y a b d e]
theorem aRV {m:Int}:∀ {t:List Node} {i:Nat} {x:Node},t[i]?=some x→x.kids.count m≤ ((t.map Node.kids).flatten).count m
 | [],i,x,a=>by simp at a
 | z::t,0,x,a=>by
  simp only [jK,Option.some.injEq]at a;subst a;rw [eI,aCv,count_append];omega
 | z::t,i+1,x,a=>by
  simp only [lS]at a;have:=aRV (m:=m) a;rw [eI,aCv,count_append];omega
theorem aRW {m i:Int}:∀ (L:List Int),(∀j∈L,m∈eU p j→j=i) → ((L.map (eU p)).flatten).count m≤L.count i* (eU p i).count m
 | [],_=>by simp
 | j ::L,h=>by
  have a:=aRW L (fun x b=>h x (cH _ b));rw [eI,aCv,count_append,show j::L= [j] ++L from rfl,count_append,Nat.add_mul];by_cases hm:m∈eU p j
  · have:=h j (cQ ..) hm;subst this;simp;exact a
  · rw [List.count_eq_zero.2 hm];exact Nat.le_trans (by simpa using a) (Nat.le_add_left ..)
theorem bHW (hp:FineP p)(hK:∀m:Int,0≤m→p.funs.count m+ ((p.nodes.map Node.kids).flatten).count m≤1){L:List Int}(d:∀x∈L,0≤x∧x<p.nodes.length)(t:∀m:Int,L.count m=p.funs.count m+ ((L.map (eU p)).flatten).count m) :∀ (b m:Nat),m≤b→L.count (m:Int) ≤1:=by
 intro b
 induction b with
 | zero=>
  intro m o;have hm:m=0:=by omega
  subst hm;have e:=t ((0:Nat) :Int);have z: ((L.map (eU p)).flatten).count ((0:Nat) :Int) =0:=by
   refine List.count_eq_zero.2 (fun h=>?_);obtain⟨l,hl,a⟩ :=List.mem_flatten.1 h;obtain⟨j,r,rfl⟩ :=zq24.1 hl;unfold eU at a;split at a
   · rename_i x c;have:= (hp.node _ _ c).2.2 _ a;omega
   ·cases a
  have:=hK ((0:Nat) :Int) (by omega);omega
 | succ b C=>
  intro m o;have e:=t (m:Int);have hk:=hK (m:Int) (by omega);by_cases hz: ((L.map (eU p)).flatten).count (m:Int) =0
  ·omega
  · have g:=List.count_pos_iff.1 (Nat.pos_of_ne_zero hz);obtain⟨l,hl,a⟩ :=List.mem_flatten.1 g;obtain⟨i,A,rfl⟩ :=zq24.1 hl;have B:=d i A;obtain⟨x,c⟩ :∃x,p.nodes[i.toNat]?=some x:= ⟨_,kR (by omega)⟩;have s:eU p i=x.kids:=by unfold eU;rw [c]
    rw [s]at a;have u:= (hp.node _ _ c).2.2 _ a;have q:L.count i≤1:=by
     have:=C i.toNat (by omega);rwa [show((i.toNat:Nat) :Int) =i by omega]at this
    have n:=aRW (p:=p) (m:= (m:Int)) (i:=i) L (fun j r f=>by
     have D:=d j r;obtain⟨y,k⟩ :∃y,p.nodes[j.toNat]?=some y:= ⟨_,kR (by omega)⟩;have v:eU p j=y.kids:=by unfold eU;rw [k]
     rw [v]at f;have:=aIm (by omega) _ _ y x k c f a;omega)
    rw [s]at n;have w:=aRV (m:= (m:Int)) c;have:L.count i*x.kids.count (m:Int) ≤1*x.kids.count (m:Int) :=Nat.mul_le_mul_right _ q;omega
theorem tC :∀ (n:Nat) (l:List Nat),l.Nodup→ (∀x∈l,x<n) →l.length≤n
 |0,[],_,_=>by simp
 |0,x::l,_,h=>by have:=h x (cQ ..);omega
 | n+1,l,b,h=>by
  by_cases hm:n∈l
  · have d:=tC n (l.erase n) (b.erase n) (fun x a=>by
     have:=h x (List.mem_of_mem_erase a)
     have c:x≠n:=fun e=>by
      subst e;exact b.not_mem_erase a
     omega)
    rw [List.length_erase_of_mem hm]at d;omega
  · have:=tC n l b (fun x a=>by
     have:=h x a;have c:x≠n:=fun e=>hm (e ▸ a);omega)
    omega
end
theorem aGu {L:List Int}(h:∀a,L.count a≤1) :L.Nodup:=List.nodup_iff_count.2 h
theorem aRX :∀ (n:Nat) (l:List Int),(∀i:Nat,i<n→ (i:Int) ∈l) →n≤l.length
 |0,l,_=>Nat.zero_le _
 | n+1,l,h=>by
  have a:=h n (Nat.lt_succ_self n);have b:=aRX n (l.erase (n:Int)) (fun i c=> (List.mem_erase_of_ne (by omega)).2 (h i (by omega)));rw [List.length_erase_of_mem a]at b;have:=List.length_pos_of_mem a;omega
theorem all_in {p:Prog}(hp:FineP p)(hK:∀m:Nat,m<p.nodes.length→p.funs.count (m:Int) + ((p.nodes.map Node.kids).flatten).count (m:Int) =1){L:List Int}(h:∀m:Int,L.count m=p.funs.count m+ ((L.map (eU p)).flatten).count m) :∀ (b m:Nat),m≤b→m<p.nodes.length→ (m:Int) ∈L:=by
 intro b
 induction b with
 | zero=>
  intro m f hm;have e:=h (m:Int);have hk:=hK m hm;by_cases hz: ((p.nodes.map Node.kids).flatten).count (m:Int) =0
  ·exact List.count_pos_iff.1 (by omega)
  · obtain⟨l,hl,a⟩ :=List.mem_flatten.1 (List.count_pos_iff.1 (Nat.pos_of_ne_zero hz));obtain⟨x,d,rfl⟩ :=zq24.1 hl;obtain⟨i,c⟩ :=zq38.1 d;have:= (hp.node _ _ c).2.2 _ a;omega
 | succ b k=>
  intro m f hm;have e:=h (m:Int);have hk:=hK m hm;by_cases hz: ((p.nodes.map Node.kids).flatten).count (m:Int) =0
  ·exact List.count_pos_iff.1 (by omega)
  · obtain⟨l,hl,a⟩ :=List.mem_flatten.1 (List.count_pos_iff.1 (Nat.pos_of_ne_zero hz));obtain⟨x,d,rfl⟩ :=zq24.1 hl;obtain⟨i,c⟩ :=zq38.1 d;have j:= (hp.node _ _ c).2.2 _ a;have g:=k i (by omega) (by omega);have: (m:Int) ∈ (L.map (eU p)).flatten:=List.mem_flatten.2 ⟨x.kids,zq24.2 ⟨(i:Int),g,by unfold eU;rw [kZ,c]⟩,a⟩;have:=List.count_pos_iff.2 this;exact List.count_pos_iff.1 (by omega)
theorem aA4 {p:Prog}(z:aF p=true)(d:aK p=true) : ((p.funs.map (pre p p.nodes.length)).flatten).Nodup∧ ((p.funs.map (pre p p.nodes.length)).flatten).length=p.nodes.length∧ (∀x∈ (p.funs.map (pre p p.nodes.length)).flatten,0≤x∧x<p.nodes.length) ∧
  (∀ (i:Nat) (x:Node),p.nodes[i]?=some x→aP p x=true) :=by
 have f:=aDQ z d;simp only [aK,cP]at d;obtain⟨_,d⟩ :=d;split at d
 · rename_i u t;unfold allT at d;split at d
   · rename_i v n
     have hK:∀m:Int,0≤m→p.funs.count m+ ((p.nodes.map Node.kids).flatten).count m≤1:=fun m hm=>by
      have B:=jV (by omega) hm t;have F:=mM hm n;have A:lQ v m≤1:=by unfold lQ;split<;>omega
      omega
     have c:∀x∈ (p.funs.map (pre p p.nodes.length)).flatten,0≤x∧x<p.nodes.length:=fun x g=>by
      obtain⟨l,hl,o⟩ :=List.mem_flatten.1 g;obtain⟨k,hk,rfl⟩ :=zq24.1 hl;have:=f.funs k hk;exact aYq f _ k this.1 this.2 x o
     have w:∀m:Int,((p.funs.map (pre p p.nodes.length)).flatten).count m=p.funs.count m+ ((((p.funs.map (pre p p.nodes.length)).flatten).map (eU p)).flatten).count m:=fun m=>vI m p.funs (fun k hk=>by
      have:=f.funs k hk;exact aC5 f m _ k this.1 this.2 (by omega))
     have q: ((p.funs.map (pre p p.nodes.length)).flatten).Nodup:=aGu (fun a=>by
      by_cases j:a∈ (p.funs.map (pre p p.nodes.length)).flatten
      · have hr:=c a j;have:=bHW f hK c w a.toNat a.toNat (Nat.le_refl _);rwa [show((a.toNat:Nat) :Int) =a by omega]at this
      ·rw [List.count_eq_zero.2 j];omega)
     refine⟨q,?_,c,fun i x g=> (mK n i x g).1⟩;have r: (((p.funs.map (pre p p.nodes.length)).flatten).map Int.toNat).Nodup:=by
      rw [List.nodup_iff_pairwise_ne]at q ⊢;refine List.pairwise_map.2 (q.imp_of_mem (fun {a b} j hb hne e=>?_));have:=c a j;have:=c b hb;exact hne (by omega)
     have:=tC p.nodes.length _ r (fun x g=>by
      obtain⟨y,o,rfl⟩ :=zq24.1 g;have:=c y o;omega)
     rw [lB]at this;refine Nat.le_antisymm this (aRX _ _ (fun i C=>all_in f (fun m hm=>?_) w i i (Nat.le_refl _) C));have B:=jV (m:= (m:Int)) (by omega) (by omega) t;have F:=mM (m:= (m:Int)) (by omega) n;have s:=kB t;have D:=mJ n;rw [aIz]at s;have A:lQ (List.replicate p.nodes.length false) (m:Int) =0:=by
      unfold lQ;rw [kZ,List.getElem?_replicate,if_pos hm];rfl
     have G:lQ v (m:Int) =1:=by
      unfold lQ;have h:m<v.length:=by omega
      have:=zq27.1 d _ (List.getElem_mem h);rw [kZ,kR h,this];rfl
     omega
   ·cases d
 ·cases d
abbrev aRY (a:Nat)(b:Prog):=oC a [(iN b.nodes),(iI b.funs),(nI b.main),(iC b.cons)]
abbrev aIn (a b:Int)(c:bX)(d:List Pat):AV:=.agg [(nI a),(nI b),(dR c),(iP d)]
def aKM(a:List Int)(b:Int):TS:=⟨(tf 50 26 [(0,(iI a)),(1,(iI a)),(4,(bV false)),(5,(nI b))] [kc f50 116,kl f50 116,.inBlock 0,kc f50 15]),[],[],0⟩
def aKN(a b:Int)(c:bX)(d:List Pat)(e:Int):TS:=⟨(tf 92 53 [kp 2 0,kp 3 1,(4,(bV false)),(5,(nI e))] [kc f92 116,kl f92 116,.inBlock 0,kc f92 15]),[],[oC 0 [(nI a),(nI b),(dR c),(iP d)],oC 1 [(nI a),(nI b),(dR c),(iP d)]],2⟩
def aKO(a:Node)(b:Int):TS:=⟨(tf 51 54 [kp 2 0,kp 3 1,(4,(bV false)),(5,(nI b))] [kc f51 116,kl f51 116,.inBlock 0,kc f51 15]),[],[oC 0 [(nI a.op),(nI a.n),(iI a.kids),(iP a.pats)],oC 1 [(nI a.op),(nI a.n),(iI a.kids),(iP a.pats)]],2⟩
def aKP(a:Prog)(b:Int):TS:=⟨(tf 16 75 [kp 2 0,kp 3 1,(4,(bV false)),(5,(nI b))] [kc f16 116,kl f16 116,.inBlock 0,kc f16 15]),[],[aRY 0 a,aRY 1 a],2⟩
def aKQ(a:Prog)(b:Int):TS:=⟨(tf 16 75 [kp 2 0,kp 3 1,(4,(bV false)),(6,(nI b))] [kc f16 244,kl f16 244,.inBlock 2,kc f16 31]),[],[aRY 0 a,aRY 1 a],2⟩
def bCs (a:List Int):=fun b=>(tT 0 (start PP 50 [(iI a),(iI a)])<|gl 8 cC a<|gl 1 cC a<|.b 2 10 ((a.length:Int) != (a.length:Int)) .x<|.W 9 0 [] (aKM a 0))|>.f b tv
def bDT(b:List Int)(a:Int):=tT 0 (aKM b a)<|gl 5 cC b<|gd 2 14 (a< (b.length:Int)) (.y fun c:Int=>.i [rn 5,.reg (.d::.d::.ans (.idx (cC c))::rd 3 [.ans (.idx (cC c)),.d,.d])] [hA (0≤a),.a (((b)[a.toNat]?) =some c) (bC (f:=cC)),hA (0≤a),.a (((b)[a.toNat]?) =some c) (bC (f:=cC))]<|.b 0 25 (c != c) .x<|gw 6 16 (a+1)<|.W 3 0 [] (aKM b (a+1)))<|gE 7 0 (bV true)
def bCt:=fun c d e f a b g i=>bDT c d|>.t f e a b a b|>.f g i tv
def bCu:=fun a b c=>bDT a b|>.f c tv
def bCv (c d:Int)(a:bX)(b:List Pat):=fun e f g i=>(tT 0 (start PP 92 [(aIn c d a b),(aIn c d a b)])<|.b 15 11 (c != c) .x<|.b 7 18 (d != d) .x<|.b 7 25 (!(kD a.length (aG a) a.length (aG a))) .x<|gm 2 aE b<|gm 2 aE b<|.b 3 33 ((b.length:Int) != (b.length:Int)) .x<|.W 9 2 [0,1] (aKN c d a b 0))|>.f e|>.f f|>.f g|>.f i tv
def bDU(i j:Int)(k:bX)(b:List Pat)(a:Int):=tT 0 (aKN i j k b a)<|gm 6 aE b<|gd 2 38 (a< (b.length:Int)) (.y fun c:Int=>.y fun d:Int=>.y fun e:bX=>.y fun f:List Pat=>.y fun g:Bool=>.i [rn 5,.reg (rd 3 (.ans (.idx (Pat.av (Pat.mk c d e f)))::rd 4 [.ans (.idx (Pat.av (Pat.mk c d e f))),.d,.pure (bV g),.d]))] [hA (0≤a),.a (((b)[a.toNat]?) =some (Pat.mk c d e f)) (iV aE),hA (0≤a),.a (((b)[a.toNat]?) =some (Pat.mk c d e f)) (iV aE),hA (aM PP 92 [(aIn c d e f),(aIn c d e f)] (bV g))]<|.b 0 52 (!g) .x<|gw 6 40 (a+1)<|.W 3 2 [0,1] (aKN i j k b (a+1)))<|gE 7 2 (bV true)
def bCw:=fun c d e f g i j k l m n a b o p q=>bDU c d e f g|>.t n i j k l m a b a b o|>.f p q tv
def bCx:=fun a b c d e f=>bDU a b c d e|>.f f tv
def bCy (a:Node):=fun b c d e f g=>(tT 0 (start PP 51 [(Node.av a),(Node.av a)])<|.b 15 11 (a.op != a.op) .x<|.b 7 18 (a.n != a.n) .x<|lO 4 50 [(iI a.kids),(iI a.kids)]<|fun b=>.b 3 26 (!b) .x<|gm 2 aE a.pats<|gm 2 aE a.pats<|.b 3 34 ((a.pats.length:Int) != (a.pats.length:Int)) .x<|.W 9 2 [0,1] (aKO a 0))|>.f c|>.f d b e|>.f f|>.f g tv
def bDV(b:Node)(a:Int):=tT 0 (aKO b a)<|gm 6 aE b.pats<|gd 2 39 (a< (b.pats.length:Int)) (.y fun c:Int=>.y fun d:Int=>.y fun e:bX=>.y fun f:List Pat=>.y fun g:Bool=>.i [rn 5,.reg (rd 3 (.ans (.idx (Pat.av (Pat.mk c d e f)))::rd 4 [.ans (.idx (Pat.av (Pat.mk c d e f))),.d,.pure (bV g),.d]))] [hA (0≤a),.a (((b.pats)[a.toNat]?) =some (Pat.mk c d e f)) (iV aE),hA (0≤a),.a (((b.pats)[a.toNat]?) =some (Pat.mk c d e f)) (iV aE),hA (aM PP 92 [(aIn c d e f),(aIn c d e f)] (bV g))]<|.b 0 53 (!g) .x<|gw 6 41 (a+1)<|.W 3 2 [0,1] (aKO b (a+1)))<|gE 7 2 (bV true)
def bCz:=fun c d e f g i j k a b l m n=>bDV c d|>.t k e f g i j a b a b l|>.f m n tv
def bCA:=fun a b c=>bDV a b|>.f c tv
def bCB (a:Prog):=fun b c d e f g=>(tT 0 (start PP 16 [(Prog.av a),(Prog.av a)])<|gl 11 Node.av a.nodes<|gl 2 Node.av a.nodes<|.b 2 14 ((a.nodes.length:Int) != (a.nodes.length:Int)) .x<|lO 4 50 [(iI a.funs),(iI a.funs)]<|fun b=>.b 3 22 (!b) .x<|.b 7 29 (a.main != a.main) .x<|gl 2 Con.av a.cons<|gl 2 Con.av a.cons<|.b 3 37 ((a.cons.length:Int) != (a.cons.length:Int)) .x<|.W 9 2 [0,1] (aKP a 0))|>.f c b d|>.f e|>.f f|>.f g tv
def bDW(c:Prog)(b:Int):=tT 0 (aKP c b)<|gl 6 Con.av c.cons<|gd 2 42 (b< (c.cons.length:Int)) (.y fun a:Con=>.i [rn 5,.reg (rd 3 (.ans (.idx (Con.av a))::rd 4 [.ans (.idx (Con.av a)),.d,.d]))] [hA (0≤b),.a (((c.cons)[b.toNat]?) =some a) (bC (f:=Con.av)),hA (0≤b),.a (((c.cons)[b.toNat]?) =some a) (bC (f:=Con.av))]<|.b 0 55 (!((kD a.name.length (aG a.name) a.name.length (aG a.name)) && ((a.args==a.args) &&true))) .x<|gw 6 44 (b+1)<|.W 3 2 [0,1] (aKP c (b+1)))<|.W 9 2 [0,1] (aKQ c 0)
def bCC:=fun c d e f a b g i=>bDW c d|>.t f e a b a b|>.f g i tv
def bCD:=fun a b c=>bDW a b|>.f c tv
def bDX(b:Prog)(a:Int):=tT 0 (aKQ b a)<|gl 6 Node.av b.nodes<|gd 2 60 (a< (b.nodes.length:Int)) (.y fun c:Node=>.y fun d:Bool=>.i [rn 5,.reg (rd 3 (.ans (.idx (Node.av c))::rd 4 [.ans (.idx (Node.av c)),.d,.pure (bV d),.d]))] [hA (0≤a),.a (((b.nodes)[a.toNat]?) =some c) (bC (f:=Node.av)),hA (0≤a),.a (((b.nodes)[a.toNat]?) =some c) (bC (f:=Node.av)),hA (aM PP 51 [(Node.av c),(Node.av c)] (bV d))]<|.b 0 74 (!d) .x<|gw 6 62 (a+1)<|.W 3 2 [0,1] (aKQ b (a+1)))<|gE 7 2 (bV true)
def bCE:=fun c d e f g a b i j k=>bDX c d|>.t g e f a b a b i|>.f j k tv
def bCF:=fun a b c=>bDX a b|>.f c tv
theorem aGv (s:bX) :kD (length s) (aG s) (length s) (aG s) =true:=by rw [xN];simp
theorem aNm (a:List Int)(c:a.length<1000000) :∀ (t:List Int) (i:Nat),a.drop i=t→Ends PP 0 (aKM a (i:Int)).as (.ret (.bool true)) (aA [] 0)
 | [],i,h=>by
  have:=bL h;exact bCu a i sd
 | y::t,i,h=>by
  obtain⟨e,d,f⟩ :=bI h;have b:=bCt a i y sd sd sd (by simp) sd;exact b.ends (aNm a c t (i+1) d)
theorem aNn (a:List Int)(b:a.length<1000000) :aM PP 50 [.ilst 1 (map cC a) false,.ilst 1 (map cC a) false] (.bool true) :=
 aJ aC rfl rfl ((bCs a (by simp)).ends (aNm a b a 0 rfl))
theorem aNo (f n:Int)(s:bX)(ps:List Pat)(hl:ps.length<1000000)(c:∀p∈ps,aM PP 92 [Pat.av p,Pat.av p] (.bool true)) :∀ (t:List Pat) (i:Nat),ps.drop i=t→Ends PP 0 (aKN f n s ps (i:Int)).as (.ret (.bool true)) (aA [] 0)
 | [],i,h=>by
  have:=bL h;exact bCx f n s ps i sd
 | .mk d e b a::t,i,h=>by
  obtain⟨g,k,l⟩ :=bI h;have j:=bCw f n s ps i d e b a true sd sd sd (c (.mk d e b a) (kS g)) rfl sd;exact j.ends (aNo f n s ps hl c t (i+1) k)
mutual
theorem aYr :∀ (q:Pat),bZ q<1000000→aM PP 92 [Pat.av q,Pat.av q] (.bool true)
 | .mk f n s a,h=>by
  simp only [bZ]at h;have:=eH a;exact aJ aC (by simp [AV.keylessL,lD]) rfl ((bCv f n s a (by simp) (by simp) (by rw [aGv];rfl) (by simp)).ends (aNo f n s a (by omega) (aKR a (by omega)) a 0 rfl))
theorem aKR :∀ (b:List Pat),bG b<1000000→∀p∈b,aM PP 92 [Pat.av p,Pat.av p] (.bool true)
 | [],_,p,a=>by cases a
 | q::b,h,p,a=>by
  simp only [bG]at h;rcases zq7.1 a with e|a
  ·rw [e];exact aYr q (by omega)
  ·exact aKR b (by omega) p a
end
theorem aNp (x:Node)(hl:x.pats.length<1000000)(d:∀p∈x.pats,aM PP 92 [Pat.av p,Pat.av p] (.bool true)) :∀ (t:List Pat) (i:Nat),x.pats.drop i=t→Ends PP 0 (aKO x (i:Int)).as (.ret (.bool true)) (aA [] 0)
 | [],i,h=>by
  have:=bL h;exact bCA x i sd
 | .mk b e c a::t,i,h=>by
  obtain⟨g,j,k⟩ :=bI h;have f:=bCz x i b e c a true sd sd sd (d (.mk b e c a) (kS g)) rfl sd;exact f.ends (aNp x hl d t (i+1) j)
def bFp (x:Node) :Prop:=x.kids.length<1000000∧bG x.pats<1000000
structure FitP (q:Prog) :Prop where
 nodes:q.nodes.length≤1000000
 funs:q.funs.length<1000000
 cons:q.cons.length<1000000
 node:∀x∈q.nodes,bFp x
theorem aYs (x:Node)(h:bFp x) :aM PP 51 [Node.av x,Node.av x] (.bool true) :=by
 have:=eH x.pats;have a:=h.1;have b:=h.2;exact aJ aC (by simp [AV.keylessL,Node.av,AV.keyless]) rfl ((bCy x true (by simp) (by simp) (aNn x.kids h.1) rfl (by simp)).ends (aNp x (by omega) (aKR x.pats h.2) x.pats 0 rfl))
theorem bDY (p:Prog)(hp:FitP p) :∀ (t:List Node) (i:Nat),p.nodes.drop i=t→Ends PP 0 (aKQ p (i:Int)).as (.ret (.bool true)) (aA [] 0)
 | [],i,h=>by
  have:=bL h;exact bCF p i sd
 | x::t,i,h=>by
  obtain⟨a,c,e⟩ :=bI h;have d:=hp.nodes;have b:=bCE p i x true sd sd sd (aYs x (hp.node x (kS a))) rfl sd;exact b.ends (bDY p hp t (i+1) c)
theorem bDZ (p:Prog)(hp:FitP p) :∀ (t:List Con) (i:Nat),p.cons.drop i=t→Ends PP 0 (aKP p (i:Int)).as (.ret (.bool true)) (aA [] 0)
 | [],i,h=>by
  have:=bL h;exact(bCD p i sd).ends (bDY p hp p.nodes 0 rfl)
 | c::t,i,h=>by
  obtain⟨d,b,f⟩ :=bI h;have e:=hp.cons;have a:=bCC p i c sd sd sd (by rw [aGv];simp) sd;exact a.ends (bDZ p hp t (i+1) b)
theorem aQB (p:Prog)(hp:FitP p) :aM PP 16 [Prog.av p,Prog.av p] (.bool true) :=
 aJ aC (by simp [AV.keylessL,Prog.av,AV.keyless]) rfl ((bCB p true (by simp) (aNn p.funs hp.funs) rfl (by simp) (by simp)).ends (bDZ p hp p.cons 0 rfl))
structure LFun where
 name:bX
 body:Int
def LFun.av (f:LFun) :AV:=.agg [dR f.name,.int .i64 f.body]
structure LUnit where
 name:bX
 cons:List Con
 funs:List LFun
 needs:List bX
 nodes:List Node
def LUnit.av (u:LUnit) :AV:=.agg [dR u.name,.ilst 2 (map Con.av u.cons) false,.ilst 2 (map LFun.av u.funs) false,.ilst 1 (map dR u.needs) false,.ilst 4 (map Node.av u.nodes) false]
structure LPlace where
 nodes:Int
 funs:Int
def LPlace.av (p:LPlace) :AV:=.agg [.int .i64 p.nodes,.int .i64 p.funs]
theorem aQC {l:List ONode}{nn:List Node}(h:l=map Node.o nn) :map ONode.av l=map Node.av nn:=by rw [h,aJ1]
abbrev aCl (a:List Int):AV:=.gl 2 1 0 a.length false
abbrev aC6 (a b c:Int)(d:List Pat):AV:=.agg [(nI a),(nI b),(.gl 6 1 0 (([] :List Int) ++ [c]).length false),(iP d)]
abbrev vJ (a:Nat)(b:List ONode)(c:List Int)(d:Int)(e:List Con):=oC a [(.gl 3 4 0 b.length false),(aCl c),(nI d),(iC e)]
abbrev vK (a b:Int)(c:List Pat):AV:=.agg [(nI a),(nI b),(.gl 4 1 0 ([] :List Int).length false),(iP c)]
abbrev aC7 (a b:Int)(c:List Int)(d:Int)(e:List Pat):AV:=.agg [(nI a),(nI b),(.gl 6 1 0 (c++ [d]).length false),(iP e)]
abbrev vL (a b:Int)(c:List Int)(d:List Pat):AV:=.agg [(nI a),(nI b),(.gl 4 1 0 c.length false),(iP d)]
abbrev nH (a:Nat):=oC a [(.func 119 [] [(.ptr 0 0),(.ptr 1 0)])]
abbrev aQD (a:Nat):=oC a [(.func 119 [] [(.ptr 1 0),(.ptr 2 0)])]
abbrev aQE (a:Nat):=oC a [.nils,.nils,(nI 0),.nils]
abbrev vM (a:Nat)(b:List ONode):=oL a 4 (map ONode.av b)
abbrev kY (a:List XT):AV:=.ilst 1 (XTs.av a) false
def bD0(a:List ONode)(b:List Int)(c:Int)(d:List Con)(e f:Int)(g:List XT)(i:List Pat):TS:=cA PP 119 [(.iptr [(nI e),(nI f),(kY g),(iP i)]),(.ptr 0 0),(.ptr 1 0)] [vJ 0 a b c d,nH 1,oL 2 1 (jI b),vM 3 a] 4
def aQF(d:List ONode)(a:List Int)(e:Int)(f:List Con)(g i:Int)(b:List XT)(j:List Pat)(c:List ONode):TS:=⟨(tf 119 59 [kp 1 0,kp 2 1,(4,(nI 0)),(5,(nI (d.length:Int))),(34,(kY b)),(35,(nI (b.length:Int))),(36,(nI 0))] [kc f119 244,kl f119 244,.inBlock 0,kc f119 31]),[],[vJ 0 c a e f,nH 1,oL 2 1 (jI a),vM 3 c],4⟩
def aYt(d:List ONode)(a:List Int)(e:Int)(f:List Con)(i j:Int)(b:List XT)(k:List Pat)(g:Int)(c:List ONode):TS:=⟨(tf 119 59 [kp 1 0,kp 2 1,(4,(nI 0)),(5,(nI (d.length:Int))),(8,(nI g)),(34,(kY b)),(35,(nI (b.length:Int))),(36,(nI 0))] [kc f119 15667,.inBlock 1,kc f119 1959,kl f119 244,.inBlock 0,kc f119 31]),[],[vJ 0 c a e f,nH 1,oL 2 1 (jI a),vM 3 c],4⟩
def aRZ(d:List ONode)(a:List Int)(e:Int)(f:List Con)(m n:Int)(b:List XT)(o:List Pat)(g:Int)(c:List ONode)(i:Nat)(j k:Int)(l:List Pat):TS:=⟨(tf 119 59 [kp 1 0,kp 2 1,(4,(nI 0)),(5,(nI (d.length:Int))),(8,(nI g)),(34,(kY b)),(35,(nI (b.length:Int))),(36,(nI 0))] [kc f119 15667,.inBlock 1,kc f119 1959,kl f119 244,.inBlock 0,kc f119 31]),[],[vJ 0 c a e f,nH 1,oL 2 1 (jI a),(3,(.lst 4 (set (map ONode.av c) i (vK j k l))),false),oL 4 1 (jI ([] :List Int))],5⟩
def aC8(d:List ONode)(a:List Int)(e:Int)(f:List Con)(k l:Int)(b:List XT)(m:List Pat)(c:List ONode)(g:List Int)(i:Value)(j:Int):TS:=⟨(tf 119 59 [kp 1 0,kp 2 1,(4,(nI 0)),(5,(nI (d.length:Int))),(34,(kY b)),(35,(nI (b.length:Int))),(36,(nI j))] [kc f119 244,kl f119 244,.inBlock 0,kc f119 31]),[],[vJ 0 c a e f,nH 1,oL 2 1 (jI a),vM 3 c,(4,(.lstv i 1 (jI g)),true)],5⟩
def aYu(d:List ONode)(a:List Int)(e:Int)(f:List Con)(l m:Int)(b:List XT)(n:List Pat)(g:Int)(c:List ONode)(i:List Int)(j:Value)(k:Int):TS:=⟨(tf 119 59 [kp 1 0,kp 2 1,(4,(nI 0)),(5,(nI (d.length:Int))),(8,(nI g)),(34,(kY b)),(35,(nI (b.length:Int))),(36,(nI k))] [kc f119 15667,.inBlock 1,kc f119 1959,kl f119 244,.inBlock 0,kc f119 31]),[],[vJ 0 c a e f,nH 1,oL 2 1 (jI a),vM 3 c,(4,(.lstv j 1 (jI i)),true)],5⟩
def aR0(e:List ONode)(a:List Int)(f:Int)(g:List Con)(o p:Int)(b:List XT)(q:List Pat)(i:Int)(c:List ONode)(d:List Int)(j:Int)(k:Nat)(l m:Int)(n:List Pat):TS:=⟨(tf 119 59 [kp 1 0,kp 2 1,(4,(nI 0)),(5,(nI (e.length:Int))),(8,(nI i)),(34,(kY b)),(35,(nI (b.length:Int))),(36,(nI j))] [kc f119 15667,.inBlock 1,kc f119 1959,kl f119 244,.inBlock 0,kc f119 31]),[],[vJ 0 c a f g,nH 1,oL 2 1 (jI a),(3,(.lst 4 (set (map ONode.av c) k (vL l m d n))),false),oL 4 1 (jI d)],5⟩
theorem bCG (L:List ONode)(fs:List Int)(mn:Int)(cs:List Con)(j l:Int)(h:List XT)(g:List Pat)(d:Int)(f:List ONode)(ix:Nat)(c e:Int)(a:List Pat)(p:0≤ ((L.length:Nat) :Int))(h1: ((L.length:Nat) :Int) < ((f.length:Nat) :Int))(h2: ((L.length:Nat) :Int).toNat=ix)(n:ix<length f)(q:length (([] :List Int) ++ [d]) ≤1000000){m:Res}{h':Hp}(hk:∀v s r,Ends PP 3 (let u:=Value.slice v s r; (aC8 L fs mn cs j l h g (set f ix (ONode.mk c e (KV.val u) a)) (([] :List Int) ++ [d]) u 1)).as m h') :
  Ends PP 3 (aRZ L fs mn cs j l h g d f ix c e a).as m h':=
 aGt (n1:=7) (t:=fun u=> (aC8 L fs mn cs j l h g (set f ix (ONode.mk c e (KV.val u) a)) (([] :List Int) ++ [d]) u 1)) (k:=3) (b:=6) (i:=ix) (o:=2) (ys:=fun u=> (map ONode.av (set f ix (ONode.mk c e (KV.val u) a)))) (ks:=[3,6]) (ps:=fun u=>[NQ (set (map ONode.av f) ix (aC6 c e d a)) ix 2 6 1 (jI (([] :List Int) ++ [d])).length u (map ONode.av (set f ix (ONode.mk c e (KV.val u) a))),0≤ ((L.length:Nat) :Int),((L.length:Nat) :Int) < ((f.length:Nat) :Int),(set (map ONode.av f) ix (vK c e a))[(0+ ((L.length:Nat) :Int).toNat)]?=some (vK c e a),0+ ([] :List Int).length≤length (jI ([] :List Int)),length (([] :List Int) ++ [d]) ≤1000000,take ([] :List Int).length (drop 0 (jI ([] :List Int))) ++ (jI [d]) = (jI (([] :List Int) ++ [d])),([] :List Int).length+length (jI [d]) =length (([] :List Int) ++ [d]),0≤ ((L.length:Nat) :Int),((L.length:Nat) :Int) < ((f.length:Nat) :Int),(set (map ONode.av f) ix (vK c e a))[(0+ ((L.length:Nat) :Int).toNat)]?=some (vK c e a),kT (vK c e a) 2 [(.gl 6 1 0 (([] :List Int) ++ [d]).length false)] =some (aC6 c e d a),(AV.gl 3 4 0 f.length false) = (AV.gl 3 4 0 f.length false),(AV.gl 3 4 0 f.length false) = (AV.gl 3 4 0 f.length false),(set (map ONode.av f) ix (vK c e a)).set (0+ ((L.length:Nat) :Int).toNat) (aC6 c e d a) = (set (map ONode.av f) ix (aC6 c e d a)),(AV.gl 3 4 0 f.length false) = (.gl 3 4 0 (set f ix (ONode.mk c e (KV.val u) a)).length false),(AV.gl 3 4 0 f.length false) = (.gl 3 4 0 (set f ix (ONode.mk c e (KV.val u) a)).length false),(AV.gl 3 4 0 f.length false) = (.gl 3 4 0 (set f ix (ONode.mk c e (KV.val u) a)).length false)]) (is:=[.reg [.d,.d,.d,.d,.d,.d,.ans (.ix),.d,.ans (.idx (vK c e a)),.d,.d,.app (jI (([] :List Int) ++ [d])) (([] :List Int) ++ [d]).length,.ans (.ix),.d,.st (vK c e a) (aC6 c e d a)],.lset 3 (set (map ONode.av f) ix (aC6 c e d a)),.run 1]) (is2:=fun u=>[.set 44 (.gl 3 4 0 (set f ix (ONode.mk c e (KV.val u) a)).length false),.set 47 (.gl 3 4 0 (set f ix (ONode.mk c e (KV.val u) a)).length false),.cset 0 0 (.gl 3 4 0 (set f ix (ONode.mk c e (KV.val u) a)).length false),.run 5]) (fun u=>by kernel_rfl) (fun u=>by kernel_rfl) (fun u=> ⟨(aH _ (fun _=>rfl) _),⟨(aH _ (fun _=>dK _) _),⟨(aH _ (fun _=>rfl) _),trivial⟩⟩⟩) (fun u=> ⟨(bDR [(nI c),(nI e)] [(iP a)] n (lB ..) (by simp) rfl),p,h1,(aKL h2 n),(aJl _ _),q,(aJm _ _ _),(aJn _ _ _),p,h1,(aKL h2 n),rfl,rfl,rfl,(aYo h2),(cF (fN ..).symm),(cF (fN ..).symm),(cF (fN ..).symm)⟩) hk
theorem bCH (L:List ONode)(fs:List Int)(mn:Int)(cs:List Con)(m n:Int)(j:List XT)(h:List Pat)(d:Int)(g:List ONode)(f:List Int)(l:Int)(ix:Nat)(c e:Int)(a:List Pat)(r:0≤ ((L.length:Nat) :Int))(h1: ((L.length:Nat) :Int) < ((g.length:Nat) :Int))(h2: ((L.length:Nat) :Int).toNat=ix)(q:ix<length g)(s:length (f++ [d]) ≤1000000)(x: (IntKind.i64.wrap (l+ (1:Int))) = (l+ (1:Int))){p:Res}{h':Hp}(hk:∀y w v,Ends PP 3 (let u:=Value.slice y w v; (aC8 L fs mn cs m n j h (set g ix (ONode.mk c e (KV.val u) a)) (f++ [d]) u (l+ (1:Int)))).as p h') :
  Ends PP 3 (aR0 L fs mn cs m n j h d g f l ix c e a).as p h':=
 aGt (n1:=7) (t:=fun u=> (aC8 L fs mn cs m n j h (set g ix (ONode.mk c e (KV.val u) a)) (f++ [d]) u (l+ (1:Int)))) (k:=3) (b:=6) (i:=ix) (o:=2) (ys:=fun u=> (map ONode.av (set g ix (ONode.mk c e (KV.val u) a)))) (ks:=[3,6]) (ps:=fun u=>[NQ (set (map ONode.av g) ix (aC7 c e f d a)) ix 2 6 1 (jI (f++ [d])).length u (map ONode.av (set g ix (ONode.mk c e (KV.val u) a))),0≤ ((L.length:Nat) :Int),((L.length:Nat) :Int) < ((g.length:Nat) :Int),(set (map ONode.av g) ix (vL c e f a))[(0+ ((L.length:Nat) :Int).toNat)]?=some (vL c e f a),0+f.length≤length (jI f),length (f++ [d]) ≤1000000,take f.length (drop 0 (jI f)) ++ (jI [d]) = (jI (f++ [d])),f.length+length (jI [d]) =length (f++ [d]),0≤ ((L.length:Nat) :Int),((L.length:Nat) :Int) < ((g.length:Nat) :Int),(set (map ONode.av g) ix (vL c e f a))[(0+ ((L.length:Nat) :Int).toNat)]?=some (vL c e f a),kT (vL c e f a) 2 [(.gl 6 1 0 (f++ [d]).length false)] =some (aC7 c e f d a),(AV.gl 3 4 0 g.length false) = (AV.gl 3 4 0 g.length false),(AV.gl 3 4 0 g.length false) = (AV.gl 3 4 0 g.length false),(set (map ONode.av g) ix (vL c e f a)).set (0+ ((L.length:Nat) :Int).toNat) (aC7 c e f d a) = (set (map ONode.av g) ix (aC7 c e f d a)),(AV.gl 3 4 0 g.length false) = (.gl 3 4 0 (set g ix (ONode.mk c e (KV.val u) a)).length false),(AV.gl 3 4 0 g.length false) = (.gl 3 4 0 (set g ix (ONode.mk c e (KV.val u) a)).length false),(AV.gl 3 4 0 g.length false) = (.gl 3 4 0 (set g ix (ONode.mk c e (KV.val u) a)).length false),(nI (IntKind.i64.wrap (l+ (1:Int)))) = (nI (l+ (1:Int)))]) (is:=[.reg [.d,.d,.d,.d,.d,.d,.ans (.ix),.d,.ans (.idx (vL c e f a)),.d,.d,.app (jI (f++ [d])) (f++ [d]).length,.ans (.ix),.d,.st (vL c e f a) (aC7 c e f d a)],.lset 3 (set (map ONode.av g) ix (aC7 c e f d a)),.run 1]) (is2:=fun u=>[.set 44 (.gl 3 4 0 (set g ix (ONode.mk c e (KV.val u) a)).length false),.set 47 (.gl 3 4 0 (set g ix (ONode.mk c e (KV.val u) a)).length false),.cset 0 0 (.gl 3 4 0 (set g ix (ONode.mk c e (KV.val u) a)).length false),.run 2,.set 57 (nI (l+ (1:Int))),.run 3]) (fun u=>by kernel_rfl) (fun u=>by kernel_rfl) (fun u=> ⟨(aH _ (fun _=>rfl) _),⟨(aH _ (fun _=>dK _) _),⟨(aH _ (fun _=>rfl) _),trivial⟩⟩⟩) (fun u=> ⟨(bDR [(nI c),(nI e)] [(iP a)] q (lB ..) (by simp) rfl),r,h1,(aKL h2 q),(aJl _ _),s,(aJm _ _ _),(aJn _ _ _),r,h1,(aKL h2 q),rfl,rfl,rfl,(aYo h2),(cF (fN ..).symm),(cF (fN ..).symm),(cF (fN ..).symm),(congrArg (AV.int .i64) x)⟩) hk
def bGU(a:List XT)(b:Int)(c:List Con):TS:=cA PP 76 [(.iptr [(kY a),(nI b),(iC c)])] [] 0
def aKS(a:List XT)(d:Int)(g e:List Con)(f:Int)(b:List ONode)(c:List Int):TS:=⟨(tf 76 39 [kp 2 0,kp 3 1,kp 4 2,(22,(kY a)),(23,(nI (a.length:Int))),(24,(nI f))] [kc f76 500,kl f76 500,.inBlock 0,kc f76 63]),[],[aQE 0,oC 1 [(.gl 3 4 0 b.length false),(.gl 4 1 0 c.length false),(nI d),(iC e)],aQD 2,vM 3 b,oL 4 1 (jI c)],5⟩
def bCI (a:List ONode)(g:List Int)(i:Int)(j:List Con)(b c:Int)(e:List XT)(f:List Pat):=fun d k l=>(tT 3 (bD0 a g i j b c e f)<|.y fun d:List Pat=>.i [rn 12,.reg (rd 14 [.pure (iP d),.d,.d,.app (map ONode.av (a++ [(ONode.mk b c KV.nil d)])) (a++ [(ONode.mk b c KV.nil d)]).length,.d,.d])] [hA (aM PP 120 [(iP f)] (iP d)),hb ONode.av a,hA (length (a++ [(ONode.mk b c KV.nil d)]) ≤1000000),hc ONode.av a [(ONode.mk b c KV.nil d)],he ONode.av a [(ONode.mk b c KV.nil d)],hr (nI c),hr (nI c),hr (nI b),hr (nI b),hr (AV.gl 3 4 0 a.length false),hr (AV.gl 3 4 0 a.length false)]<|.i [rn 7,aL e] [.q (p:=((XTs.av e).length:Int) = (e.length:Int)) (kF cZ _)]<|.W 4 6 [5] (aQF a g i j b c e f (a++ [(ONode.mk b c KV.nil d)]))) d k l ⟨kk,⟨(aH _ (fun _=>dK _) _),trivial⟩⟩
def aYv(c:List ONode)(d:List Int)(e:Int)(f:List Con)(j k:Int)(g:List XT)(l:List Pat)(b:List ONode):=tT 3 (aQF c d e f j k g l b)<|gd 5 37 (0< (g.length:Int)) (.y fun m:Int=>.y fun n:Int=>.y fun o:List XT=>.y fun p:List Pat=>giF cZ 6 g 0 (XT.mk m n o p)<|.y fun i:List Node=>gk 7 (.enter 119 [(.iptr [(nI m),(nI n),(kY o),(iP p)]),(.ptr 0 0),(.ptr 1 0)]) [vJ 0 b d e f,nH 1,oL 2 1 (jI d),vM 3 b] 4 (nI (b.length:Int)) [oC 0 [(.gl 4 4 0 (b++map Node.o i).length false),(aCl d),(nI e),(iC f)],nH 1,oL 2 1 (jI d),oL 4 4 (map ONode.av (b++map Node.o i))] 5<|.W 2 5 [4] (aYt c d e f j k g l (b.length:Int) (b++map Node.o i)))<|.y fun a:ONode=>.i [rn 8,.lw 3 (map ONode.av (set b c.length (ONode.mk a.op a.n (KV.row []) a.pats)))] [.a (b[c.length]?=some a) (p':=(map ONode.av b) ≠ []) aJ3,.a (b[c.length]?=some a∧a.kv=KV.nil) (p':=VW (map ONode.av b) (map ONode.av (set b c.length (ONode.mk a.op a.n (KV.row []) a.pats)))) fun⟨ha,hb⟩=>(aWN ha hb)]<|.i [.cset 0 0 (.gl 3 4 0 (set b c.length (ONode.mk a.op a.n (KV.row []) a.pats)).length false)] [.q (p:=(AV.gl 3 4 0 b.length false) = (.gl 3 4 0 (set b c.length (ONode.mk a.op a.n (KV.row []) a.pats)).length false)) (cF (fN ..).symm)]<|.E 0 4 [3] (nI (c.length:Int)) [oC 0 [(.gl 3 4 0 (set b c.length (ONode.mk a.op a.n (KV.row []) a.pats)).length false),(aCl d),(nI e),(iC f)],nH 1,oL 2 1 (jI d),oL 3 4 (map ONode.av (set b c.length (ONode.mk a.op a.n (KV.row []) a.pats)))] 4
def bCJ:=fun a b c d e f g i j k l m n o p q r s=>aYv a b c d e f g i j|>.t p k l m n q r o s ⟨kk,⟨(aH _ (fun _=>dK _) _),trivial⟩⟩
def bCK:=fun b c d e f g i j k l m a n=>aYv b c d e f g i j k|>.f m l a ⟨a,n⟩ ⟨kk,⟨(aH _ (fun _=>dK _) _),trivial⟩⟩
def aYw(d:List ONode)(e:List Int)(g:Int)(i:List Con)(m n:Int)(j:List XT)(o:List Pat)(b:List ONode)(c:List Int)(f:Value)(k:Int):=tT 3 (aC8 d e g i m n j o b c f k)<|gd 5 37 (k< (j.length:Int)) (.y fun p:Int=>.y fun q:Int=>.y fun r:List XT=>.y fun s:List Pat=>giF cZ 6 j k (XT.mk p q r s)<|.y fun l:List Node=>gk 7 (.enter 119 [(.iptr [(nI p),(nI q),(kY r),(iP s)]),(.ptr 0 0),(.ptr 1 0)]) [vJ 0 b e g i,nH 1,oL 2 1 (jI e),vM 3 b,(4,(.lstv f 1 (jI c)),true)] 5 (nI (b.length:Int)) [oC 0 [(.gl 5 4 0 (b++map Node.o l).length false),(aCl e),(nI g),(iC i)],nH 1,oL 2 1 (jI e),(4,(.lstv f 1 (jI c)),true),oL 5 4 (map ONode.av (b++map Node.o l))] 6<|.W 2 6 [5,4] (aYu d e g i m n j o (b.length:Int) (b++map Node.o l) c f k))<|.y fun a:ONode=>.i [rn 8,.vfrz 4 3 (map ONode.av (set b d.length (ONode.mk a.op a.n (KV.row c) a.pats)))] [.a (b[d.length]?=some a) (p':=(map ONode.av b) ≠ []) aJ3,hk cC c,.a (b[d.length]?=some a∧a.kv=KV.val f) (p':=VQ f 1 (jI c) (map ONode.av b) (map ONode.av (set b d.length (ONode.mk a.op a.n (KV.row c) a.pats)))) fun⟨ha,hb⟩=>(aWO ha hb)]<|.i [.cset 0 0 (.gl 3 4 0 (set b d.length (ONode.mk a.op a.n (KV.row c) a.pats)).length false)] [.q (p:=(AV.gl 3 4 0 b.length false) = (.gl 3 4 0 (set b d.length (ONode.mk a.op a.n (KV.row c) a.pats)).length false)) (cF (fN ..).symm)]<|.E 0 5 [3] (nI (d.length:Int)) [oC 0 [(.gl 3 4 0 (set b d.length (ONode.mk a.op a.n (KV.row c) a.pats)).length false),(aCl e),(nI g),(iC i)],nH 1,oL 2 1 (jI e),oL 3 4 (map ONode.av (set b d.length (ONode.mk a.op a.n (KV.row c) a.pats)))] 4
def bCL:=fun a b c d e f g i j k l m n o p q r s t u v=>aYw a b c d e f g i j k l m|>.t s n o p q t u r v ⟨kk,⟨(aH _ (fun _=>dK _) _),⟨kk,trivial⟩⟩⟩
def bCM:=fun b c d e f g i j k l m n o p a q=>aYw b c d e f g i j k l m n|>.f p o a ⟨a,q⟩ ⟨kk,⟨(aH _ (fun _=>dK _) _),trivial⟩⟩
def bCN (a:List XT)(c:Int)(d:List Con):=fun b e=>(tT 0 (bGU a c d)<|.y fun b:List Con=>.i [rn 5,.reg (rd 8 (.pure (iC b)::rd 3 []))] [hA (aM PP 90 [(iC d)] (iC b)),hr (nI c),hr (nI c)]<|.i [rn 16,aL a] [.q (p:=((XTs.av a).length:Int) = (a.length:Int)) (kF cZ _)]<|.i [rn 4,.cnil 1 0 4] []<|gu 0 3 (map ONode.av ([] :List ONode))<|gv 0 1 0 (.gl 3 4 0 ([] :List ONode).length false)<|.i [.cnil 1 1 1] []<|gu 0 4 (jI ([] :List Int))<|gv 0 1 1 (.gl 4 1 0 ([] :List Int).length false)<|.W 0 5 [0,1,2,3,4] (aKS a c d b 0 ([] :List ONode) ([] :List Int))) b e ⟨(aH _ (fun _=>dK _) _),⟨kk,trivial⟩⟩
def aYx(g:List XT)(d:Int)(j e:List Con)(f:Int)(a:List ONode)(b:List Int):=tT 0 (aKS g d j e f a b)<|gd 5 25 (f< (g.length:Int)) (.y fun k:Int=>.y fun l:Int=>.y fun m:List XT=>.y fun n:List Pat=>giF cZ 6 g f (XT.mk k l m n)<|.y fun i:List Node=>gk 7 (.enter 119 [(.iptr [(nI k),(nI l),(kY m),(iP n)]),(.ptr 1 0),(.ptr 2 0)]) [aQE 0,oC 1 [(.gl 3 4 0 a.length false),(.gl 4 1 0 b.length false),(nI d),(iC e)],aQD 2,vM 3 a,oL 4 1 (jI b)] 5 (nI (a.length:Int)) [aQE 0,oC 1 [(.gl 5 4 0 (a++map Node.o i).length false),(.gl 4 1 0 b.length false),(nI d),(iC e)],aQD 2,oL 4 1 (jI b),oL 5 4 (map ONode.av (a++map Node.o i))] 6<|ga 7 cC b [(a.length:Int)]<|gw 6 37 (f+1)<|.W 3 8 [0,1,2,5,7] (aKS g d j e (f+1) (a++map Node.o i) (b++ [(a.length:Int)])))<|.y fun c:List Node=>.i [rn 3,.lset 3 (jN c)] [.a (a=map Node.o c) (p':=(map ONode.av a) = (jN c)) aQC]<|.i [.cset 1 0 (.gl 3 4 0 c.length false)] [.a (c.length=a.length) (p':=(AV.gl 3 4 0 a.length false) = (.gl 3 4 0 c.length false)) (fun h=>(cF h.symm))]<|gy 0 1 0 3 4 Node.av c false<|gy 0 1 1 4 1 cC b false<|gE 5 5 (.agg [(iN c),(iI b),(nI d),(iC e)])
def bCO:=fun a b c d e f g i j k l m n o p q r s=>aYx a b c d e f g|>.t n i j k l o p m q r s ⟨(aH _ (fun _=>dK _) _),⟨kk,trivial⟩⟩
def bCP:=fun a b c d e f g i j k l=>aYx a b c d e f g|>.f j i k l tv
end
end Go.Hb
