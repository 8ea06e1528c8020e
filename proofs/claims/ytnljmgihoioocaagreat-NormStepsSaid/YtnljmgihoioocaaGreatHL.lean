/- A machine on abstract values, its soundness, ways, plain laws. -/
import Derived.Test.YtnljmgihoioocaaGreatHF
import Derived.Test.YtnljmgihoioocaaGreatHI
import Derived.Test.YtnljmgihoioocaaGreatHJ
import Derived.Test.YtnljmgihoioocaaGreatHK
set_option linter.defProp false
set_option linter.unusedVariables false
set_option linter.unusedSimpArgs false
set_option linter.unusedSectionVars false
set_option maxRecDepth 100000
set_option maxHeartbeats 8000000
namespace Go.Hb
open List (count_append flatten_cons getElem?_cons_succ getElem?_eq_getElem map_cons mem_cons_self)
open Go.Proofs Tryz
noncomputable section
section
variable {p :Prog} {mf mc:List (Int×Int)}
end
section
variable {p :Prog}
end
def pre (p:Prog) :Nat→Int→List Int
 |0,_=>[]
 | f+1,a=>match p.nodes[a.toNat]? with
  |some x=>a:: (x.kids.map (pre p f)).flatten
  |none=>[]
section
variable {p :Prog}
end
section
variable {p :Prog} {mf mc:List (Int×Int)} {F C:List Int} {to:List Int}
end
theorem aLW {p:Prog}(hp:aE p=true)(hf:aH p=true) :FineP p:=by
 have hs:=hp;simp only [aE,Bool.and_eq_true,decide_eq_true_eq]at hs;obtain⟨⟨⟨⟨s1,s2⟩,s3⟩,_⟩,s5⟩ :=hs;simp only [aH,Bool.and_eq_true]at hf;obtain⟨_,hf⟩ :=hf;split at hf
 · rename_i u hu;unfold allT at hf;split at hf
   · rename_i v hv;refine⟨s1,s2,fun i x hx=>?_,fun f hf=>?_⟩
     · have:=lH hv i x hx;have h10:=List.all_eq_true.1 s5 x (List.mem_of_getElem? hx);simp only [bJ,Bool.and_eq_true,decide_eq_true_eq]at h10;exact⟨aPX this.1,h10.1.1,fun k hk=>by have:=this.2 k hk;omega⟩
     ·have:=pD hu f hf;omega
   ·cases hf
 ·cases hf
def fF (p:Prog)(i:Int) :List Int:=match p.nodes[i.toNat]? with
 |some x=>x.kids
 |none=>[]
section
variable {p :Prog}
theorem aAr {q:Int→List Int}(m:Int) :∀ (ks:List Int),(∀k∈ks,(q k).count m= [k].count m+ (((q k).map (fF p)).flatten).count m) →
  ((ks.map q).flatten).count m=ks.count m+ ((((ks.map q).flatten).map (fF p)).flatten).count m
 | [],_=>rfl
 | k::ks,h=>by
  have h1:=h k (mem_cons_self ..);have h2:=aAr m ks (fun x hx=>h x (List.mem_cons_of_mem _ hx));rw [map_cons,flatten_cons,count_append,List.map_append,List.flatten_append,count_append,h1,h2,show k::ks= [k] ++ks from rfl,count_append];omega
theorem aG3 (hp:FineP p)(m:Int) :∀ (f:Nat) (a:Int),0≤a→a<p.nodes.length→p.nodes.length-a.toNat≤f→ (pre p f a).count m= [a].count m+ (((pre p f a).map (fF p)).flatten).count m
 |0,a,ha,hn,hf=>by omega
 | f+1,a,ha,hn,hf=>by
  obtain⟨x,hx⟩ :∃x,p.nodes[a.toNat]?=some x:= ⟨_,getElem?_eq_getElem (by omega)⟩;obtain⟨_,_,hks⟩ :=hp.node _ _ hx;have e:pre p (f+1) a=a:: (x.kids.map (pre p f)).flatten:=by rw [pre,hx]
  have ek:fF p a=x.kids:=by unfold fF;rw [hx]
  have h2:=aAr (p:=p) m x.kids (fun k hk=>by
   have:=hks k hk;exact aG3 hp m f k (by omega) (by omega) (by omega))
  rw [e,map_cons,flatten_cons,count_append,ek,show a:: (x.kids.map (pre p f)).flatten= [a] ++ (x.kids.map (pre p f)).flatten from rfl,count_append,h2]
theorem aWq (hp:FineP p) :∀ (f:Nat) (a:Int),0≤a→a<p.nodes.length→∀y∈pre p f a,0≤y∧y<p.nodes.length
 |0,a,_,_,y,hy=>by cases hy
 | f +1,a,ha,hn,y,hy=>by
  obtain⟨x,hx⟩ :∃x,p.nodes[a.toNat]?=some x:= ⟨_,getElem?_eq_getElem (by omega)⟩;obtain⟨_,_,hks⟩ :=hp.node _ _ hx;have e:pre p (f+1) a=a:: (x.kids.map (pre p f)).flatten:=by rw [pre,hx]
  rw [e]at hy;rcases List.mem_cons.1 hy with rfl|hy
  ·exact⟨ha,hn⟩
  · obtain⟨l,hl,hy⟩ :=List.mem_flatten.1 hy;obtain⟨k,hk,rfl⟩ :=List.mem_map.1 hl;have:=hks k hk;exact aWq hp f k (by omega) (by omega) y hy
def wL (u:List Bool)(m:Int) :Nat:=if u[m.toNat]?=some true then 1 else 0
theorem qF {lo n:Int}(hlo:0≤lo){m:Int}(hm:0≤m) :∀ {ks:List Int} {u v:List Bool},marks lo n ks u=some v→ks.count m+wL u m=wL v m
 | [],u,v,h=>by cases h;simp
 | k ::ks,u,v,h=>by
  have hk:=pD h k (mem_cons_self ..);obtain⟨h1,h2⟩ :=kA h;have h3:=qF hlo hm h2;rw [←h3,show k::ks= [k] ++ks from rfl,count_append];have hlt:= (List.getElem?_eq_some_iff.1 h1).1;by_cases e:k=m
  · subst e;have a1:wL u k=0:=by unfold wL;rw [h1];rfl
    have a2:wL (u.set k.toNat true) k=1:=by unfold wL;rw [List.getElem?_set_self hlt];rfl
    rw [a1,a2];simp;omega
  · have a1:wL (u.set k.toNat true) m=wL u m:=by unfold wL;rw [List.getElem?_set_ne (by omega)]
    rw [a1,List.count_singleton,if_neg (by simpa using e)];omega
theorem pG {m:Int}(hm:0≤m) :∀ {t:List Node} {i:Nat} {u v:List Bool},bX p i t u=some v→ ((t.map Node.kids).flatten).count m+wL u m=wL v m
 | [],i,u,v,h=>by simp only [bX,Option.some.injEq]at h;subst h;simp
 | x::t,i,u,v,h=>by
  obtain⟨_,w,h1,h2⟩ :=fE h;have h3:=qF (by omega) hm h1;have h4:=pG hm h2;rw [map_cons,flatten_cons,count_append];omega
theorem aG4 {m:Int}:∀ {t:List Node},((t.map Node.kids).flatten).count m≤1→∀ (i j:Nat) (x y:Node),t[i]?=some x→t[j]?=some y→m∈x.kids→m∈y.kids→i=j
 | [],_,i,j,x,y,hx,_,_,_=>by simp at hx
 | z ::t,h,i,j,x,y,hx,hy,mx,my=>by
  rw [map_cons,flatten_cons,count_append]at h;have inT:∀ {i:Nat} {x:Node},t[i]?=some x→m∈x.kids→0< ((t.map Node.kids).flatten).count m:=fun {i x} hx mx=>
   List.count_pos_iff.2 (List.mem_flatten.2 ⟨x.kids,List.mem_map.2 ⟨x,List.mem_of_getElem? hx,rfl⟩,mx⟩)
  cases i with
  | zero=>
   simp only [List.getElem?_cons_zero,Option.some.injEq]at hx;subst hx;cases j with
   |zero=>rfl
   | succ j=>
    simp only [getElem?_cons_succ]at hy;have:=inT hy my;have:=List.count_pos_iff.2 mx;omega
  | succ i=>
   simp only [getElem?_cons_succ]at hx;cases j with
   | zero=>
    simp only [List.getElem?_cons_zero,Option.some.injEq]at hy;subst hy;have:=inT hx mx;have:=List.count_pos_iff.2 my;omega
   | succ j=>
    simp only [getElem?_cons_succ]at hy;rw [aG4 (by omega) i j x y hx hy mx my]
theorem aQu {m:Int}:∀ {t:List Node} {i:Nat} {x:Node},t[i]?=some x→x.kids.count m≤ ((t.map Node.kids).flatten).count m
 | [],i,x,hx=>by simp at hx
 | z::t,0,x,hx=>by
  simp only [List.getElem?_cons_zero,Option.some.injEq]at hx;subst hx;rw [map_cons,flatten_cons,count_append];omega
 | z::t,i+1,x,hx=>by
  simp only [getElem?_cons_succ]at hx;have:=aQu (m:=m) hx;rw [map_cons,flatten_cons,count_append];omega
theorem aQv {m i:Int}:∀ (L:List Int),(∀j∈L,m∈fF p j→j=i) → ((L.map (fF p)).flatten).count m≤L.count i* (fF p i).count m
 | [],_=>by simp
 | j ::L,h=>by
  have h1:=aQv L (fun x hx=>h x (List.mem_cons_of_mem _ hx));rw [map_cons,flatten_cons,count_append,show j::L= [j] ++L from rfl,count_append,Nat.add_mul];by_cases hm:m∈fF p j
  · have:=h j (mem_cons_self ..) hm;subst this;simp;exact h1
  · rw [List.count_eq_zero.2 hm];exact Nat.le_trans (by simpa using h1) (Nat.le_add_left ..)
theorem bGm (hp:FineP p)(hK:∀m:Int,0≤m→p.funs.count m+ ((p.nodes.map Node.kids).flatten).count m≤1){L:List Int}(hin:∀x∈L,0≤x∧x<p.nodes.length)(hL:∀m:Int,L.count m=p.funs.count m+ ((L.map (fF p)).flatten).count m) :∀ (b m:Nat),m≤b→L.count (m:Int) ≤1:=by
 intro b
 induction b with
 | zero=>
  intro m hmb;have hm:m=0:=by omega
  subst hm;have e:=hL ((0:Nat) :Int);have z: ((L.map (fF p)).flatten).count ((0:Nat) :Int) =0:=by
   refine List.count_eq_zero.2 (fun h=>?_);obtain⟨l,hl,hy⟩ :=List.mem_flatten.1 h;obtain⟨j,hj,rfl⟩ :=List.mem_map.1 hl;unfold fF at hy;split at hy
   · rename_i x hx;have:= (hp.node _ _ hx).2.2 _ hy;omega
   ·cases hy
  have:=hK ((0:Nat) :Int) (by omega);omega
 | succ b ih=>
  intro m hmb;have e:=hL (m:Int);have hk:=hK (m:Int) (by omega);by_cases hz: ((L.map (fF p)).flatten).count (m:Int) =0
  ·omega
  · have hpos:=List.count_pos_iff.1 (Nat.pos_of_ne_zero hz);obtain⟨l,hl,hy⟩ :=List.mem_flatten.1 hpos;obtain⟨i,hi,rfl⟩ :=List.mem_map.1 hl;have hir:=hin i hi;obtain⟨x,hx⟩ :∃x,p.nodes[i.toNat]?=some x:= ⟨_,getElem?_eq_getElem (by omega)⟩;have ei:fF p i=x.kids:=by unfold fF;rw [hx]
    rw [ei]at hy;have him:= (hp.node _ _ hx).2.2 _ hy;have hci:L.count i≤1:=by
     have:=ih i.toNat (by omega);rwa [show((i.toNat:Nat) :Int) =i by omega]at this
    have hle:=aQv (p:=p) (m:= (m:Int)) (i:=i) L (fun j hj hmj=>by
     have hjr:=hin j hj;obtain⟨y,hy'⟩ :∃y,p.nodes[j.toNat]?=some y:= ⟨_,getElem?_eq_getElem (by omega)⟩;have ej:fF p j=y.kids:=by unfold fF;rw [hy']
     rw [ej]at hmj;have:=aG4 (by omega) _ _ y x hy' hx hmj hy;omega)
    rw [ei]at hle;have hkl:=aQu (m:= (m:Int)) hx;have:L.count i*x.kids.count (m:Int) ≤1*x.kids.count (m:Int) :=Nat.mul_le_mul_right _ hci;omega
theorem aCh :∀ (n:Nat) (l:List Nat),l.Nodup→ (∀x∈l,x<n) →l.length≤n
 |0,[],_,_=>by simp
 |0,x::l,_,h=>by have:=h x (mem_cons_self ..);omega
 | n+1,l,hd,h=>by
  by_cases hm:n∈l
  · have h1:=aCh n (l.erase n) (hd.erase n) (fun x hx=>by
     have:=h x (List.mem_of_mem_erase hx)
     have hne:x≠n:=fun e=>by
      subst e;exact hd.not_mem_erase hx
     omega)
    rw [List.length_erase_of_mem hm]at h1;omega
  · have:=aCh n l hd (fun x hx=>by
     have:=h x hx;have hne:x≠n:=fun e=>hm (e ▸ hx);omega)
    omega
end
theorem aFr {L:List Int}(h:∀a,L.count a≤1) :L.Nodup:=List.nodup_iff_count.2 h
theorem aQw :∀ (n:Nat) (l:List Int),(∀i:Nat,i<n→ (i:Int) ∈l) →n≤l.length
 |0,l,_=>Nat.zero_le _
 | n+1,l,h=>by
  have h0:=h n (Nat.lt_succ_self n);have h1:=aQw n (l.erase (n:Int)) (fun i hi=> (List.mem_erase_of_ne (by omega)).2 (h i (by omega)));rw [List.length_erase_of_mem h0]at h1;have:=List.length_pos_of_mem h0;omega
theorem all_in {p:Prog}(hp:FineP p)(hK:∀m:Nat,m<p.nodes.length→p.funs.count (m:Int) + ((p.nodes.map Node.kids).flatten).count (m:Int) =1){L:List Int}(hL:∀m:Int,L.count m=p.funs.count m+ ((L.map (fF p)).flatten).count m) :∀ (b m:Nat),m≤b→m<p.nodes.length→ (m:Int) ∈L:=by
 intro b
 induction b with
 | zero=>
  intro m hmb hm;have e:=hL (m:Int);have hk:=hK m hm;by_cases hz: ((p.nodes.map Node.kids).flatten).count (m:Int) =0
  ·exact List.count_pos_iff.1 (by omega)
  · obtain⟨l,hl,hy⟩ :=List.mem_flatten.1 (List.count_pos_iff.1 (Nat.pos_of_ne_zero hz));obtain⟨x,hx,rfl⟩ :=List.mem_map.1 hl;obtain⟨i,hi⟩ :=List.mem_iff_getElem?.1 hx;have:= (hp.node _ _ hi).2.2 _ hy;omega
 | succ b ih=>
  intro m hmb hm;have e:=hL (m:Int);have hk:=hK m hm;by_cases hz: ((p.nodes.map Node.kids).flatten).count (m:Int) =0
  ·exact List.count_pos_iff.1 (by omega)
  · obtain⟨l,hl,hy⟩ :=List.mem_flatten.1 (List.count_pos_iff.1 (Nat.pos_of_ne_zero hz));obtain⟨x,hx,rfl⟩ :=List.mem_map.1 hl;obtain⟨i,hi⟩ :=List.mem_iff_getElem?.1 hx;have him:= (hp.node _ _ hi).2.2 _ hy;have hiL:=ih i (by omega) (by omega);have: (m:Int) ∈ (L.map (fF p)).flatten:=List.mem_flatten.2 ⟨x.kids,List.mem_map.2 ⟨(i:Int),hiL,by unfold fF;rw [Int.toNat_natCast,hi]⟩,hy⟩;have:=List.count_pos_iff.2 this;exact List.count_pos_iff.1 (by omega)
theorem aPe {p:Prog}(hs:aE p=true)(hf:aH p=true) : ((p.funs.map (pre p p.nodes.length)).flatten).Nodup∧ ((p.funs.map (pre p p.nodes.length)).flatten).length=p.nodes.length∧ (∀x∈ (p.funs.map (pre p p.nodes.length)).flatten,0≤x∧x<p.nodes.length) ∧
  (∀ (i:Nat) (x:Node),p.nodes[i]?=some x→bT p x=true) :=by
 have hp:=aLW hs hf;simp only [aH,Bool.and_eq_true]at hf;obtain⟨_,hf⟩ :=hf;split at hf
 · rename_i u hu;unfold allT at hf;split at hf
   · rename_i v hv
     have hK:∀m:Int,0≤m→p.funs.count m+ ((p.nodes.map Node.kids).flatten).count m≤1:=fun m hm=>by
      have h1:=qF (by omega) hm hu;have h2:=pG hm hv;have h3:wL v m≤1:=by unfold wL;split<;>omega
      omega
     have hin:∀x∈ (p.funs.map (pre p p.nodes.length)).flatten,0≤x∧x<p.nodes.length:=fun x hx=>by
      obtain⟨l,hl,hy⟩ :=List.mem_flatten.1 hx;obtain⟨k,hk,rfl⟩ :=List.mem_map.1 hl;have:=hp.funs k hk;exact aWq hp _ k this.1 this.2 x hy
     have hL:∀m:Int,((p.funs.map (pre p p.nodes.length)).flatten).count m=p.funs.count m+ ((((p.funs.map (pre p p.nodes.length)).flatten).map (fF p)).flatten).count m:=fun m=>aAr m p.funs (fun k hk=>by
      have:=hp.funs k hk;exact aG3 hp m _ k this.1 this.2 (by omega))
     have hd: ((p.funs.map (pre p p.nodes.length)).flatten).Nodup:=aFr (fun a=>by
      by_cases ha:a∈ (p.funs.map (pre p p.nodes.length)).flatten
      · have hr:=hin a ha;have:=bGm hp hK hin hL a.toNat a.toNat (Nat.le_refl _);rwa [show((a.toNat:Nat) :Int) =a by omega]at this
      ·rw [List.count_eq_zero.2 ha];omega)
     refine⟨hd,?_,hin,fun i x hx=> (lH hv i x hx).1⟩;have hd2: (((p.funs.map (pre p p.nodes.length)).flatten).map Int.toNat).Nodup:=by
      rw [List.nodup_iff_pairwise_ne]at hd ⊢;refine List.pairwise_map.2 (hd.imp_of_mem (fun {a b} ha hb hne e=>?_));have:=hin a ha;have:=hin b hb;exact hne (by omega)
     have:=aCh p.nodes.length _ hd2 (fun x hx=>by
      obtain⟨y,hy,rfl⟩ :=List.mem_map.1 hx;have:=hin y hy;omega)
     rw [List.length_map]at this;refine Nat.le_antisymm this (aQw _ _ (fun i hi=>all_in hp (fun m hm=>?_) hL i i (Nat.le_refl _) hi));have h1:=qF (m:= (m:Int)) (by omega) (by omega) hu;have h2:=pG (m:= (m:Int)) (by omega) hv;have hl1:=lX hu;have hl2:=nQ hv;rw [List.length_replicate]at hl1;have h3:wL (List.replicate p.nodes.length false) (m:Int) =0:=by
      unfold wL;rw [Int.toNat_natCast,List.getElem?_replicate,if_pos hm];rfl
     have h4:wL v (m:Int) =1:=by
      unfold wL;have hlt:m<v.length:=by omega
      have:=List.all_eq_true.1 hf _ (List.getElem_mem hlt);rw [Int.toNat_natCast,getElem?_eq_getElem hlt,this];rfl
     omega
   ·cases hf
 ·cases hf
abbrev aQx (a:Nat)(b:Prog):=oC a [(iN b.nodes),(iI b.funs),(nI b.main),(iC b.cons)]
abbrev aG5 (a b:Int)(c:cA)(d:List Pat):AV:=.agg [(nI a),(nI b),(dD c),(iP d)]
def aJi(a:List Int)(b:Int):TS:=⟨(tf 50 26 [(0,(iI a)),(1,(iI a)),(4,(bV false)),(5,(nI b))] [kc f50 116,kl f50 116,.inBlock 0,kc f50 15]),[],[],0⟩
def aJj(a b:Int)(c:cA)(d:List Pat)(e:Int):TS:=⟨(tf 92 53 [kp 2 0,kp 3 1,(4,(bV false)),(5,(nI e))] [kc f92 116,kl f92 116,.inBlock 0,kc f92 15]),[],[oC 0 [(nI a),(nI b),(dD c),(iP d)],oC 1 [(nI a),(nI b),(dD c),(iP d)]],2⟩
def aJk(a:Node)(b:Int):TS:=⟨(tf 51 54 [kp 2 0,kp 3 1,(4,(bV false)),(5,(nI b))] [kc f51 116,kl f51 116,.inBlock 0,kc f51 15]),[],[oC 0 [(nI a.op),(nI a.n),(iI a.kids),(iP a.pats)],oC 1 [(nI a.op),(nI a.n),(iI a.kids),(iP a.pats)]],2⟩
def aJl(a:Prog)(b:Int):TS:=⟨(tf 16 75 [kp 2 0,kp 3 1,(4,(bV false)),(5,(nI b))] [kc f16 116,kl f16 116,.inBlock 0,kc f16 15]),[],[aQx 0 a,aQx 1 a],2⟩
def aJm(a:Prog)(b:Int):TS:=⟨(tf 16 75 [kp 2 0,kp 3 1,(4,(bV false)),(6,(nI b))] [kc f16 244,kl f16 244,.inBlock 2,kc f16 31]),[],[aQx 0 a,aQx 1 a],2⟩
def bBs (a:List Int):=fun b=>(tT 0 (start PP 50 [(iI a),(iI a)])<|gl 8 bU a<|gl 1 bU a<|.b 2 10 ((a.length:Int) != (a.length:Int)) .x<|.W 9 0 [] (aJi a 0))|>.f b tv
def bCC(b:List Int)(a:Int):=tT 0 (aJi b a)<|gl 5 bU b<|gd 2 14 (a< (b.length:Int)) (.y fun c:Int=>.i [rn 5,.reg (.d::.d::.ans (.idx (bU c))::rd 3 [.ans (.idx (bU c)),.d,.d])] [hA (0≤a),.a (((b)[a.toNat]?) =some c) (aZ (f:=bU)),hA (0≤a),.a (((b)[a.toNat]?) =some c) (aZ (f:=bU))]<|.b 0 25 (c != c) .x<|gw 6 16 (a+1)<|.W 3 0 [] (aJi b (a+1)))<|gE 7 0 (bV true)
def bBt:=fun c d e f a b g i=>bCC c d|>.t f e a b a b|>.f g i tv
def bBu:=fun a b c=>bCC a b|>.f c tv
def bBv (c d:Int)(a:cA)(b:List Pat):=fun e f g i=>(tT 0 (start PP 92 [(aG5 c d a b),(aG5 c d a b)])<|.b 15 11 (c != c) .x<|.b 7 18 (d != d) .x<|.b 7 25 (!(iZ a.length (aC a) a.length (aC a))) .x<|gm 2 aD b<|gm 2 aD b<|.b 3 33 ((b.length:Int) != (b.length:Int)) .x<|.W 9 2 [0,1] (aJj c d a b 0))|>.f e|>.f f|>.f g|>.f i tv
def bCD(i j:Int)(k:cA)(b:List Pat)(a:Int):=tT 0 (aJj i j k b a)<|gm 6 aD b<|gd 2 38 (a< (b.length:Int)) (.y fun c:Int=>.y fun d:Int=>.y fun e:cA=>.y fun f:List Pat=>.y fun g:Bool=>.i [rn 5,.reg (rd 3 (.ans (.idx (Pat.av (Pat.mk c d e f)))::rd 4 [.ans (.idx (Pat.av (Pat.mk c d e f))),.d,.pure (bV g),.d]))] [hA (0≤a),.a (((b)[a.toNat]?) =some (Pat.mk c d e f)) (eM aD),hA (0≤a),.a (((b)[a.toNat]?) =some (Pat.mk c d e f)) (eM aD),hA (aJ PP 92 [(aG5 c d e f),(aG5 c d e f)] (bV g))]<|.b 0 52 (!g) .x<|gw 6 40 (a+1)<|.W 3 2 [0,1] (aJj i j k b (a+1)))<|gE 7 2 (bV true)
def bBw:=fun c d e f g i j k l m n a b o p q=>bCD c d e f g|>.t n i j k l m a b a b o|>.f p q tv
def bBx:=fun a b c d e f=>bCD a b c d e|>.f f tv
def bBy (a:Node):=fun b c d e f g=>(tT 0 (start PP 51 [(Node.av a),(Node.av a)])<|.b 15 11 (a.op != a.op) .x<|.b 7 18 (a.n != a.n) .x<|jR 4 50 [(iI a.kids),(iI a.kids)]<|fun b=>.b 3 26 (!b) .x<|gm 2 aD a.pats<|gm 2 aD a.pats<|.b 3 34 ((a.pats.length:Int) != (a.pats.length:Int)) .x<|.W 9 2 [0,1] (aJk a 0))|>.f c|>.f d b e|>.f f|>.f g tv
def bCE(b:Node)(a:Int):=tT 0 (aJk b a)<|gm 6 aD b.pats<|gd 2 39 (a< (b.pats.length:Int)) (.y fun c:Int=>.y fun d:Int=>.y fun e:cA=>.y fun f:List Pat=>.y fun g:Bool=>.i [rn 5,.reg (rd 3 (.ans (.idx (Pat.av (Pat.mk c d e f)))::rd 4 [.ans (.idx (Pat.av (Pat.mk c d e f))),.d,.pure (bV g),.d]))] [hA (0≤a),.a (((b.pats)[a.toNat]?) =some (Pat.mk c d e f)) (eM aD),hA (0≤a),.a (((b.pats)[a.toNat]?) =some (Pat.mk c d e f)) (eM aD),hA (aJ PP 92 [(aG5 c d e f),(aG5 c d e f)] (bV g))]<|.b 0 53 (!g) .x<|gw 6 41 (a+1)<|.W 3 2 [0,1] (aJk b (a+1)))<|gE 7 2 (bV true)
def bBz:=fun c d e f g i j k a b l m n=>bCE c d|>.t k e f g i j a b a b l|>.f m n tv
def bBA:=fun a b c=>bCE a b|>.f c tv
def bBB (a:Prog):=fun b c d e f g=>(tT 0 (start PP 16 [(Prog.av a),(Prog.av a)])<|gl 11 Node.av a.nodes<|gl 2 Node.av a.nodes<|.b 2 14 ((a.nodes.length:Int) != (a.nodes.length:Int)) .x<|jR 4 50 [(iI a.funs),(iI a.funs)]<|fun b=>.b 3 22 (!b) .x<|.b 7 29 (a.main != a.main) .x<|gl 2 Con.av a.cons<|gl 2 Con.av a.cons<|.b 3 37 ((a.cons.length:Int) != (a.cons.length:Int)) .x<|.W 9 2 [0,1] (aJl a 0))|>.f c b d|>.f e|>.f f|>.f g tv
def bCF(c:Prog)(b:Int):=tT 0 (aJl c b)<|gl 6 Con.av c.cons<|gd 2 42 (b< (c.cons.length:Int)) (.y fun a:Con=>.i [rn 5,.reg (rd 3 (.ans (.idx (Con.av a))::rd 4 [.ans (.idx (Con.av a)),.d,.d]))] [hA (0≤b),.a (((c.cons)[b.toNat]?) =some a) (aZ (f:=Con.av)),hA (0≤b),.a (((c.cons)[b.toNat]?) =some a) (aZ (f:=Con.av))]<|.b 0 55 (!((iZ a.name.length (aC a.name) a.name.length (aC a.name)) && ((a.args==a.args) &&true))) .x<|gw 6 44 (b+1)<|.W 3 2 [0,1] (aJl c (b+1)))<|.W 9 2 [0,1] (aJm c 0)
def bBC:=fun c d e f a b g i=>bCF c d|>.t f e a b a b|>.f g i tv
def bBD:=fun a b c=>bCF a b|>.f c tv
def bCG(b:Prog)(a:Int):=tT 0 (aJm b a)<|gl 6 Node.av b.nodes<|gd 2 60 (a< (b.nodes.length:Int)) (.y fun c:Node=>.y fun d:Bool=>.i [rn 5,.reg (rd 3 (.ans (.idx (Node.av c))::rd 4 [.ans (.idx (Node.av c)),.d,.pure (bV d),.d]))] [hA (0≤a),.a (((b.nodes)[a.toNat]?) =some c) (aZ (f:=Node.av)),hA (0≤a),.a (((b.nodes)[a.toNat]?) =some c) (aZ (f:=Node.av)),hA (aJ PP 51 [(Node.av c),(Node.av c)] (bV d))]<|.b 0 74 (!d) .x<|gw 6 62 (a+1)<|.W 3 2 [0,1] (aJm b (a+1)))<|gE 7 2 (bV true)
def bBE:=fun c d e f g a b i j k=>bCG c d|>.t g e f a b a b i|>.f j k tv
def bBF:=fun a b c=>bCG a b|>.f c tv
end
end Go.Hb
