/- A machine on abstract values, its soundness, ways, plain laws. -/
import Derived.Test.YtnljmgihoioocaaGreatHF
set_option linter.defProp false
set_option linter.unusedVariables false
set_option linter.unusedSimpArgs false
set_option linter.unusedSectionVars false
set_option maxRecDepth 100000
set_option maxHeartbeats 2000000
namespace Go.Hb
open AV (ilst int keyless keylessL ptr ren renL)
open List (all_nil drop getElem?_set length length_nil map map_nil nodup_nil replicate set set_cons_succ take)
open Nat (le_of_lt le_refl lt_irrefl mul_one)
open Go.Proofs Tryz
noncomputable section
section
variable {P :Program}
theorem Rel.swap {E E':Emb}{h h':Hp}{w:World}(r:Rel E h w.heap)(K:Nat→Prop)(Z:h.nb≤h'.nb)(s:∀b,b<h.nb→E' b=E b)(d:E'.imm=E.imm)(S:∀b,h'.nb≤b→E' b=none)
  (B:∀b o,h.look b=some o→¬K b→bS o= [] ∧jD o=false)
  (c:∀b o,h'.look b=some o→ (K b∧h.look b=some o) ∨ (b<h'.nb∧bS o= [] ∧jD o=false∧ (b<h.nb→¬K b∧∃f,h.look b=some f) ∧∃L,E' b=some L∧OR E' w.heap L o∧∀i,Own o L i→∃l f n,¬K l∧h.look l=some f∧E l=some n∧Own f n i))
  (H:∀b a o j L u,¬ (K b∧h.look b=some o) →¬ (K a∧h.look a=some j) →h'.look b=some o→h'.look a=some j→E' b=some L→E' a=some u→b≠a→¬Meet o j L u) :
  E.le E'∧Rel E' h' w.heap∧∀m,m≤h.nb→ExtM m E h w E' h' w:=by
 have D:E.le E':= ⟨fun b L e=>by rw [s b (r.nb_gt e)];exact e,fun k C e=>by rw [d];exact e⟩;have hK:∀ {b o},K b∧h.look b=some o→E' b=E b:=fun {b o} g=>s b (r.keys b o g.2)
 have z:∀ {b o L},h'.look b=some o→E' b=some L→∀i,Own o L i→∃l f n,h.look l=some f∧E l=some n∧Own f n i:=fun {b o L} e k i G=>by
  rcases c b o e with g| ⟨_,_,_,_,L1,A,_,T⟩
  ·exact⟨b,o,L,g.2,by rw [←hK g];exact k,G⟩
  · rw [k]at A;cases A;obtain⟨l,f,n,_,F,I,J⟩ :=T i G;exact⟨l,f,n,F,I,J⟩
 have p:∀ {b a o j L u},¬ (K b∧h.look b=some o) →K a∧h.look a=some j→h'.look b=some o→E' b=some L→E a=some u→∀i,Own o L i→¬Own j u i:=fun {b a o j L u} g t e k y i O M=>by
  rcases c b o e with q| ⟨_,_,_,_,L1,A,_,T⟩
  ·exact g q
  · rw [k]at A;cases A;obtain⟨l,f,n,U,F,I,J⟩ :=T i O;obtain⟨Q,R⟩ :=B l f F U;rcases r.kin l a f j n u F t.2 I y ⟨i,J,M⟩ (fun e=>U (e ▸ t.1))with⟨x,_⟩ | ⟨_,x,_⟩
    ·rw [Q]at x;cases x
    ·rw [R]at x;cases x
 refine⟨D,⟨fun b o e=>?_,fun b a o j L u e V k y v N=>?_,S,fun k C e=>by rw [d]at e;exact r.imm k C e,fun b o L e k i G=>?_,fun b o e=>?_⟩,fun m hm=> ⟨fun b hb=>s b (by omega),D.2,le_refl _,fun _ _ _=>rfl,fun b o L e k i G _=>z e k i G,by omega,rfl,rfl,rfl,fun _ _=>rfl,fun k C e _=>.inl (by rw [d]at e;exact e),fun b o e hb=>?_⟩⟩
 · rcases c b o e with g| ⟨_,_,_,_,L,A,X,_⟩
   · rcases r.obj0 b o g.2 with⟨Q,R⟩ | ⟨L,W,Y⟩
     ·exact .inl ⟨Q,by rw [hK g];exact R⟩
     ·exact .inr ⟨L,by rw [hK g];exact W,Y.mono D⟩
   ·exact .inr ⟨L,A,X⟩
 · by_cases g:K b∧h.look b=some o
   · by_cases t:K a∧h.look a=some j
     · rw [hK g]at k;rw [hK t]at y;exact r.kin b a o j L u g.2 t.2 k y v N
     · rw [hK g]at k;obtain⟨i,O,M⟩ :=v;exact absurd O (p t g V y k i M)
   · by_cases t:K a∧h.look a=some j
     · rw [hK t]at y;obtain⟨i,O,M⟩ :=v;exact absurd M (p g t e k y i O)
     ·exact absurd v (H b a o j L u g t e V k y N)
 · rw [d];obtain⟨l,f,n,F,I,J⟩ :=z e k i G;exact r.apart l f n F I i J
 · rcases c b o e with g| ⟨g,_⟩
   ·have:=r.keys b o g.2;omega
   ·exact g
 · rcases c b o e with g| ⟨_,_,_,g,_⟩
   ·exact⟨o,g.2⟩
   ·exact(g (by omega)).2
end
inductive XT where
 |mk (op n:Int) (kids:List XT) (pats:List Pat)
mutual
def XT.av :XT→AV
 | .mk o n ks ps=>.iptr [.int .i64 o,.int .i64 n,.ilst 1 (XTs.av ks) false,.ilst 4 (Pats.av ps) false]
def XTs.av :List XT→List AV
 | [] =>[]
 |p::ps=>XT.av p::XTs.av ps
end
theorem cY :∀l,XTs.av l=map XT.av l
 | [] =>rfl
 |p::a=>by rw [XTs.av,cY a];rfl
mutual
theorem aLQ :∀p,keyless (XT.av p) =true
 | .mk o n a b=>by simp [XT.av,keyless]
theorem aZV :∀l,keylessL (XTs.av l) =true
 | [] =>rfl
 |p::a=>by rw [XTs.av,keylessL,aLQ p,aZV a];rfl
end
abbrev Imm :=Nat→Option (Array Value)
def Imm.le (a b:Imm) :Prop:=∀k C,a k=some C→b k=some C
def emI (imm:Imm) :Emb:= ⟨fun _=>none,imm⟩
theorem aCT {a b:Imm}(h:Imm.le a b) : (emI a).le (emI b) := ⟨fun _ _ e=>e,h⟩
def adr (a:Nat×Nat) :Value:=.pointer (some ⟨a.1,a.2,none⟩)
mutual
def TAt (imm:Imm)(H:Array Obj) :Nat×Nat→XT→List Nat→Prop
 | a,.mk o n ks ps,F=>∃ (C:Array Value) (e:TypeId) (kv pv:Value) (Fk:List Nat),H[a.1]?=some (.cells C e (0,0)) ∧C[a.2]?=some (.int .i64 o) ∧C[a.2+1]?=some (.int .i64 n) ∧C[a.2+2]?=some kv∧C[a.2+3]?=some pv∧VR (emI imm) (.ilst 4 (Pats.av ps) false) pv∧F=a.1::Fk ∧
   ((ks= [] ∧Fk= [] ∧ ((∃b,kv= .slice b 0 0) ∨∃ (b:Nat×Nat) (cap:Nat),kv= .slice (some ⟨b.1,b.2,none⟩) 0 cap)) ∨∃ (b:Nat×Nat) (cap:Nat) (Ck:Array Value) (ek:TypeId) (ad:List (Nat×Nat)) (Fr:List Nat),kv= .slice (some ⟨b.1,b.2,none⟩) ks.length cap∧ks≠ [] ∧ks.length≤cap∧b.2+cap≤Ck.size∧H[b.1]?=some (.cells Ck ek (0,0)) ∧ad.length=ks.length∧ (∀j,j<ks.length→Ck[b.2+j]?= (ad.map adr)[j]?) ∧Fk=b.1::Fr∧TsAt imm H ad ks Fr)
def TsAt (imm:Imm)(H:Array Obj) :List (Nat×Nat) →List XT→List Nat→Prop
 |ad,[],F=>ad= [] ∧F= []
 |ad,t::ts,F=>∃a ad' F1 F2,ad=a::ad'∧F=F1++F2∧TAt imm H a t F1∧TsAt imm H ad' ts F2
end
mutual
theorem TAt.go {d c:Imm}{H m:Array Obj}(f:Imm.le d c) :∀ (t:XT) (a:Nat×Nat) (F:List Nat),TAt d H a t F→ (∀i∈F,m[i]?=H[i]?) →TAt c m a t F
 | .mk o n B T,a,F,h,j=>by
  simp only [TAt]at h ⊢;obtain⟨C,e,G,N,A,L,M,I,q,D,w,Q,R⟩ :=h;subst Q;refine⟨C,e,G,N,A,by rw [j _ (cN ..)];exact L,M,I,q,D,w.mono (aCT f),rfl,?_⟩;rcases R with g| ⟨b,k,K,O,l,p,u,J,v,S,r,x,z,y,s⟩
  ·exact .inl g
  · subst y;exact .inr ⟨b,k,K,O,l,p,u,J,v,S,by rw [j _ (by simp)];exact r,x,z,rfl,TsAt.go f B l p s (fun i f=>j i (by simp [f]))⟩
theorem TsAt.go {d b:Imm}{H j:Array Obj}(c:Imm.le d b) :∀ (f:List XT) (g:List (Nat×Nat)) (F:List Nat),TsAt d H g f F→ (∀i∈F,j[i]?=H[i]?) →TsAt b j g f F
 | [],g,F,h,_=>by simpa only [TsAt]using h
 | t::f,g,F,h,k=>by
  simp only [TsAt]at h ⊢;obtain⟨a,e,m,l,rfl,rfl,o,n⟩ :=h;exact⟨a,e,m,l,rfl,rfl,TAt.go c t a m o (fun i c=>k i (by simp [c])),TsAt.go c f e l n (fun i c=>k i (by simp [c]))⟩
end
mutual
theorem TAt.blk {d:Imm}{H:Array Obj}:∀ (t:XT) (a:Nat×Nat) (F:List Nat),TAt d H a t F→∀i∈F,∃C e,H[i]?=some (.cells C e (0,0))
 | .mk o n k w,a,F,h,i,c=>by
  simp only [TAt]at h;obtain⟨C,e,G,L,B,m,K,I,u,D,y,rfl,q⟩ :=h;rcases zq7.1 c with rfl|c
  ·exact⟨C,e,m⟩
  · rcases q with⟨_,rfl,_⟩ | ⟨b,s,l,p,j,r,v,J,x,M,f,z,A,rfl,g⟩
    ·cases c
    · rcases zq7.1 c with rfl|c
      ·exact⟨l,p,f⟩
      ·exact TsAt.blk k j r g i c
theorem TsAt.blk {c:Imm}{H:Array Obj}:∀ (d:List XT) (g:List (Nat×Nat)) (F:List Nat),TsAt c H g d F→∀i∈F,∃C e,H[i]?=some (.cells C e (0,0))
 | [],g,F,h,i,b=>by simp only [TsAt]at h;rw [h.2]at b;cases b
 | t::d,g,F,h,i,b=>by
  simp only [TsAt]at h;obtain⟨a,f,m,l,rfl,rfl,k,j⟩ :=h;rcases zq28.1 b with b|b
  ·exact TAt.blk t a m k i b
  ·exact TsAt.blk d f l j i b
end
theorem TsAt.len {c:Imm}{H:Array Obj}:∀ {d:List XT} {b:List (Nat×Nat)} {F:List Nat},TsAt c H b d F→b.length=d.length
 | [],b,F,h=>by simp only [TsAt]at h;rw [h.1];rfl
 | t::d,b,F,h=>by
  simp only [TsAt]at h;obtain⟨a,f,i,g,rfl,rfl,_,e⟩ :=h;simp [e.len]
def OsAt (imm:Imm)(H:Array Obj) :List (Nat×Nat) →List (Option XT) →List Nat→Prop
 |ad,[],F=>ad= [] ∧F= []
 |ad,some t::ts,F=>∃a ad' F1 F2,ad=a::ad'∧F=F1++F2∧TAt imm H a t F1∧OsAt imm H ad' ts F2
 |ad,none::ts,F=>∃a ad',ad=a::ad'∧OsAt imm H ad' ts F
theorem os_ts {c:Imm}{H:Array Obj}:∀ {h:List XT} {d:List (Nat×Nat)} {F:List Nat},OsAt c H d (h.map some) F↔TsAt c H d h F
 | [],d,F=>by simp [OsAt,TsAt]
 | t::h,d,F=>by
  simp only [eK,OsAt,TsAt];constructor
  ·rintro⟨a,b,k,j,g,i,f,e⟩;exact⟨a,b,k,j,g,i,f,os_ts.1 e⟩
  ·rintro⟨a,b,k,j,g,i,f,e⟩;exact⟨a,b,k,j,g,i,f,os_ts.2 e⟩
theorem OsAt.go {f c:Imm}{H l:Array Obj}(d:Imm.le f c) :∀ (e:List (Option XT)) (g:List (Nat×Nat)) (F:List Nat),OsAt f H g e F→ (∀i∈F,l[i]?=H[i]?) →OsAt c l g e F
 | [],g,F,h,_=>by simpa only [OsAt]using h
 | some t::e,g,F,h,j=>by
  simp only [OsAt]at h ⊢;obtain⟨a,b,n,m,rfl,rfl,o,k⟩ :=h;exact⟨a,b,n,m,rfl,rfl,TAt.go d t a n o (fun i d=>j i (by simp [d])),OsAt.go d e b m k (fun i d=>j i (by simp [d]))⟩
 | none::e,g,F,h,j=>by
  simp only [OsAt]at h ⊢;obtain⟨a,b,rfl,k⟩ :=h;exact⟨a,b,rfl,OsAt.go d e b F k j⟩
theorem OsAt.blk {g:Imm}{H:Array Obj}:∀ (d:List (Option XT)) (f:List (Nat×Nat)) (F:List Nat),OsAt g H f d F→∀i∈F,∃C e,H[i]?=some (.cells C e (0,0))
 | [],f,F,h,i,b=>by simp only [OsAt]at h;rw [h.2]at b;cases b
 | some t::d,f,F,h,i,b=>by
  simp only [OsAt]at h;obtain⟨a,c,m,l,rfl,rfl,k,j⟩ :=h;rcases zq28.1 b with b|b
  ·exact TAt.blk t a m k i b
  ·exact OsAt.blk d c l j i b
 | none::d,f,F,h,i,b=>by
  simp only [OsAt]at h;obtain⟨a,c,rfl,j⟩ :=h;exact OsAt.blk d c F j i b
theorem OsAt.len {d:Imm}{H:Array Obj}:∀ {c:List (Option XT)} {b:List (Nat×Nat)} {F:List Nat},OsAt d H b c F→b.length=c.length
 | [],b,F,h=>by simp only [OsAt]at h;rw [h.1];rfl
 | some t::c,b,F,h=>by
  simp only [OsAt]at h;obtain⟨a,f,i,g,rfl,rfl,_,e⟩ :=h;simp [e.len]
 | none::c,b,F,h=>by
  simp only [OsAt]at h;obtain⟨a,f,rfl,e⟩ :=h;simp [e.len]
theorem OsAt.out {f:Imm}{H:Array Obj}:∀ {g:List (Option XT)} {d:List (Nat×Nat)} {F:List Nat} {i:Nat} {t:XT},OsAt f H d g F→g[i]?=some (some t) →∃a c m,d[i]?=some a∧TAt f H a t c∧OsAt f H d (g.set i none) m∧ (c++m).Perm F
 | [],d,F,i,t,_,e=>by simp at e
 | some u::g,d,F,0,t,h,e=>by
  simp only [OsAt]at h;obtain⟨a,b,c,m,rfl,rfl,p,k⟩ :=h;simp only [jP,Option.some.injEq]at e;subst e;exact⟨a,c,m,rfl,p,by simp only [List.set_cons_zero,OsAt];exact⟨a,b,rfl,k⟩,List.Perm.refl _⟩
 |none::g,d,F,0,t,h,e=>by simp at e
 | some u::g,d,F,i+1,t,h,e=>by
  simp only [OsAt]at h;obtain⟨a,b,c,m,rfl,rfl,p,k⟩ :=h;obtain⟨q,l,j,o,r,s,n⟩ :=OsAt.out k (by simpa using e);refine⟨q,l,c++j,by simpa using o,r,by simp only [set_cons_succ,OsAt];exact⟨a,b,c,j,rfl,rfl,p,s⟩,?_⟩;have: (l++ (c++j)).Perm (c++ (l++j)) :=by
   rw [←zq9,←zq9];exact List.Perm.append_right _ List.perm_append_comm
  exact this.trans (List.Perm.append_left _ n)
 | none::g,d,F,i+1,t,h,e=>by
  simp only [OsAt]at h;obtain⟨a,b,rfl,k⟩ :=h;obtain⟨q,l,j,o,r,s,n⟩ :=OsAt.out k (by simpa using e);exact⟨q,l,j,by simpa using o,r,by simp only [set_cons_succ,OsAt];exact⟨a,b,rfl,s⟩,n⟩
theorem OsAt.put {d:Imm}{H:Array Obj}:∀ {f:List (Option XT)} {j:List (Nat×Nat)} {F c:List Nat} {i:Nat} {t:XT} {a:Nat×Nat},OsAt d H j f F→f[i]?=some none→TAt d H a t c→∃g,OsAt d H (j.set i a) (f.set i (some t)) g∧g.Perm (c++F)
 | [],j,F,c,i,t,a,_,e,_=>by simp at e
 |some r::f,j,F,c,0,t,a,h,e,_=>by simp at e
 | none::f,j,F,c,0,t,a,h,e,l=>by
  simp only [OsAt]at h;obtain⟨m,b,rfl,k⟩ :=h;exact⟨c++F,by simp only [List.set_cons_zero,OsAt];exact⟨a,b,c,F,rfl,rfl,l,k⟩,List.Perm.refl _⟩
 | some r::f,j,F,c,i+1,t,a,h,e,l=>by
  simp only [OsAt]at h;obtain⟨m,b,p,s,rfl,rfl,q,k⟩ :=h;obtain⟨g,n,o⟩ :=OsAt.put k (by simpa using e) l;refine⟨p++g,by simp only [set_cons_succ,OsAt];exact⟨m,b.set i a,p,g,rfl,rfl,q,n⟩,?_⟩;refine(List.Perm.append_left _ o).trans ?_;rw [←zq9,←zq9];exact List.Perm.append_right _ List.perm_append_comm
 | none::f,j,F,c,i+1,t,a,h,e,l=>by
  simp only [OsAt]at h;obtain⟨m,b,rfl,k⟩ :=h;obtain⟨g,n,o⟩ :=OsAt.put k (by simpa using e) l;exact⟨g,by simp only [set_cons_succ,OsAt];exact⟨m,b.set i a,rfl,n⟩,o⟩
section
variable {P :Program}
abbrev ZP :=List Nat→List (Nat×Nat×Nat) →Imm→Array Obj→Prop
def gh :AObj:=.zone false [] (fun _ _ _ _=>True)
def bH (ts:List XT) :ZP:=fun F Ks imm H=>F.Nodup∧∃K:Nat×Nat×Nat,Ks= [K] ∧ ((ts= [] ∧F= []) ∨∃ (C:Array Value) (e:TypeId) (ad:List (Nat×Nat)) (Fr:List Nat),ts≠ [] ∧F=K.1::Fr∧H[K.1]?=some (.cells C e (0,0)) ∧C.size=K.2.2∧ (∀j,j<ts.length→C[K.2.1+j]?= (ad.map adr)[j]?) ∧TsAt imm H ad ts Fr)
def ZV (us:List (Nat×Nat))(ts:List (Option XT)) :ZP:=fun F _ imm H=>F.Nodup∧OsAt imm H us ts F
def dK (us:List (Nat×Nat))(ts:List (Option XT))(i:Nat) :ZP:=fun F Ks imm H=>F.Nodup∧OsAt imm H us ts F∧ts[i]?=some none∧∃K:Nat×Nat×Nat,Ks= [K] ∧us[i]?=some (K.1,K.2.1)
def Z1 (t:XT) :ZP:=fun F Ks imm H=>F.Nodup∧∃K:Nat×Nat×Nat,Ks= [K] ∧TAt imm H (K.1,K.2.1) t F
theorem uT {E:Emb}{H:Array Obj}{F:List Nat}{b sz:Nat}{rs:List Nat}{Ls:List Loc}{Z:ZP}(f:map E.loc rs=map some Ls)(hb:∀i∈F,∃C e,H[i]?=some (.cells C e (0,0)))
  (hz:∀ (a:Imm) (c:Array Obj),Imm.le E.imm a→ (∀i∈F,c[i]?=H[i]?) →Z F (map (fun K=> (K.blk,K.sh,K.sz)) Ls) a c) :OR E H ⟨iV F,b,sz⟩ (.zone true rs Z) :=by
 have d:fpz true ⟨iV F,b,sz⟩ =F:=aHw F;show(∀i∈fpz true ⟨iV F,b,sz⟩,_) ∧_;rw [d];exact⟨hb,Ls,f,hz⟩
theorem zone_own {F:List Nat}{a sz:Nat}{rs:List Nat}{Z:ZP}{i:Nat}:Own (.zone true rs Z) ⟨iV F,a,sz⟩ i↔i∈F:=by
 show i∈fpz true ⟨iV F,a,sz⟩ ↔_;rw [show fpz true ⟨iV F,a,sz⟩ =F from aHw F]
theorem aRs {E:Emb}{H:Array Obj}{L:Loc}:OR E H L gh:= ⟨fun i a=> (by cases a),[],rfl,fun _ _ _ _=>trivial⟩
theorem kY {L:Loc}{i:Nat}:¬Own gh L i:=fun h=>by cases h
theorem gC {E:Emb}{H:Array Obj}{L:Loc}{rs:List Nat}{Z:ZP}(r:OR E H L (.zone true rs Z)) :∃a:List Loc,map E.loc rs=map some a∧Z (jB L.blk) (map (fun K=> (K.blk,K.sh,K.sz)) a) E.imm H:=by
 obtain⟨_,a,c,b⟩ :=r;exact⟨a,c,b E.imm H (fun _ _ e=>e) (fun _ _=>rfl)⟩
def jJ (h h':Hp) :Prop:=∀ (E:Emb) (w:World),Rel E h w.heap→∃E',E.le E'∧Rel E' h' w.heap∧∀m,m≤h.nb→ExtM m E h w E' h' w
theorem aLR {m:Nat}{fr:AFrame}{cs:List AFrame}{h h':Hp}(z:jJ h h') :LeadsM P m ⟨fr,cs,h⟩ ⟨fr,cs,h'⟩ :=fun hm E i a w b f fs r=>by
 obtain⟨g,c,e,d⟩ :=z E w r;exact⟨g,i,a,w,Steps.refl _ _,f.mono c,fs.mono c,e,d m hm⟩
def aAR {α:Type}(h:Hp)(ok:α→Prop)(h':α→Hp) :Prop:=∀ (E:Emb) (w:World),Rel E h w.heap→∃x E',ok x∧E.le E'∧Rel E' (h' x) w.heap∧∀m,m≤h.nb→ExtM m E h w E' (h' x) w
theorem aLS {e:Type}{m:Nat}{fr:AFrame}{cs:List AFrame}{h:Hp}{ok:e→Prop}{h':e→Hp}{a:Res}{hf:Hp}(z:aAR h ok h')(k:∀x,ok x→Ends P m ⟨fr,cs,h' x⟩ a hf) :Ends P m ⟨fr,cs,h⟩ a hf:=fun hm E y c w f fs r l b=>by
 obtain⟨x,v,n,g,u,j⟩ :=z E w r;have i:=j m hm;obtain⟨d,s,t,q,o,A,p⟩ :=k x n i.nb v y c w (f.mono g) (fs.mono g) u l b;exact⟨d,s,t,q,o,A,i.trans p⟩
theorem Rel.noMeet {E:Emb}{h:Hp}{H:Array Obj}(r:Rel E h H){b a:Nat}{o o':AObj}{L L':Loc}(e:h.look b=some o)(f:h.look a=some o')(k:E b=some L)(d:E a=some L')(c:b≠a)(h1:bS o= [] :=by rfl)(h2:bS o'= [] :=by rfl) :¬Meet o o' L L':=fun hm=>by
 rcases r.kin b a o o' L L' e f k d hm c with⟨g,_⟩ | ⟨g,_⟩
 ·rw [h1]at g;cases g
 ·rw [h2]at g;cases g
def vls (us:List (Nat×Nat)) :List AV:=map (fun a=>AV.val (adr a)) us
theorem vls_vrs {E:Emb}:∀ {b:List (Nat×Nat)} {a:List Value},VRs E (vls b) a↔a=b.map adr
 | [],a=>by simp [vls,VRs]
 | u::b,a=>by
  simp only [vls,eK,VRs,VR];constructor
  ·rintro⟨v,c,rfl,rfl,h⟩;rw [vls_vrs.1 h]
  ·intro h;exact⟨_,_,h,rfl,vls_vrs.2 rfl⟩
theorem aJu (a:Nat×Nat) :okE 1 (adr a) := ⟨rfl,fun c hc=>by simp [adr,Value.cells]at hc;subst hc;rfl⟩
theorem lX :∀a:List (Nat×Nat),flat (a.map adr) =a.map adr
 | [] =>rfl
 | u::a=>by
  have:=lX a;unfold flat at this ⊢;simp only [eK,List.flatMap_cons,this];rfl
theorem yY {h h':Hp}{k g:Nat}{us:List (Nat×Nat)}{ts:List XT}(hk:h.look k=some (.lst 1 (vls us)))(n:h.look g=some (.zone true [] (ZV us (ts.map some))))(t:ts≠ [])(I:h.nb<h'.nb)
  (hl:∀b o,h'.look b=some o→ (b=k∧o=gh) ∨ (b=h.nb∧o= .zone true [k] (bH ts)) ∨ (b≠k∧b≠g∧h.look b=some o)) :jJ h h':=fun E w r=>by
 have z:k≠g:=fun e=>by subst e;rw [hk]at n;cases n
 obtain⟨y,H,U⟩ :=r.obj g _ n;obtain⟨Ls,_,F,D⟩ :=gC U;have m:=os_ts.1 D;have q:us.length=ts.length:=m.len;have hu:kH (.lst 1 (vls us)) =false:=by
  cases us with
  |nil=>exact absurd (zq35.1 q.symm) t
  |cons u us=>rfl
 obtain⟨p,v,C,K,vs,J,O,A,c4,Z⟩ :=r.obj k _ hk hu;have A:=vls_vrs.1 A;subst A;have B:p.blk∉jB y.blk:=fun c=>r.noMeet hk n v H z rfl rfl ⟨_,rfl,c⟩
 let E':=E.put h.nb ⟨iV (p.blk::jB y.blk),0,0⟩
 have hkb:=r.keys k _ hk;have hgb:=r.keys g _ n;have x:∀ {b},b≠h.nb→E' b=E b:=fun hb=>Emb.put_ne _ _ hb;have hle:E.le E':=Emb.le_put (r.fresh _ (le_refl _));have l:OR E' w.heap ⟨iV (p.blk::jB y.blk),0,0⟩ (.zone true [k] (bH ts)) :=by
  refine uT (Ls:=[p]) (by simp only [eK,map_nil,List.cons.injEq,and_true];rw [show E'.loc k=E.loc k from x (by omega)];exact v) (fun i a=>?_) (fun N H' a M=> ⟨List.nodup_cons.2 ⟨B,F⟩,_,rfl,.inr ⟨C,K,us,_,t,rfl,by rw [M _ (cN ..)];exact J,O,fun j hj=>?_,TsAt.go a ts us _ m (fun i a=>M i (cJ _ a))⟩⟩)
  · rcases zq7.1 a with rfl|a
    ·exact⟨C,K,J⟩
    ·exact TsAt.blk ts us _ m i a
  · have:=Z j (by rw [lN];omega);rw [this,lX]
 obtain⟨W,T,V⟩ :=r.swap (E':=E') (h':=h') (fun b=>b≠k∧b≠g) (le_of_lt I) (fun b hb=>x (by omega)) rfl (fun b hb=>by rw [x (by omega)];exact r.fresh b (by omega))
  (fun b o e hb=>by
   by_cases f:b=k
   ·subst f;rw [hk]at e;cases e;exact⟨rfl,rfl⟩
   · have d:b=g:=Classical.not_not.1 (fun d=>hb ⟨f,d⟩);subst d;rw [n]at e;cases e;exact⟨rfl,rfl⟩)
  (fun b o e=>by
   rcases hl b o e with⟨rfl,rfl⟩ | ⟨rfl,rfl⟩ | ⟨f,d,s⟩
   ·exact .inr ⟨by omega,rfl,rfl,fun _=> ⟨fun c=>c.1 rfl,_,hk⟩,p,by rw [x (by omega)];exact v,aRs,fun i a=>absurd a kY⟩
   · refine .inr ⟨I,rfl,rfl,fun c=>absurd c (lt_irrefl _),_,Emb.put_same _ _ _,l,fun i a=>?_⟩;rw [zone_own]at a;rcases zq7.1 a with rfl|a
     ·exact⟨k,_,p,fun c=>c.1 rfl,hk,v,rfl⟩
     ·exact⟨g,_,y,fun c=>c.2 rfl,n,H,a⟩
   ·exact .inl ⟨⟨f,d⟩,s⟩)
  (fun b b' o S L L' R Q e X k k' G hm=>by
   obtain⟨i,i1,Y⟩ :=hm;rcases hl b o e with⟨rfl,rfl⟩ | ⟨rfl,rfl⟩ | ⟨f,d,s⟩
   ·exact kY i1
   · rcases hl b' S X with⟨rfl,rfl⟩ | ⟨rfl,rfl⟩ | ⟨f,d,s⟩
     ·exact kY Y
     ·exact G rfl
     ·exact Q ⟨⟨f,d⟩,s⟩
   ·exact R ⟨⟨f,d⟩,s⟩)
 exact⟨E',W,T,V⟩
def ndC (op n:Int)(kv:AV)(pv:AV) :AObj:=.cells (putCells .leaf 0 [.int .i64 op,.int .i64 n,kv,pv]) 4 [] false
theorem aJv {E:Emb}{H:Array Obj}{L:Loc}{op n:Int}{kv pv:AV}(r:OR E H L (ndC op n kv pv)) :∃C e k p,H[L.blk]?=some (.cells C e (0,0)) ∧C.size=L.sz∧C[L.sh]?=some (.int .i64 op) ∧C[L.sh+1]?=some (.int .i64 n) ∧C[L.sh+2]?=some k∧VR E kv k∧C[L.sh+3]?=some p∧VR E pv p:=by
 obtain⟨C,e,j,l,a⟩ :=r;obtain⟨_,s,g,c⟩ :=a 0 (.int .i64 op) (by rw [bC];rfl);obtain⟨_,t,m,b⟩ :=a 1 (.int .i64 n) (by rw [bC];rfl);obtain⟨_,o,q,d⟩ :=a 2 kv (by rw [bC];rfl);obtain⟨_,i,h,f⟩ :=a 3 pv (by rw [bC];rfl);simp only [VR]at c b;subst c b;exact⟨C,e,o,i,j,l,g,m,q,d,h,f⟩
theorem bEN {E:Emb}{H:Array Obj}{L:Loc}{op n:Int}{kv pv:AV}{C:Array Value}{e:TypeId}{k p:Value}(h1:H[L.blk]?=some (.cells C e (0,0)))(h2:C.size=L.sz)(d:C[L.sh]?=some (.int .i64 op))(g:C[L.sh+1]?=some (.int .i64 n))(h:C[L.sh+2]?=some k)(b2:VR E kv k)(f:C[L.sh+3]?=some p)(c:VR E pv p) :OR E H L (ndC op n kv pv) :=by
 refine⟨C,e,h1,h2,fun i a b=>?_⟩;rw [bC]at b;split at b
 · match i,b with
   |0,b=>cases b;exact⟨by omega,_,d,by simp only [VR]⟩
   |1,b=>cases b;exact⟨by omega,_,g,by simp only [VR]⟩
   |2,b=>cases b;exact⟨by omega,_,h,b2⟩
   |3,b=>cases b;exact⟨by omega,_,f,c⟩
   |n+4,b=>rename_i hl;simp at hl;omega
 ·cases b
theorem VR.emI {E:Emb}{a:AV}{v:Value}(hk:keyless a=true)(h:VR E a v) :VR (Hb.emI E.imm) a v:=eO hk h
theorem VR.of_emI {E:Emb}{a:AV}{v:Value}(h:VR (Hb.emI E.imm) a v) :VR E a v:=VR.of_p h
theorem aRt {E:Emb}{H:Array Obj}{g c:Loc}{op n:Int}{k:Nat}{len:Nat}{ex:Bool}{pv:AV}{ps:List Pat}{ks:List XT}{F:List Nat}(hk:E k=some c)(r:OR E H g (ndC op n (.gl k 1 0 len ex) pv))(b:len=ks.length)(hp:∀E v,VR E pv v→VR E (.ilst 4 (Pats.av ps) false) v)
  (hz:bH ks F [(c.blk,c.sh,c.sz)] E.imm H) :TAt E.imm H (g.blk,g.sh) (.mk op n ks ps) (g.blk::F) :=by
 obtain⟨C,e,I,p,G,U,w,D,J,h,R,A⟩ :=aJv r;obtain⟨_,K,hK,hz⟩ :=hz;cases hK;simp only [TAt];refine⟨C,e,I,p,F,G,w,D,J,R,VR.emI (by simp [keyless]) (hp E p A),rfl,?_⟩;simp only [VR]at h;rcases hz with⟨rfl,rfl⟩ | ⟨O,S,B,Q,l,u,T,t,x,o⟩
 · refine .inl ⟨rfl,rfl,?_⟩;simp only [length_nil]at b;rcases h with⟨_,a,m⟩ | ⟨L,a,d,i,f,N,s,q⟩
   ·exact .inl ⟨a,m⟩
   ·rw [b]at f;exact .inr ⟨(L.blk,a),d,f⟩
 · have M:0<ks.length:=List.length_pos_iff.2 l;rcases h with⟨V,a,m⟩ | ⟨L,a,d,i,f,N,s,q⟩
   ·omega
   · rw [hk]at i;cases i;obtain⟨y,W⟩ :=q (by omega);refine .inr ⟨(c.blk,a),d,O,S,B,Q,by rw [←b];exact f,l,by omega,?_,T,o.len,fun j z=>?_,u,o⟩
     ·simp only at t ⊢;omega
     · have:=x j z;simp only at this ⊢;rw [y,show c.sh+0*1+j=c.sh+j by omega];exact this
theorem pM {h h':Hp}{g:Nat}{us:List (Nat×Nat)}{ts:List (Option XT)}{i:Nat}{u:Nat×Nat}{op n:Int}{ks:List XT}{ps:List Pat}(G:h.look g=some (.zone true [] (ZV us ts)))(hu:us[i]?=some u)(ht:ts[i]?=some (some (.mk op n ks ps)))(hn:h'.nb=h.nb+4)
  (hl:∀b o,h'.look b=some o→ (b=h.nb∧o=ndC op n (.gl (h.nb+1) 1 0 ks.length false) (.ilst 4 (Pats.av ps) false)) ∨ (b=h.nb+1∧o=gh) ∨ (b=h.nb+2∧o= .zone true [h.nb+1] (bH ks)) ∨ (b=h.nb+3∧o= .zone true [h.nb] (dK us (ts.set i none) i)) ∨ (b≠g∧h.look b=some o))
  {m:Nat} (hm:m≤h.nb) :oU m h h' (.val (adr u)) (.ptr h.nb 0) :=fun E w r=>by
 obtain⟨X,g1,g2⟩ :=r.obj g _ G;obtain⟨Ls,_,hnd,Y⟩ :=gC g2;obtain⟨a,F1,s,o1,o2,o3,o4⟩ :=Y.out ht;rw [hu]at o1;cases o1;have B:= (o4.nodup_iff).2 hnd;obtain⟨D,W,A⟩ :=List.nodup_append.1 B;simp only [TAt]at o2;obtain⟨C,e,kv,pv,Fk,t1,t2,t3,t4,t5,t6,rfl,t8⟩ :=o2;obtain⟨Kk,k1,k2⟩ :∃Kk:Loc,(∀E:Emb,E (h.nb+1) =some Kk→VR E (.gl (h.nb+1) 1 0 ks.length false) kv) ∧∀ (d:Imm) (H':Array Obj),Imm.le E.imm d→ (∀i∈Fk,H'[i]?=w.heap[i]?) →bH ks Fk [(Kk.blk,Kk.sh,Kk.sz)] d H':=by
  rcases t8 with⟨rfl,rfl,x⟩ | ⟨b,l,T,ek,I,J,x1,x0,x2,x3,O,x5,x6,rfl,N⟩
  · rcases x with⟨b,rfl⟩ | ⟨b,l,rfl⟩
    ·exact⟨⟨0,0,0⟩,fun E _=>by simp only [VR];exact .inl ⟨rfl,b,rfl⟩,fun _ _ _ _=> ⟨nodup_nil,_,rfl,.inl ⟨rfl,rfl⟩⟩⟩
    ·exact⟨⟨b.1,b.2,b.2+l⟩,fun E hE=>by simp only [VR];exact .inr ⟨_,b.2,l,hE,rfl,by simp,fun h=>by(cases h),fun _=> ⟨by simp,by simp⟩⟩,fun _ _ _ _=> ⟨nodup_nil,_,rfl,.inl ⟨rfl,rfl⟩⟩⟩
  · exact⟨⟨b.1,b.2,T.size⟩,fun E hE=>by simp only [VR];exact .inr ⟨_,b.2,l,hE,x1,x2,fun h=>by(cases h),fun _=> ⟨by simp,by simp only [mul_one];exact x3⟩⟩,
     fun d H' c y=> ⟨(List.nodup_cons.1 D).2,_,rfl,.inr ⟨T,ek,I,J,x0,rfl,by rw [y _ (cN ..)];exact O,rfl,fun j hj=>x6 j hj,TsAt.go c ks I J N (fun i c=>y i (cJ _ c))⟩⟩⟩
 have U:∀i∈Fk,∃C e,w.heap[i]?=some (.cells C e (0,0)) :=fun i c=>by
  rcases t8 with⟨rfl,rfl,x⟩ | ⟨b,l,T,ek,I,J,x1,x0,x2,x3,O,x5,x6,rfl,N⟩
  ·cases c
  · rcases zq7.1 c with rfl|c
    ·exact⟨_,_,O⟩
    ·exact TsAt.blk ks I J N i c
 let E':Emb:= ⟨fun b=>if b=h.nb then some ⟨u.1,u.2,C.size⟩else if b=h.nb+1 then some Kk else if b=h.nb+2 then some ⟨iV Fk,0,0⟩else if b=h.nb+3 then some ⟨iV s,0,0⟩else E b,E.imm⟩
 have K:E' h.nb=some ⟨u.1,u.2,C.size⟩ :=if_pos rfl;have V:E' (h.nb+1) =some Kk:=by simp [E']
 have e2:E' (h.nb+2) =some ⟨iV Fk,0,0⟩ :=by simp [E']
 have e3:E' (h.nb+3) =some ⟨iV s,0,0⟩ :=by simp [E']
 have eo:∀ {b},b<h.nb∨h.nb+4≤b→E' b=E b:=fun {b} hb=>by
  simp only [E'];rw [if_neg (by omega),if_neg (by omega),if_neg (by omega),if_neg (by omega)]
 have hgb:=r.keys g _ G
 have t:∀ {i},i=u.1∨i∈Fk∨i∈s→i∈jB X.blk:=fun {i} c=>by
  refine(o4.mem_iff).1 ?_;rcases c with rfl|c|c
  ·simp
  ·simp [c]
  ·simp [c]
 have d1:u.1∉Fk:= (List.nodup_cons.1 D).1;have F:∀ {i},i∈s→i≠u.1∧i∉Fk:=fun {i} c=> ⟨fun f=>A u.1 (cN ..) i c f.symm,fun f=>A i (cJ _ f) i c rfl⟩;have z: (ts.set i none)[i]?=some none:=by
  rw [getElem?_set,if_pos rfl,if_pos (zq0.1 ht).1]
 have oc:OR E' w.heap ⟨u.1,u.2,C.size⟩ (ndC op n (.gl (h.nb+1) 1 0 ks.length false) (.ilst 4 (Pats.av ps) false)) :=bEN t1 rfl t2 t3 t4 (k1 E' V) t5 (VR.of_emI (E:=E') t6);have oz:OR E' w.heap ⟨iV Fk,0,0⟩ (.zone true [h.nb+1] (bH ks)) :=uT (Ls:=[Kk]) (by simp only [eK,map_nil,List.cons.injEq,and_true];exact V) U (fun d H' c y=>k2 d H' c y);have oh:OR E' w.heap ⟨iV s,0,0⟩ (.zone true [h.nb] (dK us (ts.set i none) i)) :=uT (Ls:=[⟨u.1,u.2,C.size⟩]) (by simp only [eK,map_nil,List.cons.injEq,and_true];exact K) (OsAt.blk _ us s o3) (fun d H' c y=> ⟨W,OsAt.go c _ us s o3 y,z,_,rfl,hu⟩)
 have H:∀ {b o L},h'.look b=some o→E' b=some L→¬ (b≠g∧h.look b=some o) → (b=h.nb∧o=ndC op n (.gl (h.nb+1) 1 0 ks.length false) (.ilst 4 (Pats.av ps) false) ∧L= ⟨u.1,u.2,C.size⟩) ∨ (b=h.nb+1∧o=gh) ∨ (b=h.nb+2∧o= .zone true [h.nb+1] (bH ks) ∧L= ⟨iV Fk,0,0⟩) ∨ (b=h.nb+3∧o= .zone true [h.nb] (dK us (ts.set i none) i) ∧L= ⟨iV s,0,0⟩) :=fun {b o L} e k hb=>by
  rcases hl b o e with⟨rfl,rfl⟩ | ⟨rfl,rfl⟩ | ⟨rfl,rfl⟩ | ⟨rfl,rfl⟩ |Z
  ·rw [K]at k;cases k;exact .inl ⟨rfl,rfl,rfl⟩
  ·exact .inr (.inl ⟨rfl,rfl⟩)
  ·rw [e2]at k;cases k;exact .inr (.inr (.inl ⟨rfl,rfl,rfl⟩))
  ·rw [e3]at k;cases k;exact .inr (.inr (.inr ⟨rfl,rfl,rfl⟩))
  ·exact absurd Z hb
 obtain ⟨q1,q2,q3⟩ :=r.swap (E':=E') (h':=h') (fun b=>b≠g) (by omega) (fun b hb=>eo (.inl hb)) rfl (fun b hb=>by rw [eo (by omega)];exact r.fresh b (by omega))
  (fun b o e hb=>by
   have h2:b=g:=Classical.not_not.1 hb;subst h2;rw [G]at e;cases e;exact⟨rfl,rfl⟩)
  (fun b o e=>by
   have old:∀i,i∈jB X.blk→∃R o0 L0,¬ (fun b=>b≠g) R∧h.look R=some o0∧E R=some L0∧Own o0 L0 i:=fun i c=> ⟨g,_,X,fun f=>f rfl,G,g1,c⟩;rcases hl b o e with⟨rfl,rfl⟩ | ⟨rfl,rfl⟩ | ⟨rfl,rfl⟩ | ⟨rfl,rfl⟩ |Z
   ·exact .inr ⟨by omega,rfl,rfl,fun f=>absurd f (by omega),_,K,oc,fun i c=>old i (t (.inl (Eq.symm c)))⟩
   ·exact .inr ⟨by omega,rfl,rfl,fun f=>absurd f (by omega),_,V,aRs,fun i c=>absurd c kY⟩
   ·exact .inr ⟨by omega,rfl,rfl,fun f=>absurd f (by omega),_,e2,oz,fun i c=>old i (t (.inr (.inl (zone_own.1 c))))⟩
   ·exact .inr ⟨by omega,rfl,rfl,fun f=>absurd f (by omega),_,e3,oh,fun i c=>old i (t (.inr (.inr (zone_own.1 c))))⟩
   ·exact .inl Z)
  (fun b b' o o' L L' n1 M e Q k S v hm=>by
   obtain⟨x,p,q⟩ :=hm;rcases H e k n1 with⟨rfl,rfl,rfl⟩ | ⟨rfl,rfl⟩ | ⟨rfl,rfl,rfl⟩ | ⟨rfl,rfl,rfl⟩
   · obtain rfl:u.1=x:=p;rcases H Q S M with⟨rfl,rfl,rfl⟩ | ⟨rfl,rfl⟩ | ⟨rfl,rfl,rfl⟩ | ⟨rfl,rfl,rfl⟩
     ·exact v rfl
     ·exact kY q
     ·exact d1 (zone_own.1 q)
     ·exact(F (zone_own.1 q)).1 rfl
   ·exact kY p
   · have p:=zone_own.1 p;rcases H Q S M with⟨rfl,rfl,rfl⟩ | ⟨rfl,rfl⟩ | ⟨rfl,rfl,rfl⟩ | ⟨rfl,rfl,rfl⟩
     · obtain rfl:u.1=x:=q;exact d1 p
     ·exact kY q
     ·exact v rfl
     ·exact(F (zone_own.1 q)).2 p
   · have p:=zone_own.1 p;rcases H Q S M with⟨rfl,rfl,rfl⟩ | ⟨rfl,rfl⟩ | ⟨rfl,rfl,rfl⟩ | ⟨rfl,rfl,rfl⟩
     · obtain rfl:u.1=x:=q;exact(F p).1 rfl
     ·exact kY q
     ·exact(F p).2 (zone_own.1 q)
     ·exact v rfl)
 refine⟨E',q1,q2,q3 m hm,fun cv hv=>?_⟩;simp only [VR]at hv ⊢;exact⟨_,K,by subst hv;rfl⟩
theorem sU {E:Emb}{h h':Hp}{w:World}(r:Rel E h w.heap)(G:List Nat){rs:List Nat}{Z:ZP}{F:List Nat}{Ls:List Loc}(y:h.nb<h'.nb)
  (hl:∀b o,h'.look b=some o→ (b=h.nb∧o= .zone true rs Z) ∨ (b∈G∧o=gh∧∃L,E b=some L) ∨ (b∉G∧h.look b=some o))
  (t:∀b∈G,∃o,h.look b=some o∧bS o= [] ∧jD o=false) (q:map E.loc rs=map some Ls)
  (z:∀i∈F,(∃b∈G,∃o L,h.look b=some o∧E b=some L∧Own o L i) ∧∃C e,w.heap[i]?=some (.cells C e (0,0)))
  (hz:∀ (a:Imm) (A:Array Obj),Imm.le E.imm a→ (∀i∈F,A[i]?=w.heap[i]?) →Z F (map (fun K=> (K.blk,K.sh,K.sz)) Ls) a A) :
  ∃E',E.le E'∧Rel E' h' w.heap∧∀m,m≤h.nb→ExtM m E h w E' h' w:=by
 let E':=E.put h.nb ⟨iV F,0,0⟩
 have u:∀ {b},b≠h.nb→E' b=E b:=fun hb=>Emb.put_ne _ _ hb;have v:E.le E':=Emb.le_put (r.fresh _ (le_refl _));have p:∀b∈G,b<h.nb:=fun b hb=>by obtain⟨o,e,_⟩ :=t b hb;exact r.keys b o e
 have c:OR E' w.heap ⟨iV F,0,0⟩ (.zone true rs Z) :=uT (tN v.1 q) (fun i l=> (z i l).2) hz
 obtain⟨M,I,J⟩ :=r.swap (E':=E') (h':=h') (fun b=>b∉G) (le_of_lt y) (fun b hb=>u (by omega)) rfl (fun b hb=>by rw [u (by omega)];exact r.fresh b (by omega))
  (fun b o e hb=>by
   have hb:=Classical.not_not.1 hb;obtain⟨n,f,d,j⟩ :=t b hb;rw [e]at f;cases f;exact⟨d,j⟩)
  (fun b o e=>by
   rcases hl b o e with⟨rfl,rfl⟩ | ⟨d,rfl,L,j⟩ | ⟨d,j⟩
   · refine .inr ⟨y,rfl,rfl,fun g=>absurd g (lt_irrefl _),_,Emb.put_same _ _ _,c,fun i l=>?_⟩;obtain⟨⟨O,B,R,N,U,W,S⟩,_⟩ :=z i (zone_own.1 l);exact⟨O,R,N,fun g=>g B,U,W,S⟩
   · have:=p b d;refine .inr ⟨by omega,rfl,rfl,fun _=> ⟨fun g=>g d,?_⟩,L,by rw [u (by omega)];exact j,aRs,fun i l=>absurd l kY⟩;obtain⟨n,f,_⟩ :=t b d;exact⟨n,f⟩
   ·exact .inl ⟨d,j⟩)
  (fun b T o n L X H D e f k Y x hm=>by
   obtain⟨i,V,Q⟩ :=hm;rcases hl b o e with⟨rfl,rfl⟩ | ⟨_,rfl,_⟩ |s
   · rcases hl T n f with⟨rfl,rfl⟩ | ⟨_,rfl,_⟩ |s
     ·exact x rfl
     ·exact kY Q
     ·exact D s
   ·exact kY V
   ·exact H s)
 exact⟨E',M,I,J⟩
theorem aAS {h h':Hp}{b k gk g:Nat}{us:List (Nat×Nat)}{ts:List (Option XT)}{i:Nat}{op n:Int}{ks:List XT}{ps:List Pat}{len:Nat}{ex:Bool}{pv:AV}(hb:h.look b=some (ndC op n (.gl k 1 0 len ex) pv))(p:len=ks.length)(hp:∀E v,VR E pv v→VR E (.ilst 4 (Pats.av ps) false) v)
  (d:h.look gk=some (.zone true [k] (bH ks))) (f:h.look g=some (.zone true [b] (dK us ts i))) (t:gk≠g) (hn:h.nb<h'.nb)
  (hl:∀x o,h'.look x=some o→ (x=h.nb∧o= .zone true [] (ZV us (ts.set i (some (.mk op n ks ps))))) ∨ (x∉ [b,gk,g] ∧h.look x=some o)) :jJ h h':=fun E w r=>by
 obtain⟨l,q,X⟩ :=r.obj b _ hb;obtain⟨u,D,k2⟩ :=r.obj gk _ d;obtain⟨z,I,g2⟩ :=r.obj g _ f;obtain⟨W,O,B⟩ :=gC k2;obtain⟨V,F,Y⟩ :=gC g2;obtain⟨Q,rfl⟩ :∃Q,W= [Q] :=by
  obtain⟨_,K,hK,_⟩ :=B
  match W,hK with
  | [x],_=>exact⟨x,rfl⟩
 obtain⟨N,L,J,K,hK,H⟩ :=Y;obtain⟨T,rfl⟩ :∃T,V= [T] :=by
  match V,hK with
  | [x],_=>exact⟨x,rfl⟩
 simp only [eK,map_nil,List.cons.injEq,and_true]at O F hK;rw [q]at F;cases F;subst hK;have hT:=aRt O X p hp B;obtain⟨G,s,S⟩ :=L.put J hT (a:= (l.blk,l.sh));have A:us.set i (l.blk,l.sh) =us:=by
  apply List.ext_getElem?;intro j;rw [getElem?_set];split
  · rename_i hj;subst hj;split
    ·exact H.symm
    ·rename_i hl;rw [aEP (by omega)]at H;cases H
  ·rfl
 rw [A]at s;have C:b≠gk:=fun e=>by subst e;rw [hb]at d;cases d
 have m:b≠g:=fun e=>by subst e;rw [hb]at f;cases f
 have d1:l.blk∉jB u.blk:=fun M=>r.noMeet hb d q D C rfl rfl ⟨_,rfl,M⟩;have Z:l.blk∉jB z.blk:=fun M=>r.noMeet hb f q I m rfl rfl ⟨_,rfl,M⟩;have d3:∀x∈jB u.blk,x∉jB z.blk:=fun x h1 h2=>r.noMeet d f D I t rfl rfl ⟨x,h1,h2⟩;have nd:G.Nodup:=by
  refine(S.nodup_iff).2 (List.nodup_append.2 ⟨List.nodup_cons.2 ⟨d1,B.1⟩,N,fun x c y R e=>?_⟩);subst e;rcases zq7.1 c with rfl|c
  ·exact Z R
  ·exact d3 x c R
 refine sU r [b,gk,g] (Ls:=[]) hn (fun x o e=> (hl x o e).imp id .inr) (fun x c=>?_) rfl (fun x c=> ⟨?_,OsAt.blk _ us G s x c⟩) (fun U H' hi hH=> ⟨nd,OsAt.go hi _ us G s hH⟩)
 · rcases zq7.1 c with rfl|c
   ·exact⟨_,hb,rfl,rfl⟩
   · rcases zq7.1 c with rfl|c
     ·exact⟨_,d,rfl,rfl⟩
     ·rw [zq32.1 c];exact⟨_,f,rfl,rfl⟩
 · rcases zq28.1 ((S.mem_iff).1 c)with c|c
   · rcases zq7.1 c with rfl|c
     ·exact⟨b,by simp,_,l,hb,q,rfl⟩
     ·exact⟨gk,by simp,_,u,d,D,c⟩
   ·exact⟨g,by simp,_,z,f,I,c⟩
theorem aBP {h h':Hp}{b k g:Nat}{us:List (Nat×Nat)}{op n:Int}{ts:List XT}{ps:List Pat}{len:Nat}{ex:Bool}{pv:AV}(hb:h.look b=some (ndC op n (.gl k 1 0 len ex) pv))(f:len=ts.length)(hp:∀E v,VR E pv v→VR E (.ilst 4 (Pats.av ps) false) v)
  (hk:h.look k=some (.lst 1 (vls us))) (m:h.look g=some (.zone true [] (ZV us (ts.map some)))) (hn:h.nb<h'.nb)
  (hl:∀x o,h'.look x=some o→ (x=h.nb∧o= .zone true [b] (Z1 (.mk op n ts ps))) ∨ (x=b∧o=gh) ∨ (x∉ [b,k,g] ∧h.look x=some o)) :jJ h h':=fun E w r=>by
 obtain⟨l,t,X⟩ :=r.obj b _ hb;obtain⟨A,U,g2⟩ :=r.obj g _ m;obtain⟨Gs,n2,G,V⟩ :=gC g2;have y:=os_ts.1 V;have I:=y.len;have N:b≠g:=fun e=>by subst e;rw [hb]at m;cases m
 have O:b≠k:=fun e=>by subst e;rw [hb]at hk;cases hk
 have J:k≠g:=fun e=>by subst e;rw [hk]at m;cases m
 have d2:l.blk∉jB A.blk:=fun B=>r.noMeet hb m t U N rfl rfl ⟨_,rfl,B⟩
 have hG:∀x∈ [b,k,g],∃o,h.look x=some o∧bS o= [] ∧jD o=false:=fun x c=>by
  rcases zq7.1 c with rfl|c
  ·exact⟨_,hb,rfl,rfl⟩
  · rcases zq7.1 c with rfl|c
    ·exact⟨_,hk,rfl,rfl⟩
    ·rw [zq32.1 c];exact⟨_,m,rfl,rfl⟩
 have z:∀x o,h'.look x=some o→ (x=h.nb∧o= .zone true [b] (Z1 (.mk op n ts ps))) ∨ (x∈ [b,k,g] ∧o=gh∧∃L,E x=some L) ∨ (x∉ [b,k,g] ∧h.look x=some o) :=fun x o e=>by
  rcases hl x o e with g| ⟨rfl,rfl⟩ |g
  ·exact .inl g
  ·exact .inr (.inl ⟨by simp,rfl,l,t⟩)
  ·exact .inr (.inr g)
 obtain⟨C,e,kv,p,M,c2,c3,c4,c5,c6,c7,c8⟩ :=aJv X;simp only [VR]at c6;by_cases s:ts= []
 · subst s;simp only [length_nil]at f;subst f
   have R:∀ (d:Imm) (H':Array Obj),Imm.le E.imm d→ (∀i∈ [l.blk],H'[i]?=w.heap[i]?) →Z1 (.mk op n [] ps) [l.blk] (map (fun K=> (K.blk,K.sh,K.sz)) [l]) d H':=fun d H' T S=>by
    refine⟨List.nodup_cons.2 ⟨by simp,nodup_nil⟩,_,rfl,?_⟩;simp only [TAt];refine⟨C,e,kv,p,[],by rw [S _ (by simp)];exact M,c3,c4,c5,c7,(VR.emI (by simp [keyless]) (hp E p c8)).mono (aCT T),rfl,.inl ⟨trivial,rfl,?_⟩⟩;rcases c6 with⟨_,a,ha⟩ | ⟨L,a,W,_,h2,_⟩
    ·exact .inl ⟨a,ha⟩
    ·exact .inr ⟨(L.blk,a),W,h2⟩
   exact sU r [b,k,g] (Ls:=[l]) hn z hG (by simp only [eK,map_nil,List.cons.injEq,and_true];exact t) (fun x c=>by
    rw [zq32]at c;subst c;exact⟨⟨b,by simp,_,l,hb,t,rfl⟩,C,e,M⟩) R
 · have hu:kH (.lst 1 (vls us)) =false:=by
    cases us with
    |nil=>exact absurd (zq35.1 I.symm) s
    |cons u us=>rfl
   obtain⟨q,H,Y,el,vs,x1,x2,Q,x4,x5⟩ :=r.obj k _ hk hu;have Q:=vls_vrs.1 Q;subst Q;have Z:q.blk∉jB A.blk:=fun B=>r.noMeet hk m H U J rfl rfl ⟨_,rfl,B⟩;have d3:l.blk≠q.blk:=fun B=>r.noMeet hb hk t H O rfl rfl ⟨_,B,rfl⟩
   have D:bH ts (q.blk::jB A.blk) [(q.blk,q.sh,q.sz)] E.imm w.heap:= ⟨List.nodup_cons.2 ⟨Z,G⟩,_,rfl,.inr ⟨Y,el,us,_,s,rfl,x1,x2,fun j hj=>by
    have:=x5 j (by rw [lN];omega);rw [this,lX],y⟩⟩
   have R:=aRt H X f hp D;refine sU r [b,k,g] (Ls:=[l]) (F:=l.blk:: (q.blk::jB A.blk)) hn z hG (by simp only [eK,map_nil,List.cons.injEq,and_true];exact t) (fun x c=>?_) (fun d H' T S=> ⟨List.nodup_cons.2 ⟨?_,List.nodup_cons.2 ⟨Z,G⟩⟩,_,rfl,TAt.go T _ _ _ R S⟩)
   · rcases zq7.1 c with rfl|c
     ·exact⟨⟨b,by simp,_,l,hb,t,rfl⟩,C,e,M⟩
     · rcases zq7.1 c with rfl|c
       ·exact⟨⟨k,by simp,_,q,hk,H,rfl⟩,Y,el,x1⟩
       ·exact⟨⟨g,by simp,_,A,m,U,c⟩,TsAt.blk ts us _ y x c⟩
   · intro c;rcases zq7.1 c with c|c
     ·exact d3 c
     ·exact d2 c
theorem aVN {h h':Hp}{b:Nat}{op n:Int}{ps:List Pat}{kv pv:AV}(hb:h.look b=some (ndC op n kv pv))(hk:∀E v,VR E kv v→∃a,v= .slice a 0 0)(hp:∀E v,VR E pv v→VR E (.ilst 4 (Pats.av ps) false) v)(q:h.nb<h'.nb)
  (hl:∀x o,h'.look x=some o→ (x=h.nb∧o= .zone true [b] (Z1 (.mk op n [] ps))) ∨ (x=b∧o=gh) ∨ (x∉ [b] ∧h.look x=some o)) :jJ h h':=fun E w r=>by
 obtain⟨d,j,m⟩ :=r.obj b _ hb;obtain⟨C,e,k,p,l,H,t,z,A,u,F,y⟩ :=aJv m;obtain⟨a,s⟩ :=hk E k u
 have B:∀ (c:Imm) (H':Array Obj),Imm.le E.imm c→ (∀i∈ [d.blk],H'[i]?=w.heap[i]?) →Z1 (.mk op n [] ps) [d.blk] (map (fun K=> (K.blk,K.sh,K.sz)) [d]) c H':=fun c H' G D=>by
  refine⟨List.nodup_cons.2 ⟨by simp,nodup_nil⟩,_,rfl,?_⟩;simp only [TAt];exact⟨C,e,k,p,[],by rw [D _ (by simp)];exact l,t,z,A,F,(VR.emI (by simp [keyless]) (hp E p y)).mono (aCT G),rfl,.inl ⟨trivial,rfl,.inl ⟨a,s⟩⟩⟩
 exact sU r [b] (rs:=[b]) (Ls:=[d]) q (fun x o e=>by
  rcases hl x o e with g| ⟨rfl,rfl⟩ |g
  ·exact .inl g
  ·exact .inr (.inl ⟨by simp,rfl,d,j⟩)
  · exact .inr (.inr g)) (fun x f=>by rw [zq32.1 f];exact⟨_,hb,rfl,rfl⟩) (by simp only [eK,map_nil,List.cons.injEq,and_true];exact j) (fun x f=>by
    rw [zq32]at f;subst f;exact⟨⟨b,by simp,_,d,hb,j,rfl⟩,C,e,l⟩) B
theorem aCV {E:Emb}{h h':Hp}{w:World}(r:Rel E h w.heap)(G:List Nat){rs:List Nat}{Z:ZP}{F:List Nat}{Ls:List Loc}{kk:Nat}{ok:AObj}{Lk:Loc}(U:h.nb<h'.nb)
  (hl:∀b o,h'.look b=some o→ (b=h.nb∧o= .zone true rs Z) ∨ (b=kk∧o=ok) ∨ (b∈G∧o=gh∧∃L,E b=some L) ∨ (b∉G∧h.look b=some o))
  (M:∀b∈G,∃o,h.look b=some o∧bS o= [] ∧jD o=false) (H:map E.loc rs=map some Ls)
  (x:kk∈G) (t:E kk=some Lk) (s:bS ok= [] ∧jD ok=false) (O:OR E w.heap Lk ok) (j:∀i,Own ok Lk i→i∉F∧∃b∈G,∃o L,h.look b=some o∧E b=some L∧Own o L i)
  (W:∀i∈F,(∃b∈G,∃o L,h.look b=some o∧E b=some L∧Own o L i) ∧∃C e,w.heap[i]?=some (.cells C e (0,0)))
  (hz:∀ (d:Imm) (H':Array Obj),Imm.le E.imm d→ (∀i∈F,H'[i]?=w.heap[i]?) →Z F (map (fun K=> (K.blk,K.sh,K.sz)) Ls) d H') :
  ∃E',E.le E'∧Rel E' h' w.heap∧∀m,m≤h.nb→ExtM m E h w E' h' w:=by
 let E':=E.put h.nb ⟨iV F,0,0⟩
 have v:∀ {b},b≠h.nb→E' b=E b:=fun hb=>Emb.put_ne _ _ hb;have A:E.le E':=Emb.le_put (r.fresh _ (le_refl _));have p:∀b∈G,b<h.nb:=fun b hb=>by obtain⟨o,e,_⟩ :=M b hb;exact r.keys b o e
 have hkb:=p kk x;have f:OR E' w.heap ⟨iV F,0,0⟩ (.zone true rs Z) :=uT (tN A.1 H) (fun i l=> (W i l).2) hz
 obtain ⟨q1,q2,q3⟩ :=r.swap (E':=E') (h':=h') (fun b=>b∉G) (le_of_lt U) (fun b hb=>v (by omega)) rfl (fun b hb=>by rw [v (by omega)];exact r.fresh b (by omega))
  (fun b o e hb=>by
   have hb:=Classical.not_not.1 hb;obtain⟨q,g,c,y⟩ :=M b hb;rw [e]at g;cases g;exact⟨c,y⟩)
  (fun b o e=>by
   have old:∀ {b},b∈G→b<h.nb→¬ (fun b=>b∉G) b∧∃o0,h.look b=some o0:=fun {b} c _=> ⟨fun a=>a c,by obtain⟨q,g,_⟩ :=M b c;exact⟨q,g⟩⟩;rcases hl b o e with⟨rfl,rfl⟩ | ⟨rfl,rfl⟩ | ⟨c,rfl,L,y⟩ | ⟨c,y⟩
   · refine .inr ⟨U,rfl,rfl,fun a=>absurd a (lt_irrefl _),_,Emb.put_same _ _ _,f,fun i l=>?_⟩;obtain⟨⟨J,D,o0,I,Q,R,N⟩,_⟩ :=W i (zone_own.1 l);exact⟨J,o0,I,fun a=>a D,Q,R,N⟩
   · refine .inr ⟨by omega,s.1,s.2,old x,Lk,by rw [v (by omega)];exact t,O.mono A,fun i l=>?_⟩;obtain⟨_,J,D,o0,I,Q,R,N⟩ :=j i l;exact⟨J,o0,I,fun a=>a D,Q,R,N⟩
   · have:=p b c;exact .inr ⟨by omega,rfl,rfl,old c,L,by rw [v (by omega)];exact y,aRs,fun i l=>absurd l kY⟩
   ·exact .inl ⟨c,y⟩)
  (fun b Y o q L L' n1 T e g k V B hm=>by
   obtain⟨i,z,n⟩ :=hm;have X:∀ {L:Loc},E' h.nb=some L→L= ⟨iV F,0,0⟩ :=fun a=>by rw [Emb.put_same]at a;cases a;rfl
   have S:∀ {L:Loc},E' kk=some L→L=Lk:=fun a=>by rw [v (by omega),t]at a;cases a;rfl
   rcases hl b o e with⟨rfl,rfl⟩ | ⟨rfl,rfl⟩ | ⟨_,rfl,_⟩ |u
   · rcases hl Y q g with⟨rfl,rfl⟩ | ⟨rfl,rfl⟩ | ⟨_,rfl,_⟩ |u
     ·exact B rfl
     · rw [X k]at z;rw [S V]at n;exact(j i n).1 (zone_own.1 z)
     ·exact kY n
     ·exact T u
   · rcases hl Y q g with⟨rfl,rfl⟩ | ⟨rfl,rfl⟩ | ⟨_,rfl,_⟩ |u
     · rw [S k]at z;rw [X V]at n;exact(j i z).1 (zone_own.1 n)
     ·exact B rfl
     ·exact kY n
     ·exact T u
   ·exact kY z
   ·exact n1 u)
 exact⟨E',q1,q2,q3⟩
theorem aJw {E:Emb}{H:Array Obj}{L:Loc}{C:Array Value}{b:TypeId}{us:List (Nat×Nat)}(h1:H[L.blk]?=some (.cells C b (0,0)))(h2:C.size=L.sz)(d:∀j,j<us.length→C[L.sh+j]?= (us.map adr)[j]?) :OR E H L (.lst 1 (vls us)) :=
 ⟨C,b,us.map adr,h1,h2,vls_vrs.2 rfl,fun u e=>by obtain⟨a,_,rfl⟩ :=zq24.1 e;exact aJu a,fun j c=>by rw [lX];exact d j (by rw [lN]at c;omega)⟩
theorem sV {h:Hp}{h':List (Nat×Nat) →Hp}{k g:Nat}{o:AObj}{ts:List XT}(hk:h.look k=some o)(N:o=gh)(m:h.look g=some (.zone true [k] (bH ts)))(s:ts≠ [])(G:∀a,h.nb< (h' a).nb)
  (hl:∀a b o,(h' a).look b=some o→ (b=h.nb∧o= .zone true [] (ZV a (ts.map some))) ∨ (b=k∧o= .lst 1 (vls a)) ∨ (b∉ [k,g] ∧h.look b=some o)) :aAR h (fun a=>a.length=ts.length) h':=fun E w r=>by
 subst N;obtain⟨n,v,I⟩ :=r.obj g _ m;obtain⟨Ls,y,d,K,hK,hz⟩ :=gC I;obtain⟨Lk,rfl⟩ :∃Lk,Ls= [Lk] :=by
  match Ls,hK with
  | [x],_=>exact⟨x,rfl⟩
 simp only [eK,map_nil,List.cons.injEq,and_true]at y hK;subst hK;rcases hz with⟨O,_⟩ | ⟨C,e,a,t,_,l,B,A,z,p⟩
 ·exact absurd O s
 · rw [l]at d;obtain⟨f,u⟩ :=List.nodup_cons.1 d;simp only at B A z f l;have q:=p.len
   obtain⟨M,L,H,J⟩ :=aCV (h':=h' a) r [k,g] (rs:=[]) (Z:=ZV a (ts.map some)) (F:=t) (Ls:=[]) (kk:=k) (ok:=.lst 1 (vls a)) (Lk:=Lk) (G a) (fun b o e=>by
    rcases hl a b o e with g|g|g
    ·exact .inl g
    ·exact .inr (.inl g)
    · exact .inr (.inr (.inr g))) (fun b hb=>by
      rcases zq7.1 hb with rfl|hb
      ·exact⟨_,hk,rfl,rfl⟩
      ·rw [zq32.1 hb];exact⟨_,m,rfl,rfl⟩) rfl (by simp) y ⟨rfl,rfl⟩ (aJw B A (fun j R=>z j (by omega))) (fun i c=>by
      obtain rfl:Lk.blk=i:=c;exact⟨f,g,by simp,_,n,m,v,by show _∈jB n.blk;rw [l];simp⟩) (fun i c=> ⟨⟨g,by simp,_,n,m,v,by show _∈jB n.blk;rw [l];simp [c]⟩,TsAt.blk ts a t p i c⟩)
      (fun D S c Q=> ⟨u,os_ts.2 (TsAt.go c ts a t p Q)⟩)
   exact⟨a,M,q,L,H,J⟩
theorem aJx {h:Hp}{h':Nat×Nat→Hp}{k g gz z:Nat}{us:List (Nat×Nat)}{ts:List (Option XT)}{i:Nat}{t:XT}(hk:h.look k=some (.lst 1 ((vls us).set i (.ptr z 0))))(l:h.look g=some (.zone true [] (ZV us ts)))(hz:h.look gz=some (.zone true [z] (Z1 t)))(U:ts[i]?=some none)(I:g≠gz)(hn:∀u,h.nb< (h' u).nb)
  (hl:∀u b o,(h' u).look b=some o→ (b=h.nb∧o= .zone true [] (ZV (us.set i u) (ts.set i (some t)))) ∨ (b=k∧o= .lst 1 (vls (us.set i u))) ∨ (b∉ [k,g,gz] ∧h.look b=some o)) :aAR h (fun _=>True) h':=fun E w r=>by
 obtain⟨J,M,g2⟩ :=r.obj g _ l;obtain⟨Ls,_,R,p⟩ :=gC g2;obtain⟨H,Q,z2⟩ :=r.obj gz _ hz;obtain⟨X,S,zd,K,hK,hT⟩ :=gC z2;obtain⟨c,rfl⟩ :∃c,X= [c] :=by
  match X,hK with
  | [x],_=>exact⟨x,rfl⟩
 simp only [eK,map_nil,List.cons.injEq,and_true]at S hK;subst hK;have m:i<us.length:=by
  have:= (zq0.1 U).1;rw [p.len];exact this
 have hu:kH (.lst 1 ((vls us).set i (.ptr z 0))) =false:=by
  cases us with
  |nil=>simp at m
  |cons u us=>cases i<;>rfl
 obtain⟨Lk,s,C,el,vs,x1,x2,D,x4,x5⟩ :=r.obj k _ hk hu;have O:vs= (us.set i (c.blk,c.sh)).map adr:=by
  have:VRs E ((vls us).set i (.val (adr (c.blk,c.sh)))) vs:=by
   refine VRs.of_get (by rw [fK,D.length,fK]) (fun j a n=>?_);rw [getElem?_set]at n;split at n
   · rename_i f;subst f;have q:i< (vls us).length:=by simpa [vls]using m
     rw [if_pos q]at n;cases n;obtain⟨v,v1,V⟩ :=D.get i (.ptr z 0) (by rw [getElem?_set,if_pos rfl,if_pos q]);simp only [VR]at V ⊢;obtain⟨L,Y,l2⟩ :=V;rw [S]at Y;cases Y;exact⟨v,v1,by rw [l2];rfl⟩
   · rename_i f;exact D.get j a (by rw [getElem?_set,if_neg f];exact n)
  have e: (vls us).set i (.val (adr (c.blk,c.sh))) =vls (us.set i (c.blk,c.sh)) :=by simp [vls,List.map_set]
  rw [e]at this;exact vls_vrs.1 this
 subst O;have N:k≠g:=fun e=>by subst e;rw [hk]at l;cases l
 have G:k≠gz:=fun e=>by subst e;rw [hk]at hz;cases hz
 have d1:Lk.blk∉jB J.blk:=fun d=>r.noMeet hk l s M N rfl rfl ⟨_,rfl,d⟩;have d2:Lk.blk∉jB H.blk:=fun d=>r.noMeet hk hz s Q G rfl rfl ⟨_,rfl,d⟩;have d3:∀x∈jB H.blk,x∉jB J.blk:=fun x h1 h2=>r.noMeet l hz M Q I rfl rfl ⟨x,h2,h1⟩;obtain⟨A,T,B⟩ :=p.put U hT;have nd:A.Nodup:= (B.nodup_iff).2 (List.nodup_append.2 ⟨zd,R,fun x hx y hy e=>by subst e;exact d3 x hx hy⟩)
 obtain ⟨E',q1,q2,q3⟩ :=aCV (h':=h' (c.blk,c.sh)) r [k,g,gz] (rs:=[]) (Z:=ZV (us.set i (c.blk,c.sh)) (ts.set i (some t))) (F:=A) (Ls:=[]) (kk:=k) (ok:=.lst 1 (vls (us.set i (c.blk,c.sh)))) (Lk:=Lk) (hn _) (fun b o e=>by
   rcases hl _ b o e with g|g|g
   ·exact .inl g
   ·exact .inr (.inl g)
   · exact .inr (.inr (.inr g))) (fun b hb=>by
     rcases zq7.1 hb with rfl|hb
     ·exact⟨_,hk,rfl,rfl⟩
     · rcases zq7.1 hb with rfl|hb
       ·exact⟨_,l,rfl,rfl⟩
       ·rw [zq32.1 hb];exact⟨_,hz,rfl,rfl⟩) rfl (by simp) s ⟨rfl,rfl⟩ (aJw x1 x2 (fun j f=>by have:=x5 j (by rw [lN];omega);rw [this,lX])) (fun j f=>by
     obtain rfl:Lk.blk=j:=f;refine⟨fun d=>?_,k,by simp,_,Lk,hk,s,rfl⟩;rcases zq28.1 ((B.mem_iff).1 d)with d|d
     ·exact d2 d
     ·exact d1 d) (fun j f=>by
     refine⟨?_,OsAt.blk _ _ A T j f⟩;rcases zq28.1 ((B.mem_iff).1 f)with d|d
     ·exact⟨gz,by simp,_,H,hz,Q,d⟩
     ·exact⟨g,by simp,_,J,l,M,d⟩)
     (fun W H' hi hH=> ⟨nd,OsAt.go hi _ _ A T hH⟩)
 exact⟨_,E',trivial,q1,q2,q3⟩
theorem OsAt.add {b:Imm}{H:Array Obj}{a:Nat×Nat}{t:XT}{f:List Nat}(j:TAt b H a t f) :∀ {e:List (Option XT)} {d:List (Nat×Nat)} {F:List Nat},OsAt b H d e F→OsAt b H (d++ [a]) (e++ [some t]) (F++f)
 | [],d,F,h=>by
  simp only [OsAt]at h;obtain⟨rfl,rfl⟩ :=h;simp only [List.nil_append,OsAt];exact⟨a,[],f,[],rfl,by simp,j,rfl,rfl⟩
 | some n::e,d,F,h=>by
  simp only [OsAt]at h;obtain⟨i,c,l,m,rfl,rfl,k,g⟩ :=h;simp only [aAb,OsAt];exact⟨i,c++ [a],l,m++f,rfl,by simp,k,OsAt.add j g⟩
 | none::e,d,F,h=>by
  simp only [OsAt]at h;obtain⟨i,c,rfl,g⟩ :=h;simp only [aAb,OsAt];exact⟨i,c++ [a],rfl,OsAt.add j g⟩
theorem aEh {h:Hp}{h':Nat×Nat→Hp}{k g gz z:Nat}{us:List (Nat×Nat)}{ts:List (Option XT)}{t:XT}(hk:h.look k=some (.lst 1 (vls us++ [.ptr z 0])))(f:h.look g=some (.zone true [] (ZV us ts)))(hz:h.look gz=some (.zone true [z] (Z1 t)))(A:g≠gz)(Y:∀u,h.nb< (h' u).nb)
  (hl:∀u b o,(h' u).look b=some o→ (b=h.nb∧o= .zone true [] (ZV (us++ [u]) (ts++ [some t]))) ∨ (b=k∧o= .lst 1 (vls (us++ [u]))) ∨ (b∉ [k,g,gz] ∧h.look b=some o)) :aAR h (fun _=>True) h':=fun E w r=>by
 obtain⟨l,H,g2⟩ :=r.obj g _ f;obtain⟨Ls,_,M,J⟩ :=gC g2;obtain⟨i,D,V⟩ :=r.obj gz _ hz;obtain⟨U,N,zd,K,hK,hT⟩ :=gC V;obtain⟨c,rfl⟩ :∃c,U= [c] :=by
  match U,hK with
  | [x],_=>exact⟨x,rfl⟩
 simp only [eK,map_nil,List.cons.injEq,and_true]at N hK;subst hK;have hu:kH (.lst 1 (vls us++ [.ptr z 0])) =false:=by cases us<;>rfl
 obtain⟨Lk,p,C,el,Q,x1,x2,S,x4,X⟩ :=r.obj k _ hk hu;have I:Q= (us++ [(c.blk,c.sh)]).map adr:=by
  have d:= (S.take us.length);have n:= (S.drop us.length);have hl: (vls us).length=us.length:=by simp [vls]
  rw [←hl,List.take_left]at d;rw [←hl,List.drop_left]at n;rw [hl]at d n;have d:=vls_vrs.1 d;obtain⟨v,vs',e,q,s⟩ :=n.cons_inv;have:=s.nil_inv;subst this;simp only [VR]at q;obtain⟨L,R,l2⟩ :=q;rw [N]at R;cases R;rw [←List.take_append_drop us.length Q,d,e,l2];simp [adr]
 subst I;have B:k≠g:=fun e=>by subst e;rw [hk]at f;cases f
 have G:k≠gz:=fun e=>by subst e;rw [hk]at hz;cases hz
 have d1:Lk.blk∉jB l.blk:=fun a=>r.noMeet hk f p H B rfl rfl ⟨_,rfl,a⟩;have W:Lk.blk∉jB i.blk:=fun a=>r.noMeet hk hz p D G rfl rfl ⟨_,rfl,a⟩;have d3:∀x∈jB i.blk,x∉jB l.blk:=fun x d n=>r.noMeet f hz H D A rfl rfl ⟨x,n,d⟩;have O:=J.add hT;have nd: (jB l.blk++jB i.blk).Nodup:=List.nodup_append.2 ⟨M,zd,fun x hx y hy e=>by subst e;exact d3 x hy hx⟩
 obtain ⟨E',q,s,q3⟩ :=aCV (h':=h' (c.blk,c.sh)) r [k,g,gz] (rs:=[]) (Z:=ZV (us++ [(c.blk,c.sh)]) (ts++ [some t])) (F:=jB l.blk++jB i.blk) (Ls:=[]) (kk:=k) (ok:=.lst 1 (vls (us++ [(c.blk,c.sh)]))) (Lk:=Lk) (Y _) (fun b o e=>by
   rcases hl _ b o e with g|g|g
   ·exact .inl g
   ·exact .inr (.inl g)
   · exact .inr (.inr (.inr g))) (fun b hb=>by
     rcases zq7.1 hb with rfl|hb
     ·exact⟨_,hk,rfl,rfl⟩
     · rcases zq7.1 hb with rfl|hb
       ·exact⟨_,f,rfl,rfl⟩
       ·rw [zq32.1 hb];exact⟨_,hz,rfl,rfl⟩) rfl (by simp) p ⟨rfl,rfl⟩ (aJw x1 x2 (fun j m=>by have:=X j (by rw [lN];omega);rw [this,lX])) (fun j m=>by
     obtain rfl:Lk.blk=j:=m;refine⟨fun a=>?_,k,by simp,_,Lk,hk,p,rfl⟩;rcases zq28.1 a with a|a
     ·exact d1 a
     ·exact W a) (fun j m=>by
     refine⟨?_,OsAt.blk _ _ _ O j m⟩;rcases zq28.1 m with a|a
     ·exact⟨g,by simp,_,l,f,H,a⟩
     ·exact⟨gz,by simp,_,i,hz,D,a⟩)
     (fun T H' hi hH=> ⟨nd,OsAt.go hi _ _ _ O hH⟩)
 exact⟨_,E',trivial,q,s,q3⟩
def snap (H:Array Obj) :Imm:=fun k=>match H[k]? with
 |some (.cells C _ _) =>some C
 |_=>none
theorem sW {H:Array Obj}{k:Nat}{C:Array Value}{e:TypeId}{f:Nat×Nat}(h:H[k]?=some (.cells C e f)) :snap H k=some C:=by
 unfold snap;rw [h]
theorem aLT {H:Array Obj}{k:Nat}{C:Array Value}(h:snap H k=some C) :∃e f,H[k]?=some (.cells C e f) :=by
 unfold snap at h;split at h
 ·rename_i a e f he;cases h;exact⟨e,f,he⟩
 ·cases h
theorem Rel.snap {E:Emb}{h:Hp}{H:Array Obj}(r:Rel E h H) :Imm.le E.imm (snap H) :=fun k C e=>by
 obtain⟨a,f,g⟩ :=r.imm k C e;exact sW g
mutual
theorem aLU {f:Imm}{H:Array Obj}(m:Imm.le f (snap H)) :∀ (t:XT) (a:Nat×Nat) (F:List Nat),TAt f H a t F→VR (emI (snap H)) (XT.av t) (adr a)
 | .mk o n k M,a,F,h=>by
  simp only [TAt]at h;obtain⟨C,e,kv,K,O,G,J,B,p,A,w,rfl,L⟩ :=h;have g:VR (emI (snap H)) (.ilst 1 (XTs.av k) false) kv:=by
   rcases L with⟨rfl,rfl,x⟩ | ⟨b,c,D,R,i,I,s,Q,v,S,q,y,z,N,r⟩
   · simp only [VR];refine⟨[],VRs.nil _,fun _ l=>by(cases l),.inl ⟨rfl,?_⟩⟩;rcases x with⟨b,rfl⟩ | ⟨b,c,rfl⟩
     ·exact⟨b,0,rfl,fun _=>rfl,fun h=>by(cases h)⟩
     ·exact⟨_,c,rfl,fun h=>by(cases h),fun h=>by(cases h)⟩
   · simp only [VR];have hl: (i.map adr).length=k.length:=by rw [lN,y]
     refine⟨i.map adr,aHW m k i I r,fun u l=>by obtain⟨x,_,rfl⟩ :=zq24.1 l;exact aJu x,.inr ⟨b.1,b.2,c,D,by rw [hl];exact s,sW q,by rw [hl];exact v,fun h=>by(cases h),fun j d=>?_⟩⟩;rw [hl,mul_one]at d;rw [lX];exact z j d
  simp only [XT.av,VR];refine⟨[.int .i64 o,.int .i64 n,kv,K],VRs.cons (by simp only [VR]) (VRs.cons (by simp only [VR]) (VRs.cons g (VRs.cons (w.mono (aCT m)) (VRs.nil _)))),a.1,a.2,C,rfl,sW G,fun j d=>?_⟩
  match j,d with
  |0,_=>exact J
  |1,_=>exact B
  |2,_=>exact p
  |3,_=>exact A
  |j+4,d=>simp at d;omega
theorem aHW {b:Imm}{H:Array Obj}(f:Imm.le b (snap H)) :∀ (c:List XT) (d:List (Nat×Nat)) (F:List Nat),TsAt b H d c F→VRs (emI (snap H)) (XTs.av c) (d.map adr)
 | [],d,F,h=>by simp only [TsAt]at h;rw [h.1];exact VRs.nil _
 | t::c,d,F,h=>by
  simp only [TsAt]at h;obtain⟨a,e,k,i,rfl,rfl,j,g⟩ :=h;exact VRs.cons (aLU f t a k j) (aHW f c e i g)
end
def aFN (v:AV) :Prop:=∀E E' cv,VR E v cv→VR E' v cv
theorem aLV {k:IntKind}{n:Int}:aFN (.int k n) :=fun E a b h=>by simpa only [VR]using h
theorem aSU :aFN .nili:=fun E a b h=>by simpa only [VR]using h
theorem aFO {t:Nat}{v:AV}(b:aFN v) :aFN (.iface t v) :=fun E d e h=>by
 simp only [VR]at h ⊢;obtain⟨u,c,a⟩ :=h;exact⟨u,c,b E d u a⟩
theorem aSV :aFN (.agg []) :=fun E a b h=>by simpa only [VR,VRs]using h
theorem aDE {f:Nat}{j m:List AV}{v:AV}{h:Hp}(hp:aM P f m v)(O:aFN v)(B:j.length=m.length)
  (R:∀ (E:Emb) (H:Array Obj) (d:List Value),Rel E h H→VRs E j d→VRs (emI (snap H)) m d) :Spec P (.enter f j) h (.ret v) h:=by
 obtain⟨gB,n,he⟩ :=hp ⟨.leaf,0⟩;simp only [dT,dF]at n;split at n
 · rename_i fn I;split at n
   · rename_i c hc;cases n;refine⟨⟨f,dS .leaf 0 j,max fn.ntmps j.length,[.code c],[],.run,.normal,none⟩,by simp [dT,dF,I,hc],fun hm E fr Q w fr' fs r X D=>?_⟩;simp only at fs;rw [fs.nil_inv]
     have G:∀ {l:List AV} {t:Nat} {a:AV},(dS .leaf 0 l).at t=some a→l[t]?=some a:=fun {l t a} e=>by
      unfold dS at e;rw [bC]at e;split at e
      ·exact e
      ·cases e
     have A:∀ {l:List AV} {t:Nat} {a:AV},l[t]?=some a→ (dS .leaf 0 l).at t=some a:=fun {l t a} e=>by
      unfold dS;rw [bC,if_pos (zq0.1 e).1];exact e
     have J:∃d:List Value,VRs E j d∧∀ (t:Nat),t<j.length→fr.tmps[t]?=d[t]?:=by
      have Y:j.length≤fr.tmps.size:=by have:=fr'.tm.1;simp only at this;omega
      refine⟨(fr.tmps.toList.take j.length),VRs.of_get (by simp;omega) (fun i a p=>?_),fun t U=>?_⟩
      · have z:= (zq0.1 p).1;obtain⟨y,s,q⟩ :=fr'.tm.2 i a (A p);exact⟨y,by rw [List.getElem?_take_of_lt z,rN];exact s,q⟩
      ·rw [List.getElem?_take_of_lt U,rN]
     obtain⟨d,V,N⟩ :=J;have S:=R E w.heap d r V;have F:FR (emI (snap w.heap)) ⟨f,dS .leaf 0 m,max fn.ntmps m.length,[.code c],[],.run,.normal,none⟩ fr:=by
      refine⟨fr'.fn,⟨by have:=fr'.tm.1;rw [←B];exact this,fun t a e=>?_⟩,?_,?_,fr'.mode,fr'.kind,?_⟩
      · have M:=G e;have z:= (zq0.1 M).1;obtain⟨y,s,q⟩ :=S.get t a M;exact⟨y,by rw [N t (by omega)];exact s,q⟩
      ·have:=fr'.todo;simpa [IRs,IR]using this
      ·have:=fr'.defers;simpa [DRs]using this
      ·have:=fr'.round;simpa [RR]using this
     have W:Rel (emI (snap w.heap)) ⟨.leaf,0⟩ w.heap:= ⟨fun b o e=>by simp [Hp.look,T.at_leaf]at e,fun b b' o o' L L' e=>by simp [Hp.look,T.at_leaf]at e,fun _ _=>rfl,fun k C e=>aLT e,fun b o L e=>by simp [Hp.look,T.at_leaf]at e,fun b o e=>by simp [Hp.look,T.at_leaf]at e⟩;obtain⟨Z,K,E',s,⟨y,rfl,q⟩,g3,x⟩ :=he (Nat.zero_le _) (emI (snap w.heap)) fr [] w F rfl W X D;have keep:∀i,i<w.heap.size→K.heap[i]?=w.heap[i]?:=fun i p=>x.keep i p (fun b o L e=>by simp [Hp.look,T.at_leaf]at e);refine⟨_,K,E,s,⟨y,rfl,O E' E y q⟩,⟨fun b o e=>?_,r.kin,r.fresh,fun k C e=>?_,r.apart,r.keys⟩,⟨fun _ _=>rfl,fun _ _ e=>e,x.size,fun i p _=>keep i p,fun b o L e k i p _=> ⟨b,o,L,e,k,p⟩,hm,x.os,x.tape,x.output,x.froz,fun k C e _=>.inl e,fun b o e _=> ⟨o,e⟩⟩⟩
     · rcases r.obj0 b o e with u| ⟨L,s,q⟩
       ·exact .inl u
       ·exact .inr ⟨L,s,q.heap fun i p=>keep _ (q.lt i p)⟩
     · obtain⟨e1,F,g⟩ :=r.imm k C e;exact⟨e1,F,by rw [keep k (zq44.1 g).1];exact g⟩
   ·cases n
 ·cases n
def aR (a:Nat×Nat) :AV:=.val (adr a)
theorem aFP (b:Nat→Nat) :∀a:List (Nat×Nat),renL b (map aR a) =map aR a
 | [] =>rfl
 |u::a=>by rw [eK,renL,aFP b a];rfl
theorem aZX {a:Nat→Nat}{z b:Nat}(us:List (Nat×Nat))(hz:a b=z) :renL a (map aR us++ [.ptr b 0]) =map aR us++ [.ptr z 0] :=by
 rw [aDw,aFP,←hz];rfl
theorem aLW (c:Nat→Nat) :∀ (b:List AV) (i:Nat) (a:AV),renL c (b.set i a) = (renL c b).set i (ren c a)
 | [],_,_=>rfl
 |x::b,0,a=>rfl
 |x::b,i+1,a=>by simp only [set_cons_succ,renL,aLW c b i a]
theorem aVO {a:Nat→Nat}{z b:Nat}(us:List (Nat×Nat))(i:Nat)(hz:a b=z) :renL a ((map aR us).set i (.ptr b 0)) = (map aR us).set i (.ptr z 0) :=by
 rw [aLW,aFP,←hz];rfl
theorem wc {c:Type}{a b:c}{l k:List c}(h:a=b)(g:l=k) :a::l=b::k:=by rw [h,g]
theorem wn {a:Type}: ([] :List a) = [] :=rfl
theorem aBQ {a:Nat→Nat}{z b:Nat}{us:List (Nat×Nat)}(hz:a b=z) :some (bif false then AObj.lst 1 (map aR us++ [.ptr b 0])else(AObj.lst 1 (map aR us++ [.ptr b 0])).ren a) =some (AObj.lst 1 (map aR us++ [.ptr z 0])) :=by
 show some (AObj.lst 1 (renL a _)) =_;rw [aZX us hz]
theorem yZ {a:Nat→Nat}{z b:Nat}{us:List (Nat×Nat)}{i:Nat}(hz:a b=z) :some (bif false then AObj.lst 1 ((map aR us).set i (.ptr b 0))else(AObj.lst 1 ((map aR us).set i (.ptr b 0))).ren a) =some (AObj.lst 1 ((map aR us).set i (.ptr z 0))) :=by
 show some (AObj.lst 1 (renL a _)) =_;rw [aVO us i hz]
theorem kZ {m:Nat}{is:List Ins}{s t:TS}{ks:List Nat}{n1:Nat}{ps:List Prop}{W:List (Option AObj)}(hW:hP (eW m t.nb n1 ks) t.hp=W)(c:way P m is s t ks=some (n1,⟨aFo (eW m t.nb n1 ks) t.fr,t.cs.length,t.cs.map (aFo (eW m t.nb n1 ks)),W⟩,ps))(a:cP m t ks=true)(b:eX t.hp)(hp:AllP ps) :LeadsM P m s.as t.as:=
 aSM (n1:=n1) (ks:=ks) (by rw [c,←hW];rfl) a b hp
theorem aLX {m:Nat}{is:List Ins}{s:TS}{hp:List (Nat×AObj×Bool)}{nb:Nat}{ks:List Nat}{n1:Nat}{v:AV}{ps:List Prop}{W:List (Option AObj)}(hW:hP (eW m nb n1 ks) hp=W)(d:bEG P m is s hp nb ks=some (n1,ren (eW m nb n1 ks) v,W,ps))
  (a:cP m ⟨⟨0,0,[],[],[],.run,.normal,none⟩,[],hp,nb⟩ ks=true) (b:eX hp) (c:AllP ps) :Ends P m s.as (.ret v) (aA hp nb) :=
 aOu (n1:=n1) (ks:=ks) (by rw [d,←hW]) a b c
theorem aFQ {us:List (Nat×Nat)}:0+length us≤length (map aR us) :=by simp
theorem aOO {us:List (Nat×Nat)}{z:Nat}:take (length us) (drop 0 (map aR us)) ++ [ptr z 0] =map aR us++ [.ptr z 0] :=by
 rw [List.drop_zero,aG5 (by simp)]
theorem aOP {us:List (Nat×Nat)}{z:Nat}:length us+length [ptr z 0] =length us+1:=rfl
theorem bEO {us:List (Nat×Nat)}:take (length ([] :List (Nat×Nat))) (drop 0 (map aR ([] :List (Nat×Nat)))) ++take (length us) (drop 0 (map aR us)) =map aR us:=by
 show [] ++take us.length (map aR us) =_;rw [List.nil_append,aG5 (by simp)]
theorem aVP (xs:List AV)(i:Nat)(a:AV) :xs.set (0+i) a=xs.set i a:=by rw [eS]
theorem aCW {h h':Hp}{g:Nat}{rs rs':List Nat}{Z Z':ZP}(f:h.look g=some (.zone true rs Z))(hr:rs'= [] ∨rs'=rs)
  (hz:∀F j a H,Z F j a H→Z' F (if rs'= []then []else j) a H) (p:h.nb<h'.nb)
  (hl:∀x o,h'.look x=some o→ (x=h.nb∧o= .zone true rs' Z') ∨ (x≠g∧h.look x=some o)) :jJ h h':=fun E w r=>by
 obtain⟨k,l,q⟩ :=r.obj g _ f;obtain⟨m,Ls,n,v⟩ :=q;refine sU r [g] (rs:=rs') (Z:=Z') (Ls:=if rs'= []then []else Ls) (F:=jB k.blk) p (fun x o e=>?_) (fun x s=>?_) ?_ (fun i c=> ⟨⟨g,by simp,_,k,f,l,c⟩,m i c⟩) (fun b y c t=>?_)
 · rcases hl x o e with d| ⟨d,u⟩
   ·exact .inl d
   ·exact .inr (.inr ⟨by simpa using d,u⟩)
 ·rw [zq32.1 s];exact⟨_,f,rfl,rfl⟩
 · rcases hr with rfl|rfl
   ·rfl
   · by_cases e:rs'= []
     ·rw [if_pos e,e];rfl
     ·rw [if_neg e];exact n
 · have:=hz _ _ _ _ (v b y c t);by_cases e:rs'= []
   ·rw [if_pos e]at this ⊢;exact this
   ·rw [if_neg e]at this ⊢;exact this
theorem zA {h h':Hp}{Z:ZP}(hz:∀b H,Z [] [] b H)(c:h.nb<h'.nb)
  (hl:∀x o,h'.look x=some o→ (x=h.nb∧o= .zone true [] Z) ∨h.look x=some o) :jJ h h':=fun E w r=>
 sU r [] (rs:=[]) (Ls:=[]) (F:=[]) c (fun x o e=> (hl x o e).imp id (fun h=>.inr ⟨by simp,h⟩)) (fun x d=> (by cases d)) rfl (fun i f=> (by cases f)) (fun a g _ _=>hz a g)
theorem aRu {b:Imm}{H:Array Obj}:∀a:List (Nat×Nat),OsAt b H a (map (fun _=>none) a) []
 | [] =>by simp [OsAt]
 |u::a=>by simp only [eK,OsAt];exact⟨u,a,rfl,aRu a⟩
theorem aZY {us:List (Nat×Nat)}{a:Imm}{H:Array Obj}:ZV us (map (fun _=>none) us) [] [] a H:= ⟨nodup_nil,aRu us⟩
theorem aJy {us:List (Nat×Nat)}{ts:List (Option XT)}{i:Nat}{F:List Nat}{b:List (Nat×Nat×Nat)}{a:Imm}{H:Array Obj}(h:dK us ts i F b a H) :ZV us ts F [] a H:= ⟨h.1,h.2.1⟩
end
abbrev RT :=XT
abbrev RT.mk (o n:Int)(ps:List Pat)(ks:List XT) :XT:=.mk o n ks ps
mutual
def RT.av :XT→AV
 | .mk o n ks ps=>.agg [.int .i64 o,.int .i64 n,.ilst 4 (Pats.av ps) false,.ilst 4 (RTs.av ks) false]
def RTs.av :List XT→List AV
 | [] =>[]
 |p::ps=>RT.av p::RTs.av ps
end
def XT.op :XT→Int| .mk o _ _ _=>o
def XT.n :XT→Int| .mk _ n _ _=>n
def XT.kids :XT→List XT| .mk _ _ ks _=>ks
def XT.pats :XT→List Pat| .mk _ _ _ ps=>ps
structure Flow where
 binds:List XT
 last:XT
noncomputable def Flow.av (f:Flow) :AV:=.agg ([.ilst 4 (RTs.av f.binds) false] ++ (RT.av f.last).cells)
section
variable {P :Program}
mutual
theorem aZZ {g J:Imm}{H:Array Obj}(k:Imm.le g J) :∀ (t:XT) (a:Nat×Nat) (F:List Nat),TAt g H a t F→ (∀i∈F,∀C e f,H[i]?=some (.cells C e f) →J i=some C) →VR (emI J) (XT.av t) (adr a)
 | .mk o n p R,a,F,h,q=>by
  simp only [TAt]at h;obtain⟨C,e,kv,O,S,L,N,I,s,G,A,rfl,Q⟩ :=h;have l:VR (emI J) (.ilst 1 (XTs.av p) false) kv:=by
   rcases Q with⟨rfl,rfl,x⟩ | ⟨b,c,K,U,m,M,y,T,z,V,v,B,D,rfl,w⟩
   · simp only [VR];refine⟨[],VRs.nil _,fun _ r=>by(cases r),.inl ⟨rfl,?_⟩⟩;rcases x with⟨b,rfl⟩ | ⟨b,c,rfl⟩
     ·exact⟨b,0,rfl,fun _=>rfl,fun h=>by(cases h)⟩
     ·exact⟨_,c,rfl,fun h=>by(cases h),fun h=>by(cases h)⟩
   · simp only [VR];have hl: (m.map adr).length=p.length:=by rw [lN,B]
     refine⟨m.map adr,aFR k p m M w (fun i k=>q i (cJ _ (cJ _ k))),fun u r=>by obtain⟨x,_,rfl⟩ :=zq24.1 r;exact aJu x,.inr ⟨b.1,b.2,c,K,by rw [hl];exact y,q _ (by simp) _ _ _ v,by rw [hl];exact z,fun h=>by(cases h),fun j d=>?_⟩⟩;rw [hl,mul_one]at d;rw [lX];exact D j d
  simp only [XT.av,VR];refine⟨[.int .i64 o,.int .i64 n,kv,O],VRs.cons (by simp only [VR]) (VRs.cons (by simp only [VR]) (VRs.cons l (VRs.cons (A.mono (aCT k)) (VRs.nil _)))),a.1,a.2,C,rfl,q _ (cN ..) _ _ _ L,fun j d=>?_⟩
  match j,d with
  |0,_=>exact N
  |1,_=>exact I
  |2,_=>exact s
  |3,_=>exact G
  |j+4,d=>simp at d;omega
theorem aFR {c J:Imm}{H:Array Obj}(b:Imm.le c J) :∀ (d:List XT) (g:List (Nat×Nat)) (F:List Nat),TsAt c H g d F→ (∀i∈F,∀C e f,H[i]?=some (.cells C e f) →J i=some C) →VRs (emI J) (XTs.av d) (g.map adr)
 | [],g,F,h,_=>by simp only [TsAt]at h;rw [h.1];exact VRs.nil _
 | t::d,g,F,h,k=>by
  simp only [TsAt]at h;obtain⟨a,j,o,n,rfl,rfl,m,l⟩ :=h;exact VRs.cons (aZZ b t a o m (fun i b=>k i (zq28.2 (.inl b)))) (aFR b d j n l (fun i b=>k i (zq28.2 (.inr b))))
end
def fhC (r n:Nat)(mn:Int)(cs:List Con) :AObj:=.cells (putCells .leaf 0 [.gl r 1 0 n false,.int .i64 mn,.ilst 2 (map Con.av cs) false]) 3 [] false
def fvA (ts:List XT)(mn:Int)(cs:List Con) :AV:=.iptr [.ilst 1 (XTs.av ts) false,.int .i64 mn,.ilst 2 (map Con.av cs) false]
theorem aFS {E:Emb}{H:Array Obj}{J:Imm}{k r n:Nat}{mn:Int}{cs:List Con}{ts:List XT}{Lk B:Loc}{cv:Value}(m:Imm.le E.imm J)(hk:E k=some Lk)(ok:OR E H Lk (fhC r n mn cs))(oz:OR E H B (.zone true [r] (bH ts)))(o:n=ts.length)
  (t:∀i,i=Lk.blk∨i∈jB B.blk→∀C e f,H[i]?=some (.cells C e f) →J i=some C) (D:VR E (.ptr k 0) cv) :VR (emI J) (fvA ts mn cs) cv:=by
 obtain⟨C,e,R,c2,p⟩ :=ok;obtain⟨_,v0,V,s⟩ :=p 0 (.gl r 1 0 n false) (by rw [bC];rfl);obtain⟨_,O,a1,Z⟩ :=p 1 (.int .i64 mn) (by rw [bC];rfl);obtain⟨_,Q,a2,G⟩ :=p 2 (.ilst 2 (map Con.av cs) false) (by rw [bC];rfl);obtain⟨A,w,U⟩ :=gC oz;obtain⟨hnd,K,hK,hz⟩ :=U;obtain⟨d,rfl⟩ :∃d,A= [d] :=by
  match A,hK with
  | [x],_=>exact⟨x,rfl⟩
 simp only [eK,map_nil,List.cons.injEq,and_true]at w hK;subst hK;have g:VR (emI J) (.ilst 1 (XTs.av ts) false) v0:=by
  simp only [VR]at s;rcases hz with⟨rfl,hF⟩ | ⟨X,ek,q,Fr,F,y,g3,g4,M,z⟩
  · simp only [length_nil]at o;simp only [VR];refine⟨[],VRs.nil _,fun _ v=>by(cases v),.inl ⟨rfl,?_⟩⟩;rcases s with⟨_,a,I⟩ | ⟨L,a,b,_,l,_⟩
    ·exact⟨a,0,I,fun _=>rfl,fun h=>by(cases h)⟩
    ·rw [o]at l;exact⟨_,b,l,fun h=>by(cases h),fun h=>by(cases h)⟩
  · have T:0<ts.length:=List.length_pos_iff.2 F;rcases s with⟨h0,_⟩ | ⟨L,a,b,Y,l,h3,h4,S⟩
    ·omega
    · have:E.loc r=some L:=Y;rw [w]at this;cases this;obtain⟨N,q2⟩ :=S (by omega);have hl: (q.map adr).length=ts.length:=by rw [lN,z.len]
      simp only [VR];refine⟨q.map adr,aFR m ts q Fr z (fun i m=>t i (.inr (by rw [y];exact cJ _ m))),fun u v=>by obtain⟨x,_,rfl⟩ :=zq24.1 v;exact aJu x,.inr ⟨d.blk,a,b,X,by rw [hl,←o];exact l,t _ (.inr (by rw [y];exact cN ..)) _ _ _ g3,by rw [hl];omega,fun h=>by(cases h),fun j c=>?_⟩⟩;rw [hl,mul_one]at c;rw [lX,N,show d.sh+0*1+j=d.sh+j by omega];exact M j c
 simp only [VR]at D;obtain⟨L,W,rfl⟩ :=D;have:E.loc k=some L:=W;rw [show E.loc k=E k from rfl,hk]at this;cases this;simp only [fvA,VR];refine⟨[v0,O,Q],VRs.cons g (VRs.cons (by simpa only [VR]using Z) (VRs.cons ((VR.emI (by simp [keyless]) G).mono (aCT m)) (VRs.nil _))),Lk.blk,Lk.sh+0,C,rfl,t _ (.inl rfl) _ _ _ R,fun j c=>?_⟩
 match j,c with
 |0,_=>exact V
 |1,_=>exact a1
 |2,_=>exact a2
 |j+3,c=>simp at c;omega
theorem aHp {E:Emb}{h:Hp}{H:Array Obj}(r:Rel E h H){k q z n:Nat}{mn:Int}{cs:List Con}{ts:List XT}{cv:Value}(hk:h.look k=some (fhC q n mn cs))(hz:h.look z=some (.zone true [q] (bH ts)))(c:n=ts.length)(b:VR E (.ptr k 0) cv) :VR (emI (snap H)) (fvA ts mn cs) cv:=by
 obtain⟨o,a,g⟩ :=r.obj k _ hk;obtain⟨l,m,j⟩ :=r.obj z _ hz;exact aFS r.snap a g j c (fun i _ C e f d=>sW d) b
theorem aBR {h h':Hp}{k q z n:Nat}{mn:Int}{cs:List Con}{ts:List XT}(hk:h.look k=some (fhC q n mn cs))(hz:h.look z=some (.zone true [q] (bH ts)))(J:n=ts.length)(hb:h'.nb=h.nb)
  (hl:∀b o,h'.look b=some o→b∉ [k,z] ∧h.look b=some o) {m:Nat} (hm:m≤h.nb) :oU m h h' (.ptr k 0) (fvA ts mn cs) :=fun E w r=>by
 obtain⟨F,A,k2⟩ :=r.obj k _ hk;obtain⟨D,X,T⟩ :=r.obj z _ hz
 let own:Nat→Prop:=fun i=>i=F.blk∨i∈jB D.blk
 have c:∀ {i},own i→∃b∈ [k,z],∃o L,h.look b=some o∧E b=some L∧Own o L i∧bS o= [] ∧jD o=false:=fun {i} a=>by
  rcases a with rfl|a
  ·exact⟨k,by simp,_,F,hk,A,rfl,rfl,rfl⟩
  ·exact⟨z,by simp,_,D,hz,X,a,rfl,rfl⟩
 have l:∀ {i},own i→E.imm i=none:=fun {i} a=>by
  obtain⟨b,_,o,L,v,y,p,_⟩ :=c a;exact r.apart b o L v y i p
 classical
 let E':Emb:= ⟨E.loc,fun i=>if own i then snap w.heap i else E.imm i⟩
 have d:E.le E':= ⟨fun _ _ e=>e,fun i C e=>by
  show(if own i then snap w.heap i else E.imm i) =some C;rw [if_neg (fun t=>by rw [l t]at e;cases e)];exact e⟩
 have j:∀ {b o L i},h'.look b=some o→E b=some L→Own o L i→¬own i:=fun {b o L i} e g a s=>by
  obtain⟨U,H,V,S,O,K,N,Y,u2⟩ :=c s;obtain⟨e1,W⟩ :=hl b o e;rcases r.kin U b V o S L O W K g ⟨i,N,a⟩ (fun e=>e1 (e ▸ H))with⟨x,_⟩ | ⟨_,x,_⟩
  ·rw [Y]at x;cases x
  ·rw [u2]at x;cases x
 refine⟨E',d,⟨fun b o e=>?_,fun b G o B L Q e R=>r.kin b G o B L Q (hl b o e).2 (hl G B R).2,fun b hb'=>r.fresh b (by omega),fun i C e=>?_,fun b o L e g i a=>?_,fun b o e=>by rw [hb];exact r.keys b o (hl b o e).2⟩,
  ⟨fun _ _=>rfl,d.2,le_refl _,fun _ _ _=>rfl,fun b o L e g i a _=> ⟨b,o,L,(hl b o e).2,g,a⟩,by omega,rfl,rfl,rfl,fun _ _=>rfl,fun i C e _=>?_,fun b o e _=> ⟨o,(hl b o e).2⟩⟩,fun cv Z=>VR.of_emI (E:=E') (aFS d.2 A k2 T J (fun i a C e f t=>?_) Z)⟩
 · rcases r.obj0 b o (hl b o e).2 with u| ⟨L,I,M⟩
   ·exact .inl u
   ·exact .inr ⟨L,I,M.mono d⟩
 · simp only [E']at e;split at e
   ·exact aLT e
   ·exact r.imm i C e
 · show(if own i then snap w.heap i else E.imm i) =none;rw [if_neg (j e g a)];exact r.apart b o L (hl b o e).2 g i a
 · simp only [E']at e;split at e
   · rename_i s;obtain⟨b,_,o,L,v,y,p,_⟩ :=c s;exact .inr ⟨b,o,L,v,y,p⟩
   ·exact .inl e
 · show(if own i then snap w.heap i else E.imm i) =some C;rw [if_pos a];exact sW t
end
mutual
def mL :Pat→Int→Int
 | .mk _ _ _ ps,left=>if left<1 then -1 else kA ps (left-1)
def kA :List Pat→Int→Int
 | [],left=>left
 |p::ps,left=>if 0≤left then kA ps (mL p left)else left
end
mutual
theorem aLY :∀ (p:Pat) (left:Int),0≤left→ -1≤mL p left∧mL p left≤left-1
 | .mk _ _ _ a,left,h=>by
  rw [mL];split
  ·omega
  ·have:=aHX a (left-1) (by omega);omega
theorem aHX :∀ (b:List Pat) (left:Int),-1≤left→ -1≤kA b left∧kA b left≤left
 | [],left,h=>by rw [kA];omega
 | p ::b,left,h=>by
  rw [kA];split
  · rename_i c;have a:=aLY p left c;have:=aHX b (mL p left) a.1;omega
  ·omega
end
theorem aDF (f n:Int)(s:cC)(ps:List Pat)(a:Int)(e:∀p∈ps,∀left:Int,0≤left→left≤1000→aM PP 69 [Pat.av p,.int .i64 left] (.int .i64 (mL p left))) :
  ∀ (t:List Pat) (i:Nat) (left:Int),ps.drop i=t→ -1≤left→ (i:Int) +left≤1000→Ends PP 0 (yX f n s ps a left (i:Int)).as (.ret (.int .i64 (kA t left))) (aA [] 0)
 | [],i,left,h,m,o=>by
  have:=bL h;rw [kA];exact aON f n s ps a left i sd
 | .mk g j d b::t,i,left,h,m,o=>by
  obtain⟨k,l,q⟩ :=bI h;rw [kA];split
  · rename_i c;have w:=aLY (.mk g j d b) left c;refine(aOL f n s ps a left i g j d b _ sd sd sd sd (e _ (kN k) left c (by omega)) sd).ends ?_;exact aDF f n s ps a e t (i+1) _ l w.1 (by omega)
  ·exact aOM f n s ps a left i sd sd
mutual
theorem xO :∀ (p:Pat) (left:Int),-1≤left→left≤1000→aM PP 69 [Pat.av p,.int .i64 left] (.int .i64 (mL p left))
 | .mk f n s a,left,b,c=>by
  refine aK aC (by simp [keylessL,kW,keyless]) rfl ?_;rw [mL];split
  ·exact aOJ f n s a left sd
  · refine(aOK f n s a left sd sd).ends ?_;exact aDF f n s a left (fun p d left b c=>aFT a p d left b c) a 0 _ rfl (by omega) (by omega)
theorem aFT :∀ (b:List Pat),∀p∈b,∀left:Int,0≤left→left≤1000→aM PP 69 [Pat.av p,.int .i64 left] (.int .i64 (mL p left))
 | [],p,a,_,_,_=>by cases a
 | q::b,p,a,left,d,c=>by
  rcases zq7.1 a with e|a
  ·rw [e];exact xO q left (by omega) c
  ·exact aFT b p a left d c
end
mutual
def rX :Pat→Bool
 | .mk _ _ s ps=>uU ps&&decide (s.length≤30)
def uU :List Pat→Bool
 | [] =>true
 |p::ps=>rX p&&uU ps
end
mutual
def bX :Pat→Nat
 | .mk _ _ _ ps=>bD ps+1
def bD :List Pat→Nat
 | [] =>0
 |p::ps=>bX p+bD ps
end
theorem eD :∀a:List Pat,a.length≤bD a
 | [] =>by simp [bD]
 | .mk _ _ _ qs::a=>by have:=eD a;simp only [bD,bX,oI];omega
mutual
theorem aFU :∀ (p:Pat) (left:Int),0≤mL p left→mL p left=left-bX p
 | .mk _ _ _ b,left,h=>by
  rw [mL]at h ⊢;split at h
  ·omega
  · rename_i a;rw [if_neg a];have:=aDG b (left-1) h;simp only [bX];omega
theorem aDG :∀ (c:List Pat) (left:Int),0≤kA c left→kA c left=left-bD c
 | [],left,h=>by simp [kA,bD]
 | p ::c,left,h=>by
  rw [kA]at h ⊢;split at h
  · rename_i d;rw [if_pos d];have a:=aDG c _ h;have b:=aFU p left (by omega);simp only [bD];omega
  ·omega
end
mutual
theorem aFV :∀ (p:Pat) (left:Int),(bX p:Int) ≤left→mL p left=left-bX p
 | .mk _ _ _ a,left,h=>by
  simp only [bX]at h ⊢;rw [mL,if_neg (by omega),aDH a (left-1) (by omega)];omega
theorem aDH :∀ (a:List Pat) (left:Int),(bD a:Int) ≤left→kA a left=left-bD a
 | [],left,h=>by simp [kA,bD]
 | p::a,left,h=>by
  simp only [bD]at h ⊢;rw [kA,if_pos (by omega),aFV p left (by omega),aDH a _ (by omega)];omega
end
theorem zB (p:Pat)(left:Int) :0≤mL p left↔ (bX p:Int) ≤left:=by
 constructor
 ·intro h;have:=aFU p left h;omega
 ·intro h;rw [aFV p left h];omega
theorem xP (f n:Int)(s:cC)(ps:List Pat)(hl:ps.length<1000000)(j:∀p∈ps,aM PP 70 [Pat.av p] (.bool (rX p))) :
  ∀ (t:List Pat) (i:Nat),ps.drop i=t→Ends PP 0 (pD f n s ps (i:Int)).as (.ret (.bool (uU t&&decide (s.length≤30)))) (aA [] 0)
 | [],i,h=>by
  have:=bL h;have e:decide (((length s:Nat) :Int) ≤ (30:Int)) =decide (s.length≤30) :=by congr 1;simp;omega
  rw [uU,nV,←e];exact aHo f n s ps i sd
 | .mk d g c b::t,i,h=>by
  obtain⟨k,l,m⟩ :=bI h;have a:=j _ (kN k);rw [uU];cases hb:rX (.mk d g c b)
  case false=>
   rw [hb]at a;exact aHm f n s ps i d g c b false sd sd sd a rfl
  rw [hb]at a;refine(aHn f n s ps i d g c b true sd sd sd a rfl sd).ends ?_;rw [nV];exact xP f n s ps hl j t (i+1) l
mutual
theorem xQ :∀ (p:Pat),bX p<1000000→aM PP 70 [Pat.av p] (.bool (rX p))
 | .mk f n s a,h=>by
  refine aK aC (by simp [keylessL,kW]) rfl ?_;simp only [bX]at h;have:=eD a;refine(aHl f n s a).ends ?_;rw [rX];exact xP f n s a (by omega) (aAz a (by omega)) a 0 rfl
theorem aAz :∀ (b:List Pat),bD b<1000000→∀p∈b,aM PP 70 [Pat.av p] (.bool (rX p))
 | [],_,p,a=>by cases a
 | q::b,h,p,a=>by
  simp only [bD]at h;rcases zq7.1 a with e|a
  ·rw [e];exact xQ q (by omega)
  ·exact aAz b (by omega) p a
end
def uV (p:Pat) :Bool:=decide (bX p≤16) &&rX p
theorem aJz (p:Pat) :aM PP 31 [Pat.av p] (.bool (uV p)) :=by
 refine aK aC (by simp [keylessL,kW]) rfl ?_;obtain⟨f,n,s,a⟩ :=p;have b:=xO (.mk f n s a) 16 (by omega) (by omega);by_cases h:bX (.mk f n s a) ≤16
 · have e:uV (.mk f n s a) =rX (.mk f n s a) :=by simp [uV,h]
   rw [e];have c:0≤mL (.mk f n s a) 16:= (zB (.mk f n s a) 16).2 (by omega);exact aLL f n s a _ _ b (decide_eq_true c) (xQ (.mk f n s a) (by omega))
 · have e:uV (.mk f n s a) =false:=by simp [uV,h]
   rw [e];refine aLM f n s a _ b (decide_eq_false fun g=>h ?_);have:= (zB (.mk f n s a) 16).1 g;omega
def hM (l:List Con) :Bool:=l.all fun c=>decide (c.name.length≤40)
def fS (l:List Pat) :Bool:=l.all uV
def bA (x:Node) :Bool:=decide (x.kids.length≤10) &&decide (x.pats.length≤10) &&fS x.pats
def aF (p:Prog) :Bool:=decide (p.nodes.length≤320) &&decide (p.funs.length≤320) &&decide (p.cons.length≤25) &&hM p.cons&&p.nodes.all bA
mutual
theorem bF9 (p:Prog)(o:p.nodes.length≤320) :∀ (t:List Node) (i:Nat),p.nodes.drop i=t→Ends PP 0 (nP p (i:Int)).as (.ret (.bool (t.all bA))) (aA [] 0)
 | [],i,h=>by
  have:=bL h;exact aFJ p i sd
 | x :: t,i,h=>by
  obtain⟨n,l,y⟩ :=bI h;by_cases j:x.kids.length≤10
  · by_cases m:x.pats.length≤10
    · have e: (x::t).all bA= (fS (x.pats.drop 0) &&t.all bA) :=by simp [bA,j,m]
      rw [e];refine(aFI p i x sd sd sd sd sd).ends ?_;have s:=bF9 p o t (i+1) l;clear e n l h
      suffices ∀ (u:List Pat) (k:Nat),x.pats.drop k=u→Ends PP 0 (nQ p x.op x.n x.kids x.pats (k:Int) (i:Int)).as (.ret (.bool (fS u&&t.all bA))) (aA [] 0)from this _ 0 rfl
      intro u
      induction u with
      | nil=>
       intro k hk;have:=bL hk;refine(aFM p x.op x.n x.kids x.pats k i sd sd).ends ?_;simp only [fS,all_nil,nV];exact s
      | cons q u g=>
       intro k hk;obtain⟨w,r,v⟩ :=bI hk;obtain⟨d,b,c,a⟩ :=q;have f:=aJz (.mk d b c a);cases hb:uV (.mk d b c a)
       case false=>
        rw [hb]at f;have e: (fS (.mk d b c a::u) &&t.all bA) =false:=by simp [fS,hb]
        rw [e];exact aFK p x.op x.n x.kids x.pats k i d b c a false sd sd sd f rfl
       rw [hb]at f;have e: (fS (.mk d b c a::u) &&t.all bA) = (fS u&&t.all bA) :=by simp [fS,hb]
       rw [e];refine(aFL p x.op x.n x.kids x.pats k i d b c a true sd sd sd f rfl sd).ends ?_;exact g (k+1) r
    · have e: (x::t).all bA=false:=by simp [bA,m]
      rw [e];exact aFH p i x sd sd sd sd sd
  · have e: (x::t).all bA=false:=by simp [bA,j]
    rw [e];exact aFG p i x sd sd sd sd
end
theorem bGa (p:Prog)(hc:p.cons.length≤25)(a:p.nodes.length≤320) :∀ (t:List Con) (i:Nat),p.cons.drop i=t→Ends PP 0 (nO p (i:Int)).as (.ret (.bool (hM t&&p.nodes.all bA))) (aA [] 0)
 | [],i,h=>by
  have:=bL h;refine(aFF p i sd).ends ?_;simp only [hM,all_nil,nV];exact bF9 p a p.nodes 0 rfl
 | c ::t,i,h=>by
  obtain⟨d,b,f⟩ :=bI h;by_cases k:c.name.length≤40
  · have e: (hM (c::t) &&p.nodes.all bA) = (hM t&&p.nodes.all bA) :=by simp [hM,k]
    rw [e];refine(aFE p i c sd sd sd sd sd).ends ?_;exact bGa p hc a t (i+1) b
  · have e: (hM (c::t) &&p.nodes.all bA) =false:=by simp [hM,k]
    rw [e];exact aFD p i c sd sd sd sd
theorem vV (p:Prog) :aM PP 10 [Prog.av p] (.bool (aF p)) :=by
 refine aK aC rfl rfl ?_;by_cases b:p.nodes.length≤320
 · by_cases c:p.funs.length≤320
   · by_cases a:p.cons.length≤25
     · have e:aF p= (hM p.cons&&p.nodes.all bA) :=by simp [aF,b,c,a]
       rw [e];exact(aFC p sd sd sd).ends (bGa p a b p.cons 0 rfl)
     · have e:aF p=false:=by simp [aF,a]
       rw [e];exact aFB p sd sd sd
   · have e:aF p=false:=by simp [aF,c]
     rw [e];exact aFA p sd sd
 · have e:aF p=false:=by simp [aF,b]
   rw [e];exact aFz p sd
def dW(b c:Int)(d:cC)(a:List Pat)(e:List Con)(f:Bool)(g:Int):TS:=⟨(tf 104 82 [(1,(iC e)),kp 2 0,(4,(bV false)),(5,(bV f)),(6,(nI (a.length:Int))),(7,(nI g))] [kc f104 1012,kl f104 1012,.inBlock 1,kc f104 127]),[],[oC 0 [(nI b),(nI c),(dO d),(iP a)]],1⟩
def uW(d b:Int)(a:cC)(c:List Pat)(e:List Con):=tT 0 (start PP 104 [(.agg [(nI d),(nI b),(dO a),(iP c)]),(iC e)])<|gm 13 aE c<|.b 15 13 (d==1) (.b 7 19 ((c.length:Int) ==0) (.b 11 61 (b==0) (.W 13 1 [0] (dW d b a c e (jW a.length (aG a) 0 0) 0))<|.W 13 1 [0] (dW d b a c e false 0))<|.W 24 1 [0] (dW d b a c e false 0))<|.b 6 13 (d==2) (.b 7 19 ((c.length:Int) ==0) (.b 11 61 (b==0) (.W 13 1 [0] (dW d b a c e (jW a.length (aG a) 0 0) 0))<|.W 13 1 [0] (dW d b a c e false 0))<|.W 24 1 [0] (dW d b a c e false 0))<|.b 5 13 (d==5) (.b 5 19 ((c.length:Int) ==0) (.b 11 61 (b==0) (.W 13 1 [0] (dW d b a c e (jW a.length (aG a) 0 0) 0))<|.W 13 1 [0] (dW d b a c e false 0))<|.W 24 1 [0] (dW d b a c e false 0))<|.b 6 24 (d==3) (.b 5 28 ((c.length:Int) ==0) (kK 2 62 [(nI b),(nI (-1000000000)),(nI 1000000000)]<|fun f=>.b 8 61 f (.W 13 1 [0] (dW d b a c e (jW a.length (aG a) 0 0) 0))<|.W 13 1 [0] (dW d b a c e false 0))<|.W 24 1 [0] (dW d b a c e false 0))<|.b 6 33 (d==4) (.b 5 37 ((c.length:Int) ==0) (kK 2 62 [(nI b),(nI 0),(nI 1)]<|fun f=>.b 8 61 f (.W 13 1 [0] (dW d b a c e (jW a.length (aG a) 0 0) 0))<|.W 13 1 [0] (dW d b a c e false 0))<|.W 24 1 [0] (dW d b a c e false 0))<|.b 6 42 (d==6) (gl 5 Con.av e<|gw 1 48 ((e.length:Int) -1)<|kK 0 62 [(nI b),(nI 0),(nI ((e.length:Int) -1))]<|fun f=>.b 1 50 f (gX Con.av 4 e b<|fun g=>.b 11 61 ((c.length:Int) ==g.args) (.W 13 1 [0] (dW d b a c e (jW a.length (aG a) 0 0) 0))<|.W 13 1 [0] (dW d b a c e false 0))<|.W 29 1 [0] (dW d b a c e false 0))<|.W 20 1 [0] (dW d b a c e false 0)
def aVQ:=fun a b c d e f g i=>uW a b c d e|>.t f|>.t g|>.t i tv
def aVR:=fun a b c d e f g i=>uW a b c d e|>.t f|>.t g|>.f i tv
def aVS:=fun a b c d e f g=>uW a b c d e|>.t f|>.f g tv
def aVT:=fun a b c d e f g i j=>uW a b c d e|>.f f|>.t g|>.t i|>.t j tv
def aVU:=fun a b c d e f g i j=>uW a b c d e|>.f f|>.t g|>.t i|>.f j tv
def aVV:=fun a b c d e f g i=>uW a b c d e|>.f f|>.t g|>.f i tv
def aVW:=fun a b c d e f g i j k=>uW a b c d e|>.f f|>.f g|>.t i|>.t j|>.t k tv
def aVX:=fun a b c d e f g i j k=>uW a b c d e|>.f f|>.f g|>.t i|>.t j|>.f k tv
def aVY:=fun a b c d e f g i j=>uW a b c d e|>.f f|>.f g|>.t i|>.f j tv
def aVZ:=fun a b c d e f g i j k l m n=>uW a b c d e|>.f g|>.f i|>.f j|>.t k|>.t l f m|>.t n tv
def aSW:=fun a b c d e f g i j k l m n=>uW a b c d e|>.f g|>.f i|>.f j|>.t k|>.t l f m|>.f n tv
def aSX:=fun a b c d e f g i j k=>uW a b c d e|>.f f|>.f g|>.f i|>.t j|>.f k tv
def aSY:=fun a b c d e f g i j k l m n o=>uW a b c d e|>.f g|>.f i|>.f j|>.f k|>.t l|>.t m f n|>.t o tv
def aSZ:=fun a b c d e f g i j k l m n o=>uW a b c d e|>.f g|>.f i|>.f j|>.f k|>.t l|>.t m f n|>.f o tv
def aS0:=fun a b c d e f g i j k l=>uW a b c d e|>.f f|>.f g|>.f i|>.f j|>.t k|>.f l tv
def aS1:=fun a b c d e f g i j k l m n o p q r s t=>uW a b c d e|>.f i|>.f j|>.f k|>.f l|>.f m|>.t n o f p|>.t q g r s|>.t t tv
def aS2:=fun a b c d e f g i j k l m n o p q r s t=>uW a b c d e|>.f i|>.f j|>.f k|>.f l|>.f m|>.t n o f p|>.t q g r s|>.f t tv
def aS3:=fun a b c d e f g i j k l m n o p=>uW a b c d e|>.f g|>.f i|>.f j|>.f k|>.f l|>.t m n f o|>.f p tv
def aS4:=fun a b c d e f g i j k l=>uW a b c d e|>.f f|>.f g|>.f i|>.f j|>.f k|>.f l tv
def bEP(e f:Int)(g:cC)(b:List Pat)(d:List Con)(c:Bool)(a:Int):=tT 0 (dW e f g b d c a)<|gd 7 69 (a< (b.length:Int)) (.b 3 71 c (rW 8 b a<|fun i j k l=>kK 2 104 [(.agg [(nI i),(nI j),(dO k),(iP l)]),(iC d)]<|fun m=>gw 6 73 (a+1)<|.W 3 1 [0] (dW e f g b d m (a+1)))<|gE 8 1 (bV c))<|gE 11 1 (bV c)
def aV0:=fun a b c d e f g i j k l m n o p q r s=>bEP a b c d e f g|>.t n|>.t o i j k l p q m r s tv
def aV1:=fun a b c d e f g i j=>bEP a b c d e f g|>.t i|>.f j tv
def aV2:=fun a b c d e f g i=>bEP a b c d e f g|>.f i tv
def lY(a b c:Int):=tT 0 (start PP 105 [(nI a),(nI b),(nI c)])<|.b 16 8 (a==1) (gE 8 0 (nI 0))<|.b 6 8 (a==2) (gE 8 0 (nI 0))<|.b 6 8 (a==3) (gE 8 0 (nI 0))<|.b 6 8 (a==4) (gE 8 0 (nI 0))<|.b 6 8 (a==21) (gE 8 0 (nI 0))<|.b 6 8 (a==25) (gE 8 0 (nI 0))<|.b 5 8 (a==28) (gE 6 0 (nI 0))<|.b 7 16 (a==5) (gE 8 0 (nI 1))<|.b 6 16 (a==27) (gE 8 0 (nI 1))<|.b 6 16 (a==16) (gE 8 0 (nI 1))<|.b 6 16 (a==17) (gE 8 0 (nI 1))<|.b 6 16 (a==19) (gE 8 0 (nI 1))<|.b 6 16 (a==20) (gE 8 0 (nI 1))<|.b 6 16 (a==23) (gE 8 0 (nI 1))<|.b 6 16 (a==26) (gE 8 0 (nI 1))<|.b 5 16 (a==24) (gE 6 0 (nI 1))<|.b 7 26 (a==6) (gE 8 0 (nI 2))<|.b 6 26 (a==7) (gE 8 0 (nI 2))<|.b 6 26 (a==9) (gE 8 0 (nI 2))<|.b 6 26 (a==10) (gE 8 0 (nI 2))<|.b 6 26 (a==11) (gE 8 0 (nI 2))<|.b 6 26 (a==12) (gE 8 0 (nI 2))<|.b 6 26 (a==13) (gE 8 0 (nI 2))<|.b 6 26 (a==18) (gE 8 0 (nI 2))<|.b 5 26 (a==22) (gE 6 0 (nI 2))<|.b 6 36 (a==8) (gE 6 0 (nI 3))<|.b 6 38 (a==15) (gw 5 41 (1+b)<|gE 3 0 (nI (1+b)))<|.b 6 42 (a==14) (gE 7 0 (nI c))<|gE 8 0 (nI (-1))
def aS5:=fun a b c d=>lY a b c|>.t d tv
def aS6:=fun a b c d e=>lY a b c|>.f d|>.t e tv
def aS7:=fun a b c d e f=>lY a b c|>.f d|>.f e|>.t f tv
def aS8:=fun a b c d e f g=>lY a b c|>.f d|>.f e|>.f f|>.t g tv
def aS9:=fun a b c d e f g i=>lY a b c|>.f d|>.f e|>.f f|>.f g|>.t i tv
def aTa:=fun a b c d e f g i j=>lY a b c|>.f d|>.f e|>.f f|>.f g|>.f i|>.t j tv
def aTb:=fun a b c d e f g i j k=>lY a b c|>.f d|>.f e|>.f f|>.f g|>.f i|>.f j|>.t k tv
def aTc:=fun a b c d e f g i j k l=>lY a b c|>.f d|>.f e|>.f f|>.f g|>.f i|>.f j|>.f k|>.t l tv
def aTd:=fun a b c d e f g i j k l m=>lY a b c|>.f d|>.f e|>.f f|>.f g|>.f i|>.f j|>.f k|>.f l|>.t m tv
def aTe:=fun a b c d e f g i j k l m n=>lY a b c|>.f d|>.f e|>.f f|>.f g|>.f i|>.f j|>.f k|>.f l|>.f m|>.t n tv
def aOQ:=fun a b c d e f g i j k l m n o=>lY a b c|>.f d|>.f e|>.f f|>.f g|>.f i|>.f j|>.f k|>.f l|>.f m|>.f n|>.t o tv
def aOR:=fun a b c d e f g i j k l m n o p=>lY a b c|>.f d|>.f e|>.f f|>.f g|>.f i|>.f j|>.f k|>.f l|>.f m|>.f n|>.f o|>.t p tv
def aOS:=fun a b c d e f g i j k l m n o p q=>lY a b c|>.f d|>.f e|>.f f|>.f g|>.f i|>.f j|>.f k|>.f l|>.f m|>.f n|>.f o|>.f p|>.t q tv
def aOT:=fun a b c d e f g i j k l m n o p q r=>lY a b c|>.f d|>.f e|>.f f|>.f g|>.f i|>.f j|>.f k|>.f l|>.f m|>.f n|>.f o|>.f p|>.f q|>.t r tv
def aOU:=fun a b c d e f g i j k l m n o p q r s=>lY a b c|>.f d|>.f e|>.f f|>.f g|>.f i|>.f j|>.f k|>.f l|>.f m|>.f n|>.f o|>.f p|>.f q|>.f r|>.t s tv
def aOV:=fun a b c d e f g i j k l m n o p q r s t=>lY a b c|>.f d|>.f e|>.f f|>.f g|>.f i|>.f j|>.f k|>.f l|>.f m|>.f n|>.f o|>.f p|>.f q|>.f r|>.f s|>.t t tv
def aOW:=fun a b c d e f g i j k l m n o p q r s t u=>lY a b c|>.f d|>.f e|>.f f|>.f g|>.f i|>.f j|>.f k|>.f l|>.f m|>.f n|>.f o|>.f p|>.f q|>.f r|>.f s|>.f t|>.t u tv
def aOX:=fun a b c d e f g i j k l m n o p q r s t u v=>lY a b c|>.f d|>.f e|>.f f|>.f g|>.f i|>.f j|>.f k|>.f l|>.f m|>.f n|>.f o|>.f p|>.f q|>.f r|>.f s|>.f t|>.f u|>.t v tv
def aOY:=fun a b c d e f g i j k l m n o p q r s t u v w=>lY a b c|>.f d|>.f e|>.f f|>.f g|>.f i|>.f j|>.f k|>.f l|>.f m|>.f n|>.f o|>.f p|>.f q|>.f r|>.f s|>.f t|>.f u|>.f v|>.t w tv
def aOZ:=fun a b c d e f g i j k l m n o p q r s t u v w x=>lY a b c|>.f d|>.f e|>.f f|>.f g|>.f i|>.f j|>.f k|>.f l|>.f m|>.f n|>.f o|>.f p|>.f q|>.f r|>.f s|>.f t|>.f u|>.f v|>.f w|>.t x tv
def aO0:=fun a b c d e f g i j k l m n o p q r s t u v w x y=>lY a b c|>.f d|>.f e|>.f f|>.f g|>.f i|>.f j|>.f k|>.f l|>.f m|>.f n|>.f o|>.f p|>.f q|>.f r|>.f s|>.f t|>.f u|>.f v|>.f w|>.f x|>.t y tv
def aO1:=fun a b c d e f g i j k l m n o p q r s t u v w x y z=>lY a b c|>.f d|>.f e|>.f f|>.f g|>.f i|>.f j|>.f k|>.f l|>.f m|>.f n|>.f o|>.f p|>.f q|>.f r|>.f s|>.f t|>.f u|>.f v|>.f w|>.f x|>.f y|>.t z tv
def aO2:=fun a b c d e f g i j k l m n o p q r s t u v w x y z A=>lY a b c|>.f d|>.f e|>.f f|>.f g|>.f i|>.f j|>.f k|>.f l|>.f m|>.f n|>.f o|>.f p|>.f q|>.f r|>.f s|>.f t|>.f u|>.f v|>.f w|>.f x|>.f y|>.f z|>.t A tv
def aO3:=fun a b c d e f g i j k l m n o p q r s t u v w x y z A B=>lY a b c|>.f d|>.f e|>.f f|>.f g|>.f i|>.f j|>.f k|>.f l|>.f m|>.f n|>.f o|>.f p|>.f q|>.f r|>.f s|>.f t|>.f u|>.f v|>.f w|>.f x|>.f y|>.f z|>.f A|>.t B tv
def aO4:=fun a b c d e f g i j k l m n o p q r s t u v w x y z A B C=>lY a b c|>.f d|>.f e|>.f f|>.f g|>.f i|>.f j|>.f k|>.f l|>.f m|>.f n|>.f o|>.f p|>.f q|>.f r|>.f s|>.f t|>.f u|>.f v|>.f w|>.f x|>.f y|>.f z|>.f A|>.f B|>.t C tv
def aO5:=fun a b c d e f g i j k l m n o p q r s t u v w x y z A B C D=>lY a b c|>.f d|>.f e|>.f f|>.f g|>.f i|>.f j|>.f k|>.f l|>.f m|>.f n|>.f o|>.f p|>.f q|>.f r|>.f s|>.f t|>.f u|>.f v|>.f w|>.f x|>.f y|>.f z|>.f A|>.f B|>.f C|>.t D tv
def aO6:=fun a b c d e f g i j k l m n o p q r s t u v w x y z A B C D F G=>lY a b c|>.f d|>.f e|>.f f|>.f g|>.f i|>.f j|>.f k|>.f l|>.f m|>.f n|>.f o|>.f p|>.f q|>.f r|>.f s|>.f t|>.f u|>.f v|>.f w|>.f x|>.f y|>.f z|>.f A|>.f B|>.f C|>.f D|>.t F G tv
def aO7:=fun a b c d e f g i j k l m n o p q r s t u v w x y z A B C D F G=>lY a b c|>.f d|>.f e|>.f f|>.f g|>.f i|>.f j|>.f k|>.f l|>.f m|>.f n|>.f o|>.f p|>.f q|>.f r|>.f s|>.f t|>.f u|>.f v|>.f w|>.f x|>.f y|>.f z|>.f A|>.f B|>.f C|>.f D|>.f F|>.t G tv
def aO8:=fun a b c d e f g i j k l m n o p q r s t u v w x y z A B C D F G=>lY a b c|>.f d|>.f e|>.f f|>.f g|>.f i|>.f j|>.f k|>.f l|>.f m|>.f n|>.f o|>.f p|>.f q|>.f r|>.f s|>.f t|>.f u|>.f v|>.f w|>.f x|>.f y|>.f z|>.f A|>.f B|>.f C|>.f D|>.f F|>.f G tv
theorem Ends.eqv {P:Program}{m:Nat}{s:AS}{v v':AV}{h':Hp}(h:Ends P m s (.ret v) h')(e:v=v') :Ends P m s (.ret v') h':=e ▸ h
theorem inB_iff {n lo hi:Int}:dY n lo hi=true↔lo≤n∧n≤hi:=by simp [dY]
theorem inB_not {n lo a:Int}:dY n lo a=false↔¬ (lo≤n∧n≤a) :=by simp [dY]
theorem sdI {p:Prop}(h:p:=by first|assumption|rfl| (simp only [oY];assumption) | (simp only [decide_eq_true_eq,decide_eq_false_iff_not];omega) |omega| (apply wrap64<;>omega) | (simp_all;done) | (simp only [inB_iff,inB_not,beq_iff_eq,decide_eq_true_eq,decide_eq_false_iff_not]at *;omega)) :p:=h
theorem idT {p:Prop}(h:p:=by exact⟨_,kF (by simp only [inB_iff,inB_not,beq_iff_eq,decide_eq_true_eq,decide_eq_false_iff_not]at *;omega)⟩) :p:=h
def cK (op pats args:Int) :Int:=
 if op=1∨op=2∨op=3∨op=4∨op=21∨op=25∨op=28 then 0
 else if op=5∨op=27∨op=16∨op=17∨op=19∨op=20∨op=23∨op=26∨op=24 then 1
 else if op=6∨op=7∨op=9∨op=10∨op=11∨op=12∨op=13∨op=18∨op=22 then 2
 else if op=8 then 3 else if op=15 then 1+pats else if op=14 then args else -1
theorem aZ0 (op pats a:Int)(hp:0≤pats)(D:pats≤1000) :Ends PP 0 (start PP 105 [.int .i64 op,.int .i64 pats,.int .i64 a]).as (.ret (.int .i64 (cK op pats a))) (aA [] 0) :=by
 cases c: (op== (1:Int))
 case true=>exact Ends.eqv (aS5 op pats a   c) (by simp_all [cK])
 cases e: (op== (2:Int))
 case true=>exact Ends.eqv (aS6 op pats a   c e) (by simp_all [cK])
 cases g: (op== (3:Int))
 case true=>exact Ends.eqv (aS7 op pats a   c e g) (by simp_all [cK])
 cases h: (op== (4:Int))
 case true=>exact Ends.eqv (aS8 op pats a   c e g h) (by simp_all [cK])
 cases j: (op== (21:Int))
 case true=>exact Ends.eqv (aS9 op pats a   c e g h j) (by simp_all [cK])
 cases l: (op== (25:Int))
 case true=>exact Ends.eqv (aTa op pats a   c e g h j l) (by simp_all [cK])
 cases m: (op== (28:Int))
 case true=>exact Ends.eqv (aTb op pats a   c e g h j l m) (by simp_all [cK])
 cases o: (op== (5:Int))
 case true=>exact Ends.eqv (aTc op pats a   c e g h j l m o) (by simp_all [cK])
 cases q: (op== (27:Int))
 case true=>exact Ends.eqv (aTd op pats a   c e g h j l m o q) (by simp_all [cK])
 cases b: (op== (16:Int))
 case true=>exact Ends.eqv (aTe op pats a   c e g h j l m o q b) (by simp_all [cK])
 cases d: (op== (17:Int))
 case true=>exact Ends.eqv (aOQ op pats a   c e g h j l m o q b d) (by simp_all [cK])
 cases f: (op== (19:Int))
 case true=>exact Ends.eqv (aOR op pats a   c e g h j l m o q b d f) (by simp_all [cK])
 cases i: (op== (20:Int))
 case true=>exact Ends.eqv (aOS op pats a   c e g h j l m o q b d f i) (by simp_all [cK])
 cases k: (op== (23:Int))
 case true=>exact Ends.eqv (aOT op pats a   c e g h j l m o q b d f i k) (by simp_all [cK])
 cases n: (op== (26:Int))
 case true=>exact Ends.eqv (aOU op pats a   c e g h j l m o q b d f i k n) (by simp_all [cK])
 cases p: (op== (24:Int))
 case true=>exact Ends.eqv (aOV op pats a   c e g h j l m o q b d f i k n p) (by simp_all [cK])
 cases r: (op== (6:Int))
 case true=>exact Ends.eqv (aOW op pats a   c e g h j l m o q b d f i k n p r) (by simp_all [cK])
 cases s: (op== (7:Int))
 case true=>exact Ends.eqv (aOX op pats a   c e g h j l m o q b d f i k n p r s) (by simp_all [cK])
 cases t: (op== (9:Int))
 case true=>exact Ends.eqv (aOY op pats a   c e g h j l m o q b d f i k n p r s t) (by simp_all [cK])
 cases u: (op== (10:Int))
 case true=>exact Ends.eqv (aOZ op pats a   c e g h j l m o q b d f i k n p r s t u) (by simp_all [cK])
 cases v: (op== (11:Int))
 case true=>exact Ends.eqv (aO0 op pats a   c e g h j l m o q b d f i k n p r s t u v) (by simp_all [cK])
 cases w: (op== (12:Int))
 case true=>exact Ends.eqv (aO1 op pats a   c e g h j l m o q b d f i k n p r s t u v w) (by simp_all [cK])
 cases x: (op== (13:Int))
 case true=>exact Ends.eqv (aO2 op pats a   c e g h j l m o q b d f i k n p r s t u v w x) (by simp_all [cK])
 cases y: (op== (18:Int))
 case true=>exact Ends.eqv (aO3 op pats a   c e g h j l m o q b d f i k n p r s t u v w x y) (by simp_all [cK])
 cases z: (op== (22:Int))
 case true=>exact Ends.eqv (aO4 op pats a   c e g h j l m o q b d f i k n p r s t u v w x y z) (by simp_all [cK])
 cases A: (op== (8:Int))
 case true=>exact Ends.eqv (aO5 op pats a   c e g h j l m o q b d f i k n p r s t u v w x y z A) (by simp_all [cK])
 cases B: (op== (15:Int))
 case true=>exact Ends.eqv (aO6 op pats a   c e g h j l m o q b d f i k n p r s t u v w x y z A B sdI) (by simp_all [cK])
 cases C: (op== (14:Int))
 case true=>exact Ends.eqv (aO7 op pats a   c e g h j l m o q b d f i k n p r s t u v w x y z A B C) (by simp_all [cK])
 exact Ends.eqv (aO8 op pats a   c e g h j l m o q b d f i k n p r s t u v w x y z A B C) (by simp_all [cK])
theorem aO9 (op pats a:Int)(hp:0≤pats)(b:pats≤1000) :aM PP 105 [.int .i64 op,.int .i64 pats,.int .i64 a] (.int .i64 (cK op pats a)) :=
 aK aC rfl rfl (aZ0 op pats a hp b)
def eT (cons:List Con)(n:Int) :Int:=match cons[n.toNat]? with
 |some c=>c.args
 |none=> -1
def eG (cons:List Con)(f n:Int)(s:cC)(k:Nat) :Bool:=
 (if f=1∨f=2∨f=5 then decide (k=0) &&decide (n=0)
 else if f=3 then decide (k=0) &&dY n (-1000000000) 1000000000
 else if f=4 then decide (k=0) &&dY n 0 1
 else if f=6 then dY n 0 ((cons.length:Int) -1) &&decide ((k:Int) =eT cons n)
 else false) &&decide (s= [])
mutual
def dZ (cons:List Con) :Pat→Bool
 | .mk f n s ps=>eG cons f n s ps.length&&cZ cons ps
def cZ (cons:List Con) :List Pat→Bool
 | [] =>true
 |p::ps=>dZ cons p&&cZ cons ps
end
theorem ptT {p:Prop}(h:p:=by simp_all [eG,eT,dP]) :p:=h
theorem bEQ (c e:Int)(d:cC)(a:List Pat)(cons:List Con)(hc:cons.length≤1000)(b:Bool)(hk:∀i:Bool,i=eG cons c e d a.length→Ends PP 0 (dW c e d a cons i 0).as (.ret (.bool b)) (aA [] 0)) :
  Ends PP 0 (start PP 104 [Pat.av (.mk c e d a),.ilst 2 (map Con.av cons) false]).as (.ret (.bool b)) (aA [] 0) :=by
 cases f: (c== (1:Int))
 case true=>
  cases t: (((length a:Nat) :Int) == (0:Int))
  case true=>
   cases x: (e== (0:Int))
   case true=>exact LeadsM.ends (aVQ c e d a cons   f t x) (hk _ (by clear hk;exact ptT))
   exact LeadsM.ends (aVR c e d a cons   f t x) (hk _ (by clear hk;exact ptT))
  exact LeadsM.ends (aVS c e d a cons   f t) (hk _ (by clear hk;exact ptT))
 cases g: (c== (2:Int))
 case true=>
  cases u: (((length a:Nat) :Int) == (0:Int))
  case true=>
   cases w: (e== (0:Int))
   case true=>exact LeadsM.ends (aVT c e d a cons   f g u w) (hk _ (by clear hk;exact ptT))
   exact LeadsM.ends (aVU c e d a cons   f g u w) (hk _ (by clear hk;exact ptT))
  exact LeadsM.ends (aVV c e d a cons   f g u) (hk _ (by clear hk;exact ptT))
 cases j: (c== (5:Int))
 case true=>
  cases v: (((length a:Nat) :Int) == (0:Int))
  case true=>
   cases z: (e== (0:Int))
   case true=>exact LeadsM.ends (aVW c e d a cons   f g j v z) (hk _ (by clear hk;exact ptT))
   exact LeadsM.ends (aVX c e d a cons   f g j v z) (hk _ (by clear hk;exact ptT))
  exact LeadsM.ends (aVY c e d a cons   f g j v) (hk _ (by clear hk;exact ptT))
 cases h: (c== (3:Int))
 case true=>
  cases o: (((length a:Nat) :Int) == (0:Int))
  case true=>
   cases q: (dY e (-1000000000) 1000000000)
   case true=>exact LeadsM.ends (aVZ c e d a cons  (dY e (-1000000000) 1000000000) f g j h o (aW e (-1000000000) 1000000000) q) (hk _ (by clear hk;exact ptT))
   exact LeadsM.ends (aSW c e d a cons  (dY e (-1000000000) 1000000000) f g j h o (aW e (-1000000000) 1000000000) q) (hk _ (by clear hk;exact ptT))
  exact LeadsM.ends (aSX c e d a cons   f g j h o) (hk _ (by clear hk;exact ptT))
 cases k: (c== (4:Int))
 case true=>
  cases m: (((length a:Nat) :Int) == (0:Int))
  case true=>
   cases r: (dY e 0 1)
   case true=>exact LeadsM.ends (aSY c e d a cons  (dY e 0 1) f g j h k m (aW e 0 1) r) (hk _ (by clear hk;exact ptT))
   exact LeadsM.ends (aSZ c e d a cons  (dY e 0 1) f g j h k m (aW e 0 1) r) (hk _ (by clear hk;exact ptT))
  exact LeadsM.ends (aS0 c e d a cons   f g j h k m) (hk _ (by clear hk;exact ptT))
 cases l: (c== (6:Int))
 case true=>
  cases n: (dY e 0 (((length cons:Nat) :Int) - (1:Int)))
  case true=>
   obtain⟨A,p⟩ :∃y,((cons)[e.toNat]?) =some y:=idT;cases s: (((length a:Nat) :Int) ==A.args)
   case true=>exact LeadsM.ends (aS1 c e d a cons  (dY e 0 (((length cons:Nat) :Int) - (1:Int))) A f g j h k l sdI (aW e 0 (((length cons:Nat) :Int) - (1:Int))) n sdI p s) (hk _ (by clear hk;exact ptT))
   exact LeadsM.ends (aS2 c e d a cons  (dY e 0 (((length cons:Nat) :Int) - (1:Int))) A f g j h k l sdI (aW e 0 (((length cons:Nat) :Int) - (1:Int))) n sdI p s) (hk _ (by clear hk;exact ptT))
  exact LeadsM.ends (aS3 c e d a cons  (dY e 0 (((length cons:Nat) :Int) - (1:Int))) f g j h k l sdI (aW e 0 (((length cons:Nat) :Int) - (1:Int))) n) (hk _ (by clear hk;exact ptT))
 exact LeadsM.ends (aS4 c e d a cons   f g j h k l) (hk _ (by clear hk;exact ptT))
theorem aHY (f n:Int)(s:cC)(ps:List Pat)(cons:List Con)(hl:ps.length<1000000)(d:∀p∈ps,aM PP 104 [Pat.av p,.ilst 2 (map Con.av cons) false] (.bool (dZ cons p))) :
  ∀ (t:List Pat) (i:Nat) (b:Bool),ps.drop i=t→Ends PP 0 (dW f n s ps cons b (i:Int)).as (.ret (.bool (b&&cZ cons t))) (aA [] 0)
 | [],i,b,h=>by
  have:=bL h;exact Ends.eqv (aV2 f n s ps cons b i sd) (by simp [cZ])
 | .mk e g c a::t,i,b,h=>by
  obtain⟨j,k,l⟩ :=bI h;cases b
  case false=>exact Ends.eqv (aV1 f n s ps cons false i sd rfl) (by simp)
  refine(aV0 f n s ps cons true i e g c a _ sd rfl sd sd (d (.mk e g c a) (kN j)) sd).ends ?_;exact Ends.eqv (aHY f n s ps cons hl d t (i+1) _ k) (by simp [cZ])
mutual
theorem aHZ (cons:List Con)(hc:cons.length≤1000) :∀ (p:Pat),bX p<1000000→aM PP 104 [Pat.av p,.ilst 2 (map Con.av cons) false] (.bool (dZ cons p))
 | .mk f n s a,h=>by
  refine aK aC (by simp [keylessL,kW,keyless]) rfl ?_;simp only [bX]at h;have:=eD a;refine bEQ f n s a cons hc _ (fun i b=>?_);subst b;rw [dZ];exact aHY f n s a cons (by omega) (aL0 cons hc a (by omega)) a 0 _ rfl
theorem aL0 (cons:List Con)(hc:cons.length≤1000) :∀ (b:List Pat),bD b<1000000→∀p∈b,aM PP 104 [Pat.av p,.ilst 2 (map Con.av cons) false] (.bool (dZ cons p))
 | [],_,p,a=>by cases a
 | q::b,h,p,a=>by
  simp only [bD]at h;rcases zq7.1 a with e|a
  ·rw [e];exact aHZ cons hc q (by omega)
  ·exact aL0 cons hc b (by omega) p a
end
def mAt (m:List (Int×Int))(n:Int) :Int:= (xN n m).getD 0
mutual
def bHQ (mc:List (Int×Int)) :Pat→Pat
 | .mk f n t ps=>.mk f (if f=6 then mAt mc n else n) t (aV4 mc ps)
def aV4 (mc:List (Int×Int)) :List Pat→List Pat
 | [] =>[]
 |p::ps=>bHQ mc p::aV4 mc ps
end
section
variable (mf mc:List (Int×Int))
end
def aTf (to:List Int)(k:Int) :Int:=to.getD k.toNat 0
def bU(a:Prog)(b:Node)(c:Bool)(d e:Int):TS:=⟨(tf 64 112 [kp 2 0,kp 3 1,(4,(bV false)),(5,(nI d)),(6,(bV c)),(7,(nI e))] [kc f64 1012,kl f64 1012,.inBlock 1,kc f64 127]),[],[oC 0 [(iN a.nodes),(iI a.funs),(nI a.main),(iC a.cons)],oC 1 [(nI b.op),(nI b.n),(iI b.kids),(iP b.pats)]],2⟩
def aBS(b:List Con)(c:Int)(a:List cC):TS:=⟨(tf 63 42 [(0,(iC b)),(2,(bV false)),(3,(.gl 0 1 0 a.length false)),(4,(nI c))] [kc f63 116,kl f63 116,.inBlock 0,kc f63 15]),[],[oL 0 1 (map dO a)],1⟩
def uX(a:Prog)(c:Int)(b:List Bool):TS:=⟨(tf 27 133 [kp 1 0,(2,(bV false)),(3,(nI (a.nodes.length:Int))),(4,(.gl 1 1 0 b.length true)),(5,(nI c))] [kc f27 500,kl f27 500,.inBlock 0,kc f27 63]),[],[oC 0 [(iN a.nodes),(iI a.funs),(nI a.main),(iC a.cons)],oL 1 1 (map yV b)],2⟩
def qE(a:Prog)(b:List Bool)(c:Int):TS:=⟨(tf 27 133 [kp 1 0,(2,(bV false)),(3,(nI (a.nodes.length:Int))),(4,(.gl 1 1 0 b.length true)),(6,(nI c))] [kc f27 1012,kl f27 1012,.inBlock 2,kc f27 127]),[],[oC 0 [(iN a.nodes),(iI a.funs),(nI a.main),(iC a.cons)],oL 1 1 (map yV b)],2⟩
def uY(a:Prog)(b:List Bool)(c d:Int):TS:=⟨(tf 27 133 [kp 1 0,(2,(bV false)),(3,(nI (a.nodes.length:Int))),(4,(.gl 1 1 0 b.length true)),(6,(nI d)),(7,(nI c))] [kc f27 129612,kl f27 129612,.inBlock 4,.inBlock 3,kc f27 4051,kl f27 1012,.inBlock 2,kc f27 127]),[],[oC 0 [(iN a.nodes),(iI a.funs),(nI a.main),(iC a.cons)],oL 1 1 (map yV b)],2⟩
def uZ(b:Prog)(a:List Bool)(c:Int):TS:=⟨(tf 27 133 [(2,(bV false)),(3,(nI (b.nodes.length:Int))),(4,(.gl 0 1 0 a.length true)),(9,(nI c))] [kc f27 2036,kl f27 2036,.inBlock 6,kc f27 255]),[],[oL 0 1 (map yV a)],1⟩
def pF(b:Prog)(a:Node):=tT 0 (start PP 64 [(Prog.av b),(Node.av a)])<|.b 29 13 (a.op==1) (kK 4 62 [(nI a.n),(nI (-1000000000)),(nI 1000000000)]<|fun c=>.b 10 56 (a.op==15) (.b 4 58 c (gm 2 aE a.pats<|kK 0 62 [(nI (a.pats.length:Int)),(nI 1),(nI 5)]<|fun d=>.W 10 2 [0,1] (bU b a d 0 0))<|.W 14 2 [0,1] (bU b a false 0 0))<|.b 4 65 c (gm 2 aE a.pats<|.W 11 2 [0,1] (bU b a ((a.pats.length:Int) ==0) 0 0))<|.W 14 2 [0,1] (bU b a false 0 0))<|.b 6 18 (a.op==2) (kK 4 62 [(nI a.n),(nI 0),(nI 1)]<|fun c=>.b 10 56 (a.op==15) (.b 4 58 c (gm 2 aE a.pats<|kK 0 62 [(nI (a.pats.length:Int)),(nI 1),(nI 5)]<|fun d=>.W 10 2 [0,1] (bU b a d 0 0))<|.W 14 2 [0,1] (bU b a false 0 0))<|.b 4 65 c (gm 2 aE a.pats<|.W 11 2 [0,1] (bU b a ((a.pats.length:Int) ==0) 0 0))<|.W 14 2 [0,1] (bU b a false 0 0))<|.b 6 23 (a.op==4) (gl 6 cA b.funs<|gw 1 30 (0- (b.funs.length:Int))<|kK 0 62 [(nI a.n),(nI (0- (b.funs.length:Int))),(nI 29)]<|fun c=>.b 10 56 (a.op==15) (.b 4 58 c (gm 2 aE a.pats<|kK 0 62 [(nI (a.pats.length:Int)),(nI 1),(nI 5)]<|fun d=>.W 10 2 [0,1] (bU b a d 0 0))<|.W 14 2 [0,1] (bU b a false 0 0))<|.b 4 65 c (gm 2 aE a.pats<|.W 11 2 [0,1] (bU b a ((a.pats.length:Int) ==0) 0 0))<|.W 14 2 [0,1] (bU b a false 0 0))<|.b 6 32 (a.op==24) (kK 4 62 [(nI a.n),(nI 0),(nI 3)]<|fun c=>.b 10 56 (a.op==15) (.b 4 58 c (gm 2 aE a.pats<|kK 0 62 [(nI (a.pats.length:Int)),(nI 1),(nI 5)]<|fun d=>.W 10 2 [0,1] (bU b a d 0 0))<|.W 14 2 [0,1] (bU b a false 0 0))<|.b 4 65 c (gm 2 aE a.pats<|.W 11 2 [0,1] (bU b a ((a.pats.length:Int) ==0) 0 0))<|.W 14 2 [0,1] (bU b a false 0 0))<|.b 6 37 (a.op==14) (gl 7 Con.av b.cons<|gw 1 44 ((b.cons.length:Int) -1)<|kK 0 62 [(nI a.n),(nI 0),(nI ((b.cons.length:Int) -1))]<|fun c=>.b 6 46 c (gX Con.av 6 b.cons a.n<|fun d=>.b 12 56 (a.op==15) (.b 4 58 c (gm 2 aE a.pats<|kK 0 62 [(nI (a.pats.length:Int)),(nI 1),(nI 5)]<|fun e=>.W 10 2 [0,1] (bU b a e d.args 0)) .x)<|.b 4 65 c (gm 2 aE a.pats<|.W 11 2 [0,1] (bU b a ((a.pats.length:Int) ==0) d.args 0)) .x)<|.b 10 56 (a.op==15) (.b 4 58 c .x<|.W 14 2 [0,1] (bU b a false 0 0))<|.b 4 65 c .x<|.W 14 2 [0,1] (bU b a false 0 0))<|.b 10 56 (a.op==15) (.b 4 58 (a.n==0) (gm 2 aE a.pats<|kK 0 62 [(nI (a.pats.length:Int)),(nI 1),(nI 5)]<|fun c=>.W 10 2 [0,1] (bU b a c 0 0))<|.W 14 2 [0,1] (bU b a false 0 0))<|.b 4 65 (a.n==0) (gm 2 aE a.pats<|.W 11 2 [0,1] (bU b a ((a.pats.length:Int) ==0) 0 0))<|.W 14 2 [0,1] (bU b a false 0 0)
def aTg:=fun a b c d e f g i j=>pF a b|>.t e c f|>.t g|>.t i d j tv
def aTh:=fun a b c d e f g=>pF a b|>.t d c e|>.t f|>.f g tv
def aTi:=fun a b c d e f g=>pF a b|>.t d c e|>.f f|>.t g tv
def aTj:=fun a b c d e f g=>pF a b|>.t d c e|>.f f|>.f g tv
def aTk:=fun a b c d e f g i j k=>pF a b|>.f e|>.t f c g|>.t i|>.t j d k tv
def aTl:=fun a b c d e f g i=>pF a b|>.f d|>.t e c f|>.t g|>.f i tv
def aTm:=fun a b c d e f g i=>pF a b|>.f d|>.t e c f|>.f g|>.t i tv
def aTn:=fun a b c d e f g i=>pF a b|>.f d|>.t e c f|>.f g|>.f i tv
def aTo:=fun a b c d e f g i j k l m=>pF a b|>.f e|>.f f|>.t g i c j|>.t k|>.t l d m tv
def aTp:=fun a b c d e f g i j k=>pF a b|>.f d|>.f e|>.t f g c i|>.t j|>.f k tv
def aPa:=fun a b c d e f g i j k=>pF a b|>.f d|>.f e|>.t f g c i|>.f j|>.t k tv
def aPb:=fun a b c d e f g i j k=>pF a b|>.f d|>.f e|>.t f g c i|>.f j|>.f k tv
def aPc:=fun a b c d e f g i j k l m=>pF a b|>.f e|>.f f|>.f g|>.t i c j|>.t k|>.t l d m tv
def aPd:=fun a b c d e f g i j k=>pF a b|>.f d|>.f e|>.f f|>.t g c i|>.t j|>.f k tv
def aPe:=fun a b c d e f g i j k=>pF a b|>.f d|>.f e|>.f f|>.t g c i|>.f j|>.t k tv
def aPf:=fun a b c d e f g i j k=>pF a b|>.f d|>.f e|>.f f|>.t g c i|>.f j|>.f k tv
def aPg:=fun b c d e f g i j k l m n a o p q r=>pF b c|>.f g|>.f i|>.f j|>.f k|>.t l m d n|>.t a e o p|>.t q|>.t a f r tv
def aPh:=fun b c d e f g i j k l m a n o p=>pF b c|>.f f|>.f g|>.f i|>.f j|>.t k l d m|>.t a e n o|>.f p|>.t a tv
def aPi:=fun b c d e f g i j k l a m=>pF b c|>.f e|>.f f|>.f g|>.f i|>.t j k d l|>.f a|>.t m|>.f a tv
def aPj:=fun b c d e f g i j k l a m=>pF b c|>.f e|>.f f|>.f g|>.f i|>.t j k d l|>.f a|>.f m|>.f a tv
def aPk:=fun a b c d e f g i j k l=>pF a b|>.f d|>.f e|>.f f|>.f g|>.f i|>.t j|>.t k c l tv
def aPl:=fun a b c d e f g i j=>pF a b|>.f c|>.f d|>.f e|>.f f|>.f g|>.t i|>.f j tv
def aPm:=fun a b c d e f g i j=>pF a b|>.f c|>.f d|>.f e|>.f f|>.f g|>.f i|>.t j tv
def aPn:=fun a b c d e f g i j=>pF a b|>.f c|>.f d|>.f e|>.f f|>.f g|>.f i|>.f j tv
def aV5(j:Prog)(a:Node)(i:Bool)(k b:Int):=tT 0 (bU j a i k b)<|gm 6 aE a.pats<|gd 2 76 (b< (a.pats.length:Int)) (.b 3 78 i (.o (.y fun c:Int=>.y fun d:Int=>.y fun e:cC=>.y fun f:List Pat=>.y fun g:Int=>.y fun l:Bool=>.i [rn 4,.reg (rd 3 (.ans (.idx (Pat.av (Pat.mk c d e f)))::.d::.pure (nI g)::.d::.d::.b 88 true::rd 3 (.ans (.idx (Pat.av (Pat.mk c d e f)))::rd 3 [.pure (bV l),.d,.d])))] [hA (0≤b),.a (((a.pats)[b.toNat]?) =some (Pat.mk c d e f)) (iM aE),hA (aM PP 69 [(.agg [(nI c),(nI d),(dO e),(iP f)]),(nI 12)] (nI g)),hA (decide (g≥0) =true),hA (0≤b),.a (((a.pats)[b.toNat]?) =some (Pat.mk c d e f)) (iM aE),hA (aM PP 104 [(.agg [(nI c),(nI d),(dO e),(iP f)]),(iC j.cons)] (bV l))]<|gw 4 80 (b+1)<|.W 3 2 [0,1] (bU j a l k (b+1)))<|.y fun c:Int=>.y fun d:Int=>.y fun e:cC=>.y fun f:List Pat=>.y fun g:Int=>.i [rn 4,.reg (rd 3 (.ans (.idx (Pat.av (Pat.mk c d e f)))::.d::.pure (nI g)::.d::.d::.b 88 false::rd 10 []))] [hA (0≤b),.a (((a.pats)[b.toNat]?) =some (Pat.mk c d e f)) (iM aE),hA (aM PP 69 [(.agg [(nI c),(nI d),(dO e),(iP f)]),(nI 12)] (nI g)),hA (decide (g≥0) =false)]<|gw 4 80 (b+1)<|.W 3 2 [0,1] (bU j a false k (b+1)))<|.i [rn 3,.reg (.d::.d::.b 99 false::rd 13 [])] [hA (i=false)]<|gE 1 2 (bV false))<|.o (.y fun m:Int=>.i [rn 6,.reg (.d::.d::.b 99 true::.d::.d::.ans (.len (a.kids.length:Int))::rd 4 (.ans (.len (a.pats.length:Int))::.d::.pure (nI m)::rd 3 []))] [hA (i=true),hl cA a.kids,hm aE a.pats,hA (aM PP 105 [(nI a.op),(nI (a.pats.length:Int)),(nI k)] (nI m)),.q (p:=(nI ((jI a.kids).length:Int)) = (nI (a.kids.length:Int))) (congrArg (int .i64) (aHS _ _)),.q (p:=(nI ((jI a.kids).length:Int)) = (nI (a.kids.length:Int))) (congrArg (int .i64) (aHS _ _)),hr (ilst 1 (jI a.kids) false),hr (ilst 1 (jI a.kids) false)]<|gE 1 2 (bV ((a.kids.length:Int) ==m)))<|.i [rn 6,.reg (.d::.d::.b 99 false::rd 13 [])] [hA (i=false)]<|gE 1 2 (bV false)
def aTq:=fun c d e f g i j k l m n o p a b q r s t=>aV5 c d e f g|>.t o|>.t p|>.1 i j k l m n a b q r a b s t tv
def aTr:=fun a b c d e f g i j k l m n o p q r=>aV5 a b c d e|>.t l|>.t m|>.2 f g i j k n o p q r tv
def aTs:=fun b c d e f g a=>aV5 b c d e f|>.t g|>.f a a tv
def aTt:=fun a b c d e f g i j=>aV5 a b c d e|>.f g|>.1 f i j tv
def aTu:=fun a b c d e f g=>aV5 a b c d e|>.f f|>.2 g tv
def aTv (a:List Con):=(tT 0 (start PP 63 [(iC a)])<|.i [rn 15,.nilL 3 1] []<|gu 0 0 (map dO ([] :List cC))<|gs 0 3 (.gl 0 1 0 ([] :List cC).length false)<|.W 0 1 [0] (aBS a 0 ([] :List cC))) ⟨kk,trivial⟩
def aV6(a:List Con)(c:Int)(d:List cC):=tT 0 (aBS a c d)<|gl 5 Con.av a<|gd 2 8 (c< (a.length:Int)) (gX Con.av 9 a c<|fun b=>kK 2 102 [(dO b.name)]<|fun e=>.b 2 18 (!e) (gE 15 1 (bV false))<|gi Con.av 2 a c b<|kK 2 62 [(nI b.args),(nI 0),(nI 3)]<|fun f=>.b 3 26 (!f) (gE 6 1 (bV false))<|gi Con.av 6 a c b<|ga 3 dO d [b.name]<|gw 6 10 (c+1)<|.W 3 3 [2] (aBS a (c+1) (d++ [b.name])))<|gl 5 Con.av a<|gd 2 38 ((a.length:Int) ≤20) (gz 1 39 0 1 dO d false<|kK 0 103 [(iS d)]<|fun b=>gE 4 1 (bV b))<|gE 6 1 (bV false)
def aTw:=fun a b c d e f g i j k=>aV6 a b c|>.t f d g i e j|>.t k tv
def aTx:=fun c d e f g i j a b k l m n=>aV6 c d e|>.t j f a b g k|>.f l a b i m|>.t n tv
def aTy:=fun c d e f g i j a b k l m n o p=>aV6 c d e|>.t j f a b g k|>.f l a b i m|>.f n a b o p ⟨kk,trivial⟩
def aTz:=fun a b c d e f g=>aV6 a b c|>.f e|>.t f d g tv
def aTA:=fun a b c d e=>aV6 a b c|>.f d|>.f e tv
def aV7(a:Prog):=tT 0 (start PP 27 [(Prog.av a)])<|gl 9 Node.av a.nodes<|gd 8 15 ((a.nodes.length:Int) >300) (gE 30 1 (bV false))<|gl 2 cA a.funs<|kK 1 62 [(nI (a.funs.length:Int)),(nI 1),(nI (a.nodes.length:Int))]<|fun b=>.b 3 23 (!b) (gE 22 1 (bV false))<|gl 4 cA a.funs<|gw 1 29 ((a.funs.length:Int) -1)<|kK 0 62 [(nI a.main),(nI 0),(nI ((a.funs.length:Int) -1))]<|fun c=>.b 3 33 (!c) (gE 12 1 (bV false))<|kK 2 63 [(iC a.cons)]<|fun d=>.b 3 38 (!d) (gE 6 1 (bV false))<|.i [rn 5,.mk a.nodes.length] [hr (a.nodes.length:Int),hr (a.nodes.length:Int),hA (a.nodes.length<100000)]<|.i [.lset 1 (map yV (replicate a.nodes.length false))] [.q (p:=replicate a.nodes.length (yV false) = (map yV (replicate a.nodes.length false))) (aJp _ _ _)]<|.i [.set 40 (.gl 1 1 0 (replicate a.nodes.length false).length true)] [.q (p:=(AV.gl 1 1 0 a.nodes.length true) = (.gl 1 1 0 (replicate a.nodes.length false).length true)) (cI (aIA ..).symm)]<|.W 9 2 [0,1] (uX a 0 (replicate a.nodes.length false))
def aL1:=fun a b=>aV7 a|>.t b tv
def aL2:=fun a b c d e=>aV7 a|>.f c b d|>.t e tv
def aL3:=fun a b c d e f g i j=>aV7 a|>.f d b e|>.f f g c i|>.t j tv
def aL4:=fun a b c d e f g i j k l m=>aV7 a|>.f e b f|>.f g i c j|>.f k d l|>.t m tv
def aL5:=fun a b c d e f g i j k l m n=>aV7 a|>.f e b f|>.f g i c j|>.f k d l|>.f m n ⟨kk,trivial⟩
def aZ1(c:Prog)(d:Int)(a:List Bool):=tT 0 (uX c d a)<|gl 6 cA c.funs<|gd 2 45 (d< (c.funs.length:Int)) (gX cA 10 c.funs d<|fun b=>gw 3 54 ((c.nodes.length:Int) -1)<|kK 0 62 [(nI b),(nI 0),(nI ((c.nodes.length:Int) -1))]<|fun f=>.b 2 57 (!f) (gE 16 2 (bV false))<|gi cA 4 c.funs d b<|.i [rn 1,.ans (.ix)] [hA (0≤b),hA (b< (a.length:Int))]<|.y fun e:Bool=>gj yV 0 a b.toNat e<|.b 2 66 e (gE 6 2 (bV false))<|gi cA 7 c.funs d b<|.i [rn 1,.ans (.ix)] [hA (0≤b),hA (b< (a.length:Int))]<|.i [.st (yV e) (yV true)] [.a (((a)[b.toNat]?) =some e) (cS (f:=yV)),hr (some (yV true))]<|.i [.lset 1 (map yV (set a b.toNat true))] [.q (p:=(map yV a).set (0+b.toNat) (yV true) = (map yV (set a b.toNat true))) (qC _ _ _ _)]<|.i [.set 4 (.gl 1 1 0 (set a b.toNat true).length true)] [.q (p:=(AV.gl 1 1 0 a.length true) = (.gl 1 1 0 (set a b.toNat true).length true)) (cI (fK ..).symm)]<|.i [.set 58 (.gl 1 1 0 (set a b.toNat true).length true)] [.q (p:=(AV.gl 1 1 0 a.length true) = (.gl 1 1 0 (set a b.toNat true).length true)) (cI (fK ..).symm)]<|.i [.set 67 (.gl 1 1 0 (set a b.toNat true).length true)] [.q (p:=(AV.gl 1 1 0 a.length true) = (.gl 1 1 0 (set a b.toNat true).length true)) (cI (fK ..).symm)]<|gw 5 47 (d+1)<|.W 3 2 [0,1] (uX c (d+1) (set a b.toNat true)))<|.W 9 2 [0,1] (qE c a 0)
def aL6:=fun a b c d e f g i j k l=>aZ1 a b c|>.t f d g i j e k|>.t l tv
def aL7:=fun c d e f g i j a b k l m n o p q=>aZ1 c d e|>.t j f a b k g l|>.f m a b n o i p|>.t q tv
def aL8:=fun f g i j k l m a b n o p c d e q r=>aZ1 f g i|>.t m j a b n k o|>.f p a b c d l e|>.f q a b c d e r ⟨kk,trivial⟩
def aL9:=fun a b c d=>aZ1 a b c|>.f d ⟨kk,trivial⟩
def bER(a:Prog)(c:List Bool)(b:Int):=tT 0 (qE a c b)<|gd 7 76 (b< (a.nodes.length:Int)) (.y fun d:Node=>.y fun e:Bool=>.i [rn 6,.reg (rd 4 [.ans (.idx (Node.av d)),.d,.pure (bV e),.d])] [hA (0≤b),.a (((a.nodes)[b.toNat]?) =some d) (aZ (f:=Node.av)),hA (aM PP 64 [(Prog.av a),(Node.av d)] (bV e))]<|.b 0 86 (!e) (gE 6 2 (bV false))<|.W 8 2 [0,1] (uY a c 0 b))<|.W 9 2 [1] (uZ a c 0)
def aMa:=fun a b c d e f g i j k=>bER a b c|>.t f d e g i j|>.t k tv
def aMb:=fun a b c d e f g i j k=>bER a b c|>.t f d e g i j|>.f k ⟨kk,trivial⟩
def aMc:=fun a b c d=>bER a b c|>.f d ⟨kk,trivial⟩
def aZ2(d:Prog)(a:List Bool)(e c:Int):=tT 0 (uY d a e c)<|gX Node.av 7 d.nodes c<|fun f=>gl 2 cA f.kids<|gd 2 95 (e< (f.kids.length:Int)) (gi Node.av 9 d.nodes c f<|gX cA 3 f.kids e<|fun b=>gw 9 109 (c+1)<|gw 2 111 ((d.nodes.length:Int) -1)<|kK 0 62 [(nI b),(nI (c+1)),(nI ((d.nodes.length:Int) -1))]<|fun i=>.b 2 114 (!i) (gE 12 2 (bV false))<|.i [rn 2,.ans (.ix)] [hA (0≤b),hA (b< (a.length:Int))]<|.y fun g:Bool=>gj yV 0 a b.toNat g<|.b 2 119 g (gE 6 2 (bV false))<|.i [rn 5,.ans (.ix)] [hA (0≤b),hA (b< (a.length:Int))]<|.i [.st (yV g) (yV true)] [.a (((a)[b.toNat]?) =some g) (cS (f:=yV)),hr (some (yV true))]<|.i [.lset 1 (map yV (set a b.toNat true))] [.q (p:=(map yV a).set (0+b.toNat) (yV true) = (map yV (set a b.toNat true))) (qC _ _ _ _)]<|.i [.set 4 (.gl 1 1 0 (set a b.toNat true).length true)] [.q (p:=(AV.gl 1 1 0 a.length true) = (.gl 1 1 0 (set a b.toNat true).length true)) (cI (fK ..).symm)]<|.i [.set 115 (.gl 1 1 0 (set a b.toNat true).length true)] [.q (p:=(AV.gl 1 1 0 a.length true) = (.gl 1 1 0 (set a b.toNat true).length true)) (cI (fK ..).symm)]<|.i [.set 120 (.gl 1 1 0 (set a b.toNat true).length true)] [.q (p:=(AV.gl 1 1 0 a.length true) = (.gl 1 1 0 (set a b.toNat true).length true)) (cI (fK ..).symm)]<|gw 5 97 (e+1)<|.W 3 2 [0,1] (uY d (set a b.toNat true) (e+1) c))<|gw 6 78 (c+1)<|.W 3 2 [0,1] (qE d a (c+1))
def aMd:=fun c d e f g i j a b k l m n o p q=>aZ2 c d e f g a b|>.t k a b i l m n o j p|>.t q tv
def aMe:=fun c d e f g i j k a b l m n o p q r s t u v=>aZ2 c d e f g a b|>.t l a b i m n o p j q|>.f r s t k u|>.t v tv
def aMf:=fun f g i j k l m n a b o p q r s t u c d e v w=>aZ2 f g i j k a b|>.t o a b l p q r s m t|>.f u c d n e|>.f v c d e w ⟨kk,trivial⟩
def aMg:=fun a b c d e f g i j=>aZ2 a b c d e f g|>.f i j ⟨kk,trivial⟩
def bES(c:Prog)(b:List Bool)(a:Int):=tT 0 (uZ c b a)<|gd 7 125 (a< (c.nodes.length:Int)) (.i [rn 8,.ans (.ix)] [hA (0≤a),hA (a< (b.length:Int))]<|.y fun d:Bool=>gj yV 0 b a.toNat d<|.b 2 132 (!d) (gE 6 1 (bV false))<|gw 6 127 (a+1)<|.W 3 1 [0] (uZ c b (a+1)))<|gE 7 1 (bV true)
def aMh:=fun a b c d e f g i j=>bES a b c|>.t e f g d i|>.t j tv
def aMi:=fun a b c d e f g i j k=>bES a b c|>.t e f g d i|>.f j k ⟨kk,trivial⟩
def aMj:=fun a b c d=>bES a b c|>.f d tv
def fJ (c:Con) :Bool:=jH c.name&&dY c.args 0 3
def bB (l:List Con) :List cC:=l.map Con.name
def xR (l:List Con) :Bool:=l.all fJ&&decide (l.length≤20) &&pE (bB l)
def dQ (p:Prog)(op n:Int) :Bool:=
 if op=1 then dY n (-1000000000) 1000000000
 else if op=2 then dY n 0 1
 else if op=4 then dY n (0- (p.funs.length:Int)) 29
 else if op=24 then dY n 0 3
 else if op=14 then dY n 0 ((p.cons.length:Int) -1)
 else decide (n=0)
def eR (p:Prog)(x:Node) :Bool:=
 dQ p x.op x.n&& (if x.op=15 then dY (x.pats.length:Int) 1 5 else decide (x.pats.length=0))
def fD (p:Prog)(x:Node) :Int:=if x.op=14∧dY x.n 0 ((p.cons.length:Int) -1) =true then eT p.cons x.n else 0
def iE (cons:List Con)(q:Pat) :Bool:=decide (bX q≤12) &&dZ cons q
def aO (p:Prog)(x:Node) :Bool:=
 eR p x&&x.pats.all (iE p.cons) &&decide ((x.kids.length:Int) =cK x.op x.pats.length (fD p x))
theorem gQ {a:Type}(l:List a) : ((l.length:Int) ==0) =decide (l= []) :=by cases l<;>simp;omega
theorem pN {p:Prop}(h:p:=by simp_all [eR,dQ,fD,eT,gQ]) :p:=h
theorem aZ3 (p:Prog)(x:Node)(hc:p.cons.length≤1000)(G:p.funs.length≤1000)(b:Bool)(hk:∀ (i:Bool) (a:Int),i=eR p x→a=fD p x→Ends PP 0 (bU p x i a 0).as (.ret (.bool b)) (aA [] 0)) :
  Ends PP 0 (start PP 64 [Prog.av p,Node.av x]).as (.ret (.bool b)) (aA [] 0) :=by
 cases c: (x.op== (1:Int))
 case true=>
  cases m: (x.op== (15:Int))
  case true=>
   cases B: (dY (x.n) (-1000000000) 1000000000)
   case true=>exact LeadsM.ends (aTg p x  (dY (x.n) (-1000000000) 1000000000) (dY ((length x.pats:Nat) :Int) 1 5) c (aW (x.n) (-1000000000) 1000000000) m B (aW ((length x.pats:Nat) :Int) 1 5)) (hk _ _ (by clear hk;exact pN) (by clear hk;exact pN))
   exact LeadsM.ends (aTh p x  (dY (x.n) (-1000000000) 1000000000) c (aW (x.n) (-1000000000) 1000000000) m B) (hk _ _ (by clear hk;exact pN) (by clear hk;exact pN))
  cases D: (dY (x.n) (-1000000000) 1000000000)
  case true=>exact LeadsM.ends (aTi p x  (dY (x.n) (-1000000000) 1000000000) c (aW (x.n) (-1000000000) 1000000000) m D) (hk _ _ (by clear hk;exact pN) (by clear hk;exact pN))
  exact LeadsM.ends (aTj p x  (dY (x.n) (-1000000000) 1000000000) c (aW (x.n) (-1000000000) 1000000000) m D) (hk _ _ (by clear hk;exact pN) (by clear hk;exact pN))
 cases d: (x.op== (2:Int))
 case true=>
  cases n: (x.op== (15:Int))
  case true=>
   cases A: (dY (x.n) 0 1)
   case true=>exact LeadsM.ends (aTk p x  (dY (x.n) 0 1) (dY ((length x.pats:Nat) :Int) 1 5) c d (aW (x.n) 0 1) n A (aW ((length x.pats:Nat) :Int) 1 5)) (hk _ _ (by clear hk;exact pN) (by clear hk;exact pN))
   exact LeadsM.ends (aTl p x  (dY (x.n) 0 1) c d (aW (x.n) 0 1) n A) (hk _ _ (by clear hk;exact pN) (by clear hk;exact pN))
  cases C: (dY (x.n) 0 1)
  case true=>exact LeadsM.ends (aTm p x  (dY (x.n) 0 1) c d (aW (x.n) 0 1) n C) (hk _ _ (by clear hk;exact pN) (by clear hk;exact pN))
  exact LeadsM.ends (aTn p x  (dY (x.n) 0 1) c d (aW (x.n) 0 1) n C) (hk _ _ (by clear hk;exact pN) (by clear hk;exact pN))
 cases f: (x.op== (4:Int))
 case true=>
  cases j: (x.op== (15:Int))
  case true=>
   cases z: (dY (x.n) (0- ((length p.funs:Nat) :Int)) 29)
   case true=>exact LeadsM.ends (aTo p x  (dY (x.n) (0- ((length p.funs:Nat) :Int)) 29) (dY ((length x.pats:Nat) :Int) 1 5) c d f sdI (aW (x.n) (0- ((length p.funs:Nat) :Int)) 29) j z (aW ((length x.pats:Nat) :Int) 1 5)) (hk _ _ (by clear hk;exact pN) (by clear hk;exact pN))
   exact LeadsM.ends (aTp p x  (dY (x.n) (0- ((length p.funs:Nat) :Int)) 29) c d f sdI (aW (x.n) (0- ((length p.funs:Nat) :Int)) 29) j z) (hk _ _ (by clear hk;exact pN) (by clear hk;exact pN))
  cases t: (dY (x.n) (0- ((length p.funs:Nat) :Int)) 29)
  case true=>exact LeadsM.ends (aPa p x  (dY (x.n) (0- ((length p.funs:Nat) :Int)) 29) c d f sdI (aW (x.n) (0- ((length p.funs:Nat) :Int)) 29) j t) (hk _ _ (by clear hk;exact pN) (by clear hk;exact pN))
  exact LeadsM.ends (aPb p x  (dY (x.n) (0- ((length p.funs:Nat) :Int)) 29) c d f sdI (aW (x.n) (0- ((length p.funs:Nat) :Int)) 29) j t) (hk _ _ (by clear hk;exact pN) (by clear hk;exact pN))
 cases e: (x.op== (24:Int))
 case true=>
  cases h: (x.op== (15:Int))
  case true=>
   cases u: (dY (x.n) 0 3)
   case true=>exact LeadsM.ends (aPc p x  (dY (x.n) 0 3) (dY ((length x.pats:Nat) :Int) 1 5) c d f e (aW (x.n) 0 3) h u (aW ((length x.pats:Nat) :Int) 1 5)) (hk _ _ (by clear hk;exact pN) (by clear hk;exact pN))
   exact LeadsM.ends (aPd p x  (dY (x.n) 0 3) c d f e (aW (x.n) 0 3) h u) (hk _ _ (by clear hk;exact pN) (by clear hk;exact pN))
  cases r: (dY (x.n) 0 3)
  case true=>exact LeadsM.ends (aPe p x  (dY (x.n) 0 3) c d f e (aW (x.n) 0 3) h r) (hk _ _ (by clear hk;exact pN) (by clear hk;exact pN))
  exact LeadsM.ends (aPf p x  (dY (x.n) 0 3) c d f e (aW (x.n) 0 3) h r) (hk _ _ (by clear hk;exact pN) (by clear hk;exact pN))
 cases g: (x.op== (14:Int))
 case true=>
  cases k: (dY (x.n) 0 (((length p.cons:Nat) :Int) - (1:Int)))
  case true=>
   obtain⟨F,o⟩ :∃y,((p.cons)[x.n.toNat]?) =some y:=idT;cases s: (x.op== (15:Int))
   case true=>exact LeadsM.ends (aPg p x  (dY (x.n) 0 (((length p.cons:Nat) :Int) - (1:Int))) F (dY ((length x.pats:Nat) :Int) 1 5) c d f e g sdI (aW (x.n) 0 (((length p.cons:Nat) :Int) - (1:Int))) k sdI o s (aW ((length x.pats:Nat) :Int) 1 5)) (hk _ _ (by clear hk;exact pN) (by clear hk;exact pN))
   exact LeadsM.ends (aPh p x  (dY (x.n) 0 (((length p.cons:Nat) :Int) - (1:Int))) F c d f e g sdI (aW (x.n) 0 (((length p.cons:Nat) :Int) - (1:Int))) k sdI o s) (hk _ _ (by clear hk;exact pN) (by clear hk;exact pN))
  cases w: (x.op== (15:Int))
  case true=>exact LeadsM.ends (aPi p x  (dY (x.n) 0 (((length p.cons:Nat) :Int) - (1:Int))) c d f e g sdI (aW (x.n) 0 (((length p.cons:Nat) :Int) - (1:Int))) k w) (hk _ _ (by clear hk;exact pN) (by clear hk;exact pN))
  exact LeadsM.ends (aPj p x  (dY (x.n) 0 (((length p.cons:Nat) :Int) - (1:Int))) c d f e g sdI (aW (x.n) 0 (((length p.cons:Nat) :Int) - (1:Int))) k w) (hk _ _ (by clear hk;exact pN) (by clear hk;exact pN))
 cases l: (x.op== (15:Int))
 case true=>
  cases q: (x.n== (0:Int))
  case true=>exact LeadsM.ends (aPk p x  (dY ((length x.pats:Nat) :Int) 1 5) c d f e g l q (aW ((length x.pats:Nat) :Int) 1 5)) (hk _ _ (by clear hk;exact pN) (by clear hk;exact pN))
  exact LeadsM.ends (aPl p x   c d f e g l q) (hk _ _ (by clear hk;exact pN) (by clear hk;exact pN))
 cases v: (x.n== (0:Int))
 case true=>exact LeadsM.ends (aPm p x   c d f e g l v) (hk _ _ (by clear hk;exact pN) (by clear hk;exact pN))
 exact LeadsM.ends (aPn p x   c d f e g l v) (hk _ _ (by clear hk;exact pN) (by clear hk;exact pN))
theorem aAT (p:Prog)(x:Node)(hc:p.cons.length≤1000)(hl:x.pats.length≤10)(a:Int) :
  ∀ (t:List Pat) (i:Nat) (b:Bool),x.pats.drop i=t→Ends PP 0 (bU p x b a (i:Int)).as (.ret (.bool (b&&t.all (iE p.cons) &&decide ((x.kids.length:Int) =cK x.op x.pats.length a)))) (aA [] 0)
 | [],i,b,h=>by
  have:=bL h;cases b
  case false=>exact Ends.eqv (aTu p x false a i sd rfl) (by simp)
  refine Ends.eqv (aTt p x true a i _ sd rfl (aO9 x.op x.pats.length a (by omega) (by omega))) ?_;simp only [all_nil,nV,AV.bool.injEq];rfl
 | .mk e f d c::t,i,b,h=>by
  obtain⟨n,m,o⟩ :=bI h;cases b
  case false=>exact Ends.eqv (aTs p x false a i sd rfl) (by simp)
  have l:=xO (.mk e f d c) 12 (by omega) (by omega);by_cases k:bX (.mk e f d c) ≤12
  · have j:0≤mL (.mk e f d c) 12:= (zB (.mk e f d c) 12).2 (by omega);refine(aTq p x true a i e f d c _ _ sd rfl sd sd l (decide_eq_true j) (aHZ p.cons hc (.mk e f d c) (by omega)) sd).ends ?_;exact Ends.eqv (aAT p x hc hl a t (i+1) _ m) (by simp [iE,k])
  · have j:¬mL (.mk e f d c) 12≥0:=fun g=>k (by have:= (zB (.mk e f d c) 12).1 g;omega);refine(aTr p x true a i e f d c _ sd rfl sd sd l (decide_eq_false j) sd).ends ?_;exact Ends.eqv (aAT p x hc hl a t (i+1) _ m) (by simp [iE,k])
theorem aPo (p:Prog)(x:Node)(hc:p.cons.length≤1000)(b:p.funs.length≤1000)(hl:x.pats.length≤10) :aM PP 64 [Prog.av p,Node.av x] (.bool (aO p x)) :=by
 refine aK aC rfl rfl (aZ3 p x hc b _ fun i a c d=>?_);subst c d;exact aAT p x hc hl _ x.pats 0 _ rfl
theorem aFW (l:List Con)(hl:l.length≤1000) :∀ (t:List Con) (i:Nat),l.drop i=t→Ends PP 0 (aBS l (i:Int) (bB (l.take i))).as (.ret (.bool (t.all fJ&&decide (l.length≤20) &&pE (bB l)))) (aA [] 0)
 | [],i,h=>by
  have a:=bL h;have e:bB (l.take i) =bB l:=by rw [aG5 a]
  rw [e];by_cases k:l.length≤20
  ·exact Ends.eqv (aTz l i _ _ sd sd (aJr (bB l) (by simp [bB];omega))) (by simp [k])
  ·exact Ends.eqv (aTA l i _ sd sd) (by simp [k])
 | c::t,i,h=>by
  obtain⟨g,j,m⟩ :=bI h;have d:=aLO c.name;cases b:jH c.name
  case false=>
   rw [b]at d;exact Ends.eqv (aTw l i _ c false sd sd sd d rfl) (by simp [fJ,b])
  rw [b]at d;have a:=aW c.args 0 3;cases f:dY c.args 0 3
  case false=>
   rw [f]at a;exact Ends.eqv (aTx l i _ c true false sd sd sd d rfl a rfl) (by simp [fJ,b,f])
  rw [f]at a;have e:bB (l.take i) ++ [c.name] =bB (l.take (i+1)) :=by
   rw [List.take_add_one,g];simp [bB]
  refine(aTy l i (bB (l.take i)) c true true sd sd sd d rfl a rfl (by simp [bB];omega) sd).ends ?_;rw [e];exact Ends.eqv (aFW l hl t (i+1) j) (by simp [fJ,b,f])
theorem aPp (l:List Con)(hl:l.length≤1000) :aM PP 63 [.ilst 2 (map Con.av l) false] (.bool (xR l)) :=
 aK aC rfl rfl ((aTv l).ends (aFW l hl l 0 rfl))
def marks (lo n:Int) :List Int→List Bool→Option (List Bool)
 | [],u=>some u
 |k::ks,u=>if dY k lo (n-1) =true∧u[k.toNat]?=some false then marks lo n ks (u.set k.toNat true)else none
theorem jV {lo n:Int}:∀ {a:List Int} {u v:List Bool},marks lo n a u=some v→v.length=u.length
 | [],u,v,h=>by simp only [marks,Option.some.injEq]at h;rw [h]
 | k::a,u,v,h=>by
  simp only [marks]at h;split at h
  ·have:=jV h;simpa using this
  ·cases h
def bW (p:Prog) :Nat→List Node→List Bool→Option (List Bool)
 |_,[],u=>some u
 | i,x::t,u=>if aO p x=true then match marks ((i:Int) +1) (p.nodes.length:Int) x.kids u with
   |some v=>bW p (i+1) t v
   |none=>none
  else none
def allT :Option (List Bool) →Bool
 |some u=>u.all fun b=>b
 |none=>false
def dX (p:Prog) :Bool:=decide (p.nodes.length≤300) &&dY (p.funs.length:Int) 1 (p.nodes.length:Int) &&dY p.main 0 ((p.funs.length:Int) -1)
def aJ (p:Prog) :Bool:=
 dX p&&xR p.cons&& (match marks 0 (p.nodes.length:Int) p.funs (replicate p.nodes.length false)with
  |some u=>allT (bW p 0 p.nodes u)
  |none=>false)
theorem rF3 (p:Prog)(u:List Bool)(c:p.nodes.length≤1000)(a:u.length=p.nodes.length) :∀ (t:List Bool) (i:Nat),u.drop i=t→Ends PP 0 (uZ p u (i:Int)).as (.ret (.bool (t.all fun b=>b))) (aA [] 0)
 | [],i,h=>by
  have:=bL h;exact aMj p u i sd
 | b::t,i,h=>by
  obtain⟨e,d,f⟩ :=bI h;cases b
  case false=>exact Ends.eqv (aMh p u i false sd sd sd sd rfl) (by simp)
  refine(aMi p u i true sd sd sd sd rfl sd).ends ?_;exact Ends.eqv (rF3 p u c a t (i+1) d) (by simp)
theorem bGb (p:Prog)(x:Node)(i:Nat)(c:p.nodes[i]?=some x)(e:p.nodes.length≤1000)(hk:x.kids.length≤1000)(K:List Bool→Bool)
  (hb:∀v:List Bool,v.length=p.nodes.length→Ends PP 0 (qE p v ((i:Int) +1)).as (.ret (.bool (K v))) (aA [] 0)) :
  ∀ (t:List Int) (k:Nat) (u:List Bool),u.length=p.nodes.length→x.kids.drop k=t→Ends PP 0 (uY p u (k:Int) (i:Int)).as (.ret (.bool (match marks ((i:Int) +1) p.nodes.length t u with|some v=>K v|none=>false))) (aA [] 0)
 | [],k,u,d,h=>by
  have:=bL h;have g:= (zq0.1 c).1;refine(aMg p u k i x sd sd sd sd).ends ?_;exact hb u d
 | y::t,k,u,d,h=>by
  obtain⟨j,f,l⟩ :=bI h;have g:= (zq0.1 c).1;have a:=aW y ((i:Int) +1) ((p.nodes.length:Int) -1);cases b:dY y ((i:Int) +1) ((p.nodes.length:Int) -1)
  case false=>
   rw [b]at a;exact Ends.eqv (aMd p u k i x y false sd sd sd sd sd sd sd a rfl) (by simp [marks,b])
  rw [b]at a;have m:=inB_iff.1 b;obtain⟨z,hz⟩ :∃z,u[y.toNat]?=some z:= ⟨_,kF (by omega)⟩;cases z
  case true=>exact Ends.eqv (aMe p u k i x y true true sd sd sd sd sd sd sd a rfl (by omega) (by omega) hz rfl) (by simp [marks,hz])
  refine(aMf p u k i x y true false sd sd sd sd sd sd sd a rfl (by omega) (by omega) hz rfl sd).ends ?_;exact Ends.eqv (bGb p x i c e hk K hb t (k+1) (u.set y.toNat true) (by simpa using d) f) (by simp [marks,b,hz])
theorem rF1 (p:Prog)(hp:aF p=true)(b:p.nodes.length≤1000)(hc:p.cons.length≤1000)(e:p.funs.length≤1000) :∀ (t:List Node) (i:Nat) (u:List Bool),u.length=p.nodes.length→p.nodes.drop i=t →
  Ends PP 0 (qE p u (i:Int)).as (.ret (.bool (allT (bW p i t u)))) (aA [] 0)
 | [],i,u,c,h=>by
  have:=bL h;refine(aMc p u i sd).ends ?_;exact rF3 p u b c u 0 rfl
 | x::t,i,u,c,h=>by
  obtain⟨d,j,l⟩ :=bI h;have f:bA x=true:=by
   simp only [aF,cM]at hp;exact zq27.1 hp.2 x (kN d)
  simp only [bA,cM,decide_eq_true_eq]at f;have a:=aPo p x hc e f.1.2;cases k:aO p x
  case false=>
   rw [k]at a;exact Ends.eqv (aMa p u i x false sd sd sd a rfl) (by simp [bW,k,allT])
  rw [k]at a;refine(aMb p u i x true sd sd sd a rfl).ends ?_;refine Ends.eqv (bGb p x i d b (by omega) (fun v=>allT (bW p (i+1) t v)) (fun v g=>rF1 p hp b hc e t (i+1) v g j) x.kids 0 u c rfl) ?_;simp only [bW,k,if_true];cases marks ((i:Int) +1) (p.nodes.length:Int) x.kids u<;>rfl
theorem rF0 (p:Prog)(hp:aF p=true)(e:p.nodes.length≤1000)(hc:p.cons.length≤1000)(d:p.funs.length≤1000) :∀ (t:List Int) (i:Nat) (u:List Bool),u.length=p.nodes.length→p.funs.drop i=t →
  Ends PP 0 (uX p (i:Int) u).as (.ret (.bool (match marks 0 p.nodes.length t u with|some v=>allT (bW p 0 p.nodes v) |none=>false))) (aA [] 0)
 | [],i,u,c,h=>by
  have:=bL h;refine(aL9 p i u sd).ends ?_;exact rF1 p hp e hc d p.nodes 0 u c rfl
 | y::t,i,u,c,h=>by
  obtain⟨g,f,j⟩ :=bI h;have a:=aW y 0 ((p.nodes.length:Int) -1);cases b:dY y 0 ((p.nodes.length:Int) -1)
  case false=>
   rw [b]at a;exact Ends.eqv (aL6 p i u y false sd sd sd sd a rfl) (by simp [marks,b])
  rw [b]at a;have k:=inB_iff.1 b;obtain⟨z,hz⟩ :∃z,u[y.toNat]?=some z:= ⟨_,kF (by omega)⟩;cases z
  case true=>exact Ends.eqv (aL7 p i u y true true sd sd sd sd a rfl (by omega) (by omega) hz rfl) (by simp [marks,hz])
  refine(aL8 p i u y true false sd sd sd sd a rfl (by omega) (by omega) hz rfl sd).ends ?_;exact Ends.eqv (rF0 p hp e hc d t (i+1) (u.set y.toNat true) (by simpa using c) f) (by simp [marks,b,hz])
theorem aJB (p:Prog)(hp:aF p=true) :aM PP 27 [Prog.av p] (.bool (aJ p)) :=by
 refine aK aC rfl rfl ?_;have h:=hp;simp only [aF,cM,decide_eq_true_eq]at h;obtain⟨⟨⟨⟨j,k⟩,l⟩,_⟩,_⟩ :=h;by_cases i:p.nodes.length≤300
 · have a:=aW (p.funs.length:Int) 1 (p.nodes.length:Int);cases d:dY (p.funs.length:Int) 1 (p.nodes.length:Int)
   case false=>
    rw [d]at a;exact Ends.eqv (aL2 p false sd a rfl) (by simp [aJ,dX,d])
   rw [d]at a;have b:=aW p.main 0 ((p.funs.length:Int) -1);cases g:dY p.main 0 ((p.funs.length:Int) -1)
   case false=>
    rw [g]at b;exact Ends.eqv (aL3 p true false sd a rfl sd b rfl) (by simp [aJ,dX,g])
   rw [g]at b;have c:=aPp p.cons (by omega);cases f:xR p.cons
   case false=>
    rw [f]at c;exact Ends.eqv (aL4 p true true false sd a rfl sd b rfl c rfl) (by simp [aJ,f])
   rw [f]at c;refine(aL5 p true true true sd a rfl sd b rfl c rfl (by omega)).ends ?_;refine Ends.eqv (rF0 p hp (by omega) (by omega) (by omega) p.funs 0 _ (by simp) rfl) ?_;have e:dX p=true:=by simp [dX,i,d,g]
   simp only [aJ,e,f,nV]
 ·exact Ends.eqv (aL1 p sd) (by simp [aJ,dX,i])
def checkN (b:Bool) :Int:=if b=true then 0 else 2
end
end Go.Hb
