/- A machine on abstract values, its soundness, ways, plain laws. -/
import Derived.Test.YtnljmgihoioocaaGreatHF
set_option linter.defProp false
set_option linter.unusedVariables false
set_option linter.unusedSimpArgs false
set_option linter.unusedSectionVars false
set_option maxRecDepth 100000
set_option maxHeartbeats 2000000
namespace Go.Hb
open AV (ilst int keyless keylessL ptr ren renL)
open List (all_nil drop getElem?_set length length_nil map map_nil nodup_nil replicate set set_cons_succ take)
open Nat (le_of_lt le_refl lt_irrefl mul_one)
open Go.Proofs Tryz
noncomputable section
section
variable {P :Program}
theorem Rel.swap {E E':Emb}{h h':Hp}{w:World}(r:Rel E h w.heap)(K:Nat→Prop)(X:h.nb≤h'.nb)(s:∀b,b<h.nb→E' b=E b)(f:E'.imm=E.imm)(Q:∀b,h'.nb≤b→E' b=none)
  (B:∀b o,h.look b=some o→¬K b→bQ o= [] ∧jL o=false)
  (c:∀b o,h'.look b=some o→ (K b∧h.look b=some o) ∨ (b<h'.nb∧bQ o= [] ∧jL o=false∧ (b<h.nb→¬K b∧∃d,h.look b=some d) ∧∃L,E' b=some L∧OR E' w.heap L o∧∀i,Own o L i→∃j d p,¬K j∧h.look j=some d∧E j=some p∧Own d p i))
  (O:∀b a o l L t,¬ (K b∧h.look b=some o) →¬ (K a∧h.look a=some l) →h'.look b=some o→h'.look a=some l→E' b=some L→E' a=some t→b≠a→¬Meet o l L t) :
  E.le E'∧Rel E' h' w.heap∧∀m,m≤h.nb→ExtM m E h w E' h' w:=by
 have D:E.le E':= ⟨fun b L e=>by rw [s b (r.nb_gt e)];exact e,fun k C e=>by rw [f];exact e⟩;have hK:∀ {b o},K b∧h.look b=some o→E' b=E b:=fun {b o} g=>s b (r.keys b o g.2)
 have z:∀ {b o L},h'.look b=some o→E' b=some L→∀i,Own o L i→∃j d p,h.look j=some d∧E j=some p∧Own d p i:=fun {b o L} e k i G=>by
  rcases c b o e with g| ⟨_,_,_,_,W,A,_,T⟩
  ·exact⟨b,o,L,g.2,by rw [←hK g];exact k,G⟩
  · rw [k]at A;cases A;obtain⟨j,d,p,_,F,N,M⟩ :=T i G;exact⟨j,d,p,F,N,M⟩
 have n:∀ {b a o l L t},¬ (K b∧h.look b=some o) →K a∧h.look a=some l→h'.look b=some o→E' b=some L→E a=some t→∀i,Own o L i→¬Own l t i:=fun {b a o l L t} g u e k y i J I=>by
  rcases c b o e with q| ⟨_,_,_,_,W,A,_,T⟩
  ·exact g q
  · rw [k]at A;cases A;obtain⟨j,d,p,U,F,N,M⟩ :=T i J;obtain⟨S,R⟩ :=B j d F U;rcases r.kin j a d l p t F u.2 N y ⟨i,M,I⟩ (fun e=>U (e ▸ u.1))with⟨x,_⟩ | ⟨_,x,_⟩
    ·rw [S]at x;cases x
    ·rw [R]at x;cases x
 refine⟨D,⟨fun b o e=>?_,fun b a o l L t e V k y v H=>?_,Q,fun k C e=>by rw [f]at e;exact r.imm k C e,fun b o L e k i G=>?_,fun b o e=>?_⟩,fun m hm=> ⟨fun b hb=>s b (by omega),D.2,le_refl _,fun _ _ _=>rfl,fun b o L e k i G _=>z e k i G,by omega,rfl,rfl,rfl,fun _ _=>rfl,fun k C e _=>.inl (by rw [f]at e;exact e),fun b o e hb=>?_⟩⟩
 · rcases c b o e with g| ⟨_,_,_,_,L,A,Z,_⟩
   · rcases r.obj0 b o g.2 with⟨S,R⟩ | ⟨L,k1,Y⟩
     ·exact .inl ⟨S,by rw [hK g];exact R⟩
     ·exact .inr ⟨L,by rw [hK g];exact k1,Y.mono D⟩
   ·exact .inr ⟨L,A,Z⟩
 · by_cases g:K b∧h.look b=some o
   · by_cases u:K a∧h.look a=some l
     · rw [hK g]at k;rw [hK u]at y;exact r.kin b a o l L t g.2 u.2 k y v H
     · rw [hK g]at k;obtain⟨i,J,I⟩ :=v;exact absurd J (n u g V y k i I)
   · by_cases u:K a∧h.look a=some l
     · rw [hK u]at y;obtain⟨i,J,I⟩ :=v;exact absurd I (n g u e k y i J)
     ·exact absurd v (O b a o l L t g u e V k y H)
 · rw [f];obtain⟨j,d,p,F,N,M⟩ :=z e k i G;exact r.apart j d p F N i M
 · rcases c b o e with g| ⟨g,_⟩
   ·have:=r.keys b o g.2;omega
   ·exact g
 · rcases c b o e with g| ⟨_,_,_,g,_⟩
   ·exact⟨o,g.2⟩
   ·exact(g (by omega)).2
end
inductive XT where
 |mk (op n:Int) (kids:List XT) (pats:List Pat)
mutual
def XT.av :XT→AV
 | .mk o n ks ps=>.iptr [.int .i64 o,.int .i64 n,.ilst 1 (XTs.av ks) false,.ilst 4 (Pats.av ps) false]
def XTs.av :List XT→List AV
 | [] =>[]
 |p::ps=>XT.av p::XTs.av ps
end
theorem cZ :∀l,XTs.av l=map XT.av l
 | [] =>rfl
 |p::a=>by rw [XTs.av,cZ a];rfl
mutual
theorem aLM :∀p,keyless (XT.av p) =true
 | .mk o n b a=>by simp [XT.av,keyless]
theorem aZ4 :∀l,keylessL (XTs.av l) =true
 | [] =>rfl
 |p::a=>by rw [XTs.av,keylessL,aLM p,aZ4 a];rfl
end
abbrev Imm :=Nat→Option (Array Value)
def Imm.le (a b:Imm) :Prop:=∀k C,a k=some C→b k=some C
def emI (imm:Imm) :Emb:= ⟨fun _=>none,imm⟩
theorem aCO {a b:Imm}(h:Imm.le a b) : (emI a).le (emI b) := ⟨fun _ _ e=>e,h⟩
def adr (a:Nat×Nat) :Value:=.pointer (some ⟨a.1,a.2,none⟩)
mutual
def TAt (imm:Imm)(H:Array Obj) :Nat×Nat→XT→List Nat→Prop
 | a,.mk o n ks ps,F=>∃ (C:Array Value) (e:TypeId) (kv pv:Value) (Fk:List Nat),H[a.1]?=some (.cells C e (0,0)) ∧C[a.2]?=some (.int .i64 o) ∧C[a.2+1]?=some (.int .i64 n) ∧C[a.2+2]?=some kv∧C[a.2+3]?=some pv∧VR (emI imm) (.ilst 4 (Pats.av ps) false) pv∧F=a.1::Fk ∧
   ((ks= [] ∧Fk= [] ∧ ((∃b,kv= .slice b 0 0) ∨∃ (b:Nat×Nat) (cap:Nat),kv= .slice (some ⟨b.1,b.2,none⟩) 0 cap)) ∨∃ (b:Nat×Nat) (cap:Nat) (Ck:Array Value) (ek:TypeId) (ad:List (Nat×Nat)) (Fr:List Nat),kv= .slice (some ⟨b.1,b.2,none⟩) ks.length cap∧ks≠ [] ∧ks.length≤cap∧b.2+cap≤Ck.size∧H[b.1]?=some (.cells Ck ek (0,0)) ∧ad.length=ks.length∧ (∀j,j<ks.length→Ck[b.2+j]?= (ad.map adr)[j]?) ∧Fk=b.1::Fr∧TsAt imm H ad ks Fr)
def TsAt (imm:Imm)(H:Array Obj) :List (Nat×Nat) →List XT→List Nat→Prop
 |ad,[],F=>ad= [] ∧F= []
 |ad,t::ts,F=>∃a ad' F1 F2,ad=a::ad'∧F=F1++F2∧TAt imm H a t F1∧TsAt imm H ad' ts F2
end
mutual
theorem TAt.go {d c:Imm}{H l:Array Obj}(f:Imm.le d c) :∀ (t:XT) (a:Nat×Nat) (F:List Nat),TAt d H a t F→ (∀i∈F,l[i]?=H[i]?) →TAt c l a t F
 | .mk o n J T,a,F,h,j=>by
  simp only [TAt]at h ⊢;obtain⟨C,e,G,z,v,x,R,I,r,M,L,u,N⟩ :=h;subst u;refine⟨C,e,G,z,v,by rw [j _ (cQ ..)];exact x,R,I,r,M,L.mono (aCO f),rfl,?_⟩;rcases N with g| ⟨b,k,K,B,m,p,q,y,Q,A,w,D,O,s,S⟩
  ·exact .inl g
  · subst s;exact .inr ⟨b,k,K,B,m,p,q,y,Q,A,by rw [j _ (by simp)];exact w,D,O,rfl,TsAt.go f J m p S (fun i f=>j i (by simp [f]))⟩
theorem TsAt.go {e b:Imm}{H j:Array Obj}(c:Imm.le e b) :∀ (f:List XT) (g:List (Nat×Nat)) (F:List Nat),TsAt e H g f F→ (∀i∈F,j[i]?=H[i]?) →TsAt b j g f F
 | [],g,F,h,_=>by simpa only [TsAt]using h
 | t::f,g,F,h,l=>by
  simp only [TsAt]at h ⊢;obtain⟨a,d,m,k,rfl,rfl,o,n⟩ :=h;exact⟨a,d,m,k,rfl,rfl,TAt.go c t a m o (fun i c=>l i (by simp [c])),TsAt.go c f d k n (fun i c=>l i (by simp [c]))⟩
end
mutual
theorem TAt.blk {d:Imm}{H:Array Obj}:∀ (t:XT) (a:Nat×Nat) (F:List Nat),TAt d H a t F→∀i∈F,∃C e,H[i]?=some (.cells C e (0,0))
 | .mk o n m w,a,F,h,i,c=>by
  simp only [TAt]at h;obtain⟨C,e,D,z,x,g,M,G,v,J,I,rfl,q⟩ :=h;rcases zq7.1 c with rfl|c
  ·exact⟨C,e,g⟩
  · rcases q with⟨_,rfl,_⟩ | ⟨b,j,p,l,k,r,u,y,L,A,f,B,K,rfl,s⟩
    ·cases c
    · rcases zq7.1 c with rfl|c
      ·exact⟨p,l,f⟩
      ·exact TsAt.blk m k r s i c
theorem TsAt.blk {f:Imm}{H:Array Obj}:∀ (d:List XT) (g:List (Nat×Nat)) (F:List Nat),TsAt f H g d F→∀i∈F,∃C e,H[i]?=some (.cells C e (0,0))
 | [],g,F,h,i,b=>by simp only [TsAt]at h;rw [h.2]at b;cases b
 | t::d,g,F,h,i,b=>by
  simp only [TsAt]at h;obtain⟨a,c,m,l,rfl,rfl,k,j⟩ :=h;rcases zq28.1 b with b|b
  ·exact TAt.blk t a m k i b
  ·exact TsAt.blk d c l j i b
end
theorem TsAt.len {c:Imm}{H:Array Obj}:∀ {d:List XT} {b:List (Nat×Nat)} {F:List Nat},TsAt c H b d F→b.length=d.length
 | [],b,F,h=>by simp only [TsAt]at h;rw [h.1];rfl
 | t::d,b,F,h=>by
  simp only [TsAt]at h;obtain⟨a,e,i,g,rfl,rfl,_,f⟩ :=h;simp [f.len]
def OsAt (imm:Imm)(H:Array Obj) :List (Nat×Nat) →List (Option XT) →List Nat→Prop
 |ad,[],F=>ad= [] ∧F= []
 |ad,some t::ts,F=>∃a ad' F1 F2,ad=a::ad'∧F=F1++F2∧TAt imm H a t F1∧OsAt imm H ad' ts F2
 |ad,none::ts,F=>∃a ad',ad=a::ad'∧OsAt imm H ad' ts F
theorem os_ts {c:Imm}{H:Array Obj}:∀ {g:List XT} {d:List (Nat×Nat)} {F:List Nat},OsAt c H d (g.map some) F↔TsAt c H d g F
 | [],d,F=>by simp [OsAt,TsAt]
 | t::g,d,F=>by
  simp only [eI,OsAt,TsAt];constructor
  ·rintro⟨a,b,k,i,h,j,f,e⟩;exact⟨a,b,k,i,h,j,f,os_ts.1 e⟩
  ·rintro⟨a,b,k,i,h,j,f,e⟩;exact⟨a,b,k,i,h,j,f,os_ts.2 e⟩
theorem OsAt.go {f c:Imm}{H l:Array Obj}(d:Imm.le f c) :∀ (e:List (Option XT)) (g:List (Nat×Nat)) (F:List Nat),OsAt f H g e F→ (∀i∈F,l[i]?=H[i]?) →OsAt c l g e F
 | [],g,F,h,_=>by simpa only [OsAt]using h
 | some t::e,g,F,h,j=>by
  simp only [OsAt]at h ⊢;obtain⟨a,b,n,m,rfl,rfl,o,k⟩ :=h;exact⟨a,b,n,m,rfl,rfl,TAt.go d t a n o (fun i d=>j i (by simp [d])),OsAt.go d e b m k (fun i d=>j i (by simp [d]))⟩
 | none::e,g,F,h,j=>by
  simp only [OsAt]at h ⊢;obtain⟨a,b,rfl,k⟩ :=h;exact⟨a,b,rfl,OsAt.go d e b F k j⟩
theorem OsAt.blk {j:Imm}{H:Array Obj}:∀ (d:List (Option XT)) (f:List (Nat×Nat)) (F:List Nat),OsAt j H f d F→∀i∈F,∃C e,H[i]?=some (.cells C e (0,0))
 | [],f,F,h,i,b=>by simp only [OsAt]at h;rw [h.2]at b;cases b
 | some t::d,f,F,h,i,b=>by
  simp only [OsAt]at h;obtain⟨a,c,m,l,rfl,rfl,k,g⟩ :=h;rcases zq28.1 b with b|b
  ·exact TAt.blk t a m k i b
  ·exact OsAt.blk d c l g i b
 | none::d,f,F,h,i,b=>by
  simp only [OsAt]at h;obtain⟨a,c,rfl,g⟩ :=h;exact OsAt.blk d c F g i b
theorem OsAt.len {f:Imm}{H:Array Obj}:∀ {c:List (Option XT)} {b:List (Nat×Nat)} {F:List Nat},OsAt f H b c F→b.length=c.length
 | [],b,F,h=>by simp only [OsAt]at h;rw [h.1];rfl
 | some t::c,b,F,h=>by
  simp only [OsAt]at h;obtain⟨a,d,i,g,rfl,rfl,_,e⟩ :=h;simp [e.len]
 | none::c,b,F,h=>by
  simp only [OsAt]at h;obtain⟨a,d,rfl,e⟩ :=h;simp [e.len]
theorem OsAt.out {g:Imm}{H:Array Obj}:∀ {f:List (Option XT)} {d:List (Nat×Nat)} {F:List Nat} {i:Nat} {t:XT},OsAt g H d f F→f[i]?=some (some t) →∃a c l,d[i]?=some a∧TAt g H a t c∧OsAt g H d (f.set i none) l∧ (c++l).Perm F
 | [],d,F,i,t,_,e=>by simp at e
 | some u::f,d,F,0,t,h,e=>by
  simp only [OsAt]at h;obtain⟨a,b,c,l,rfl,rfl,p,k⟩ :=h;simp only [jK,Option.some.injEq]at e;subst e;exact⟨a,c,l,rfl,p,by simp only [List.set_cons_zero,OsAt];exact⟨a,b,rfl,k⟩,List.Perm.refl _⟩
 |none::f,d,F,0,t,h,e=>by simp at e
 | some u::f,d,F,i+1,t,h,e=>by
  simp only [OsAt]at h;obtain⟨a,b,c,l,rfl,rfl,p,k⟩ :=h;obtain⟨n,m,j,o,r,s,q⟩ :=OsAt.out k (by simpa using e);refine⟨n,m,c++j,by simpa using o,r,by simp only [set_cons_succ,OsAt];exact⟨a,b,c,j,rfl,rfl,p,s⟩,?_⟩;have: (m++ (c++j)).Perm (c++ (m++j)) :=by
   rw [←zq9,←zq9];exact List.Perm.append_right _ List.perm_append_comm
  exact this.trans (List.Perm.append_left _ q)
 | none::f,d,F,i+1,t,h,e=>by
  simp only [OsAt]at h;obtain⟨a,b,rfl,k⟩ :=h;obtain⟨n,m,j,o,r,s,q⟩ :=OsAt.out k (by simpa using e);exact⟨n,m,j,by simpa using o,r,by simp only [set_cons_succ,OsAt];exact⟨a,b,rfl,s⟩,q⟩
theorem OsAt.put {g:Imm}{H:Array Obj}:∀ {d:List (Option XT)} {j:List (Nat×Nat)} {F c:List Nat} {i:Nat} {t:XT} {a:Nat×Nat},OsAt g H j d F→d[i]?=some none→TAt g H a t c→∃f,OsAt g H (j.set i a) (d.set i (some t)) f∧f.Perm (c++F)
 | [],j,F,c,i,t,a,_,e,_=>by simp at e
 |some r::d,j,F,c,0,t,a,h,e,_=>by simp at e
 | none::d,j,F,c,0,t,a,h,e,l=>by
  simp only [OsAt]at h;obtain⟨m,b,rfl,k⟩ :=h;exact⟨c++F,by simp only [List.set_cons_zero,OsAt];exact⟨a,b,c,F,rfl,rfl,l,k⟩,List.Perm.refl _⟩
 | some r::d,j,F,c,i+1,t,a,h,e,l=>by
  simp only [OsAt]at h;obtain⟨m,b,p,s,rfl,rfl,q,k⟩ :=h;obtain⟨f,n,o⟩ :=OsAt.put k (by simpa using e) l;refine⟨p++f,by simp only [set_cons_succ,OsAt];exact⟨m,b.set i a,p,f,rfl,rfl,q,n⟩,?_⟩;refine(List.Perm.append_left _ o).trans ?_;rw [←zq9,←zq9];exact List.Perm.append_right _ List.perm_append_comm
 | none::d,j,F,c,i+1,t,a,h,e,l=>by
  simp only [OsAt]at h;obtain⟨m,b,rfl,k⟩ :=h;obtain⟨f,n,o⟩ :=OsAt.put k (by simpa using e) l;exact⟨f,by simp only [set_cons_succ,OsAt];exact⟨m,b.set i a,rfl,n⟩,o⟩
section
variable {P :Program}
abbrev ZP :=List Nat→List (Nat×Nat×Nat) →Imm→Array Obj→Prop
def gh :AObj:=.zone false [] (fun _ _ _ _=>True)
def cJ (ts:List XT) :ZP:=fun F Ks imm H=>F.Nodup∧∃K:Nat×Nat×Nat,Ks= [K] ∧ ((ts= [] ∧F= []) ∨∃ (C:Array Value) (e:TypeId) (ad:List (Nat×Nat)) (Fr:List Nat),ts≠ [] ∧F=K.1::Fr∧H[K.1]?=some (.cells C e (0,0)) ∧C.size=K.2.2∧ (∀j,j<ts.length→C[K.2.1+j]?= (ad.map adr)[j]?) ∧TsAt imm H ad ts Fr)
def ZV (us:List (Nat×Nat))(ts:List (Option XT)) :ZP:=fun F _ imm H=>F.Nodup∧OsAt imm H us ts F
def eV (us:List (Nat×Nat))(ts:List (Option XT))(i:Nat) :ZP:=fun F Ks imm H=>F.Nodup∧OsAt imm H us ts F∧ts[i]?=some none∧∃K:Nat×Nat×Nat,Ks= [K] ∧us[i]?=some (K.1,K.2.1)
def Z1 (t:XT) :ZP:=fun F Ks imm H=>F.Nodup∧∃K:Nat×Nat×Nat,Ks= [K] ∧TAt imm H (K.1,K.2.1) t F
theorem uR {E:Emb}{H:Array Obj}{F:List Nat}{b sz:Nat}{rs:List Nat}{Ls:List Loc}{Z:ZP}(d:map E.loc rs=map some Ls)(hb:∀i∈F,∃C e,H[i]?=some (.cells C e (0,0)))
  (hz:∀ (a:Imm) (c:Array Obj),Imm.le E.imm a→ (∀i∈F,c[i]?=H[i]?) →Z F (map (fun K=> (K.blk,K.sh,K.sz)) Ls) a c) :OR E H ⟨jD F,b,sz⟩ (.zone true rs Z) :=by
 have f:fpz true ⟨jD F,b,sz⟩ =F:=aHt F;show(∀i∈fpz true ⟨jD F,b,sz⟩,_) ∧_;rw [f];exact⟨hb,Ls,d,hz⟩
theorem zone_own {F:List Nat}{a sz:Nat}{rs:List Nat}{Z:ZP}{i:Nat}:Own (.zone true rs Z) ⟨jD F,a,sz⟩ i↔i∈F:=by
 show i∈fpz true ⟨jD F,a,sz⟩ ↔_;rw [show fpz true ⟨jD F,a,sz⟩ =F from aHt F]
theorem aRl {E:Emb}{H:Array Obj}{L:Loc}:OR E H L gh:= ⟨fun i a=> (by cases a),[],rfl,fun _ _ _ _=>trivial⟩
theorem lF {L:Loc}{i:Nat}:¬Own gh L i:=fun h=>by cases h
theorem gJ {E:Emb}{H:Array Obj}{L:Loc}{rs:List Nat}{Z:ZP}(r:OR E H L (.zone true rs Z)) :∃a:List Loc,map E.loc rs=map some a∧Z (jH L.blk) (map (fun K=> (K.blk,K.sh,K.sz)) a) E.imm H:=by
 obtain⟨_,a,b,c⟩ :=r;exact⟨a,b,c E.imm H (fun _ _ e=>e) (fun _ _=>rfl)⟩
def kP (h h':Hp) :Prop:=∀ (E:Emb) (w:World),Rel E h w.heap→∃E',E.le E'∧Rel E' h' w.heap∧∀m,m≤h.nb→ExtM m E h w E' h' w
theorem aLN {m:Nat}{fr:AFrame}{cs:List AFrame}{h h':Hp}(z:kP h h') :LeadsM P m ⟨fr,cs,h⟩ ⟨fr,cs,h'⟩ :=fun hm E d a w b f fs r=>by
 obtain⟨g,c,i,e⟩ :=z E w r;exact⟨g,d,a,w,Steps.refl _ _,f.mono c,fs.mono c,i,e m hm⟩
def aAN {α:Type}(h:Hp)(ok:α→Prop)(h':α→Hp) :Prop:=∀ (E:Emb) (w:World),Rel E h w.heap→∃x E',ok x∧E.le E'∧Rel E' (h' x) w.heap∧∀m,m≤h.nb→ExtM m E h w E' (h' x) w
theorem aLO {i:Type}{m:Nat}{fr:AFrame}{cs:List AFrame}{h:Hp}{ok:i→Prop}{h':i→Hp}{b:Res}{hf:Hp}(z:aAN h ok h')(k:∀x,ok x→Ends P m ⟨fr,cs,h' x⟩ b hf) :Ends P m ⟨fr,cs,h⟩ b hf:=fun hm E j d w f fs r l a=>by
 obtain⟨x,s,n,g,y,q⟩ :=z E w r;have e:=q m hm;obtain⟨c,o,t,A,u,v,p⟩ :=k x n e.nb s j d w (f.mono g) (fs.mono g) y l a;exact⟨c,o,t,A,u,v,e.trans p⟩
theorem Rel.noMeet {E:Emb}{h:Hp}{H:Array Obj}(r:Rel E h H){b a:Nat}{o o':AObj}{L L':Loc}(e:h.look b=some o)(d:h.look a=some o')(k:E b=some L)(f:E a=some L')(c:b≠a)(h1:bQ o= [] :=by rfl)(h2:bQ o'= [] :=by rfl) :¬Meet o o' L L':=fun hm=>by
 rcases r.kin b a o o' L L' e d k f hm c with⟨g,_⟩ | ⟨g,_⟩
 ·rw [h1]at g;cases g
 ·rw [h2]at g;cases g
def vls (us:List (Nat×Nat)) :List AV:=map (fun a=>AV.val (adr a)) us
theorem vls_vrs {E:Emb}:∀ {b:List (Nat×Nat)} {a:List Value},VRs E (vls b) a↔a=b.map adr
 | [],a=>by simp [vls,VRs]
 | u::b,a=>by
  simp only [vls,eI,VRs,VR];constructor
  ·rintro⟨v,c,rfl,rfl,h⟩;rw [vls_vrs.1 h]
  ·intro h;exact⟨_,_,h,rfl,vls_vrs.2 rfl⟩
theorem aJt (a:Nat×Nat) :okE 1 (adr a) := ⟨rfl,fun c hc=>by simp [adr,Value.cells]at hc;subst hc;rfl⟩
theorem mC :∀a:List (Nat×Nat),flat (a.map adr) =a.map adr
 | [] =>rfl
 | u::a=>by
  have:=mC a;unfold flat at this ⊢;simp only [eI,List.flatMap_cons,this];rfl
theorem aCQ {h h':Hp}{k g:Nat}{us:List (Nat×Nat)}{ts:List XT}(hk:h.look k=some (.lst 1 (vls us)))(l:h.look g=some (.zone true [] (ZV us (ts.map some))))(q:ts≠ [])(I:h.nb<h'.nb)
  (hl:∀b o,h'.look b=some o→ (b=k∧o=gh) ∨ (b=h.nb∧o= .zone true [k] (cJ ts)) ∨ (b≠k∧b≠g∧h.look b=some o)) :kP h h':=fun E w r=>by
 have z:k≠g:=fun e=>by subst e;rw [hk]at l;cases l
 obtain⟨x,H,g2⟩ :=r.obj g _ l;obtain⟨Ls,_,F,D⟩ :=gJ g2;have m:=os_ts.1 D;have t:us.length=ts.length:=m.len;have Q:kN (.lst 1 (vls us)) =false:=by
  cases us with
  |nil=>exact absurd (zq35.1 t.symm) q
  |cons u us=>rfl
 obtain⟨p,y,C,M,vs,N,c2,B,c4,O⟩ :=r.obj k _ hk Q;have B:=vls_vrs.1 B;subst B;have A:p.blk∉jH x.blk:=fun c=>r.noMeet hk l y H z rfl rfl ⟨_,rfl,c⟩
 let E':=E.put h.nb ⟨jD (p.blk::jH x.blk),0,0⟩
 have hkb:=r.keys k _ hk;have S:=r.keys g _ l;have v:∀ {b},b≠h.nb→E' b=E b:=fun hb=>Emb.put_ne _ _ hb;have T:E.le E':=Emb.le_put (r.fresh _ (le_refl _));have n:OR E' w.heap ⟨jD (p.blk::jH x.blk),0,0⟩ (.zone true [k] (cJ ts)) :=by
  refine uR (Ls:=[p]) (by simp only [eI,map_nil,List.cons.injEq,and_true];rw [show E'.loc k=E.loc k from v (by omega)];exact y) (fun i a=>?_) (fun K H' a J=> ⟨List.nodup_cons.2 ⟨A,F⟩,_,rfl,.inr ⟨C,M,us,_,q,rfl,by rw [J _ (cQ ..)];exact N,c2,fun j hj=>?_,TsAt.go a ts us _ m (fun i a=>J i (cH _ a))⟩⟩)
  · rcases zq7.1 a with rfl|a
    ·exact⟨C,M,N⟩
    ·exact TsAt.blk ts us _ m i a
  · have:=O j (by rw [lB];omega);rw [this,mC]
 obtain⟨Y,Z,W⟩ :=r.swap (E':=E') (h':=h') (fun b=>b≠k∧b≠g) (le_of_lt I) (fun b hb=>v (by omega)) rfl (fun b hb=>by rw [v (by omega)];exact r.fresh b (by omega))
  (fun b o e hb=>by
   by_cases f:b=k
   ·subst f;rw [hk]at e;cases e;exact⟨rfl,rfl⟩
   · have d:b=g:=Classical.not_not.1 (fun d=>hb ⟨f,d⟩);subst d;rw [l]at e;cases e;exact⟨rfl,rfl⟩)
  (fun b o e=>by
   rcases hl b o e with⟨rfl,rfl⟩ | ⟨rfl,rfl⟩ | ⟨f,d,s⟩
   ·exact .inr ⟨by omega,rfl,rfl,fun _=> ⟨fun c=>c.1 rfl,_,hk⟩,p,by rw [v (by omega)];exact y,aRl,fun i a=>absurd a lF⟩
   · refine .inr ⟨I,rfl,rfl,fun c=>absurd c (lt_irrefl _),_,Emb.put_same _ _ _,n,fun i a=>?_⟩;rw [zone_own]at a;rcases zq7.1 a with rfl|a
     ·exact⟨k,_,p,fun c=>c.1 rfl,hk,y,rfl⟩
     ·exact⟨g,_,x,fun c=>c.2 rfl,l,H,a⟩
   ·exact .inl ⟨⟨f,d⟩,s⟩)
  (fun b b' o o' L L' R n2 e V k k' G hm=>by
   obtain⟨i,X,U⟩ :=hm;rcases hl b o e with⟨rfl,rfl⟩ | ⟨rfl,rfl⟩ | ⟨f,d,s⟩
   ·exact lF X
   · rcases hl b' o' V with⟨rfl,rfl⟩ | ⟨rfl,rfl⟩ | ⟨f,d,s⟩
     ·exact lF U
     ·exact G rfl
     ·exact n2 ⟨⟨f,d⟩,s⟩
   ·exact R ⟨⟨f,d⟩,s⟩)
 exact⟨E',Y,Z,W⟩
def ndC (op n:Int)(kv:AV)(pv:AV) :AObj:=.cells (putCells .leaf 0 [.int .i64 op,.int .i64 n,kv,pv]) 4 [] false
theorem aJu {E:Emb}{H:Array Obj}{L:Loc}{op n:Int}{kv pv:AV}(r:OR E H L (ndC op n kv pv)) :∃C e k p,H[L.blk]?=some (.cells C e (0,0)) ∧C.size=L.sz∧C[L.sh]?=some (.int .i64 op) ∧C[L.sh+1]?=some (.int .i64 n) ∧C[L.sh+2]?=some k∧VR E kv k∧C[L.sh+3]?=some p∧VR E pv p:=by
 obtain⟨C,e,j,q,a⟩ :=r;obtain⟨_,s,f,c⟩ :=a 0 (.int .i64 op) (by rw [bF];rfl);obtain⟨_,t,o,b⟩ :=a 1 (.int .i64 n) (by rw [bF];rfl);obtain⟨_,h,i,g⟩ :=a 2 kv (by rw [bF];rfl);obtain⟨_,d,m,l⟩ :=a 3 pv (by rw [bF];rfl);simp only [VR]at c b;subst c b;exact⟨C,e,h,d,j,q,f,o,i,g,m,l⟩
theorem bEK {E:Emb}{H:Array Obj}{L:Loc}{op n:Int}{kv pv:AV}{C:Array Value}{e:TypeId}{k p:Value}(h1:H[L.blk]?=some (.cells C e (0,0)))(h2:C.size=L.sz)(c:C[L.sh]?=some (.int .i64 op))(g:C[L.sh+1]?=some (.int .i64 n))(h:C[L.sh+2]?=some k)(b2:VR E kv k)(f:C[L.sh+3]?=some p)(d:VR E pv p) :OR E H L (ndC op n kv pv) :=by
 refine⟨C,e,h1,h2,fun i a b=>?_⟩;rw [bF]at b;split at b
 · match i,b with
   |0,b=>cases b;exact⟨by omega,_,c,by simp only [VR]⟩
   |1,b=>cases b;exact⟨by omega,_,g,by simp only [VR]⟩
   |2,b=>cases b;exact⟨by omega,_,h,b2⟩
   |3,b=>cases b;exact⟨by omega,_,f,d⟩
   |n+4,b=>rename_i hl;simp at hl;omega
 ·cases b
theorem VR.emI {E:Emb}{a:AV}{v:Value}(hk:keyless a=true)(h:VR E a v) :VR (Hb.emI E.imm) a v:=eS hk h
theorem VR.of_emI {E:Emb}{a:AV}{v:Value}(h:VR (Hb.emI E.imm) a v) :VR E a v:=VR.of_p h
theorem aRm {E:Emb}{H:Array Obj}{f c:Loc}{op n:Int}{k:Nat}{len:Nat}{ex:Bool}{pv:AV}{ps:List Pat}{ks:List XT}{F:List Nat}(hk:E k=some c)(r:OR E H f (ndC op n (.gl k 1 0 len ex) pv))(b:len=ks.length)(hp:∀E v,VR E pv v→VR E (.ilst 4 (Pats.av ps) false) v)
  (hz:cJ ks F [(c.blk,c.sh,c.sz)] E.imm H) :TAt E.imm H (f.blk,f.sh) (.mk op n ks ps) (f.blk::F) :=by
 obtain⟨C,e,G,p,S,V,y,w,t,i,s,A⟩ :=aJu r;obtain⟨_,K,hK,hz⟩ :=hz;cases hK;simp only [TAt];refine⟨C,e,G,p,F,S,y,w,t,s,VR.emI (by simp [keyless]) (hp E p A),rfl,?_⟩;simp only [VR]at i;rcases hz with⟨rfl,rfl⟩ | ⟨M,D,B,R,l,Q,z,x,I,q⟩
 · refine .inl ⟨rfl,rfl,?_⟩;simp only [length_nil]at b;rcases i with⟨_,a,m⟩ | ⟨L,a,d,h,g,J,u,o⟩
   ·exact .inl ⟨a,m⟩
   ·rw [b]at g;exact .inr ⟨(L.blk,a),d,g⟩
 · have T:0<ks.length:=List.length_pos_iff.2 l;rcases i with⟨U,a,m⟩ | ⟨L,a,d,h,g,J,u,o⟩
   ·omega
   · rw [hk]at h;cases h;obtain⟨O,W⟩ :=o (by omega);refine .inr ⟨(c.blk,a),d,M,D,B,R,by rw [←b];exact g,l,by omega,?_,z,q.len,fun j N=>?_,Q,q⟩
     ·simp only at x ⊢;omega
     · have:=I j N;simp only at this ⊢;rw [O,show c.sh+0*1+j=c.sh+j by omega];exact this
theorem sS {h h':Hp}{g:Nat}{us:List (Nat×Nat)}{ts:List (Option XT)}{i:Nat}{u:Nat×Nat}{op n:Int}{ks:List XT}{ps:List Pat}(H:h.look g=some (.zone true [] (ZV us ts)))(hu:us[i]?=some u)(ht:ts[i]?=some (some (.mk op n ks ps)))(hn:h'.nb=h.nb+4)
  (hl:∀b o,h'.look b=some o→ (b=h.nb∧o=ndC op n (.gl (h.nb+1) 1 0 ks.length false) (.ilst 4 (Pats.av ps) false)) ∨ (b=h.nb+1∧o=gh) ∨ (b=h.nb+2∧o= .zone true [h.nb+1] (cJ ks)) ∨ (b=h.nb+3∧o= .zone true [h.nb] (eV us (ts.set i none) i)) ∨ (b≠g∧h.look b=some o))
  {m:Nat} (hm:m≤h.nb) :oS m h h' (.val (adr u)) (.ptr h.nb 0) :=fun E w r=>by
 obtain⟨W,g1,g2⟩ :=r.obj g _ H;obtain⟨Ls,_,Q,N⟩ :=gJ g2;obtain⟨a,F1,s,o1,o2,o3,o4⟩ :=N.out ht;rw [hu]at o1;cases o1;have B:= (o4.nodup_iff).2 Q;obtain⟨A,Y,D⟩ :=List.nodup_append.1 B;simp only [TAt]at o2;obtain⟨C,e,kv,pv,Fk,t1,t2,t3,t4,t5,t6,rfl,t8⟩ :=o2;obtain⟨Kk,k1,k2⟩ :∃Kk:Loc,(∀E:Emb,E (h.nb+1) =some Kk→VR E (.gl (h.nb+1) 1 0 ks.length false) kv) ∧∀ (d:Imm) (H':Array Obj),Imm.le E.imm d→ (∀i∈Fk,H'[i]?=w.heap[i]?) →cJ ks Fk [(Kk.blk,Kk.sh,Kk.sz)] d H':=by
  rcases t8 with⟨rfl,rfl,x⟩ | ⟨b,l,R,ek,G,K,x1,x0,x2,x3,U,x5,x6,rfl,X⟩
  · rcases x with⟨b,rfl⟩ | ⟨b,l,rfl⟩
    ·exact⟨⟨0,0,0⟩,fun E _=>by simp only [VR];exact .inl ⟨rfl,b,rfl⟩,fun _ _ _ _=> ⟨nodup_nil,_,rfl,.inl ⟨rfl,rfl⟩⟩⟩
    ·exact⟨⟨b.1,b.2,b.2+l⟩,fun E hE=>by simp only [VR];exact .inr ⟨_,b.2,l,hE,rfl,by simp,fun h=>by(cases h),fun _=> ⟨by simp,by simp⟩⟩,fun _ _ _ _=> ⟨nodup_nil,_,rfl,.inl ⟨rfl,rfl⟩⟩⟩
  · exact⟨⟨b.1,b.2,R.size⟩,fun E hE=>by simp only [VR];exact .inr ⟨_,b.2,l,hE,x1,x2,fun h=>by(cases h),fun _=> ⟨by simp,by simp only [mul_one];exact x3⟩⟩,
     fun d H' c y=> ⟨(List.nodup_cons.1 A).2,_,rfl,.inr ⟨R,ek,G,K,x0,rfl,by rw [y _ (cQ ..)];exact U,rfl,fun j hj=>x6 j hj,TsAt.go c ks G K X (fun i c=>y i (cH _ c))⟩⟩⟩
 have M:∀i∈Fk,∃C e,w.heap[i]?=some (.cells C e (0,0)) :=fun i c=>by
  rcases t8 with⟨rfl,rfl,x⟩ | ⟨b,l,R,ek,G,K,x1,x0,x2,x3,U,x5,x6,rfl,X⟩
  ·cases c
  · rcases zq7.1 c with rfl|c
    ·exact⟨_,_,U⟩
    ·exact TsAt.blk ks G K X i c
 let E':Emb:= ⟨fun b=>if b=h.nb then some ⟨u.1,u.2,C.size⟩else if b=h.nb+1 then some Kk else if b=h.nb+2 then some ⟨jD Fk,0,0⟩else if b=h.nb+3 then some ⟨jD s,0,0⟩else E b,E.imm⟩
 have I:E' h.nb=some ⟨u.1,u.2,C.size⟩ :=if_pos rfl;have e1:E' (h.nb+1) =some Kk:=by simp [E']
 have e2:E' (h.nb+2) =some ⟨jD Fk,0,0⟩ :=by simp [E']
 have e3:E' (h.nb+3) =some ⟨jD s,0,0⟩ :=by simp [E']
 have eo:∀ {b},b<h.nb∨h.nb+4≤b→E' b=E b:=fun {b} hb=>by
  simp only [E'];rw [if_neg (by omega),if_neg (by omega),if_neg (by omega),if_neg (by omega)]
 have hgb:=r.keys g _ H
 have v:∀ {i},i=u.1∨i∈Fk∨i∈s→i∈jH W.blk:=fun {i} c=>by
  refine(o4.mem_iff).1 ?_;rcases c with rfl|c|c
  ·simp
  ·simp [c]
  ·simp [c]
 have d1:u.1∉Fk:= (List.nodup_cons.1 A).1;have F:∀ {i},i∈s→i≠u.1∧i∉Fk:=fun {i} c=> ⟨fun f=>D u.1 (cQ ..) i c f.symm,fun f=>D i (cH _ f) i c rfl⟩;have z: (ts.set i none)[i]?=some none:=by
  rw [getElem?_set,if_pos rfl,if_pos (zq0.1 ht).1]
 have oc:OR E' w.heap ⟨u.1,u.2,C.size⟩ (ndC op n (.gl (h.nb+1) 1 0 ks.length false) (.ilst 4 (Pats.av ps) false)) :=bEK t1 rfl t2 t3 t4 (k1 E' e1) t5 (VR.of_emI (E:=E') t6);have oz:OR E' w.heap ⟨jD Fk,0,0⟩ (.zone true [h.nb+1] (cJ ks)) :=uR (Ls:=[Kk]) (by simp only [eI,map_nil,List.cons.injEq,and_true];exact e1) M (fun d H' c y=>k2 d H' c y);have oh:OR E' w.heap ⟨jD s,0,0⟩ (.zone true [h.nb] (eV us (ts.set i none) i)) :=uR (Ls:=[⟨u.1,u.2,C.size⟩]) (by simp only [eI,map_nil,List.cons.injEq,and_true];exact I) (OsAt.blk _ us s o3) (fun d H' c y=> ⟨Y,OsAt.go c _ us s o3 y,z,_,rfl,hu⟩)
 have J:∀ {b o L},h'.look b=some o→E' b=some L→¬ (b≠g∧h.look b=some o) → (b=h.nb∧o=ndC op n (.gl (h.nb+1) 1 0 ks.length false) (.ilst 4 (Pats.av ps) false) ∧L= ⟨u.1,u.2,C.size⟩) ∨ (b=h.nb+1∧o=gh) ∨ (b=h.nb+2∧o= .zone true [h.nb+1] (cJ ks) ∧L= ⟨jD Fk,0,0⟩) ∨ (b=h.nb+3∧o= .zone true [h.nb] (eV us (ts.set i none) i) ∧L= ⟨jD s,0,0⟩) :=fun {b o L} e k hb=>by
  rcases hl b o e with⟨rfl,rfl⟩ | ⟨rfl,rfl⟩ | ⟨rfl,rfl⟩ | ⟨rfl,rfl⟩ |O
  ·rw [I]at k;cases k;exact .inl ⟨rfl,rfl,rfl⟩
  ·exact .inr (.inl ⟨rfl,rfl⟩)
  ·rw [e2]at k;cases k;exact .inr (.inr (.inl ⟨rfl,rfl,rfl⟩))
  ·rw [e3]at k;cases k;exact .inr (.inr (.inr ⟨rfl,rfl,rfl⟩))
  ·exact absurd O hb
 obtain ⟨q1,q2,q3⟩ :=r.swap (E':=E') (h':=h') (fun b=>b≠g) (by omega) (fun b hb=>eo (.inl hb)) rfl (fun b hb=>by rw [eo (by omega)];exact r.fresh b (by omega))
  (fun b o e hb=>by
   have h2:b=g:=Classical.not_not.1 hb;subst h2;rw [H]at e;cases e;exact⟨rfl,rfl⟩)
  (fun b o e=>by
   have old:∀i,i∈jH W.blk→∃Z o0 L0,¬ (fun b=>b≠g) Z∧h.look Z=some o0∧E Z=some L0∧Own o0 L0 i:=fun i c=> ⟨g,_,W,fun f=>f rfl,H,g1,c⟩;rcases hl b o e with⟨rfl,rfl⟩ | ⟨rfl,rfl⟩ | ⟨rfl,rfl⟩ | ⟨rfl,rfl⟩ |O
   ·exact .inr ⟨by omega,rfl,rfl,fun f=>absurd f (by omega),_,I,oc,fun i c=>old i (v (.inl (Eq.symm c)))⟩
   ·exact .inr ⟨by omega,rfl,rfl,fun f=>absurd f (by omega),_,e1,aRl,fun i c=>absurd c lF⟩
   ·exact .inr ⟨by omega,rfl,rfl,fun f=>absurd f (by omega),_,e2,oz,fun i c=>old i (v (.inr (.inl (zone_own.1 c))))⟩
   ·exact .inr ⟨by omega,rfl,rfl,fun f=>absurd f (by omega),_,e3,oh,fun i c=>old i (v (.inr (.inr (zone_own.1 c))))⟩
   ·exact .inl O)
  (fun b b' o o' L L' n1 T e V k S t hm=>by
   obtain⟨x,p,q⟩ :=hm;rcases J e k n1 with⟨rfl,rfl,rfl⟩ | ⟨rfl,rfl⟩ | ⟨rfl,rfl,rfl⟩ | ⟨rfl,rfl,rfl⟩
   · obtain rfl:u.1=x:=p;rcases J V S T with⟨rfl,rfl,rfl⟩ | ⟨rfl,rfl⟩ | ⟨rfl,rfl,rfl⟩ | ⟨rfl,rfl,rfl⟩
     ·exact t rfl
     ·exact lF q
     ·exact d1 (zone_own.1 q)
     ·exact(F (zone_own.1 q)).1 rfl
   ·exact lF p
   · have p:=zone_own.1 p;rcases J V S T with⟨rfl,rfl,rfl⟩ | ⟨rfl,rfl⟩ | ⟨rfl,rfl,rfl⟩ | ⟨rfl,rfl,rfl⟩
     · obtain rfl:u.1=x:=q;exact d1 p
     ·exact lF q
     ·exact t rfl
     ·exact(F (zone_own.1 q)).2 p
   · have p:=zone_own.1 p;rcases J V S T with⟨rfl,rfl,rfl⟩ | ⟨rfl,rfl⟩ | ⟨rfl,rfl,rfl⟩ | ⟨rfl,rfl,rfl⟩
     · obtain rfl:u.1=x:=q;exact(F p).1 rfl
     ·exact lF q
     ·exact(F p).2 (zone_own.1 q)
     ·exact t rfl)
 refine⟨E',q1,q2,q3 m hm,fun cv hv=>?_⟩;simp only [VR]at hv ⊢;exact⟨_,I,by subst hv;rfl⟩
theorem sT {E:Emb}{h h':Hp}{w:World}(r:Rel E h w.heap)(G:List Nat){rs:List Nat}{Z:ZP}{F:List Nat}{Ls:List Loc}(z:h.nb<h'.nb)
  (hl:∀b o,h'.look b=some o→ (b=h.nb∧o= .zone true rs Z) ∨ (b∈G∧o=gh∧∃L,E b=some L) ∨ (b∉G∧h.look b=some o))
  (v:∀b∈G,∃o,h.look b=some o∧bQ o= [] ∧jL o=false) (u:map E.loc rs=map some Ls)
  (A:∀i∈F,(∃b∈G,∃o L,h.look b=some o∧E b=some L∧Own o L i) ∧∃C e,w.heap[i]?=some (.cells C e (0,0)))
  (hz:∀ (a:Imm) (y:Array Obj),Imm.le E.imm a→ (∀i∈F,y[i]?=w.heap[i]?) →Z F (map (fun K=> (K.blk,K.sh,K.sz)) Ls) a y) :
  ∃E',E.le E'∧Rel E' h' w.heap∧∀m,m≤h.nb→ExtM m E h w E' h' w:=by
 let E':=E.put h.nb ⟨jD F,0,0⟩
 have q:∀ {b},b≠h.nb→E' b=E b:=fun hb=>Emb.put_ne _ _ hb;have t:E.le E':=Emb.le_put (r.fresh _ (le_refl _));have p:∀b∈G,b<h.nb:=fun b hb=>by obtain⟨o,e,_⟩ :=v b hb;exact r.keys b o e
 have d:OR E' w.heap ⟨jD F,0,0⟩ (.zone true rs Z) :=uR (tL t.1 u) (fun i j=> (A i j).2) hz
 obtain⟨R,S,N⟩ :=r.swap (E':=E') (h':=h') (fun b=>b∉G) (le_of_lt z) (fun b hb=>q (by omega)) rfl (fun b hb=>by rw [q (by omega)];exact r.fresh b (by omega))
  (fun b o e hb=>by
   have hb:=Classical.not_not.1 hb;obtain⟨n,f,c,l⟩ :=v b hb;rw [e]at f;cases f;exact⟨c,l⟩)
  (fun b o e=>by
   rcases hl b o e with⟨rfl,rfl⟩ | ⟨c,rfl,L,l⟩ | ⟨c,l⟩
   · refine .inr ⟨z,rfl,rfl,fun g=>absurd g (lt_irrefl _),_,Emb.put_same _ _ _,d,fun i j=>?_⟩;obtain⟨⟨U,B,V,D,I,O,H⟩,_⟩ :=A i (zone_own.1 j);exact⟨U,V,D,fun g=>g B,I,O,H⟩
   · have:=p b c;refine .inr ⟨by omega,rfl,rfl,fun _=> ⟨fun g=>g c,?_⟩,L,by rw [q (by omega)];exact l,aRl,fun i j=>absurd j lF⟩;obtain⟨n,f,_⟩ :=v b c;exact⟨n,f⟩
   ·exact .inl ⟨c,l⟩)
  (fun b T o n L X J W e f k Y x hm=>by
   obtain⟨i,Q,M⟩ :=hm;rcases hl b o e with⟨rfl,rfl⟩ | ⟨_,rfl,_⟩ |s
   · rcases hl T n f with⟨rfl,rfl⟩ | ⟨_,rfl,_⟩ |s
     ·exact x rfl
     ·exact lF M
     ·exact W s
   ·exact lF Q
   ·exact J s)
 exact⟨E',R,S,N⟩
theorem aFO {h h':Hp}{b k gk g:Nat}{us:List (Nat×Nat)}{ts:List (Option XT)}{i:Nat}{op n:Int}{ks:List XT}{ps:List Pat}{len:Nat}{ex:Bool}{pv:AV}(hb:h.look b=some (ndC op n (.gl k 1 0 len ex) pv))(p:len=ks.length)(hp:∀E v,VR E pv v→VR E (.ilst 4 (Pats.av ps) false) v)
  (d:h.look gk=some (.zone true [k] (cJ ks))) (l:h.look g=some (.zone true [b] (eV us ts i))) (t:gk≠g) (hn:h.nb<h'.nb)
  (hl:∀x o,h'.look x=some o→ (x=h.nb∧o= .zone true [] (ZV us (ts.set i (some (.mk op n ks ps))))) ∨ (x∉ [b,gk,g] ∧h.look x=some o)) :kP h h':=fun E w r=>by
 obtain⟨f,q,X⟩ :=r.obj b _ hb;obtain⟨I,H,k2⟩ :=r.obj gk _ d;obtain⟨M,B,g2⟩ :=r.obj g _ l;obtain⟨S,R,C⟩ :=gJ k2;obtain⟨W,L,z2⟩ :=gJ g2;obtain⟨V,rfl⟩ :∃V,S= [V] :=by
  obtain⟨_,K,hK,_⟩ :=C
  match S,hK with
  | [x],_=>exact⟨x,rfl⟩
 obtain⟨J,u,s,K,hK,F⟩ :=z2;obtain⟨Q,rfl⟩ :∃Q,W= [Q] :=by
  match W,hK with
  | [x],_=>exact⟨x,rfl⟩
 simp only [eI,map_nil,List.cons.injEq,and_true]at R L hK;rw [q]at L;cases L;subst hK;have hT:=aRm R X p hp C;obtain⟨N,z,T⟩ :=u.put s hT (a:= (f.blk,f.sh));have D:us.set i (f.blk,f.sh) =us:=by
  apply List.ext_getElem?;intro j;rw [getElem?_set];split
  · rename_i Y;subst Y;split
    ·exact F.symm
    ·rename_i hl;rw [aEQ (by omega)]at F;cases F
  ·rfl
 rw [D]at z;have A:b≠gk:=fun e=>by subst e;rw [hb]at d;cases d
 have m:b≠g:=fun e=>by subst e;rw [hb]at l;cases l
 have d1:f.blk∉jH I.blk:=fun G=>r.noMeet hb d q H A rfl rfl ⟨_,rfl,G⟩;have d2:f.blk∉jH M.blk:=fun G=>r.noMeet hb l q B m rfl rfl ⟨_,rfl,G⟩;have d3:∀x∈jH I.blk,x∉jH M.blk:=fun x h1 h2=>r.noMeet d l H B t rfl rfl ⟨x,h1,h2⟩;have nd:N.Nodup:=by
  refine(T.nodup_iff).2 (List.nodup_append.2 ⟨List.nodup_cons.2 ⟨d1,C.1⟩,J,fun x c y U e=>?_⟩);subst e;rcases zq7.1 c with rfl|c
  ·exact d2 U
  ·exact d3 x c U
 refine sT r [b,gk,g] (Ls:=[]) hn (fun x o e=> (hl x o e).imp id .inr) (fun x c=>?_) rfl (fun x c=> ⟨?_,OsAt.blk _ us N z x c⟩) (fun O H' Z hH=> ⟨nd,OsAt.go Z _ us N z hH⟩)
 · rcases zq7.1 c with rfl|c
   ·exact⟨_,hb,rfl,rfl⟩
   · rcases zq7.1 c with rfl|c
     ·exact⟨_,d,rfl,rfl⟩
     ·rw [zq32.1 c];exact⟨_,l,rfl,rfl⟩
 · rcases zq28.1 ((T.mem_iff).1 c)with c|c
   · rcases zq7.1 c with rfl|c
     ·exact⟨b,by simp,_,f,hb,q,rfl⟩
     ·exact⟨gk,by simp,_,I,d,H,c⟩
   ·exact⟨g,by simp,_,M,l,B,c⟩
theorem aBP {h h':Hp}{b k g:Nat}{us:List (Nat×Nat)}{op n:Int}{ts:List XT}{ps:List Pat}{len:Nat}{ex:Bool}{pv:AV}(hb:h.look b=some (ndC op n (.gl k 1 0 len ex) pv))(l:len=ts.length)(hp:∀E v,VR E pv v→VR E (.ilst 4 (Pats.av ps) false) v)
  (hk:h.look k=some (.lst 1 (vls us))) (m:h.look g=some (.zone true [] (ZV us (ts.map some)))) (hn:h.nb<h'.nb)
  (hl:∀x o,h'.look x=some o→ (x=h.nb∧o= .zone true [b] (Z1 (.mk op n ts ps))) ∨ (x=b∧o=gh) ∨ (x∉ [b,k,g] ∧h.look x=some o)) :kP h h':=fun E w r=>by
 obtain⟨f,t,X⟩ :=r.obj b _ hb;obtain⟨D,R,g2⟩ :=r.obj g _ m;obtain⟨Gs,n2,A,J⟩ :=gJ g2;have y:=os_ts.1 J;have V:=y.len;have Q:b≠g:=fun e=>by subst e;rw [hb]at m;cases m
 have I:b≠k:=fun e=>by subst e;rw [hb]at hk;cases hk
 have S:k≠g:=fun e=>by subst e;rw [hk]at m;cases m
 have d2:f.blk∉jH D.blk:=fun z=>r.noMeet hb m t R Q rfl rfl ⟨_,rfl,z⟩
 have hG:∀x∈ [b,k,g],∃o,h.look x=some o∧bQ o= [] ∧jL o=false:=fun x c=>by
  rcases zq7.1 c with rfl|c
  ·exact⟨_,hb,rfl,rfl⟩
  · rcases zq7.1 c with rfl|c
    ·exact⟨_,hk,rfl,rfl⟩
    ·rw [zq32.1 c];exact⟨_,m,rfl,rfl⟩
 have G:∀x o,h'.look x=some o→ (x=h.nb∧o= .zone true [b] (Z1 (.mk op n ts ps))) ∨ (x∈ [b,k,g] ∧o=gh∧∃L,E x=some L) ∨ (x∉ [b,k,g] ∧h.look x=some o) :=fun x o e=>by
  rcases hl x o e with g| ⟨rfl,rfl⟩ |g
  ·exact .inl g
  ·exact .inr (.inl ⟨by simp,rfl,f,t⟩)
  ·exact .inr (.inr g)
 obtain⟨C,e,kv,p,N,c2,c3,c4,c5,Z,c7,c8⟩ :=aJu X;simp only [VR]at Z;by_cases s:ts= []
 · subst s;simp only [length_nil]at l;subst l
   have O:∀ (d:Imm) (H':Array Obj),Imm.le E.imm d→ (∀i∈ [f.blk],H'[i]?=w.heap[i]?) →Z1 (.mk op n [] ps) [f.blk] (map (fun K=> (K.blk,K.sh,K.sz)) [f]) d H':=fun d H' M T=>by
    refine⟨List.nodup_cons.2 ⟨by simp,nodup_nil⟩,_,rfl,?_⟩;simp only [TAt];refine⟨C,e,kv,p,[],by rw [T _ (by simp)];exact N,c3,c4,c5,c7,(VR.emI (by simp [keyless]) (hp E p c8)).mono (aCO M),rfl,.inl ⟨trivial,rfl,?_⟩⟩;rcases Z with⟨_,a,ha⟩ | ⟨L,a,U,_,h2,_⟩
    ·exact .inl ⟨a,ha⟩
    ·exact .inr ⟨(L.blk,a),U,h2⟩
   exact sT r [b,k,g] (Ls:=[f]) hn G hG (by simp only [eI,map_nil,List.cons.injEq,and_true];exact t) (fun x c=>by
    rw [zq32]at c;subst c;exact⟨⟨b,by simp,_,f,hb,t,rfl⟩,C,e,N⟩) O
 · have hu:kN (.lst 1 (vls us)) =false:=by
    cases us with
    |nil=>exact absurd (zq35.1 V.symm) s
    |cons u us=>rfl
   obtain⟨q,H,Y,el,vs,x1,x2,W,x4,x5⟩ :=r.obj k _ hk hu;have W:=vls_vrs.1 W;subst W;have d1:q.blk∉jH D.blk:=fun z=>r.noMeet hk m H R S rfl rfl ⟨_,rfl,z⟩;have d3:f.blk≠q.blk:=fun z=>r.noMeet hb hk t H I rfl rfl ⟨_,z,rfl⟩
   have B:cJ ts (q.blk::jH D.blk) [(q.blk,q.sh,q.sz)] E.imm w.heap:= ⟨List.nodup_cons.2 ⟨d1,A⟩,_,rfl,.inr ⟨Y,el,us,_,s,rfl,x1,x2,fun j hj=>by
    have:=x5 j (by rw [lB];omega);rw [this,mC],y⟩⟩
   have O:=aRm H X l hp B;refine sT r [b,k,g] (Ls:=[f]) (F:=f.blk:: (q.blk::jH D.blk)) hn G hG (by simp only [eI,map_nil,List.cons.injEq,and_true];exact t) (fun x c=>?_) (fun d H' M T=> ⟨List.nodup_cons.2 ⟨?_,List.nodup_cons.2 ⟨d1,A⟩⟩,_,rfl,TAt.go M _ _ _ O T⟩)
   · rcases zq7.1 c with rfl|c
     ·exact⟨⟨b,by simp,_,f,hb,t,rfl⟩,C,e,N⟩
     · rcases zq7.1 c with rfl|c
       ·exact⟨⟨k,by simp,_,q,hk,H,rfl⟩,Y,el,x1⟩
       ·exact⟨⟨g,by simp,_,D,m,R,c⟩,TsAt.blk ts us _ y x c⟩
   · intro c;rcases zq7.1 c with c|c
     ·exact d3 c
     ·exact d2 c
theorem aVL {h h':Hp}{b:Nat}{op n:Int}{ps:List Pat}{kv pv:AV}(hb:h.look b=some (ndC op n kv pv))(hk:∀E v,VR E kv v→∃a,v= .slice a 0 0)(hp:∀E v,VR E pv v→VR E (.ilst 4 (Pats.av ps) false) v)(u:h.nb<h'.nb)
  (hl:∀x o,h'.look x=some o→ (x=h.nb∧o= .zone true [b] (Z1 (.mk op n [] ps))) ∨ (x=b∧o=gh) ∨ (x∉ [b] ∧h.look x=some o)) :kP h h':=fun E w r=>by
 obtain⟨d,j,D⟩ :=r.obj b _ hb;obtain⟨C,e,k,p,l,H,y,t,q,A,m,B⟩ :=aJu D;obtain⟨a,s⟩ :=hk E k A
 have G:∀ (c:Imm) (H':Array Obj),Imm.le E.imm c→ (∀i∈ [d.blk],H'[i]?=w.heap[i]?) →Z1 (.mk op n [] ps) [d.blk] (map (fun K=> (K.blk,K.sh,K.sz)) [d]) c H':=fun c H' F z=>by
  refine⟨List.nodup_cons.2 ⟨by simp,nodup_nil⟩,_,rfl,?_⟩;simp only [TAt];exact⟨C,e,k,p,[],by rw [z _ (by simp)];exact l,y,t,q,m,(VR.emI (by simp [keyless]) (hp E p B)).mono (aCO F),rfl,.inl ⟨trivial,rfl,.inl ⟨a,s⟩⟩⟩
 exact sT r [b] (rs:=[b]) (Ls:=[d]) u (fun x o e=>by
  rcases hl x o e with g| ⟨rfl,rfl⟩ |g
  ·exact .inl g
  ·exact .inr (.inl ⟨by simp,rfl,d,j⟩)
  · exact .inr (.inr g)) (fun x f=>by rw [zq32.1 f];exact⟨_,hb,rfl,rfl⟩) (by simp only [eI,map_nil,List.cons.injEq,and_true];exact j) (fun x f=>by
    rw [zq32]at f;subst f;exact⟨⟨b,by simp,_,d,hb,j,rfl⟩,C,e,l⟩) G
theorem aCR {E:Emb}{h h':Hp}{w:World}(r:Rel E h w.heap)(G:List Nat){rs:List Nat}{Z:ZP}{F:List Nat}{Ls:List Loc}{kk:Nat}{ok:AObj}{Lk:Loc}(U:h.nb<h'.nb)
  (hl:∀b o,h'.look b=some o→ (b=h.nb∧o= .zone true rs Z) ∨ (b=kk∧o=ok) ∨ (b∈G∧o=gh∧∃L,E b=some L) ∨ (b∉G∧h.look b=some o))
  (O:∀b∈G,∃o,h.look b=some o∧bQ o= [] ∧jL o=false) (M:map E.loc rs=map some Ls)
  (z:kk∈G) (s:E kk=some Lk) (v:bQ ok= [] ∧jL ok=false) (N:OR E w.heap Lk ok) (l:∀i,Own ok Lk i→i∉F∧∃b∈G,∃o L,h.look b=some o∧E b=some L∧Own o L i)
  (hF:∀i∈F,(∃b∈G,∃o L,h.look b=some o∧E b=some L∧Own o L i) ∧∃C e,w.heap[i]?=some (.cells C e (0,0)))
  (hz:∀ (d:Imm) (T:Array Obj),Imm.le E.imm d→ (∀i∈F,T[i]?=w.heap[i]?) →Z F (map (fun K=> (K.blk,K.sh,K.sz)) Ls) d T) :
  ∃E',E.le E'∧Rel E' h' w.heap∧∀m,m≤h.nb→ExtM m E h w E' h' w:=by
 let E':=E.put h.nb ⟨jD F,0,0⟩
 have q:∀ {b},b≠h.nb→E' b=E b:=fun hb=>Emb.put_ne _ _ hb;have u:E.le E':=Emb.le_put (r.fresh _ (le_refl _));have p:∀b∈G,b<h.nb:=fun b hb=>by obtain⟨o,e,_⟩ :=O b hb;exact r.keys b o e
 have hkb:=p kk z;have j:OR E' w.heap ⟨jD F,0,0⟩ (.zone true rs Z) :=uR (tL u.1 M) (fun i g=> (hF i g).2) hz
 obtain ⟨q1,q2,q3⟩ :=r.swap (E':=E') (h':=h') (fun b=>b∉G) (le_of_lt U) (fun b hb=>q (by omega)) rfl (fun b hb=>by rw [q (by omega)];exact r.fresh b (by omega))
  (fun b o e hb=>by
   have hb:=Classical.not_not.1 hb;obtain⟨A,f,c,B⟩ :=O b hb;rw [e]at f;cases f;exact⟨c,B⟩)
  (fun b o e=>by
   have old:∀ {b},b∈G→b<h.nb→¬ (fun b=>b∉G) b∧∃o0,h.look b=some o0:=fun {b} c _=> ⟨fun a=>a c,by obtain⟨A,f,_⟩ :=O b c;exact⟨A,f⟩⟩;rcases hl b o e with⟨rfl,rfl⟩ | ⟨rfl,rfl⟩ | ⟨c,rfl,L,B⟩ | ⟨c,B⟩
   · refine .inr ⟨U,rfl,rfl,fun a=>absurd a (lt_irrefl _),_,Emb.put_same _ _ _,j,fun i g=>?_⟩;obtain⟨⟨R,D,o0,H,J,Q,I⟩,_⟩ :=hF i (zone_own.1 g);exact⟨R,o0,H,fun a=>a D,J,Q,I⟩
   · refine .inr ⟨by omega,v.1,v.2,old z,Lk,by rw [q (by omega)];exact s,N.mono u,fun i g=>?_⟩;obtain⟨_,R,D,o0,H,J,Q,I⟩ :=l i g;exact⟨R,o0,H,fun a=>a D,J,Q,I⟩
   · have:=p b c;exact .inr ⟨by omega,rfl,rfl,old c,L,by rw [q (by omega)];exact B,aRl,fun i g=>absurd g lF⟩
   ·exact .inl ⟨c,B⟩)
  (fun b W o A L L' n1 X e f k V x hm=>by
   obtain⟨i,y,n⟩ :=hm;have S:∀ {L:Loc},E' h.nb=some L→L= ⟨jD F,0,0⟩ :=fun a=>by rw [Emb.put_same]at a;cases a;rfl
   have Y:∀ {L:Loc},E' kk=some L→L=Lk:=fun a=>by rw [q (by omega),s]at a;cases a;rfl
   rcases hl b o e with⟨rfl,rfl⟩ | ⟨rfl,rfl⟩ | ⟨_,rfl,_⟩ |t
   · rcases hl W A f with⟨rfl,rfl⟩ | ⟨rfl,rfl⟩ | ⟨_,rfl,_⟩ |t
     ·exact x rfl
     · rw [S k]at y;rw [Y V]at n;exact(l i n).1 (zone_own.1 y)
     ·exact lF n
     ·exact X t
   · rcases hl W A f with⟨rfl,rfl⟩ | ⟨rfl,rfl⟩ | ⟨_,rfl,_⟩ |t
     · rw [Y k]at y;rw [S V]at n;exact(l i y).1 (zone_own.1 n)
     ·exact x rfl
     ·exact lF n
     ·exact X t
   ·exact lF y
   ·exact n1 t)
 exact⟨E',q1,q2,q3⟩
theorem aJv {E:Emb}{H:Array Obj}{L:Loc}{C:Array Value}{b:TypeId}{us:List (Nat×Nat)}(h1:H[L.blk]?=some (.cells C b (0,0)))(h2:C.size=L.sz)(d:∀j,j<us.length→C[L.sh+j]?= (us.map adr)[j]?) :OR E H L (.lst 1 (vls us)) :=
 ⟨C,b,us.map adr,h1,h2,vls_vrs.2 rfl,fun u c=>by obtain⟨a,_,rfl⟩ :=zq24.1 c;exact aJt a,fun j e=>by rw [mC];exact d j (by rw [lB]at e;omega)⟩
theorem xP {h:Hp}{h':List (Nat×Nat) →Hp}{k g:Nat}{o:AObj}{ts:List XT}(hk:h.look k=some o)(O:o=gh)(m:h.look g=some (.zone true [k] (cJ ts)))(q:ts≠ [])(H:∀a,h.nb< (h' a).nb)
  (hl:∀a b o,(h' a).look b=some o→ (b=h.nb∧o= .zone true [] (ZV a (ts.map some))) ∨ (b=k∧o= .lst 1 (vls a)) ∨ (b∉ [k,g] ∧h.look b=some o)) :aAN h (fun a=>a.length=ts.length) h':=fun E w r=>by
 subst O;obtain⟨n,v,Q⟩ :=r.obj g _ m;obtain⟨Ls,y,f,K,hK,hz⟩ :=gJ Q;obtain⟨Lk,rfl⟩ :∃Lk,Ls= [Lk] :=by
  match Ls,hK with
  | [x],_=>exact⟨x,rfl⟩
 simp only [eI,map_nil,List.cons.injEq,and_true]at y hK;subst hK;rcases hz with⟨J,_⟩ | ⟨C,e,a,t,_,l,D,A,z,u⟩
 ·exact absurd J q
 · rw [l]at f;obtain⟨d,s⟩ :=List.nodup_cons.1 f;simp only at D A z d l;have p:=u.len
   obtain⟨G,M,N,L⟩ :=aCR (h':=h' a) r [k,g] (rs:=[]) (Z:=ZV a (ts.map some)) (F:=t) (Ls:=[]) (kk:=k) (ok:=.lst 1 (vls a)) (Lk:=Lk) (H a) (fun b o e=>by
    rcases hl a b o e with g|g|g
    ·exact .inl g
    ·exact .inr (.inl g)
    · exact .inr (.inr (.inr g))) (fun b hb=>by
      rcases zq7.1 hb with rfl|hb
      ·exact⟨_,hk,rfl,rfl⟩
      ·rw [zq32.1 hb];exact⟨_,m,rfl,rfl⟩) rfl (by simp) y ⟨rfl,rfl⟩ (aJv D A (fun j S=>z j (by omega))) (fun i c=>by
      obtain rfl:Lk.blk=i:=c;exact⟨d,g,by simp,_,n,m,v,by show _∈jH n.blk;rw [l];simp⟩) (fun i c=> ⟨⟨g,by simp,_,n,m,v,by show _∈jH n.blk;rw [l];simp [c]⟩,TsAt.blk ts a t u i c⟩)
      (fun B R c I=> ⟨s,os_ts.2 (TsAt.go c ts a t u I)⟩)
   exact⟨a,G,p,M,N,L⟩
theorem aJw {h:Hp}{h':Nat×Nat→Hp}{k g gz z:Nat}{us:List (Nat×Nat)}{ts:List (Option XT)}{i:Nat}{t:XT}(hk:h.look k=some (.lst 1 ((vls us).set i (.ptr z 0))))(l:h.look g=some (.zone true [] (ZV us ts)))(hz:h.look gz=some (.zone true [z] (Z1 t)))(X:ts[i]?=some none)(D:g≠gz)(hn:∀u,h.nb< (h' u).nb)
  (hl:∀u b o,(h' u).look b=some o→ (b=h.nb∧o= .zone true [] (ZV (us.set i u) (ts.set i (some t)))) ∨ (b=k∧o= .lst 1 (vls (us.set i u))) ∨ (b∉ [k,g,gz] ∧h.look b=some o)) :aAN h (fun _=>True) h':=fun E w r=>by
 obtain⟨O,H,g2⟩ :=r.obj g _ l;obtain⟨Ls,_,G,n⟩ :=gJ g2;obtain⟨R,J,z2⟩ :=r.obj gz _ hz;obtain⟨T,W,zd,K,hK,hT⟩ :=gJ z2;obtain⟨c,rfl⟩ :∃c,T= [c] :=by
  match T,hK with
  | [x],_=>exact⟨x,rfl⟩
 simp only [eI,map_nil,List.cons.injEq,and_true]at W hK;subst hK;have m:i<us.length:=by
  have:= (zq0.1 X).1;rw [n.len];exact this
 have hu:kN (.lst 1 ((vls us).set i (.ptr z 0))) =false:=by
  cases us with
  |nil=>simp at m
  |cons u us=>cases i<;>rfl
 obtain⟨Lk,A,C,el,vs,x1,x2,M,x4,x5⟩ :=r.obj k _ hk hu;have N:vs= (us.set i (c.blk,c.sh)).map adr:=by
  have:VRs E ((vls us).set i (.val (adr (c.blk,c.sh)))) vs:=by
   refine VRs.of_get (by rw [fN,M.length,fN]) (fun j a p=>?_);rw [getElem?_set]at p;split at p
   · rename_i f;subst f;have q:i< (vls us).length:=by simpa [vls]using m
     rw [if_pos q]at p;cases p;obtain⟨v,v1,Y⟩ :=M.get i (.ptr z 0) (by rw [getElem?_set,if_pos rfl,if_pos q]);simp only [VR]at Y ⊢;obtain⟨L,S,l2⟩ :=Y;rw [W]at S;cases S;exact⟨v,v1,by rw [l2];rfl⟩
   · rename_i f;exact M.get j a (by rw [getElem?_set,if_neg f];exact p)
  have e: (vls us).set i (.val (adr (c.blk,c.sh))) =vls (us.set i (c.blk,c.sh)) :=by simp [vls,List.map_set]
  rw [e]at this;exact vls_vrs.1 this
 subst N;have I:k≠g:=fun e=>by subst e;rw [hk]at l;cases l
 have B:k≠gz:=fun e=>by subst e;rw [hk]at hz;cases hz
 have d1:Lk.blk∉jH O.blk:=fun d=>r.noMeet hk l A H I rfl rfl ⟨_,rfl,d⟩;have d2:Lk.blk∉jH R.blk:=fun d=>r.noMeet hk hz A J B rfl rfl ⟨_,rfl,d⟩;have d3:∀x∈jH R.blk,x∉jH O.blk:=fun x h1 h2=>r.noMeet l hz H J D rfl rfl ⟨x,h2,h1⟩;obtain⟨s,U,Q⟩ :=n.put X hT;have nd:s.Nodup:= (Q.nodup_iff).2 (List.nodup_append.2 ⟨zd,G,fun x hx y hy e=>by subst e;exact d3 x hx hy⟩)
 obtain ⟨E',q1,q2,q3⟩ :=aCR (h':=h' (c.blk,c.sh)) r [k,g,gz] (rs:=[]) (Z:=ZV (us.set i (c.blk,c.sh)) (ts.set i (some t))) (F:=s) (Ls:=[]) (kk:=k) (ok:=.lst 1 (vls (us.set i (c.blk,c.sh)))) (Lk:=Lk) (hn _) (fun b o e=>by
   rcases hl _ b o e with g|g|g
   ·exact .inl g
   ·exact .inr (.inl g)
   · exact .inr (.inr (.inr g))) (fun b hb=>by
     rcases zq7.1 hb with rfl|hb
     ·exact⟨_,hk,rfl,rfl⟩
     · rcases zq7.1 hb with rfl|hb
       ·exact⟨_,l,rfl,rfl⟩
       ·rw [zq32.1 hb];exact⟨_,hz,rfl,rfl⟩) rfl (by simp) A ⟨rfl,rfl⟩ (aJv x1 x2 (fun j f=>by have:=x5 j (by rw [lB];omega);rw [this,mC])) (fun j f=>by
     obtain rfl:Lk.blk=j:=f;refine⟨fun d=>?_,k,by simp,_,Lk,hk,A,rfl⟩;rcases zq28.1 ((Q.mem_iff).1 d)with d|d
     ·exact d2 d
     ·exact d1 d) (fun j f=>by
     refine⟨?_,OsAt.blk _ _ s U j f⟩;rcases zq28.1 ((Q.mem_iff).1 f)with d|d
     ·exact⟨gz,by simp,_,R,hz,J,d⟩
     ·exact⟨g,by simp,_,O,l,H,d⟩)
     (fun V H' hi hH=> ⟨nd,OsAt.go hi _ _ s U hH⟩)
 exact⟨_,E',trivial,q1,q2,q3⟩
theorem OsAt.add {c:Imm}{H:Array Obj}{a:Nat×Nat}{t:XT}{f:List Nat}(j:TAt c H a t f) :∀ {e:List (Option XT)} {d:List (Nat×Nat)} {F:List Nat},OsAt c H d e F→OsAt c H (d++ [a]) (e++ [some t]) (F++f)
 | [],d,F,h=>by
  simp only [OsAt]at h;obtain⟨rfl,rfl⟩ :=h;simp only [List.nil_append,OsAt];exact⟨a,[],f,[],rfl,by simp,j,rfl,rfl⟩
 | some n::e,d,F,h=>by
  simp only [OsAt]at h;obtain⟨i,b,m,k,rfl,rfl,l,g⟩ :=h;simp only [vV,OsAt];exact⟨i,b++ [a],m,k++f,rfl,by simp,l,OsAt.add j g⟩
 | none::e,d,F,h=>by
  simp only [OsAt]at h;obtain⟨i,b,rfl,g⟩ :=h;simp only [vV,OsAt];exact⟨i,b++ [a],rfl,OsAt.add j g⟩
theorem aEe {h:Hp}{h':Nat×Nat→Hp}{k g gz z:Nat}{us:List (Nat×Nat)}{ts:List (Option XT)}{t:XT}(hk:h.look k=some (.lst 1 (vls us++ [.ptr z 0])))(f:h.look g=some (.zone true [] (ZV us ts)))(hz:h.look gz=some (.zone true [z] (Z1 t)))(A:g≠gz)(hn:∀u,h.nb< (h' u).nb)
  (hl:∀u b o,(h' u).look b=some o→ (b=h.nb∧o= .zone true [] (ZV (us++ [u]) (ts++ [some t]))) ∨ (b=k∧o= .lst 1 (vls (us++ [u]))) ∨ (b∉ [k,g,gz] ∧h.look b=some o)) :aAN h (fun _=>True) h':=fun E w r=>by
 obtain⟨n,G,g2⟩ :=r.obj g _ f;obtain⟨Ls,_,M,B⟩ :=gJ g2;obtain⟨l,I,z2⟩ :=r.obj gz _ hz;obtain⟨T,R,zd,K,hK,Y⟩ :=gJ z2;obtain⟨c,rfl⟩ :∃c,T= [c] :=by
  match T,hK with
  | [x],_=>exact⟨x,rfl⟩
 simp only [eI,map_nil,List.cons.injEq,and_true]at R hK;subst hK;have hu:kN (.lst 1 (vls us++ [.ptr z 0])) =false:=by cases us<;>rfl
 obtain⟨Lk,p,C,el,N,x1,x2,U,x4,W⟩ :=r.obj k _ hk hu;have J:N= (us++ [(c.blk,c.sh)]).map adr:=by
  have d:= (U.take us.length);have m:= (U.drop us.length);have hl: (vls us).length=us.length:=by simp [vls]
  rw [←hl,List.take_left]at d;rw [←hl,List.drop_left]at m;rw [hl]at d m;have d:=vls_vrs.1 d;obtain⟨v,vs',e,q,D⟩ :=m.cons_inv;have:=D.nil_inv;subst this;simp only [VR]at q;obtain⟨L,S,V⟩ :=q;rw [R]at S;cases S;rw [←List.take_append_drop us.length N,d,e,V];simp [adr]
 subst J;have H:k≠g:=fun e=>by subst e;rw [hk]at f;cases f
 have s:k≠gz:=fun e=>by subst e;rw [hk]at hz;cases hz
 have d1:Lk.blk∉jH n.blk:=fun a=>r.noMeet hk f p G H rfl rfl ⟨_,rfl,a⟩;have d2:Lk.blk∉jH l.blk:=fun a=>r.noMeet hk hz p I s rfl rfl ⟨_,rfl,a⟩;have d3:∀x∈jH l.blk,x∉jH n.blk:=fun x d m=>r.noMeet f hz G I A rfl rfl ⟨x,m,d⟩;have O:=B.add Y;have nd: (jH n.blk++jH l.blk).Nodup:=List.nodup_append.2 ⟨M,zd,fun x hx y hy e=>by subst e;exact d3 x hy hx⟩
 obtain ⟨E',q,D,q3⟩ :=aCR (h':=h' (c.blk,c.sh)) r [k,g,gz] (rs:=[]) (Z:=ZV (us++ [(c.blk,c.sh)]) (ts++ [some t])) (F:=jH n.blk++jH l.blk) (Ls:=[]) (kk:=k) (ok:=.lst 1 (vls (us++ [(c.blk,c.sh)]))) (Lk:=Lk) (hn _) (fun b o e=>by
   rcases hl _ b o e with g|g|g
   ·exact .inl g
   ·exact .inr (.inl g)
   · exact .inr (.inr (.inr g))) (fun b hb=>by
     rcases zq7.1 hb with rfl|hb
     ·exact⟨_,hk,rfl,rfl⟩
     · rcases zq7.1 hb with rfl|hb
       ·exact⟨_,f,rfl,rfl⟩
       ·rw [zq32.1 hb];exact⟨_,hz,rfl,rfl⟩) rfl (by simp) p ⟨rfl,rfl⟩ (aJv x1 x2 (fun j i=>by have:=W j (by rw [lB];omega);rw [this,mC])) (fun j i=>by
     obtain rfl:Lk.blk=j:=i;refine⟨fun a=>?_,k,by simp,_,Lk,hk,p,rfl⟩;rcases zq28.1 a with a|a
     ·exact d1 a
     ·exact d2 a) (fun j i=>by
     refine⟨?_,OsAt.blk _ _ _ O j i⟩;rcases zq28.1 i with a|a
     ·exact⟨g,by simp,_,n,f,G,a⟩
     ·exact⟨gz,by simp,_,l,hz,I,a⟩)
     (fun Q H' X hH=> ⟨nd,OsAt.go X _ _ _ O hH⟩)
 exact⟨_,E',trivial,q,D,q3⟩
def snap (H:Array Obj) :Imm:=fun k=>match H[k]? with
 |some (.cells C _ _) =>some C
 |_=>none
theorem sU {H:Array Obj}{k:Nat}{C:Array Value}{e:TypeId}{f:Nat×Nat}(h:H[k]?=some (.cells C e f)) :snap H k=some C:=by
 unfold snap;rw [h]
theorem aLP {H:Array Obj}{k:Nat}{C:Array Value}(h:snap H k=some C) :∃e f,H[k]?=some (.cells C e f) :=by
 unfold snap at h;split at h
 ·rename_i a e f he;cases h;exact⟨e,f,he⟩
 ·cases h
theorem Rel.snap {E:Emb}{h:Hp}{H:Array Obj}(r:Rel E h H) :Imm.le E.imm (snap H) :=fun k C e=>by
 obtain⟨a,f,g⟩ :=r.imm k C e;exact sU g
mutual
theorem aLQ {f:Imm}{H:Array Obj}(m:Imm.le f (snap H)) :∀ (t:XT) (a:Nat×Nat) (F:List Nat),TAt f H a t F→VR (emI (snap H)) (XT.av t) (adr a)
 | .mk o n k M,a,F,h=>by
  simp only [TAt]at h;obtain⟨C,e,kv,v,O,s,K,y,q,B,A,rfl,D⟩ :=h;have l:VR (emI (snap H)) (.ilst 1 (XTs.av k) false) kv:=by
   rcases D with⟨rfl,rfl,x⟩ | ⟨b,c,z,S,i,J,p,Q,I,R,r,w,G,N,L⟩
   · simp only [VR];refine⟨[],VRs.nil _,fun _ g=>by(cases g),.inl ⟨rfl,?_⟩⟩;rcases x with⟨b,rfl⟩ | ⟨b,c,rfl⟩
     ·exact⟨b,0,rfl,fun _=>rfl,fun h=>by(cases h)⟩
     ·exact⟨_,c,rfl,fun h=>by(cases h),fun h=>by(cases h)⟩
   · simp only [VR];have hl: (i.map adr).length=k.length:=by rw [lB,w]
     refine⟨i.map adr,aHT m k i J L,fun u g=>by obtain⟨x,_,rfl⟩ :=zq24.1 g;exact aJt x,.inr ⟨b.1,b.2,c,z,by rw [hl];exact p,sU r,by rw [hl];exact I,fun h=>by(cases h),fun j d=>?_⟩⟩;rw [hl,mul_one]at d;rw [mC];exact G j d
  simp only [XT.av,VR];refine⟨[.int .i64 o,.int .i64 n,kv,v],VRs.cons (by simp only [VR]) (VRs.cons (by simp only [VR]) (VRs.cons l (VRs.cons (A.mono (aCO m)) (VRs.nil _)))),a.1,a.2,C,rfl,sU s,fun j d=>?_⟩
  match j,d with
  |0,_=>exact K
  |1,_=>exact y
  |2,_=>exact q
  |3,_=>exact B
  |j+4,d=>simp at d;omega
theorem aHT {b:Imm}{H:Array Obj}(f:Imm.le b (snap H)) :∀ (c:List XT) (d:List (Nat×Nat)) (F:List Nat),TsAt b H d c F→VRs (emI (snap H)) (XTs.av c) (d.map adr)
 | [],d,F,h=>by simp only [TsAt]at h;rw [h.1];exact VRs.nil _
 | t::c,d,F,h=>by
  simp only [TsAt]at h;obtain⟨a,e,k,g,rfl,rfl,j,i⟩ :=h;exact VRs.cons (aLQ f t a k j) (aHT f c e g i)
end
def aFP (v:AV) :Prop:=∀E E' cv,VR E v cv→VR E' v cv
theorem aLR {k:IntKind}{n:Int}:aFP (.int k n) :=fun E a b h=>by simpa only [VR]using h
theorem aSI :aFP .nili:=fun E b a h=>by simpa only [VR]using h
theorem aFQ {t:Nat}{v:AV}(b:aFP v) :aFP (.iface t v) :=fun E d e h=>by
 simp only [VR]at h ⊢;obtain⟨u,a,c⟩ :=h;exact⟨u,a,b E d u c⟩
theorem aSJ :aFP (.agg []) :=fun E b a h=>by simpa only [VR,VRs]using h
theorem aDz {f:Nat}{j m:List AV}{v:AV}{h:Hp}(hp:aM P f m v)(hf:aFP v)(D:j.length=m.length)
  (R:∀ (E:Emb) (H:Array Obj) (d:List Value),Rel E h H→VRs E j d→VRs (emI (snap H)) m d) :Spec P (.enter f j) h (.ret v) h:=by
 obtain⟨gB,n,he⟩ :=hp ⟨.leaf,0⟩;simp only [dW,dG]at n;split at n
 · rename_i fn G;split at n
   · rename_i c hc;cases n;refine⟨⟨f,dV .leaf 0 j,max fn.ntmps j.length,[.code c],[],.run,.normal,none⟩,by simp [dW,dG,G,hc],fun hm E fr Z w fr' fs r O z=>?_⟩;simp only at fs;rw [fs.nil_inv]
     have J:∀ {l:List AV} {t:Nat} {a:AV},(dV .leaf 0 l).at t=some a→l[t]?=some a:=fun {l t a} e=>by
      unfold dV at e;rw [bF]at e;split at e
      ·exact e
      ·cases e
     have B:∀ {l:List AV} {t:Nat} {a:AV},l[t]?=some a→ (dV .leaf 0 l).at t=some a:=fun {l t a} e=>by
      unfold dV;rw [bF,if_pos (zq0.1 e).1];exact e
     have F:∃d:List Value,VRs E j d∧∀ (t:Nat),t<j.length→fr.tmps[t]?=d[t]?:=by
      have W:j.length≤fr.tmps.size:=by have:=fr'.tm.1;simp only at this;omega
      refine⟨(fr.tmps.toList.take j.length),VRs.of_get (by simp;omega) (fun i a p=>?_),fun t X=>?_⟩
      · have A:= (zq0.1 p).1;obtain⟨y,s,q⟩ :=fr'.tm.2 i a (B p);exact⟨y,by rw [List.getElem?_take_of_lt A,rO];exact s,q⟩
      ·rw [List.getElem?_take_of_lt X,rO]
     obtain⟨d,c1,Y⟩ :=F;have V:=R E w.heap d r c1;have I:FR (emI (snap w.heap)) ⟨f,dV .leaf 0 m,max fn.ntmps m.length,[.code c],[],.run,.normal,none⟩ fr:=by
      refine⟨fr'.fn,⟨by have:=fr'.tm.1;rw [←D];exact this,fun t a e=>?_⟩,?_,?_,fr'.mode,fr'.kind,?_⟩
      · have M:=J e;have A:= (zq0.1 M).1;obtain⟨y,s,q⟩ :=V.get t a M;exact⟨y,by rw [Y t (by omega)];exact s,q⟩
      ·have:=fr'.todo;simpa [IRs,IR]using this
      ·have:=fr'.defers;simpa [DRs]using this
      ·have:=fr'.round;simpa [RR]using this
     have S:Rel (emI (snap w.heap)) ⟨.leaf,0⟩ w.heap:= ⟨fun b o e=>by simp [Hp.look,T.at_leaf]at e,fun b b' o o' L L' e=>by simp [Hp.look,T.at_leaf]at e,fun _ _=>rfl,fun k C e=>aLP e,fun b o L e=>by simp [Hp.look,T.at_leaf]at e,fun b o e=>by simp [Hp.look,T.at_leaf]at e⟩;obtain⟨Q,K,U,s,⟨y,rfl,q⟩,g3,x⟩ :=he (Nat.zero_le _) (emI (snap w.heap)) fr [] w I rfl S O z;have keep:∀i,i<w.heap.size→K.heap[i]?=w.heap[i]?:=fun i p=>x.keep i p (fun b o L e=>by simp [Hp.look,T.at_leaf]at e);refine⟨_,K,E,s,⟨y,rfl,hf U E y q⟩,⟨fun b o e=>?_,r.kin,r.fresh,fun k C e=>?_,r.apart,r.keys⟩,⟨fun _ _=>rfl,fun _ _ e=>e,x.size,fun i p _=>keep i p,fun b o L e k i p _=> ⟨b,o,L,e,k,p⟩,hm,x.os,x.tape,x.output,x.froz,fun k C e _=>.inl e,fun b o e _=> ⟨o,e⟩⟩⟩
     · rcases r.obj0 b o e with u| ⟨L,s,q⟩
       ·exact .inl u
       ·exact .inr ⟨L,s,q.heap fun i p=>keep _ (q.lt i p)⟩
     · obtain⟨N,I,g⟩ :=r.imm k C e;exact⟨N,I,by rw [keep k (zq44.1 g).1];exact g⟩
   ·cases n
 ·cases n
def aV (a:Nat×Nat) :AV:=.val (adr a)
theorem aFR (b:Nat→Nat) :∀a:List (Nat×Nat),renL b (map aV a) =map aV a
 | [] =>rfl
 |u::a=>by rw [eI,renL,aFR b a];rfl
theorem aZ6 {b:Nat→Nat}{z a:Nat}(us:List (Nat×Nat))(hz:b a=z) :renL b (map aV us++ [.ptr a 0]) =map aV us++ [.ptr z 0] :=by
 rw [aDr,aFR,←hz];rfl
theorem aLS (c:Nat→Nat) :∀ (b:List AV) (i:Nat) (a:AV),renL c (b.set i a) = (renL c b).set i (ren c a)
 | [],_,_=>rfl
 |x::b,0,a=>rfl
 |x::b,i+1,a=>by simp only [set_cons_succ,renL,aLS c b i a]
theorem aVM {b:Nat→Nat}{z a:Nat}(us:List (Nat×Nat))(i:Nat)(hz:b a=z) :renL b ((map aV us).set i (.ptr a 0)) = (map aV us).set i (.ptr z 0) :=by
 rw [aLS,aFR,←hz];rfl
theorem wc {c:Type}{a b:c}{l k:List c}(h:a=b)(g:l=k) :a::l=b::k:=by rw [h,g]
theorem wn {a:Type}: ([] :List a) = [] :=rfl
theorem aBQ {b:Nat→Nat}{z a:Nat}{us:List (Nat×Nat)}(hz:b a=z) :some (bif false then AObj.lst 1 (map aV us++ [.ptr a 0])else(AObj.lst 1 (map aV us++ [.ptr a 0])).ren b) =some (AObj.lst 1 (map aV us++ [.ptr z 0])) :=by
 show some (AObj.lst 1 (renL b _)) =_;rw [aZ6 us hz]
theorem zA {b:Nat→Nat}{z a:Nat}{us:List (Nat×Nat)}{i:Nat}(hz:b a=z) :some (bif false then AObj.lst 1 ((map aV us).set i (.ptr a 0))else(AObj.lst 1 ((map aV us).set i (.ptr a 0))).ren b) =some (AObj.lst 1 ((map aV us).set i (.ptr z 0))) :=by
 show some (AObj.lst 1 (renL b _)) =_;rw [aVM us i hz]
theorem lG {m:Nat}{is:List Ins}{s t:TS}{ks:List Nat}{n1:Nat}{ps:List Prop}{W:List (Option AObj)}(hW:iF (fA m t.nb n1 ks) t.hp=W)(c:way P m is s t ks=some (n1,⟨aFp (fA m t.nb n1 ks) t.fr,t.cs.length,t.cs.map (aFp (fA m t.nb n1 ks)),W⟩,ps))(b:cR m t ks=true)(a:fG t.hp)(hp:AllP ps) :LeadsM P m s.as t.as:=
 aSA (n1:=n1) (ks:=ks) (by rw [c,←hW];rfl) b a hp
theorem aLT {m:Nat}{is:List Ins}{s:TS}{hp:List (Nat×AObj×Bool)}{nb:Nat}{ks:List Nat}{n1:Nat}{v:AV}{ps:List Prop}{W:List (Option AObj)}(hW:iF (fA m nb n1 ks) hp=W)(d:bED P m is s hp nb ks=some (n1,ren (fA m nb n1 ks) v,W,ps))
  (b:cR m ⟨⟨0,0,[],[],[],.run,.normal,none⟩,[],hp,nb⟩ ks=true) (a:fG hp) (c:AllP ps) :Ends P m s.as (.ret v) (aA hp nb) :=
 aOo (n1:=n1) (ks:=ks) (by rw [d,←hW]) b a c
theorem aFS {us:List (Nat×Nat)}:0+length us≤length (map aV us) :=by simp
theorem aOI {us:List (Nat×Nat)}{z:Nat}:take (length us) (drop 0 (map aV us)) ++ [ptr z 0] =map aV us++ [.ptr z 0] :=by
 rw [List.drop_zero,aG3 (by simp)]
theorem aOJ {us:List (Nat×Nat)}{z:Nat}:length us+length [ptr z 0] =length us+1:=rfl
theorem bEL {us:List (Nat×Nat)}:take (length ([] :List (Nat×Nat))) (drop 0 (map aV ([] :List (Nat×Nat)))) ++take (length us) (drop 0 (map aV us)) =map aV us:=by
 show [] ++take us.length (map aV us) =_;rw [List.nil_append,aG3 (by simp)]
theorem aVN (xs:List AV)(i:Nat)(a:AV) :xs.set (0+i) a=xs.set i a:=by rw [eM]
theorem aCS {h h':Hp}{g:Nat}{rs rs':List Nat}{Z Z':ZP}(d:h.look g=some (.zone true rs Z))(hr:rs'= [] ∨rs'=rs)
  (hz:∀F j b H,Z F j b H→Z' F (if rs'= []then []else j) b H) (p:h.nb<h'.nb)
  (hl:∀x o,h'.look x=some o→ (x=h.nb∧o= .zone true rs' Z') ∨ (x≠g∧h.look x=some o)) :kP h h':=fun E w r=>by
 obtain⟨k,l,t⟩ :=r.obj g _ d;obtain⟨y,Ls,u,m⟩ :=t;refine sT r [g] (rs:=rs') (Z:=Z') (Ls:=if rs'= []then []else Ls) (F:=jH k.blk) p (fun x o e=>?_) (fun x s=>?_) ?_ (fun i c=> ⟨⟨g,by simp,_,k,d,l,c⟩,y i c⟩) (fun a n c q=>?_)
 · rcases hl x o e with f| ⟨f,v⟩
   ·exact .inl f
   ·exact .inr (.inr ⟨by simpa using f,v⟩)
 ·rw [zq32.1 s];exact⟨_,d,rfl,rfl⟩
 · rcases hr with rfl|rfl
   ·rfl
   · by_cases e:rs'= []
     ·rw [if_pos e,e];rfl
     ·rw [if_neg e];exact u
 · have:=hz _ _ _ _ (m a n c q);by_cases e:rs'= []
   ·rw [if_pos e]at this ⊢;exact this
   ·rw [if_neg e]at this ⊢;exact this
theorem zB {h h':Hp}{Z:ZP}(hz:∀b H,Z [] [] b H)(d:h.nb<h'.nb)
  (hl:∀x o,h'.look x=some o→ (x=h.nb∧o= .zone true [] Z) ∨h.look x=some o) :kP h h':=fun E w r=>
 sT r [] (rs:=[]) (Ls:=[]) (F:=[]) d (fun x o e=> (hl x o e).imp id (fun h=>.inr ⟨by simp,h⟩)) (fun x f=> (by cases f)) rfl (fun i g=> (by cases g)) (fun a c _ _=>hz a c)
theorem aRn {b:Imm}{H:Array Obj}:∀a:List (Nat×Nat),OsAt b H a (map (fun _=>none) a) []
 | [] =>by simp [OsAt]
 |u::a=>by simp only [eI,OsAt];exact⟨u,a,rfl,aRn a⟩
theorem aZ7 {us:List (Nat×Nat)}{a:Imm}{H:Array Obj}:ZV us (map (fun _=>none) us) [] [] a H:= ⟨nodup_nil,aRn us⟩
theorem aJx {us:List (Nat×Nat)}{ts:List (Option XT)}{i:Nat}{F:List Nat}{b:List (Nat×Nat×Nat)}{a:Imm}{H:Array Obj}(h:eV us ts i F b a H) :ZV us ts F [] a H:= ⟨h.1,h.2.1⟩
end
abbrev RT :=XT
abbrev RT.mk (o n:Int)(ps:List Pat)(ks:List XT) :XT:=.mk o n ks ps
mutual
def RT.av :XT→AV
 | .mk o n ks ps=>.agg [.int .i64 o,.int .i64 n,.ilst 4 (Pats.av ps) false,.ilst 4 (RTs.av ks) false]
def RTs.av :List XT→List AV
 | [] =>[]
 |p::ps=>RT.av p::RTs.av ps
end
def XT.op :XT→Int| .mk o _ _ _=>o
def XT.n :XT→Int| .mk _ n _ _=>n
def XT.kids :XT→List XT| .mk _ _ ks _=>ks
def XT.pats :XT→List Pat| .mk _ _ _ ps=>ps
structure Flow where
 binds:List XT
 last:XT
noncomputable def Flow.av (f:Flow) :AV:=.agg ([.ilst 4 (RTs.av f.binds) false] ++ (RT.av f.last).cells)
section
variable {P :Program}
mutual
theorem aZ8 {g J:Imm}{H:Array Obj}(k:Imm.le g J) :∀ (t:XT) (a:Nat×Nat) (F:List Nat),TAt g H a t F→ (∀i∈F,∀C e f,H[i]?=some (.cells C e f) →J i=some C) →VR (emI J) (XT.av t) (adr a)
 | .mk o n q R,a,F,h,p=>by
  simp only [TAt]at h;obtain⟨C,e,kv,z,S,y,O,B,v,I,G,rfl,K⟩ :=h;have r:VR (emI J) (.ilst 1 (XTs.av q) false) kv:=by
   rcases K with⟨rfl,rfl,x⟩ | ⟨b,c,D,V,m,N,s,T,M,U,w,A,L,rfl,Q⟩
   · simp only [VR];refine⟨[],VRs.nil _,fun _ l=>by(cases l),.inl ⟨rfl,?_⟩⟩;rcases x with⟨b,rfl⟩ | ⟨b,c,rfl⟩
     ·exact⟨b,0,rfl,fun _=>rfl,fun h=>by(cases h)⟩
     ·exact⟨_,c,rfl,fun h=>by(cases h),fun h=>by(cases h)⟩
   · simp only [VR];have hl: (m.map adr).length=q.length:=by rw [lB,A]
     refine⟨m.map adr,aFT k q m N Q (fun i k=>p i (cH _ (cH _ k))),fun u l=>by obtain⟨x,_,rfl⟩ :=zq24.1 l;exact aJt x,.inr ⟨b.1,b.2,c,D,by rw [hl];exact s,p _ (by simp) _ _ _ w,by rw [hl];exact M,fun h=>by(cases h),fun j d=>?_⟩⟩;rw [hl,mul_one]at d;rw [mC];exact L j d
  simp only [XT.av,VR];refine⟨[.int .i64 o,.int .i64 n,kv,z],VRs.cons (by simp only [VR]) (VRs.cons (by simp only [VR]) (VRs.cons r (VRs.cons (G.mono (aCO k)) (VRs.nil _)))),a.1,a.2,C,rfl,p _ (cQ ..) _ _ _ y,fun j d=>?_⟩
  match j,d with
  |0,_=>exact O
  |1,_=>exact B
  |2,_=>exact v
  |3,_=>exact I
  |j+4,d=>simp at d;omega
theorem aFT {c J:Imm}{H:Array Obj}(b:Imm.le c J) :∀ (d:List XT) (g:List (Nat×Nat)) (F:List Nat),TsAt c H g d F→ (∀i∈F,∀C e f,H[i]?=some (.cells C e f) →J i=some C) →VRs (emI J) (XTs.av d) (g.map adr)
 | [],g,F,h,_=>by simp only [TsAt]at h;rw [h.1];exact VRs.nil _
 | t::d,g,F,h,k=>by
  simp only [TsAt]at h;obtain⟨a,j,o,n,rfl,rfl,m,l⟩ :=h;exact VRs.cons (aZ8 b t a o m (fun i b=>k i (zq28.2 (.inl b)))) (aFT b d j n l (fun i b=>k i (zq28.2 (.inr b))))
end
def fhC (r n:Nat)(mn:Int)(cs:List Con) :AObj:=.cells (putCells .leaf 0 [.gl r 1 0 n false,.int .i64 mn,.ilst 2 (map Con.av cs) false]) 3 [] false
def fvA (ts:List XT)(mn:Int)(cs:List Con) :AV:=.iptr [.ilst 1 (XTs.av ts) false,.int .i64 mn,.ilst 2 (map Con.av cs) false]
theorem aFU {E:Emb}{H:Array Obj}{J:Imm}{k r n:Nat}{mn:Int}{cs:List Con}{ts:List XT}{Lk z:Loc}{cv:Value}(l:Imm.le E.imm J)(hk:E k=some Lk)(ok:OR E H Lk (fhC r n mn cs))(oz:OR E H z (.zone true [r] (cJ ts)))(o:n=ts.length)
  (t:∀i,i=Lk.blk∨i∈jH z.blk→∀C e f,H[i]?=some (.cells C e f) →J i=some C) (B:VR E (.ptr k 0) cv) :VR (emI J) (fvA ts mn cs) cv:=by
 obtain⟨C,e,c1,c2,p⟩ :=ok;obtain⟨_,v0,F,v⟩ :=p 0 (.gl r 1 0 n false) (by rw [bF];rfl);obtain⟨_,v1,Q,M⟩ :=p 1 (.int .i64 mn) (by rw [bF];rfl);obtain⟨_,U,W,T⟩ :=p 2 (.ilst 2 (map Con.av cs) false) (by rw [bF];rfl);obtain⟨y,w,N⟩ :=gJ oz;obtain⟨V,K,hK,hz⟩ :=N;obtain⟨d,rfl⟩ :∃d,y= [d] :=by
  match y,hK with
  | [x],_=>exact⟨x,rfl⟩
 simp only [eI,map_nil,List.cons.injEq,and_true]at w hK;subst hK;have g:VR (emI J) (.ilst 1 (XTs.av ts) false) v0:=by
  simp only [VR]at v;rcases hz with⟨rfl,hF⟩ | ⟨X,ek,s,Fr,G,D,R,g4,S,A⟩
  · simp only [length_nil]at o;simp only [VR];refine⟨[],VRs.nil _,fun _ q=>by(cases q),.inl ⟨rfl,?_⟩⟩;rcases v with⟨_,a,I⟩ | ⟨L,a,b,_,m,_⟩
    ·exact⟨a,0,I,fun _=>rfl,fun h=>by(cases h)⟩
    ·rw [o]at m;exact⟨_,b,m,fun h=>by(cases h),fun h=>by(cases h)⟩
  · have hl0:0<ts.length:=List.length_pos_iff.2 G;rcases v with⟨h0,_⟩ | ⟨L,a,b,O,m,h3,h4,Z⟩
    ·omega
    · have:E.loc r=some L:=O;rw [w]at this;cases this;obtain⟨Y,q2⟩ :=Z (by omega);have hl: (s.map adr).length=ts.length:=by rw [lB,A.len]
      simp only [VR];refine⟨s.map adr,aFT l ts s Fr A (fun i l=>t i (.inr (by rw [D];exact cH _ l))),fun u q=>by obtain⟨x,_,rfl⟩ :=zq24.1 q;exact aJt x,.inr ⟨d.blk,a,b,X,by rw [hl,←o];exact m,t _ (.inr (by rw [D];exact cQ ..)) _ _ _ R,by rw [hl];omega,fun h=>by(cases h),fun j c=>?_⟩⟩;rw [hl,mul_one]at c;rw [mC,Y,show d.sh+0*1+j=d.sh+j by omega];exact S j c
 simp only [VR]at B;obtain⟨L,hL,rfl⟩ :=B;have:E.loc k=some L:=hL;rw [show E.loc k=E k from rfl,hk]at this;cases this;simp only [fvA,VR];refine⟨[v0,v1,U],VRs.cons g (VRs.cons (by simpa only [VR]using M) (VRs.cons ((VR.emI (by simp [keyless]) T).mono (aCO l)) (VRs.nil _))),Lk.blk,Lk.sh+0,C,rfl,t _ (.inl rfl) _ _ _ c1,fun j c=>?_⟩
 match j,c with
 |0,_=>exact F
 |1,_=>exact Q
 |2,_=>exact W
 |j+3,c=>simp at c;omega
theorem aHn {E:Emb}{h:Hp}{H:Array Obj}(r:Rel E h H){k q z n:Nat}{mn:Int}{cs:List Con}{ts:List XT}{cv:Value}(hk:h.look k=some (fhC q n mn cs))(hz:h.look z=some (.zone true [q] (cJ ts)))(d:n=ts.length)(j:VR E (.ptr k 0) cv) :VR (emI (snap H)) (fvA ts mn cs) cv:=by
 obtain⟨o,g,a⟩ :=r.obj k _ hk;obtain⟨m,l,b⟩ :=r.obj z _ hz;exact aFU r.snap g a b d (fun i _ C e f c=>sU c) j
theorem aJy {h h':Hp}{k q z n:Nat}{mn:Int}{cs:List Con}{ts:List XT}(hk:h.look k=some (fhC q n mn cs))(hz:h.look z=some (.zone true [q] (cJ ts)))(O:n=ts.length)(hb:h'.nb=h.nb)
  (hl:∀b o,h'.look b=some o→b∉ [k,z] ∧h.look b=some o) {m:Nat} (hm:m≤h.nb) :oS m h h' (.ptr k 0) (fvA ts mn cs) :=fun E w r=>by
 obtain⟨A,F,T⟩ :=r.obj k _ hk;obtain⟨D,N,K⟩ :=r.obj z _ hz
 let own:Nat→Prop:=fun i=>i=A.blk∨i∈jH D.blk
 have c:∀ {i},own i→∃b∈ [k,z],∃o L,h.look b=some o∧E b=some L∧Own o L i∧bQ o= [] ∧jL o=false:=fun {i} a=>by
  rcases a with rfl|a
  ·exact⟨k,by simp,_,A,hk,F,rfl,rfl,rfl⟩
  ·exact⟨z,by simp,_,D,hz,N,a,rfl,rfl⟩
 have l:∀ {i},own i→E.imm i=none:=fun {i} a=>by
  obtain⟨b,_,o,L,j,v,t,_⟩ :=c a;exact r.apart b o L j v i t
 classical
 let E':Emb:= ⟨E.loc,fun i=>if own i then snap w.heap i else E.imm i⟩
 have d:E.le E':= ⟨fun _ _ e=>e,fun i C e=>by
  show(if own i then snap w.heap i else E.imm i) =some C;rw [if_neg (fun s=>by rw [l s]at e;cases e)];exact e⟩
 have y:∀ {b o L i},h'.look b=some o→E b=some L→Own o L i→¬own i:=fun {b o L i} e g a p=>by
  obtain⟨Z,I,o0,J,X,Y,V,R,Q⟩ :=c p;obtain⟨e1,W⟩ :=hl b o e;rcases r.kin Z b o0 o J L X W Y g ⟨i,V,a⟩ (fun e=>e1 (e ▸ I))with⟨x,_⟩ | ⟨_,x,_⟩
  ·rw [R]at x;cases x
  ·rw [Q]at x;cases x
 refine⟨E',d,⟨fun b o e=>?_,fun b B o G L S e U=>r.kin b B o G L S (hl b o e).2 (hl B G U).2,fun b M=>r.fresh b (by omega),fun i C e=>?_,fun b o L e g i a=>?_,fun b o e=>by rw [hb];exact r.keys b o (hl b o e).2⟩,
  ⟨fun _ _=>rfl,d.2,le_refl _,fun _ _ _=>rfl,fun b o L e g i a _=> ⟨b,o,L,(hl b o e).2,g,a⟩,by omega,rfl,rfl,rfl,fun _ _=>rfl,fun i C e _=>?_,fun b o e _=> ⟨o,(hl b o e).2⟩⟩,fun cv hv=>VR.of_emI (E:=E') (aFU d.2 F T K O (fun i a C e f s=>?_) hv)⟩
 · rcases r.obj0 b o (hl b o e).2 with u| ⟨L,H,g2⟩
   ·exact .inl u
   ·exact .inr ⟨L,H,g2.mono d⟩
 · simp only [E']at e;split at e
   ·exact aLP e
   ·exact r.imm i C e
 · show(if own i then snap w.heap i else E.imm i) =none;rw [if_neg (y e g a)];exact r.apart b o L (hl b o e).2 g i a
 · simp only [E']at e;split at e
   · rename_i p;obtain⟨b,_,o,L,j,v,t,_⟩ :=c p;exact .inr ⟨b,o,L,j,v,t⟩
   ·exact .inl e
 · show(if own i then snap w.heap i else E.imm i) =some C;rw [if_pos a];exact sU s
end
mutual
def mQ :Pat→Int→Int
 | .mk _ _ _ ps,left=>if left<1 then -1 else kH ps (left-1)
def kH :List Pat→Int→Int
 | [],left=>left
 |p::ps,left=>if 0≤left then kH ps (mQ p left)else left
end
mutual
theorem aLU :∀ (p:Pat) (left:Int),0≤left→ -1≤mQ p left∧mQ p left≤left-1
 | .mk _ _ _ a,left,h=>by
  rw [mQ];split
  ·omega
  ·have:=aHU a (left-1) (by omega);omega
theorem aHU :∀ (b:List Pat) (left:Int),-1≤left→ -1≤kH b left∧kH b left≤left
 | [],left,h=>by rw [kH];omega
 | p ::b,left,h=>by
  rw [kH];split
  · rename_i c;have a:=aLU p left c;have:=aHU b (mQ p left) a.1;omega
  ·omega
end
theorem aDA (f n:Int)(s:bX)(ps:List Pat)(a:Int)(d:∀p∈ps,∀left:Int,0≤left→left≤1000→aM PP 69 [Pat.av p,.int .i64 left] (.int .i64 (mQ p left))) :
  ∀ (t:List Pat) (i:Nat) (left:Int),ps.drop i=t→ -1≤left→ (i:Int) +left≤1000→Ends PP 0 (yZ f n s ps a left (i:Int)).as (.ret (.int .i64 (kH t left))) (aA [] 0)
 | [],i,left,h,l,o=>by
  have:=bL h;rw [kH];exact aOH f n s ps a left i sd
 | .mk g j c b::t,i,left,h,l,o=>by
  obtain⟨k,m,q⟩ :=bI h;rw [kH];split
  · rename_i e;have w:=aLU (.mk g j c b) left e;refine(aOF f n s ps a left i g j c b _ sd sd sd sd (d _ (kS k) left e (by omega)) sd).ends ?_;exact aDA f n s ps a d t (i+1) _ m w.1 (by omega)
  ·exact aOG f n s ps a left i sd sd
mutual
theorem xQ :∀ (p:Pat) (left:Int),-1≤left→left≤1000→aM PP 69 [Pat.av p,.int .i64 left] (.int .i64 (mQ p left))
 | .mk f n s a,left,c,b=>by
  refine aJ aC (by simp [keylessL,lD,keyless]) rfl ?_;rw [mQ];split
  ·exact aOD f n s a left sd
  · refine(aOE f n s a left sd sd).ends ?_;exact aDA f n s a left (fun p d left c b=>aFV a p d left c b) a 0 _ rfl (by omega) (by omega)
theorem aFV :∀ (b:List Pat),∀p∈b,∀left:Int,0≤left→left≤1000→aM PP 69 [Pat.av p,.int .i64 left] (.int .i64 (mQ p left))
 | [],p,a,_,_,_=>by cases a
 | q::b,p,a,left,d,c=>by
  rcases zq7.1 a with e|a
  ·rw [e];exact xQ q left (by omega) c
  ·exact aFV b p a left d c
end
mutual
def rY :Pat→Bool
 | .mk _ _ s ps=>uS ps&&decide (s.length≤30)
def uS :List Pat→Bool
 | [] =>true
 |p::ps=>rY p&&uS ps
end
mutual
def bZ :Pat→Nat
 | .mk _ _ _ ps=>bG ps+1
def bG :List Pat→Nat
 | [] =>0
 |p::ps=>bZ p+bG ps
end
theorem eH :∀a:List Pat,a.length≤bG a
 | [] =>by simp [bG]
 | .mk _ _ _ qs::a=>by have:=eH a;simp only [bG,bZ,mO];omega
mutual
theorem aFW :∀ (p:Pat) (left:Int),0≤mQ p left→mQ p left=left-bZ p
 | .mk _ _ _ b,left,h=>by
  rw [mQ]at h ⊢;split at h
  ·omega
  · rename_i a;rw [if_neg a];have:=aDB b (left-1) h;simp only [bZ];omega
theorem aDB :∀ (c:List Pat) (left:Int),0≤kH c left→kH c left=left-bG c
 | [],left,h=>by simp [kH,bG]
 | p ::c,left,h=>by
  rw [kH]at h ⊢;split at h
  · rename_i d;rw [if_pos d];have a:=aDB c _ h;have b:=aFW p left (by omega);simp only [bG];omega
  ·omega
end
mutual
theorem aFX :∀ (p:Pat) (left:Int),(bZ p:Int) ≤left→mQ p left=left-bZ p
 | .mk _ _ _ a,left,h=>by
  simp only [bZ]at h ⊢;rw [mQ,if_neg (by omega),aDC a (left-1) (by omega)];omega
theorem aDC :∀ (a:List Pat) (left:Int),(bG a:Int) ≤left→kH a left=left-bG a
 | [],left,h=>by simp [kH,bG]
 | p::a,left,h=>by
  simp only [bG]at h ⊢;rw [kH,if_pos (by omega),aFX p left (by omega),aDC a _ (by omega)];omega
end
theorem zC (p:Pat)(left:Int) :0≤mQ p left↔ (bZ p:Int) ≤left:=by
 constructor
 ·intro h;have:=aFW p left h;omega
 ·intro h;rw [aFX p left h];omega
theorem xR (f n:Int)(s:bX)(ps:List Pat)(hl:ps.length<1000000)(j:∀p∈ps,aM PP 70 [Pat.av p] (.bool (rY p))) :
  ∀ (t:List Pat) (i:Nat),ps.drop i=t→Ends PP 0 (pA f n s ps (i:Int)).as (.ret (.bool (uS t&&decide (s.length≤30)))) (aA [] 0)
 | [],i,h=>by
  have:=bL h;have e:decide (((length s:Nat) :Int) ≤ (30:Int)) =decide (s.length≤30) :=by congr 1;simp;omega
  rw [uS,nX,←e];exact aHm f n s ps i sd
 | .mk d g c b::t,i,h=>by
  obtain⟨k,l,m⟩ :=bI h;have a:=j _ (kS k);rw [uS];cases hb:rY (.mk d g c b)
  case false=>
   rw [hb]at a;exact aHk f n s ps i d g c b false sd sd sd a rfl
  rw [hb]at a;refine(aHl f n s ps i d g c b true sd sd sd a rfl sd).ends ?_;rw [nX];exact xR f n s ps hl j t (i+1) l
mutual
theorem xT :∀ (p:Pat),bZ p<1000000→aM PP 70 [Pat.av p] (.bool (rY p))
 | .mk f n s a,h=>by
  refine aJ aC (by simp [keylessL,lD]) rfl ?_;simp only [bZ]at h;have:=eH a;refine(aHj f n s a).ends ?_;rw [rY];exact xR f n s a (by omega) (aAu a (by omega)) a 0 rfl
theorem aAu :∀ (b:List Pat),bG b<1000000→∀p∈b,aM PP 70 [Pat.av p] (.bool (rY p))
 | [],_,p,a=>by cases a
 | q::b,h,p,a=>by
  simp only [bG]at h;rcases zq7.1 a with e|a
  ·rw [e];exact xT q (by omega)
  ·exact aAu b (by omega) p a
end
def uT (p:Pat) :Bool:=decide (bZ p≤16) &&rY p
theorem aJz (p:Pat) :aM PP 31 [Pat.av p] (.bool (uT p)) :=by
 refine aJ aC (by simp [keylessL,lD]) rfl ?_;obtain⟨f,n,s,a⟩ :=p;have b:=xQ (.mk f n s a) 16 (by omega) (by omega);by_cases h:bZ (.mk f n s a) ≤16
 · have e:uT (.mk f n s a) =rY (.mk f n s a) :=by simp [uT,h]
   rw [e];have c:0≤mQ (.mk f n s a) 16:= (zC (.mk f n s a) 16).2 (by omega);exact aLH f n s a _ _ b (decide_eq_true c) (xT (.mk f n s a) (by omega))
 · have e:uT (.mk f n s a) =false:=by simp [uT,h]
   rw [e];refine aLI f n s a _ b (decide_eq_false fun g=>h ?_);have:= (zC (.mk f n s a) 16).1 g;omega
def hY (l:List Con) :Bool:=l.all fun c=>decide (c.name.length≤40)
def fV (l:List Pat) :Bool:=l.all uT
def bD (x:Node) :Bool:=decide (x.kids.length≤10) &&decide (x.pats.length≤10) &&fV x.pats
def aF (p:Prog) :Bool:=decide (p.nodes.length≤320) &&decide (p.funs.length≤320) &&decide (p.cons.length≤25) &&hY p.cons&&p.nodes.all bD
mutual
theorem bGb (p:Prog)(o:p.nodes.length≤320) :∀ (t:List Node) (i:Nat),p.nodes.drop i=t→Ends PP 0 (nS p (i:Int)).as (.ret (.bool (t.all bD))) (aA [] 0)
 | [],i,h=>by
  have:=bL h;exact aFK p i sd
 | x :: t,i,h=>by
  obtain⟨n,l,v⟩ :=bI h;by_cases m:x.kids.length≤10
  · by_cases j:x.pats.length≤10
    · have e: (x::t).all bD= (fV (x.pats.drop 0) &&t.all bD) :=by simp [bD,m,j]
      rw [e];refine(aFJ p i x sd sd sd sd sd).ends ?_;have r:=bGb p o t (i+1) l;clear e n l h
      suffices ∀ (u:List Pat) (k:Nat),x.pats.drop k=u→Ends PP 0 (nT p x.op x.n x.kids x.pats (k:Int) (i:Int)).as (.ret (.bool (fV u&&t.all bD))) (aA [] 0)from this _ 0 rfl
      intro u
      induction u with
      | nil=>
       intro k hk;have:=bL hk;refine(aFN p x.op x.n x.kids x.pats k i sd sd).ends ?_;simp only [fV,all_nil,nX];exact r
      | cons q u g=>
       intro k hk;obtain⟨y,s,w⟩ :=bI hk;obtain⟨c,d,b,a⟩ :=q;have f:=aJz (.mk c d b a);cases hb:uT (.mk c d b a)
       case false=>
        rw [hb]at f;have e: (fV (.mk c d b a::u) &&t.all bD) =false:=by simp [fV,hb]
        rw [e];exact aFL p x.op x.n x.kids x.pats k i c d b a false sd sd sd f rfl
       rw [hb]at f;have e: (fV (.mk c d b a::u) &&t.all bD) = (fV u&&t.all bD) :=by simp [fV,hb]
       rw [e];refine(aFM p x.op x.n x.kids x.pats k i c d b a true sd sd sd f rfl sd).ends ?_;exact g (k+1) s
    · have e: (x::t).all bD=false:=by simp [bD,j]
      rw [e];exact aFI p i x sd sd sd sd sd
  · have e: (x::t).all bD=false:=by simp [bD,m]
    rw [e];exact aFH p i x sd sd sd sd
end
theorem bGc (p:Prog)(hc:p.cons.length≤25)(a:p.nodes.length≤320) :∀ (t:List Con) (i:Nat),p.cons.drop i=t→Ends PP 0 (nR p (i:Int)).as (.ret (.bool (hY t&&p.nodes.all bD))) (aA [] 0)
 | [],i,h=>by
  have:=bL h;refine(aFG p i sd).ends ?_;simp only [hY,all_nil,nX];exact bGb p a p.nodes 0 rfl
 | c ::t,i,h=>by
  obtain⟨d,b,f⟩ :=bI h;by_cases k:c.name.length≤40
  · have e: (hY (c::t) &&p.nodes.all bD) = (hY t&&p.nodes.all bD) :=by simp [hY,k]
    rw [e];refine(aFF p i c sd sd sd sd sd).ends ?_;exact bGc p hc a t (i+1) b
  · have e: (hY (c::t) &&p.nodes.all bD) =false:=by simp [hY,k]
    rw [e];exact aFE p i c sd sd sd sd
theorem vT (p:Prog) :aM PP 10 [Prog.av p] (.bool (aF p)) :=by
 refine aJ aC rfl rfl ?_;by_cases a:p.nodes.length≤320
 · by_cases c:p.funs.length≤320
   · by_cases b:p.cons.length≤25
     · have e:aF p= (hY p.cons&&p.nodes.all bD) :=by simp [aF,a,c,b]
       rw [e];exact(aFD p sd sd sd).ends (bGc p b a p.cons 0 rfl)
     · have e:aF p=false:=by simp [aF,b]
       rw [e];exact aFC p sd sd sd
   · have e:aF p=false:=by simp [aF,c]
     rw [e];exact aFB p sd sd
 · have e:aF p=false:=by simp [aF,a]
   rw [e];exact aFA p sd
def dZ(b c:Int)(d:bX)(a:List Pat)(e:List Con)(f:Bool)(g:Int):TS:=⟨(tf 104 82 [(1,(iC e)),kp 2 0,(4,(bV false)),(5,(bV f)),(6,(nI (a.length:Int))),(7,(nI g))] [kc f104 1012,kl f104 1012,.inBlock 1,kc f104 127]),[],[oC 0 [(nI b),(nI c),(dR d),(iP a)]],1⟩
def uU(d b:Int)(a:bX)(c:List Pat)(e:List Con):=tT 0 (start PP 104 [(.agg [(nI d),(nI b),(dR a),(iP c)]),(iC e)])<|gm 13 aE c<|.b 15 13 (d==1) (.b 7 19 ((c.length:Int) ==0) (.b 11 61 (b==0) (.W 13 1 [0] (dZ d b a c e (kD a.length (aG a) 0 0) 0))<|.W 13 1 [0] (dZ d b a c e false 0))<|.W 24 1 [0] (dZ d b a c e false 0))<|.b 6 13 (d==2) (.b 7 19 ((c.length:Int) ==0) (.b 11 61 (b==0) (.W 13 1 [0] (dZ d b a c e (kD a.length (aG a) 0 0) 0))<|.W 13 1 [0] (dZ d b a c e false 0))<|.W 24 1 [0] (dZ d b a c e false 0))<|.b 5 13 (d==5) (.b 5 19 ((c.length:Int) ==0) (.b 11 61 (b==0) (.W 13 1 [0] (dZ d b a c e (kD a.length (aG a) 0 0) 0))<|.W 13 1 [0] (dZ d b a c e false 0))<|.W 24 1 [0] (dZ d b a c e false 0))<|.b 6 24 (d==3) (.b 5 28 ((c.length:Int) ==0) (lO 2 62 [(nI b),(nI (-1000000000)),(nI 1000000000)]<|fun f=>.b 8 61 f (.W 13 1 [0] (dZ d b a c e (kD a.length (aG a) 0 0) 0))<|.W 13 1 [0] (dZ d b a c e false 0))<|.W 24 1 [0] (dZ d b a c e false 0))<|.b 6 33 (d==4) (.b 5 37 ((c.length:Int) ==0) (lO 2 62 [(nI b),(nI 0),(nI 1)]<|fun f=>.b 8 61 f (.W 13 1 [0] (dZ d b a c e (kD a.length (aG a) 0 0) 0))<|.W 13 1 [0] (dZ d b a c e false 0))<|.W 24 1 [0] (dZ d b a c e false 0))<|.b 6 42 (d==6) (gl 5 Con.av e<|gw 1 48 ((e.length:Int) -1)<|lO 0 62 [(nI b),(nI 0),(nI ((e.length:Int) -1))]<|fun f=>.b 1 50 f (gX Con.av 4 e b<|fun g=>.b 11 61 ((c.length:Int) ==g.args) (.W 13 1 [0] (dZ d b a c e (kD a.length (aG a) 0 0) 0))<|.W 13 1 [0] (dZ d b a c e false 0))<|.W 29 1 [0] (dZ d b a c e false 0))<|.W 20 1 [0] (dZ d b a c e false 0)
def aVO:=fun a b c d e f g i=>uU a b c d e|>.t f|>.t g|>.t i tv
def aVP:=fun a b c d e f g i=>uU a b c d e|>.t f|>.t g|>.f i tv
def aVQ:=fun a b c d e f g=>uU a b c d e|>.t f|>.f g tv
def aVR:=fun a b c d e f g i j=>uU a b c d e|>.f f|>.t g|>.t i|>.t j tv
def aVS:=fun a b c d e f g i j=>uU a b c d e|>.f f|>.t g|>.t i|>.f j tv
def aVT:=fun a b c d e f g i=>uU a b c d e|>.f f|>.t g|>.f i tv
def aVU:=fun a b c d e f g i j k=>uU a b c d e|>.f f|>.f g|>.t i|>.t j|>.t k tv
def aVV:=fun a b c d e f g i j k=>uU a b c d e|>.f f|>.f g|>.t i|>.t j|>.f k tv
def aVW:=fun a b c d e f g i j=>uU a b c d e|>.f f|>.f g|>.t i|>.f j tv
def aVX:=fun a b c d e f g i j k l m n=>uU a b c d e|>.f g|>.f i|>.f j|>.t k|>.t l f m|>.t n tv
def aSK:=fun a b c d e f g i j k l m n=>uU a b c d e|>.f g|>.f i|>.f j|>.t k|>.t l f m|>.f n tv
def aSL:=fun a b c d e f g i j k=>uU a b c d e|>.f f|>.f g|>.f i|>.t j|>.f k tv
def aSM:=fun a b c d e f g i j k l m n o=>uU a b c d e|>.f g|>.f i|>.f j|>.f k|>.t l|>.t m f n|>.t o tv
def aSN:=fun a b c d e f g i j k l m n o=>uU a b c d e|>.f g|>.f i|>.f j|>.f k|>.t l|>.t m f n|>.f o tv
def aSO:=fun a b c d e f g i j k l=>uU a b c d e|>.f f|>.f g|>.f i|>.f j|>.t k|>.f l tv
def aSP:=fun a b c d e f g i j k l m n o p q r s t=>uU a b c d e|>.f i|>.f j|>.f k|>.f l|>.f m|>.t n o f p|>.t q g r s|>.t t tv
def aSQ:=fun a b c d e f g i j k l m n o p q r s t=>uU a b c d e|>.f i|>.f j|>.f k|>.f l|>.f m|>.t n o f p|>.t q g r s|>.f t tv
def aSR:=fun a b c d e f g i j k l m n o p=>uU a b c d e|>.f g|>.f i|>.f j|>.f k|>.f l|>.t m n f o|>.f p tv
def aSS:=fun a b c d e f g i j k l=>uU a b c d e|>.f f|>.f g|>.f i|>.f j|>.f k|>.f l tv
def bEM(e f:Int)(g:bX)(b:List Pat)(d:List Con)(c:Bool)(a:Int):=tT 0 (dZ e f g b d c a)<|gd 7 69 (a< (b.length:Int)) (.b 3 71 c (rX 8 b a<|fun i j k l=>lO 2 104 [(.agg [(nI i),(nI j),(dR k),(iP l)]),(iC d)]<|fun m=>gw 6 73 (a+1)<|.W 3 1 [0] (dZ e f g b d m (a+1)))<|gE 8 1 (bV c))<|gE 11 1 (bV c)
def aVY:=fun a b c d e f g i j k l m n o p q r s=>bEM a b c d e f g|>.t n|>.t o i j k l p q m r s tv
def aVZ:=fun a b c d e f g i j=>bEM a b c d e f g|>.t i|>.f j tv
def aV0:=fun a b c d e f g i=>bEM a b c d e f g|>.f i tv
def mD(a b c:Int):=tT 0 (start PP 105 [(nI a),(nI b),(nI c)])<|.b 16 8 (a==1) (gE 8 0 (nI 0))<|.b 6 8 (a==2) (gE 8 0 (nI 0))<|.b 6 8 (a==3) (gE 8 0 (nI 0))<|.b 6 8 (a==4) (gE 8 0 (nI 0))<|.b 6 8 (a==21) (gE 8 0 (nI 0))<|.b 6 8 (a==25) (gE 8 0 (nI 0))<|.b 5 8 (a==28) (gE 6 0 (nI 0))<|.b 7 16 (a==5) (gE 8 0 (nI 1))<|.b 6 16 (a==27) (gE 8 0 (nI 1))<|.b 6 16 (a==16) (gE 8 0 (nI 1))<|.b 6 16 (a==17) (gE 8 0 (nI 1))<|.b 6 16 (a==19) (gE 8 0 (nI 1))<|.b 6 16 (a==20) (gE 8 0 (nI 1))<|.b 6 16 (a==23) (gE 8 0 (nI 1))<|.b 6 16 (a==26) (gE 8 0 (nI 1))<|.b 5 16 (a==24) (gE 6 0 (nI 1))<|.b 7 26 (a==6) (gE 8 0 (nI 2))<|.b 6 26 (a==7) (gE 8 0 (nI 2))<|.b 6 26 (a==9) (gE 8 0 (nI 2))<|.b 6 26 (a==10) (gE 8 0 (nI 2))<|.b 6 26 (a==11) (gE 8 0 (nI 2))<|.b 6 26 (a==12) (gE 8 0 (nI 2))<|.b 6 26 (a==13) (gE 8 0 (nI 2))<|.b 6 26 (a==18) (gE 8 0 (nI 2))<|.b 5 26 (a==22) (gE 6 0 (nI 2))<|.b 6 36 (a==8) (gE 6 0 (nI 3))<|.b 6 38 (a==15) (gw 5 41 (1+b)<|gE 3 0 (nI (1+b)))<|.b 6 42 (a==14) (gE 7 0 (nI c))<|gE 8 0 (nI (-1))
def aST:=fun a b c d=>mD a b c|>.t d tv
def aSU:=fun a b c d e=>mD a b c|>.f d|>.t e tv
def aSV:=fun a b c d e f=>mD a b c|>.f d|>.f e|>.t f tv
def aSW:=fun a b c d e f g=>mD a b c|>.f d|>.f e|>.f f|>.t g tv
def aSX:=fun a b c d e f g i=>mD a b c|>.f d|>.f e|>.f f|>.f g|>.t i tv
def aSY:=fun a b c d e f g i j=>mD a b c|>.f d|>.f e|>.f f|>.f g|>.f i|>.t j tv
def aSZ:=fun a b c d e f g i j k=>mD a b c|>.f d|>.f e|>.f f|>.f g|>.f i|>.f j|>.t k tv
def aS0:=fun a b c d e f g i j k l=>mD a b c|>.f d|>.f e|>.f f|>.f g|>.f i|>.f j|>.f k|>.t l tv
def aS1:=fun a b c d e f g i j k l m=>mD a b c|>.f d|>.f e|>.f f|>.f g|>.f i|>.f j|>.f k|>.f l|>.t m tv
def aS2:=fun a b c d e f g i j k l m n=>mD a b c|>.f d|>.f e|>.f f|>.f g|>.f i|>.f j|>.f k|>.f l|>.f m|>.t n tv
def aOK:=fun a b c d e f g i j k l m n o=>mD a b c|>.f d|>.f e|>.f f|>.f g|>.f i|>.f j|>.f k|>.f l|>.f m|>.f n|>.t o tv
def aOL:=fun a b c d e f g i j k l m n o p=>mD a b c|>.f d|>.f e|>.f f|>.f g|>.f i|>.f j|>.f k|>.f l|>.f m|>.f n|>.f o|>.t p tv
def aOM:=fun a b c d e f g i j k l m n o p q=>mD a b c|>.f d|>.f e|>.f f|>.f g|>.f i|>.f j|>.f k|>.f l|>.f m|>.f n|>.f o|>.f p|>.t q tv
def aON:=fun a b c d e f g i j k l m n o p q r=>mD a b c|>.f d|>.f e|>.f f|>.f g|>.f i|>.f j|>.f k|>.f l|>.f m|>.f n|>.f o|>.f p|>.f q|>.t r tv
def aOO:=fun a b c d e f g i j k l m n o p q r s=>mD a b c|>.f d|>.f e|>.f f|>.f g|>.f i|>.f j|>.f k|>.f l|>.f m|>.f n|>.f o|>.f p|>.f q|>.f r|>.t s tv
def aOP:=fun a b c d e f g i j k l m n o p q r s t=>mD a b c|>.f d|>.f e|>.f f|>.f g|>.f i|>.f j|>.f k|>.f l|>.f m|>.f n|>.f o|>.f p|>.f q|>.f r|>.f s|>.t t tv
def aOQ:=fun a b c d e f g i j k l m n o p q r s t u=>mD a b c|>.f d|>.f e|>.f f|>.f g|>.f i|>.f j|>.f k|>.f l|>.f m|>.f n|>.f o|>.f p|>.f q|>.f r|>.f s|>.f t|>.t u tv
def aOR:=fun a b c d e f g i j k l m n o p q r s t u v=>mD a b c|>.f d|>.f e|>.f f|>.f g|>.f i|>.f j|>.f k|>.f l|>.f m|>.f n|>.f o|>.f p|>.f q|>.f r|>.f s|>.f t|>.f u|>.t v tv
def aOS:=fun a b c d e f g i j k l m n o p q r s t u v w=>mD a b c|>.f d|>.f e|>.f f|>.f g|>.f i|>.f j|>.f k|>.f l|>.f m|>.f n|>.f o|>.f p|>.f q|>.f r|>.f s|>.f t|>.f u|>.f v|>.t w tv
def aOT:=fun a b c d e f g i j k l m n o p q r s t u v w x=>mD a b c|>.f d|>.f e|>.f f|>.f g|>.f i|>.f j|>.f k|>.f l|>.f m|>.f n|>.f o|>.f p|>.f q|>.f r|>.f s|>.f t|>.f u|>.f v|>.f w|>.t x tv
def aOU:=fun a b c d e f g i j k l m n o p q r s t u v w x y=>mD a b c|>.f d|>.f e|>.f f|>.f g|>.f i|>.f j|>.f k|>.f l|>.f m|>.f n|>.f o|>.f p|>.f q|>.f r|>.f s|>.f t|>.f u|>.f v|>.f w|>.f x|>.t y tv
def aOV:=fun a b c d e f g i j k l m n o p q r s t u v w x y z=>mD a b c|>.f d|>.f e|>.f f|>.f g|>.f i|>.f j|>.f k|>.f l|>.f m|>.f n|>.f o|>.f p|>.f q|>.f r|>.f s|>.f t|>.f u|>.f v|>.f w|>.f x|>.f y|>.t z tv
def aOW:=fun a b c d e f g i j k l m n o p q r s t u v w x y z A=>mD a b c|>.f d|>.f e|>.f f|>.f g|>.f i|>.f j|>.f k|>.f l|>.f m|>.f n|>.f o|>.f p|>.f q|>.f r|>.f s|>.f t|>.f u|>.f v|>.f w|>.f x|>.f y|>.f z|>.t A tv
def aOX:=fun a b c d e f g i j k l m n o p q r s t u v w x y z A B=>mD a b c|>.f d|>.f e|>.f f|>.f g|>.f i|>.f j|>.f k|>.f l|>.f m|>.f n|>.f o|>.f p|>.f q|>.f r|>.f s|>.f t|>.f u|>.f v|>.f w|>.f x|>.f y|>.f z|>.f A|>.t B tv
def aOY:=fun a b c d e f g i j k l m n o p q r s t u v w x y z A B C=>mD a b c|>.f d|>.f e|>.f f|>.f g|>.f i|>.f j|>.f k|>.f l|>.f m|>.f n|>.f o|>.f p|>.f q|>.f r|>.f s|>.f t|>.f u|>.f v|>.f w|>.f x|>.f y|>.f z|>.f A|>.f B|>.t C tv
def aOZ:=fun a b c d e f g i j k l m n o p q r s t u v w x y z A B C D=>mD a b c|>.f d|>.f e|>.f f|>.f g|>.f i|>.f j|>.f k|>.f l|>.f m|>.f n|>.f o|>.f p|>.f q|>.f r|>.f s|>.f t|>.f u|>.f v|>.f w|>.f x|>.f y|>.f z|>.f A|>.f B|>.f C|>.t D tv
def aO0:=fun a b c d e f g i j k l m n o p q r s t u v w x y z A B C D F G=>mD a b c|>.f d|>.f e|>.f f|>.f g|>.f i|>.f j|>.f k|>.f l|>.f m|>.f n|>.f o|>.f p|>.f q|>.f r|>.f s|>.f t|>.f u|>.f v|>.f w|>.f x|>.f y|>.f z|>.f A|>.f B|>.f C|>.f D|>.t F G tv
def aO1:=fun a b c d e f g i j k l m n o p q r s t u v w x y z A B C D F G=>mD a b c|>.f d|>.f e|>.f f|>.f g|>.f i|>.f j|>.f k|>.f l|>.f m|>.f n|>.f o|>.f p|>.f q|>.f r|>.f s|>.f t|>.f u|>.f v|>.f w|>.f x|>.f y|>.f z|>.f A|>.f B|>.f C|>.f D|>.f F|>.t G tv
def aO2:=fun a b c d e f g i j k l m n o p q r s t u v w x y z A B C D F G=>mD a b c|>.f d|>.f e|>.f f|>.f g|>.f i|>.f j|>.f k|>.f l|>.f m|>.f n|>.f o|>.f p|>.f q|>.f r|>.f s|>.f t|>.f u|>.f v|>.f w|>.f x|>.f y|>.f z|>.f A|>.f B|>.f C|>.f D|>.f F|>.f G tv
theorem Ends.eqv {P:Program}{m:Nat}{s:AS}{v v':AV}{h':Hp}(h:Ends P m s (.ret v) h')(e:v=v') :Ends P m s (.ret v') h':=e ▸ h
theorem inB_iff {n lo hi:Int}:eB n lo hi=true↔lo≤n∧n≤hi:=by simp [eB]
theorem inB_not {n lo a:Int}:eB n lo a=false↔¬ (lo≤n∧n≤a) :=by simp [eB]
theorem sdI {p:Prop}(h:p:=by first|assumption|rfl| (simp only [kZ];assumption) | (simp only [decide_eq_true_eq,decide_eq_false_iff_not];omega) |omega| (apply wrap64<;>omega) | (simp_all;done) | (simp only [inB_iff,inB_not,beq_iff_eq,decide_eq_true_eq,decide_eq_false_iff_not]at *;omega)) :p:=h
theorem idT {p:Prop}(h:p:=by exact⟨_,kR (by simp only [inB_iff,inB_not,beq_iff_eq,decide_eq_true_eq,decide_eq_false_iff_not]at *;omega)⟩) :p:=h
def cM (op pats args:Int) :Int:=
 if op=1∨op=2∨op=3∨op=4∨op=21∨op=25∨op=28 then 0
 else if op=5∨op=27∨op=16∨op=17∨op=19∨op=20∨op=23∨op=26∨op=24 then 1
 else if op=6∨op=7∨op=9∨op=10∨op=11∨op=12∨op=13∨op=18∨op=22 then 2
 else if op=8 then 3 else if op=15 then 1+pats else if op=14 then args else -1
theorem aZ9 (op pats a:Int)(hp:0≤pats)(D:pats≤1000) :Ends PP 0 (start PP 105 [.int .i64 op,.int .i64 pats,.int .i64 a]).as (.ret (.int .i64 (cM op pats a))) (aA [] 0) :=by
 cases d: (op== (1:Int))
 case true=>exact Ends.eqv (aST op pats a   d) (by simp_all [cM])
 cases e: (op== (2:Int))
 case true=>exact Ends.eqv (aSU op pats a   d e) (by simp_all [cM])
 cases g: (op== (3:Int))
 case true=>exact Ends.eqv (aSV op pats a   d e g) (by simp_all [cM])
 cases h: (op== (4:Int))
 case true=>exact Ends.eqv (aSW op pats a   d e g h) (by simp_all [cM])
 cases j: (op== (21:Int))
 case true=>exact Ends.eqv (aSX op pats a   d e g h j) (by simp_all [cM])
 cases l: (op== (25:Int))
 case true=>exact Ends.eqv (aSY op pats a   d e g h j l) (by simp_all [cM])
 cases n: (op== (28:Int))
 case true=>exact Ends.eqv (aSZ op pats a   d e g h j l n) (by simp_all [cM])
 cases o: (op== (5:Int))
 case true=>exact Ends.eqv (aS0 op pats a   d e g h j l n o) (by simp_all [cM])
 cases q: (op== (27:Int))
 case true=>exact Ends.eqv (aS1 op pats a   d e g h j l n o q) (by simp_all [cM])
 cases b: (op== (16:Int))
 case true=>exact Ends.eqv (aS2 op pats a   d e g h j l n o q b) (by simp_all [cM])
 cases c: (op== (17:Int))
 case true=>exact Ends.eqv (aOK op pats a   d e g h j l n o q b c) (by simp_all [cM])
 cases f: (op== (19:Int))
 case true=>exact Ends.eqv (aOL op pats a   d e g h j l n o q b c f) (by simp_all [cM])
 cases i: (op== (20:Int))
 case true=>exact Ends.eqv (aOM op pats a   d e g h j l n o q b c f i) (by simp_all [cM])
 cases k: (op== (23:Int))
 case true=>exact Ends.eqv (aON op pats a   d e g h j l n o q b c f i k) (by simp_all [cM])
 cases m: (op== (26:Int))
 case true=>exact Ends.eqv (aOO op pats a   d e g h j l n o q b c f i k m) (by simp_all [cM])
 cases p: (op== (24:Int))
 case true=>exact Ends.eqv (aOP op pats a   d e g h j l n o q b c f i k m p) (by simp_all [cM])
 cases r: (op== (6:Int))
 case true=>exact Ends.eqv (aOQ op pats a   d e g h j l n o q b c f i k m p r) (by simp_all [cM])
 cases s: (op== (7:Int))
 case true=>exact Ends.eqv (aOR op pats a   d e g h j l n o q b c f i k m p r s) (by simp_all [cM])
 cases t: (op== (9:Int))
 case true=>exact Ends.eqv (aOS op pats a   d e g h j l n o q b c f i k m p r s t) (by simp_all [cM])
 cases u: (op== (10:Int))
 case true=>exact Ends.eqv (aOT op pats a   d e g h j l n o q b c f i k m p r s t u) (by simp_all [cM])
 cases v: (op== (11:Int))
 case true=>exact Ends.eqv (aOU op pats a   d e g h j l n o q b c f i k m p r s t u v) (by simp_all [cM])
 cases w: (op== (12:Int))
 case true=>exact Ends.eqv (aOV op pats a   d e g h j l n o q b c f i k m p r s t u v w) (by simp_all [cM])
 cases x: (op== (13:Int))
 case true=>exact Ends.eqv (aOW op pats a   d e g h j l n o q b c f i k m p r s t u v w x) (by simp_all [cM])
 cases y: (op== (18:Int))
 case true=>exact Ends.eqv (aOX op pats a   d e g h j l n o q b c f i k m p r s t u v w x y) (by simp_all [cM])
 cases z: (op== (22:Int))
 case true=>exact Ends.eqv (aOY op pats a   d e g h j l n o q b c f i k m p r s t u v w x y z) (by simp_all [cM])
 cases A: (op== (8:Int))
 case true=>exact Ends.eqv (aOZ op pats a   d e g h j l n o q b c f i k m p r s t u v w x y z A) (by simp_all [cM])
 cases B: (op== (15:Int))
 case true=>exact Ends.eqv (aO0 op pats a   d e g h j l n o q b c f i k m p r s t u v w x y z A B sdI) (by simp_all [cM])
 cases C: (op== (14:Int))
 case true=>exact Ends.eqv (aO1 op pats a   d e g h j l n o q b c f i k m p r s t u v w x y z A B C) (by simp_all [cM])
 exact Ends.eqv (aO2 op pats a   d e g h j l n o q b c f i k m p r s t u v w x y z A B C) (by simp_all [cM])
theorem aO3 (op pats a:Int)(hp:0≤pats)(b:pats≤1000) :aM PP 105 [.int .i64 op,.int .i64 pats,.int .i64 a] (.int .i64 (cM op pats a)) :=
 aJ aC rfl rfl (aZ9 op pats a hp b)
def eX (cons:List Con)(n:Int) :Int:=match cons[n.toNat]? with
 |some c=>c.args
 |none=> -1
def eK (cons:List Con)(f n:Int)(s:bX)(k:Nat) :Bool:=
 (if f=1∨f=2∨f=5 then decide (k=0) &&decide (n=0)
 else if f=3 then decide (k=0) &&eB n (-1000000000) 1000000000
 else if f=4 then decide (k=0) &&eB n 0 1
 else if f=6 then eB n 0 ((cons.length:Int) -1) &&decide ((k:Int) =eX cons n)
 else false) &&decide (s= [])
mutual
def eC (cons:List Con) :Pat→Bool
 | .mk f n s ps=>eK cons f n s ps.length&&dA cons ps
def dA (cons:List Con) :List Pat→Bool
 | [] =>true
 |p::ps=>eC cons p&&dA cons ps
end
theorem ptT {p:Prop}(h:p:=by simp_all [eK,eX,dS]) :p:=h
theorem bEN (c e:Int)(d:bX)(a:List Pat)(cons:List Con)(hc:cons.length≤1000)(b:Bool)(hk:∀i:Bool,i=eK cons c e d a.length→Ends PP 0 (dZ c e d a cons i 0).as (.ret (.bool b)) (aA [] 0)) :
  Ends PP 0 (start PP 104 [Pat.av (.mk c e d a),.ilst 2 (map Con.av cons) false]).as (.ret (.bool b)) (aA [] 0) :=by
 cases f: (c== (1:Int))
 case true=>
  cases v: (((length a:Nat) :Int) == (0:Int))
  case true=>
   cases w: (e== (0:Int))
   case true=>exact LeadsM.ends (aVO c e d a cons   f v w) (hk _ (by clear hk;exact ptT))
   exact LeadsM.ends (aVP c e d a cons   f v w) (hk _ (by clear hk;exact ptT))
  exact LeadsM.ends (aVQ c e d a cons   f v) (hk _ (by clear hk;exact ptT))
 cases g: (c== (2:Int))
 case true=>
  cases t: (((length a:Nat) :Int) == (0:Int))
  case true=>
   cases x: (e== (0:Int))
   case true=>exact LeadsM.ends (aVR c e d a cons   f g t x) (hk _ (by clear hk;exact ptT))
   exact LeadsM.ends (aVS c e d a cons   f g t x) (hk _ (by clear hk;exact ptT))
  exact LeadsM.ends (aVT c e d a cons   f g t) (hk _ (by clear hk;exact ptT))
 cases j: (c== (5:Int))
 case true=>
  cases u: (((length a:Nat) :Int) == (0:Int))
  case true=>
   cases z: (e== (0:Int))
   case true=>exact LeadsM.ends (aVU c e d a cons   f g j u z) (hk _ (by clear hk;exact ptT))
   exact LeadsM.ends (aVV c e d a cons   f g j u z) (hk _ (by clear hk;exact ptT))
  exact LeadsM.ends (aVW c e d a cons   f g j u) (hk _ (by clear hk;exact ptT))
 cases h: (c== (3:Int))
 case true=>
  cases n: (((length a:Nat) :Int) == (0:Int))
  case true=>
   cases q: (eB e (-1000000000) 1000000000)
   case true=>exact LeadsM.ends (aVX c e d a cons  (eB e (-1000000000) 1000000000) f g j h n (aX e (-1000000000) 1000000000) q) (hk _ (by clear hk;exact ptT))
   exact LeadsM.ends (aSK c e d a cons  (eB e (-1000000000) 1000000000) f g j h n (aX e (-1000000000) 1000000000) q) (hk _ (by clear hk;exact ptT))
  exact LeadsM.ends (aSL c e d a cons   f g j h n) (hk _ (by clear hk;exact ptT))
 cases k: (c== (4:Int))
 case true=>
  cases o: (((length a:Nat) :Int) == (0:Int))
  case true=>
   cases p: (eB e 0 1)
   case true=>exact LeadsM.ends (aSM c e d a cons  (eB e 0 1) f g j h k o (aX e 0 1) p) (hk _ (by clear hk;exact ptT))
   exact LeadsM.ends (aSN c e d a cons  (eB e 0 1) f g j h k o (aX e 0 1) p) (hk _ (by clear hk;exact ptT))
  exact LeadsM.ends (aSO c e d a cons   f g j h k o) (hk _ (by clear hk;exact ptT))
 cases l: (c== (6:Int))
 case true=>
  cases m: (eB e 0 (((length cons:Nat) :Int) - (1:Int)))
  case true=>
   obtain⟨A,s⟩ :∃y,((cons)[e.toNat]?) =some y:=idT;cases r: (((length a:Nat) :Int) ==A.args)
   case true=>exact LeadsM.ends (aSP c e d a cons  (eB e 0 (((length cons:Nat) :Int) - (1:Int))) A f g j h k l sdI (aX e 0 (((length cons:Nat) :Int) - (1:Int))) m sdI s r) (hk _ (by clear hk;exact ptT))
   exact LeadsM.ends (aSQ c e d a cons  (eB e 0 (((length cons:Nat) :Int) - (1:Int))) A f g j h k l sdI (aX e 0 (((length cons:Nat) :Int) - (1:Int))) m sdI s r) (hk _ (by clear hk;exact ptT))
  exact LeadsM.ends (aSR c e d a cons  (eB e 0 (((length cons:Nat) :Int) - (1:Int))) f g j h k l sdI (aX e 0 (((length cons:Nat) :Int) - (1:Int))) m) (hk _ (by clear hk;exact ptT))
 exact LeadsM.ends (aSS c e d a cons   f g j h k l) (hk _ (by clear hk;exact ptT))
theorem aHV (f n:Int)(s:bX)(ps:List Pat)(cons:List Con)(hl:ps.length<1000000)(d:∀p∈ps,aM PP 104 [Pat.av p,.ilst 2 (map Con.av cons) false] (.bool (eC cons p))) :
  ∀ (t:List Pat) (i:Nat) (b:Bool),ps.drop i=t→Ends PP 0 (dZ f n s ps cons b (i:Int)).as (.ret (.bool (b&&dA cons t))) (aA [] 0)
 | [],i,b,h=>by
  have:=bL h;exact Ends.eqv (aV0 f n s ps cons b i sd) (by simp [dA])
 | .mk e g c a::t,i,b,h=>by
  obtain⟨j,k,l⟩ :=bI h;cases b
  case false=>exact Ends.eqv (aVZ f n s ps cons false i sd rfl) (by simp)
  refine(aVY f n s ps cons true i e g c a _ sd rfl sd sd (d (.mk e g c a) (kS j)) sd).ends ?_;exact Ends.eqv (aHV f n s ps cons hl d t (i+1) _ k) (by simp [dA])
mutual
theorem aHW (cons:List Con)(hc:cons.length≤1000) :∀ (p:Pat),bZ p<1000000→aM PP 104 [Pat.av p,.ilst 2 (map Con.av cons) false] (.bool (eC cons p))
 | .mk f n s a,h=>by
  refine aJ aC (by simp [keylessL,lD,keyless]) rfl ?_;simp only [bZ]at h;have:=eH a;refine bEN f n s a cons hc _ (fun i b=>?_);subst b;rw [eC];exact aHV f n s a cons (by omega) (aLW cons hc a (by omega)) a 0 _ rfl
theorem aLW (cons:List Con)(hc:cons.length≤1000) :∀ (b:List Pat),bG b<1000000→∀p∈b,aM PP 104 [Pat.av p,.ilst 2 (map Con.av cons) false] (.bool (eC cons p))
 | [],_,p,a=>by cases a
 | q::b,h,p,a=>by
  simp only [bG]at h;rcases zq7.1 a with e|a
  ·rw [e];exact aHW cons hc q (by omega)
  ·exact aLW cons hc b (by omega) p a
end
def mAt (m:List (Int×Int))(n:Int) :Int:= (xO n m).getD 0
mutual
def bHR (mc:List (Int×Int)) :Pat→Pat
 | .mk f n t ps=>.mk f (if f=6 then mAt mc n else n) t (aV2 mc ps)
def aV2 (mc:List (Int×Int)) :List Pat→List Pat
 | [] =>[]
 |p::ps=>bHR mc p::aV2 mc ps
end
section
variable (mf mc:List (Int×Int))
end
def aS3 (to:List Int)(k:Int) :Int:=to.getD k.toNat 0
def bS(a:Prog)(b:Node)(c:Bool)(d e:Int):TS:=⟨(tf 64 112 [kp 2 0,kp 3 1,(4,(bV false)),(5,(nI d)),(6,(bV c)),(7,(nI e))] [kc f64 1012,kl f64 1012,.inBlock 1,kc f64 127]),[],[oC 0 [(iN a.nodes),(iI a.funs),(nI a.main),(iC a.cons)],oC 1 [(nI b.op),(nI b.n),(iI b.kids),(iP b.pats)]],2⟩
def aBR(b:List Con)(c:Int)(a:List bX):TS:=⟨(tf 63 42 [(0,(iC b)),(2,(bV false)),(3,(.gl 0 1 0 a.length false)),(4,(nI c))] [kc f63 116,kl f63 116,.inBlock 0,kc f63 15]),[],[oL 0 1 (map dR a)],1⟩
def uV(a:Prog)(c:Int)(b:List Bool):TS:=⟨(tf 27 133 [kp 1 0,(2,(bV false)),(3,(nI (a.nodes.length:Int))),(4,(.gl 1 1 0 b.length true)),(5,(nI c))] [kc f27 500,kl f27 500,.inBlock 0,kc f27 63]),[],[oC 0 [(iN a.nodes),(iI a.funs),(nI a.main),(iC a.cons)],oL 1 1 (map yX b)],2⟩
def qA(a:Prog)(b:List Bool)(c:Int):TS:=⟨(tf 27 133 [kp 1 0,(2,(bV false)),(3,(nI (a.nodes.length:Int))),(4,(.gl 1 1 0 b.length true)),(6,(nI c))] [kc f27 1012,kl f27 1012,.inBlock 2,kc f27 127]),[],[oC 0 [(iN a.nodes),(iI a.funs),(nI a.main),(iC a.cons)],oL 1 1 (map yX b)],2⟩
def uW(a:Prog)(b:List Bool)(c d:Int):TS:=⟨(tf 27 133 [kp 1 0,(2,(bV false)),(3,(nI (a.nodes.length:Int))),(4,(.gl 1 1 0 b.length true)),(6,(nI d)),(7,(nI c))] [kc f27 129612,kl f27 129612,.inBlock 4,.inBlock 3,kc f27 4051,kl f27 1012,.inBlock 2,kc f27 127]),[],[oC 0 [(iN a.nodes),(iI a.funs),(nI a.main),(iC a.cons)],oL 1 1 (map yX b)],2⟩
def uX(b:Prog)(a:List Bool)(c:Int):TS:=⟨(tf 27 133 [(2,(bV false)),(3,(nI (b.nodes.length:Int))),(4,(.gl 0 1 0 a.length true)),(9,(nI c))] [kc f27 2036,kl f27 2036,.inBlock 6,kc f27 255]),[],[oL 0 1 (map yX a)],1⟩
def pD(b:Prog)(a:Node):=tT 0 (start PP 64 [(Prog.av b),(Node.av a)])<|.b 29 13 (a.op==1) (lO 4 62 [(nI a.n),(nI (-1000000000)),(nI 1000000000)]<|fun c=>.b 10 56 (a.op==15) (.b 4 58 c (gm 2 aE a.pats<|lO 0 62 [(nI (a.pats.length:Int)),(nI 1),(nI 5)]<|fun d=>.W 10 2 [0,1] (bS b a d 0 0))<|.W 14 2 [0,1] (bS b a false 0 0))<|.b 4 65 c (gm 2 aE a.pats<|.W 11 2 [0,1] (bS b a ((a.pats.length:Int) ==0) 0 0))<|.W 14 2 [0,1] (bS b a false 0 0))<|.b 6 18 (a.op==2) (lO 4 62 [(nI a.n),(nI 0),(nI 1)]<|fun c=>.b 10 56 (a.op==15) (.b 4 58 c (gm 2 aE a.pats<|lO 0 62 [(nI (a.pats.length:Int)),(nI 1),(nI 5)]<|fun d=>.W 10 2 [0,1] (bS b a d 0 0))<|.W 14 2 [0,1] (bS b a false 0 0))<|.b 4 65 c (gm 2 aE a.pats<|.W 11 2 [0,1] (bS b a ((a.pats.length:Int) ==0) 0 0))<|.W 14 2 [0,1] (bS b a false 0 0))<|.b 6 23 (a.op==4) (gl 6 cC b.funs<|gw 1 30 (0- (b.funs.length:Int))<|lO 0 62 [(nI a.n),(nI (0- (b.funs.length:Int))),(nI 29)]<|fun c=>.b 10 56 (a.op==15) (.b 4 58 c (gm 2 aE a.pats<|lO 0 62 [(nI (a.pats.length:Int)),(nI 1),(nI 5)]<|fun d=>.W 10 2 [0,1] (bS b a d 0 0))<|.W 14 2 [0,1] (bS b a false 0 0))<|.b 4 65 c (gm 2 aE a.pats<|.W 11 2 [0,1] (bS b a ((a.pats.length:Int) ==0) 0 0))<|.W 14 2 [0,1] (bS b a false 0 0))<|.b 6 32 (a.op==24) (lO 4 62 [(nI a.n),(nI 0),(nI 3)]<|fun c=>.b 10 56 (a.op==15) (.b 4 58 c (gm 2 aE a.pats<|lO 0 62 [(nI (a.pats.length:Int)),(nI 1),(nI 5)]<|fun d=>.W 10 2 [0,1] (bS b a d 0 0))<|.W 14 2 [0,1] (bS b a false 0 0))<|.b 4 65 c (gm 2 aE a.pats<|.W 11 2 [0,1] (bS b a ((a.pats.length:Int) ==0) 0 0))<|.W 14 2 [0,1] (bS b a false 0 0))<|.b 6 37 (a.op==14) (gl 7 Con.av b.cons<|gw 1 44 ((b.cons.length:Int) -1)<|lO 0 62 [(nI a.n),(nI 0),(nI ((b.cons.length:Int) -1))]<|fun c=>.b 6 46 c (gX Con.av 6 b.cons a.n<|fun d=>.b 12 56 (a.op==15) (.b 4 58 c (gm 2 aE a.pats<|lO 0 62 [(nI (a.pats.length:Int)),(nI 1),(nI 5)]<|fun e=>.W 10 2 [0,1] (bS b a e d.args 0)) .x)<|.b 4 65 c (gm 2 aE a.pats<|.W 11 2 [0,1] (bS b a ((a.pats.length:Int) ==0) d.args 0)) .x)<|.b 10 56 (a.op==15) (.b 4 58 c .x<|.W 14 2 [0,1] (bS b a false 0 0))<|.b 4 65 c .x<|.W 14 2 [0,1] (bS b a false 0 0))<|.b 10 56 (a.op==15) (.b 4 58 (a.n==0) (gm 2 aE a.pats<|lO 0 62 [(nI (a.pats.length:Int)),(nI 1),(nI 5)]<|fun c=>.W 10 2 [0,1] (bS b a c 0 0))<|.W 14 2 [0,1] (bS b a false 0 0))<|.b 4 65 (a.n==0) (gm 2 aE a.pats<|.W 11 2 [0,1] (bS b a ((a.pats.length:Int) ==0) 0 0))<|.W 14 2 [0,1] (bS b a false 0 0)
def aS4:=fun a b c d e f g i j=>pD a b|>.t e c f|>.t g|>.t i d j tv
def aS5:=fun a b c d e f g=>pD a b|>.t d c e|>.t f|>.f g tv
def aS6:=fun a b c d e f g=>pD a b|>.t d c e|>.f f|>.t g tv
def aS7:=fun a b c d e f g=>pD a b|>.t d c e|>.f f|>.f g tv
def aS8:=fun a b c d e f g i j k=>pD a b|>.f e|>.t f c g|>.t i|>.t j d k tv
def aS9:=fun a b c d e f g i=>pD a b|>.f d|>.t e c f|>.t g|>.f i tv
def aTa:=fun a b c d e f g i=>pD a b|>.f d|>.t e c f|>.f g|>.t i tv
def aTb:=fun a b c d e f g i=>pD a b|>.f d|>.t e c f|>.f g|>.f i tv
def aTc:=fun a b c d e f g i j k l m=>pD a b|>.f e|>.f f|>.t g i c j|>.t k|>.t l d m tv
def aTd:=fun a b c d e f g i j k=>pD a b|>.f d|>.f e|>.t f g c i|>.t j|>.f k tv
def aO4:=fun a b c d e f g i j k=>pD a b|>.f d|>.f e|>.t f g c i|>.f j|>.t k tv
def aO5:=fun a b c d e f g i j k=>pD a b|>.f d|>.f e|>.t f g c i|>.f j|>.f k tv
def aO6:=fun a b c d e f g i j k l m=>pD a b|>.f e|>.f f|>.f g|>.t i c j|>.t k|>.t l d m tv
def aO7:=fun a b c d e f g i j k=>pD a b|>.f d|>.f e|>.f f|>.t g c i|>.t j|>.f k tv
def aO8:=fun a b c d e f g i j k=>pD a b|>.f d|>.f e|>.f f|>.t g c i|>.f j|>.t k tv
def aO9:=fun a b c d e f g i j k=>pD a b|>.f d|>.f e|>.f f|>.t g c i|>.f j|>.f k tv
def aPa:=fun b c d e f g i j k l m n a o p q r=>pD b c|>.f g|>.f i|>.f j|>.f k|>.t l m d n|>.t a e o p|>.t q|>.t a f r tv
def aPb:=fun b c d e f g i j k l m a n o p=>pD b c|>.f f|>.f g|>.f i|>.f j|>.t k l d m|>.t a e n o|>.f p|>.t a tv
def aPc:=fun b c d e f g i j k l a m=>pD b c|>.f e|>.f f|>.f g|>.f i|>.t j k d l|>.f a|>.t m|>.f a tv
def aPd:=fun b c d e f g i j k l a m=>pD b c|>.f e|>.f f|>.f g|>.f i|>.t j k d l|>.f a|>.f m|>.f a tv
def aPe:=fun a b c d e f g i j k l=>pD a b|>.f d|>.f e|>.f f|>.f g|>.f i|>.t j|>.t k c l tv
def aPf:=fun a b c d e f g i j=>pD a b|>.f c|>.f d|>.f e|>.f f|>.f g|>.t i|>.f j tv
def aPg:=fun a b c d e f g i j=>pD a b|>.f c|>.f d|>.f e|>.f f|>.f g|>.f i|>.t j tv
def aPh:=fun a b c d e f g i j=>pD a b|>.f c|>.f d|>.f e|>.f f|>.f g|>.f i|>.f j tv
def aV3(j:Prog)(a:Node)(i:Bool)(k b:Int):=tT 0 (bS j a i k b)<|gm 6 aE a.pats<|gd 2 76 (b< (a.pats.length:Int)) (.b 3 78 i (.o (.y fun c:Int=>.y fun d:Int=>.y fun e:bX=>.y fun f:List Pat=>.y fun g:Int=>.y fun l:Bool=>.i [rn 4,.reg (rd 3 (.ans (.idx (Pat.av (Pat.mk c d e f)))::.d::.pure (nI g)::.d::.d::.b 88 true::rd 3 (.ans (.idx (Pat.av (Pat.mk c d e f)))::rd 3 [.pure (bV l),.d,.d])))] [hA (0≤b),.a (((a.pats)[b.toNat]?) =some (Pat.mk c d e f)) (iV aE),hA (aM PP 69 [(.agg [(nI c),(nI d),(dR e),(iP f)]),(nI 12)] (nI g)),hA (decide (g≥0) =true),hA (0≤b),.a (((a.pats)[b.toNat]?) =some (Pat.mk c d e f)) (iV aE),hA (aM PP 104 [(.agg [(nI c),(nI d),(dR e),(iP f)]),(iC j.cons)] (bV l))]<|gw 4 80 (b+1)<|.W 3 2 [0,1] (bS j a l k (b+1)))<|.y fun c:Int=>.y fun d:Int=>.y fun e:bX=>.y fun f:List Pat=>.y fun g:Int=>.i [rn 4,.reg (rd 3 (.ans (.idx (Pat.av (Pat.mk c d e f)))::.d::.pure (nI g)::.d::.d::.b 88 false::rd 10 []))] [hA (0≤b),.a (((a.pats)[b.toNat]?) =some (Pat.mk c d e f)) (iV aE),hA (aM PP 69 [(.agg [(nI c),(nI d),(dR e),(iP f)]),(nI 12)] (nI g)),hA (decide (g≥0) =false)]<|gw 4 80 (b+1)<|.W 3 2 [0,1] (bS j a false k (b+1)))<|.i [rn 3,.reg (.d::.d::.b 99 false::rd 13 [])] [hA (i=false)]<|gE 1 2 (bV false))<|.o (.y fun m:Int=>.i [rn 6,.reg (.d::.d::.b 99 true::.d::.d::.ans (.len (a.kids.length:Int))::rd 4 (.ans (.len (a.pats.length:Int))::.d::.pure (nI m)::rd 3 []))] [hA (i=true),hl cC a.kids,hm aE a.pats,hA (aM PP 105 [(nI a.op),(nI (a.pats.length:Int)),(nI k)] (nI m)),.q (p:=(nI ((jI a.kids).length:Int)) = (nI (a.kids.length:Int))) (congrArg (int .i64) (aAt _ _)),.q (p:=(nI ((jI a.kids).length:Int)) = (nI (a.kids.length:Int))) (congrArg (int .i64) (aAt _ _)),hr (ilst 1 (jI a.kids) false),hr (ilst 1 (jI a.kids) false)]<|gE 1 2 (bV ((a.kids.length:Int) ==m)))<|.i [rn 6,.reg (.d::.d::.b 99 false::rd 13 [])] [hA (i=false)]<|gE 1 2 (bV false)
def aTe:=fun c d e f g i j k l m n o p a b q r s t=>aV3 c d e f g|>.t o|>.t p|>.1 i j k l m n a b q r a b s t tv
def aTf:=fun a b c d e f g i j k l m n o p q r=>aV3 a b c d e|>.t l|>.t m|>.2 f g i j k n o p q r tv
def aTg:=fun b c d e f g a=>aV3 b c d e f|>.t g|>.f a a tv
def aTh:=fun a b c d e f g i j=>aV3 a b c d e|>.f g|>.1 f i j tv
def aTi:=fun a b c d e f g=>aV3 a b c d e|>.f f|>.2 g tv
def aTj (a:List Con):=(tT 0 (start PP 63 [(iC a)])<|.i [rn 15,.nilL 3 1] []<|gu 0 0 (map dR ([] :List bX))<|gs 0 3 (.gl 0 1 0 ([] :List bX).length false)<|.W 0 1 [0] (aBR a 0 ([] :List bX))) ⟨kk,trivial⟩
def aV4(a:List Con)(c:Int)(d:List bX):=tT 0 (aBR a c d)<|gl 5 Con.av a<|gd 2 8 (c< (a.length:Int)) (gX Con.av 9 a c<|fun b=>lO 2 102 [(dR b.name)]<|fun e=>.b 2 18 (!e) (gE 15 1 (bV false))<|gi Con.av 2 a c b<|lO 2 62 [(nI b.args),(nI 0),(nI 3)]<|fun f=>.b 3 26 (!f) (gE 6 1 (bV false))<|gi Con.av 6 a c b<|ga 3 dR d [b.name]<|gw 6 10 (c+1)<|.W 3 3 [2] (aBR a (c+1) (d++ [b.name])))<|gl 5 Con.av a<|gd 2 38 ((a.length:Int) ≤20) (gz 1 39 0 1 dR d false<|lO 0 103 [(iS d)]<|fun b=>gE 4 1 (bV b))<|gE 6 1 (bV false)
def aTk:=fun a b c d e f g i j k=>aV4 a b c|>.t f d g i e j|>.t k tv
def aTl:=fun c d e f g i j a b k l m n=>aV4 c d e|>.t j f a b g k|>.f l a b i m|>.t n tv
def aTm:=fun c d e f g i j a b k l m n o p=>aV4 c d e|>.t j f a b g k|>.f l a b i m|>.f n a b o p ⟨kk,trivial⟩
def aTn:=fun a b c d e f g=>aV4 a b c|>.f e|>.t f d g tv
def aTo:=fun a b c d e=>aV4 a b c|>.f d|>.f e tv
def aV5(a:Prog):=tT 0 (start PP 27 [(Prog.av a)])<|gl 9 Node.av a.nodes<|gd 8 15 ((a.nodes.length:Int) >300) (gE 30 1 (bV false))<|gl 2 cC a.funs<|lO 1 62 [(nI (a.funs.length:Int)),(nI 1),(nI (a.nodes.length:Int))]<|fun b=>.b 3 23 (!b) (gE 22 1 (bV false))<|gl 4 cC a.funs<|gw 1 29 ((a.funs.length:Int) -1)<|lO 0 62 [(nI a.main),(nI 0),(nI ((a.funs.length:Int) -1))]<|fun c=>.b 3 33 (!c) (gE 12 1 (bV false))<|lO 2 63 [(iC a.cons)]<|fun d=>.b 3 38 (!d) (gE 6 1 (bV false))<|.i [rn 5,.mk a.nodes.length] [hr (a.nodes.length:Int),hr (a.nodes.length:Int),hA (a.nodes.length<100000)]<|.i [.lset 1 (map yX (replicate a.nodes.length false))] [.q (p:=replicate a.nodes.length (yX false) = (map yX (replicate a.nodes.length false))) (aJo _ _ _)]<|.i [.set 40 (.gl 1 1 0 (replicate a.nodes.length false).length true)] [.q (p:=(AV.gl 1 1 0 a.nodes.length true) = (.gl 1 1 0 (replicate a.nodes.length false).length true)) (cF (aIz ..).symm)]<|.W 9 2 [0,1] (uV a 0 (replicate a.nodes.length false))
def aLX:=fun a b=>aV5 a|>.t b tv
def aLY:=fun a b c d e=>aV5 a|>.f c b d|>.t e tv
def aLZ:=fun a b c d e f g i j=>aV5 a|>.f d b e|>.f f g c i|>.t j tv
def aL0:=fun a b c d e f g i j k l m=>aV5 a|>.f e b f|>.f g i c j|>.f k d l|>.t m tv
def aL1:=fun a b c d e f g i j k l m n=>aV5 a|>.f e b f|>.f g i c j|>.f k d l|>.f m n ⟨kk,trivial⟩
def bAa(c:Prog)(d:Int)(a:List Bool):=tT 0 (uV c d a)<|gl 6 cC c.funs<|gd 2 45 (d< (c.funs.length:Int)) (gX cC 10 c.funs d<|fun b=>gw 3 54 ((c.nodes.length:Int) -1)<|lO 0 62 [(nI b),(nI 0),(nI ((c.nodes.length:Int) -1))]<|fun f=>.b 2 57 (!f) (gE 16 2 (bV false))<|gi cC 4 c.funs d b<|.i [rn 1,.ans (.ix)] [hA (0≤b),hA (b< (a.length:Int))]<|.y fun e:Bool=>gj yX 0 a b.toNat e<|.b 2 66 e (gE 6 2 (bV false))<|gi cC 7 c.funs d b<|.i [rn 1,.ans (.ix)] [hA (0≤b),hA (b< (a.length:Int))]<|.i [.st (yX e) (yX true)] [.a (((a)[b.toNat]?) =some e) (cU (f:=yX)),hr (some (yX true))]<|.i [.lset 1 (map yX (set a b.toNat true))] [.q (p:=(map yX a).set (0+b.toNat) (yX true) = (map yX (set a b.toNat true))) (pX _ _ _ _)]<|.i [.set 4 (.gl 1 1 0 (set a b.toNat true).length true)] [.q (p:=(AV.gl 1 1 0 a.length true) = (.gl 1 1 0 (set a b.toNat true).length true)) (cF (fN ..).symm)]<|.i [.set 58 (.gl 1 1 0 (set a b.toNat true).length true)] [.q (p:=(AV.gl 1 1 0 a.length true) = (.gl 1 1 0 (set a b.toNat true).length true)) (cF (fN ..).symm)]<|.i [.set 67 (.gl 1 1 0 (set a b.toNat true).length true)] [.q (p:=(AV.gl 1 1 0 a.length true) = (.gl 1 1 0 (set a b.toNat true).length true)) (cF (fN ..).symm)]<|gw 5 47 (d+1)<|.W 3 2 [0,1] (uV c (d+1) (set a b.toNat true)))<|.W 9 2 [0,1] (qA c a 0)
def aL2:=fun a b c d e f g i j k l=>bAa a b c|>.t f d g i j e k|>.t l tv
def aL3:=fun c d e f g i j a b k l m n o p q=>bAa c d e|>.t j f a b k g l|>.f m a b n o i p|>.t q tv
def aL4:=fun f g i j k l m a b n o p c d e q r=>bAa f g i|>.t m j a b n k o|>.f p a b c d l e|>.f q a b c d e r ⟨kk,trivial⟩
def aL5:=fun a b c d=>bAa a b c|>.f d ⟨kk,trivial⟩
def bEO(a:Prog)(c:List Bool)(b:Int):=tT 0 (qA a c b)<|gd 7 76 (b< (a.nodes.length:Int)) (.y fun d:Node=>.y fun e:Bool=>.i [rn 6,.reg (rd 4 [.ans (.idx (Node.av d)),.d,.pure (bV e),.d])] [hA (0≤b),.a (((a.nodes)[b.toNat]?) =some d) (bC (f:=Node.av)),hA (aM PP 64 [(Prog.av a),(Node.av d)] (bV e))]<|.b 0 86 (!e) (gE 6 2 (bV false))<|.W 8 2 [0,1] (uW a c 0 b))<|.W 9 2 [1] (uX a c 0)
def aL6:=fun a b c d e f g i j k=>bEO a b c|>.t f d e g i j|>.t k tv
def aL7:=fun a b c d e f g i j k=>bEO a b c|>.t f d e g i j|>.f k ⟨kk,trivial⟩
def aL8:=fun a b c d=>bEO a b c|>.f d ⟨kk,trivial⟩
def bAb(d:Prog)(a:List Bool)(e c:Int):=tT 0 (uW d a e c)<|gX Node.av 7 d.nodes c<|fun f=>gl 2 cC f.kids<|gd 2 95 (e< (f.kids.length:Int)) (gi Node.av 9 d.nodes c f<|gX cC 3 f.kids e<|fun b=>gw 9 109 (c+1)<|gw 2 111 ((d.nodes.length:Int) -1)<|lO 0 62 [(nI b),(nI (c+1)),(nI ((d.nodes.length:Int) -1))]<|fun i=>.b 2 114 (!i) (gE 12 2 (bV false))<|.i [rn 2,.ans (.ix)] [hA (0≤b),hA (b< (a.length:Int))]<|.y fun g:Bool=>gj yX 0 a b.toNat g<|.b 2 119 g (gE 6 2 (bV false))<|.i [rn 5,.ans (.ix)] [hA (0≤b),hA (b< (a.length:Int))]<|.i [.st (yX g) (yX true)] [.a (((a)[b.toNat]?) =some g) (cU (f:=yX)),hr (some (yX true))]<|.i [.lset 1 (map yX (set a b.toNat true))] [.q (p:=(map yX a).set (0+b.toNat) (yX true) = (map yX (set a b.toNat true))) (pX _ _ _ _)]<|.i [.set 4 (.gl 1 1 0 (set a b.toNat true).length true)] [.q (p:=(AV.gl 1 1 0 a.length true) = (.gl 1 1 0 (set a b.toNat true).length true)) (cF (fN ..).symm)]<|.i [.set 115 (.gl 1 1 0 (set a b.toNat true).length true)] [.q (p:=(AV.gl 1 1 0 a.length true) = (.gl 1 1 0 (set a b.toNat true).length true)) (cF (fN ..).symm)]<|.i [.set 120 (.gl 1 1 0 (set a b.toNat true).length true)] [.q (p:=(AV.gl 1 1 0 a.length true) = (.gl 1 1 0 (set a b.toNat true).length true)) (cF (fN ..).symm)]<|gw 5 97 (e+1)<|.W 3 2 [0,1] (uW d (set a b.toNat true) (e+1) c))<|gw 6 78 (c+1)<|.W 3 2 [0,1] (qA d a (c+1))
def aL9:=fun c d e f g i j a b k l m n o p q=>bAb c d e f g a b|>.t k a b i l m n o j p|>.t q tv
def aMa:=fun c d e f g i j k a b l m n o p q r s t u v=>bAb c d e f g a b|>.t l a b i m n o p j q|>.f r s t k u|>.t v tv
def aMb:=fun f g i j k l m n a b o p q r s t u c d e v w=>bAb f g i j k a b|>.t o a b l p q r s m t|>.f u c d n e|>.f v c d e w ⟨kk,trivial⟩
def aMc:=fun a b c d e f g i j=>bAb a b c d e f g|>.f i j ⟨kk,trivial⟩
def bEP(c:Prog)(b:List Bool)(a:Int):=tT 0 (uX c b a)<|gd 7 125 (a< (c.nodes.length:Int)) (.i [rn 8,.ans (.ix)] [hA (0≤a),hA (a< (b.length:Int))]<|.y fun d:Bool=>gj yX 0 b a.toNat d<|.b 2 132 (!d) (gE 6 1 (bV false))<|gw 6 127 (a+1)<|.W 3 1 [0] (uX c b (a+1)))<|gE 7 1 (bV true)
def aMd:=fun a b c d e f g i j=>bEP a b c|>.t e f g d i|>.t j tv
def aMe:=fun a b c d e f g i j k=>bEP a b c|>.t e f g d i|>.f j k ⟨kk,trivial⟩
def aMf:=fun a b c d=>bEP a b c|>.f d tv
def fM (c:Con) :Bool:=jR c.name&&eB c.args 0 3
def bE (l:List Con) :List bX:=l.map Con.name
def xU (l:List Con) :Bool:=l.all fM&&decide (l.length≤20) &&pC (bE l)
def dT (p:Prog)(op n:Int) :Bool:=
 if op=1 then eB n (-1000000000) 1000000000
 else if op=2 then eB n 0 1
 else if op=4 then eB n (0- (p.funs.length:Int)) 29
 else if op=24 then eB n 0 3
 else if op=14 then eB n 0 ((p.cons.length:Int) -1)
 else decide (n=0)
def eW (p:Prog)(x:Node) :Bool:=
 dT p x.op x.n&& (if x.op=15 then eB (x.pats.length:Int) 1 5 else decide (x.pats.length=0))
def fH (p:Prog)(x:Node) :Int:=if x.op=14∧eB x.n 0 ((p.cons.length:Int) -1) =true then eX p.cons x.n else 0
def iL (cons:List Con)(q:Pat) :Bool:=decide (bZ q≤12) &&eC cons q
def aP (p:Prog)(x:Node) :Bool:=
 eW p x&&x.pats.all (iL p.cons) &&decide ((x.kids.length:Int) =cM x.op x.pats.length (fH p x))
theorem hM {a:Type}(l:List a) : ((l.length:Int) ==0) =decide (l= []) :=by cases l<;>simp;omega
theorem pJ {p:Prop}(h:p:=by simp_all [eW,dT,fH,eX,hM]) :p:=h
theorem bAc (p:Prog)(x:Node)(hc:p.cons.length≤1000)(G:p.funs.length≤1000)(b:Bool)(hk:∀ (i:Bool) (a:Int),i=eW p x→a=fH p x→Ends PP 0 (bS p x i a 0).as (.ret (.bool b)) (aA [] 0)) :
  Ends PP 0 (start PP 64 [Prog.av p,Node.av x]).as (.ret (.bool b)) (aA [] 0) :=by
 cases c: (x.op== (1:Int))
 case true=>
  cases n: (x.op== (15:Int))
  case true=>
   cases B: (eB (x.n) (-1000000000) 1000000000)
   case true=>exact LeadsM.ends (aS4 p x  (eB (x.n) (-1000000000) 1000000000) (eB ((length x.pats:Nat) :Int) 1 5) c (aX (x.n) (-1000000000) 1000000000) n B (aX ((length x.pats:Nat) :Int) 1 5)) (hk _ _ (by clear hk;exact pJ) (by clear hk;exact pJ))
   exact LeadsM.ends (aS5 p x  (eB (x.n) (-1000000000) 1000000000) c (aX (x.n) (-1000000000) 1000000000) n B) (hk _ _ (by clear hk;exact pJ) (by clear hk;exact pJ))
  cases C: (eB (x.n) (-1000000000) 1000000000)
  case true=>exact LeadsM.ends (aS6 p x  (eB (x.n) (-1000000000) 1000000000) c (aX (x.n) (-1000000000) 1000000000) n C) (hk _ _ (by clear hk;exact pJ) (by clear hk;exact pJ))
  exact LeadsM.ends (aS7 p x  (eB (x.n) (-1000000000) 1000000000) c (aX (x.n) (-1000000000) 1000000000) n C) (hk _ _ (by clear hk;exact pJ) (by clear hk;exact pJ))
 cases d: (x.op== (2:Int))
 case true=>
  cases m: (x.op== (15:Int))
  case true=>
   cases D: (eB (x.n) 0 1)
   case true=>exact LeadsM.ends (aS8 p x  (eB (x.n) 0 1) (eB ((length x.pats:Nat) :Int) 1 5) c d (aX (x.n) 0 1) m D (aX ((length x.pats:Nat) :Int) 1 5)) (hk _ _ (by clear hk;exact pJ) (by clear hk;exact pJ))
   exact LeadsM.ends (aS9 p x  (eB (x.n) 0 1) c d (aX (x.n) 0 1) m D) (hk _ _ (by clear hk;exact pJ) (by clear hk;exact pJ))
  cases A: (eB (x.n) 0 1)
  case true=>exact LeadsM.ends (aTa p x  (eB (x.n) 0 1) c d (aX (x.n) 0 1) m A) (hk _ _ (by clear hk;exact pJ) (by clear hk;exact pJ))
  exact LeadsM.ends (aTb p x  (eB (x.n) 0 1) c d (aX (x.n) 0 1) m A) (hk _ _ (by clear hk;exact pJ) (by clear hk;exact pJ))
 cases f: (x.op== (4:Int))
 case true=>
  cases l: (x.op== (15:Int))
  case true=>
   cases t: (eB (x.n) (0- ((length p.funs:Nat) :Int)) 29)
   case true=>exact LeadsM.ends (aTc p x  (eB (x.n) (0- ((length p.funs:Nat) :Int)) 29) (eB ((length x.pats:Nat) :Int) 1 5) c d f sdI (aX (x.n) (0- ((length p.funs:Nat) :Int)) 29) l t (aX ((length x.pats:Nat) :Int) 1 5)) (hk _ _ (by clear hk;exact pJ) (by clear hk;exact pJ))
   exact LeadsM.ends (aTd p x  (eB (x.n) (0- ((length p.funs:Nat) :Int)) 29) c d f sdI (aX (x.n) (0- ((length p.funs:Nat) :Int)) 29) l t) (hk _ _ (by clear hk;exact pJ) (by clear hk;exact pJ))
  cases s: (eB (x.n) (0- ((length p.funs:Nat) :Int)) 29)
  case true=>exact LeadsM.ends (aO4 p x  (eB (x.n) (0- ((length p.funs:Nat) :Int)) 29) c d f sdI (aX (x.n) (0- ((length p.funs:Nat) :Int)) 29) l s) (hk _ _ (by clear hk;exact pJ) (by clear hk;exact pJ))
  exact LeadsM.ends (aO5 p x  (eB (x.n) (0- ((length p.funs:Nat) :Int)) 29) c d f sdI (aX (x.n) (0- ((length p.funs:Nat) :Int)) 29) l s) (hk _ _ (by clear hk;exact pJ) (by clear hk;exact pJ))
 cases e: (x.op== (24:Int))
 case true=>
  cases k: (x.op== (15:Int))
  case true=>
   cases q: (eB (x.n) 0 3)
   case true=>exact LeadsM.ends (aO6 p x  (eB (x.n) 0 3) (eB ((length x.pats:Nat) :Int) 1 5) c d f e (aX (x.n) 0 3) k q (aX ((length x.pats:Nat) :Int) 1 5)) (hk _ _ (by clear hk;exact pJ) (by clear hk;exact pJ))
   exact LeadsM.ends (aO7 p x  (eB (x.n) 0 3) c d f e (aX (x.n) 0 3) k q) (hk _ _ (by clear hk;exact pJ) (by clear hk;exact pJ))
  cases w: (eB (x.n) 0 3)
  case true=>exact LeadsM.ends (aO8 p x  (eB (x.n) 0 3) c d f e (aX (x.n) 0 3) k w) (hk _ _ (by clear hk;exact pJ) (by clear hk;exact pJ))
  exact LeadsM.ends (aO9 p x  (eB (x.n) 0 3) c d f e (aX (x.n) 0 3) k w) (hk _ _ (by clear hk;exact pJ) (by clear hk;exact pJ))
 cases g: (x.op== (14:Int))
 case true=>
  cases j: (eB (x.n) 0 (((length p.cons:Nat) :Int) - (1:Int)))
  case true=>
   obtain⟨F,u⟩ :∃y,((p.cons)[x.n.toNat]?) =some y:=idT;cases z: (x.op== (15:Int))
   case true=>exact LeadsM.ends (aPa p x  (eB (x.n) 0 (((length p.cons:Nat) :Int) - (1:Int))) F (eB ((length x.pats:Nat) :Int) 1 5) c d f e g sdI (aX (x.n) 0 (((length p.cons:Nat) :Int) - (1:Int))) j sdI u z (aX ((length x.pats:Nat) :Int) 1 5)) (hk _ _ (by clear hk;exact pJ) (by clear hk;exact pJ))
   exact LeadsM.ends (aPb p x  (eB (x.n) 0 (((length p.cons:Nat) :Int) - (1:Int))) F c d f e g sdI (aX (x.n) 0 (((length p.cons:Nat) :Int) - (1:Int))) j sdI u z) (hk _ _ (by clear hk;exact pJ) (by clear hk;exact pJ))
  cases o: (x.op== (15:Int))
  case true=>exact LeadsM.ends (aPc p x  (eB (x.n) 0 (((length p.cons:Nat) :Int) - (1:Int))) c d f e g sdI (aX (x.n) 0 (((length p.cons:Nat) :Int) - (1:Int))) j o) (hk _ _ (by clear hk;exact pJ) (by clear hk;exact pJ))
  exact LeadsM.ends (aPd p x  (eB (x.n) 0 (((length p.cons:Nat) :Int) - (1:Int))) c d f e g sdI (aX (x.n) 0 (((length p.cons:Nat) :Int) - (1:Int))) j o) (hk _ _ (by clear hk;exact pJ) (by clear hk;exact pJ))
 cases h: (x.op== (15:Int))
 case true=>
  cases v: (x.n== (0:Int))
  case true=>exact LeadsM.ends (aPe p x  (eB ((length x.pats:Nat) :Int) 1 5) c d f e g h v (aX ((length x.pats:Nat) :Int) 1 5)) (hk _ _ (by clear hk;exact pJ) (by clear hk;exact pJ))
  exact LeadsM.ends (aPf p x   c d f e g h v) (hk _ _ (by clear hk;exact pJ) (by clear hk;exact pJ))
 cases r: (x.n== (0:Int))
 case true=>exact LeadsM.ends (aPg p x   c d f e g h r) (hk _ _ (by clear hk;exact pJ) (by clear hk;exact pJ))
 exact LeadsM.ends (aPh p x   c d f e g h r) (hk _ _ (by clear hk;exact pJ) (by clear hk;exact pJ))
theorem aAO (p:Prog)(x:Node)(hc:p.cons.length≤1000)(hl:x.pats.length≤10)(a:Int) :
  ∀ (t:List Pat) (i:Nat) (b:Bool),x.pats.drop i=t→Ends PP 0 (bS p x b a (i:Int)).as (.ret (.bool (b&&t.all (iL p.cons) &&decide ((x.kids.length:Int) =cM x.op x.pats.length a)))) (aA [] 0)
 | [],i,b,h=>by
  have:=bL h;cases b
  case false=>exact Ends.eqv (aTi p x false a i sd rfl) (by simp)
  refine Ends.eqv (aTh p x true a i _ sd rfl (aO3 x.op x.pats.length a (by omega) (by omega))) ?_;simp only [all_nil,nX,AV.bool.injEq];rfl
 | .mk e f d c::t,i,b,h=>by
  obtain⟨n,l,o⟩ :=bI h;cases b
  case false=>exact Ends.eqv (aTg p x false a i sd rfl) (by simp)
  have m:=xQ (.mk e f d c) 12 (by omega) (by omega);by_cases k:bZ (.mk e f d c) ≤12
  · have j:0≤mQ (.mk e f d c) 12:= (zC (.mk e f d c) 12).2 (by omega);refine(aTe p x true a i e f d c _ _ sd rfl sd sd m (decide_eq_true j) (aHW p.cons hc (.mk e f d c) (by omega)) sd).ends ?_;exact Ends.eqv (aAO p x hc hl a t (i+1) _ l) (by simp [iL,k])
  · have j:¬mQ (.mk e f d c) 12≥0:=fun g=>k (by have:= (zC (.mk e f d c) 12).1 g;omega);refine(aTf p x true a i e f d c _ sd rfl sd sd m (decide_eq_false j) sd).ends ?_;exact Ends.eqv (aAO p x hc hl a t (i+1) _ l) (by simp [iL,k])
theorem aPi (p:Prog)(x:Node)(hc:p.cons.length≤1000)(d:p.funs.length≤1000)(hl:x.pats.length≤10) :aM PP 64 [Prog.av p,Node.av x] (.bool (aP p x)) :=by
 refine aJ aC rfl rfl (bAc p x hc d _ fun i a c b=>?_);subst c b;exact aAO p x hc hl _ x.pats 0 _ rfl
theorem aFY (l:List Con)(hl:l.length≤1000) :∀ (t:List Con) (i:Nat),l.drop i=t→Ends PP 0 (aBR l (i:Int) (bE (l.take i))).as (.ret (.bool (t.all fM&&decide (l.length≤20) &&pC (bE l)))) (aA [] 0)
 | [],i,h=>by
  have a:=bL h;have e:bE (l.take i) =bE l:=by rw [aG3 a]
  rw [e];by_cases k:l.length≤20
  ·exact Ends.eqv (aTn l i _ _ sd sd (aJq (bE l) (by simp [bE];omega))) (by simp [k])
  ·exact Ends.eqv (aTo l i _ sd sd) (by simp [k])
 | c::t,i,h=>by
  obtain⟨g,j,m⟩ :=bI h;have b:=aLK c.name;cases d:jR c.name
  case false=>
   rw [d]at b;exact Ends.eqv (aTk l i _ c false sd sd sd b rfl) (by simp [fM,d])
  rw [d]at b;have a:=aX c.args 0 3;cases f:eB c.args 0 3
  case false=>
   rw [f]at a;exact Ends.eqv (aTl l i _ c true false sd sd sd b rfl a rfl) (by simp [fM,d,f])
  rw [f]at a;have e:bE (l.take i) ++ [c.name] =bE (l.take (i+1)) :=by
   rw [List.take_add_one,g];simp [bE]
  refine(aTm l i (bE (l.take i)) c true true sd sd sd b rfl a rfl (by simp [bE];omega) sd).ends ?_;rw [e];exact Ends.eqv (aFY l hl t (i+1) j) (by simp [fM,d,f])
theorem aPj (l:List Con)(hl:l.length≤1000) :aM PP 63 [.ilst 2 (map Con.av l) false] (.bool (xU l)) :=
 aJ aC rfl rfl ((aTj l).ends (aFY l hl l 0 rfl))
def marks (lo n:Int) :List Int→List Bool→Option (List Bool)
 | [],u=>some u
 |k::ks,u=>if eB k lo (n-1) =true∧u[k.toNat]?=some false then marks lo n ks (u.set k.toNat true)else none
theorem kB {lo n:Int}:∀ {a:List Int} {u v:List Bool},marks lo n a u=some v→v.length=u.length
 | [],u,v,h=>by simp only [marks,Option.some.injEq]at h;rw [h]
 | k::a,u,v,h=>by
  simp only [marks]at h;split at h
  ·have:=kB h;simpa using this
  ·cases h
def bT (p:Prog) :Nat→List Node→List Bool→Option (List Bool)
 |_,[],u=>some u
 | i,x::t,u=>if aP p x=true then match marks ((i:Int) +1) (p.nodes.length:Int) x.kids u with
   |some v=>bT p (i+1) t v
   |none=>none
  else none
def allT :Option (List Bool) →Bool
 |some u=>u.all fun b=>b
 |none=>false
def eA (p:Prog) :Bool:=decide (p.nodes.length≤300) &&eB (p.funs.length:Int) 1 (p.nodes.length:Int) &&eB p.main 0 ((p.funs.length:Int) -1)
def aK (p:Prog) :Bool:=
 eA p&&xU p.cons&& (match marks 0 (p.nodes.length:Int) p.funs (replicate p.nodes.length false)with
  |some u=>allT (bT p 0 p.nodes u)
  |none=>false)
theorem rF3 (p:Prog)(u:List Bool)(a:p.nodes.length≤1000)(c:u.length=p.nodes.length) :∀ (t:List Bool) (i:Nat),u.drop i=t→Ends PP 0 (uX p u (i:Int)).as (.ret (.bool (t.all fun b=>b))) (aA [] 0)
 | [],i,h=>by
  have:=bL h;exact aMf p u i sd
 | b::t,i,h=>by
  obtain⟨e,d,f⟩ :=bI h;cases b
  case false=>exact Ends.eqv (aMd p u i false sd sd sd sd rfl) (by simp)
  refine(aMe p u i true sd sd sd sd rfl sd).ends ?_;exact Ends.eqv (rF3 p u a c t (i+1) d) (by simp)
theorem bGd (p:Prog)(x:Node)(i:Nat)(d:p.nodes[i]?=some x)(e:p.nodes.length≤1000)(hk:x.kids.length≤1000)(K:List Bool→Bool)
  (hb:∀v:List Bool,v.length=p.nodes.length→Ends PP 0 (qA p v ((i:Int) +1)).as (.ret (.bool (K v))) (aA [] 0)) :
  ∀ (t:List Int) (k:Nat) (u:List Bool),u.length=p.nodes.length→x.kids.drop k=t→Ends PP 0 (uW p u (k:Int) (i:Int)).as (.ret (.bool (match marks ((i:Int) +1) p.nodes.length t u with|some v=>K v|none=>false))) (aA [] 0)
 | [],k,u,c,h=>by
  have:=bL h;have f:= (zq0.1 d).1;refine(aMc p u k i x sd sd sd sd).ends ?_;exact hb u c
 | y::t,k,u,c,h=>by
  obtain⟨l,g,m⟩ :=bI h;have f:= (zq0.1 d).1;have a:=aX y ((i:Int) +1) ((p.nodes.length:Int) -1);cases b:eB y ((i:Int) +1) ((p.nodes.length:Int) -1)
  case false=>
   rw [b]at a;exact Ends.eqv (aL9 p u k i x y false sd sd sd sd sd sd sd a rfl) (by simp [marks,b])
  rw [b]at a;have j:=inB_iff.1 b;obtain⟨z,hz⟩ :∃z,u[y.toNat]?=some z:= ⟨_,kR (by omega)⟩;cases z
  case true=>exact Ends.eqv (aMa p u k i x y true true sd sd sd sd sd sd sd a rfl (by omega) (by omega) hz rfl) (by simp [marks,hz])
  refine(aMb p u k i x y true false sd sd sd sd sd sd sd a rfl (by omega) (by omega) hz rfl sd).ends ?_;exact Ends.eqv (bGd p x i d e hk K hb t (k+1) (u.set y.toNat true) (by simpa using c) g) (by simp [marks,b,hz])
theorem rF1 (p:Prog)(hp:aF p=true)(b:p.nodes.length≤1000)(hc:p.cons.length≤1000)(f:p.funs.length≤1000) :∀ (t:List Node) (i:Nat) (u:List Bool),u.length=p.nodes.length→p.nodes.drop i=t →
  Ends PP 0 (qA p u (i:Int)).as (.ret (.bool (allT (bT p i t u)))) (aA [] 0)
 | [],i,u,c,h=>by
  have:=bL h;refine(aL8 p u i sd).ends ?_;exact rF3 p u b c u 0 rfl
 | x::t,i,u,c,h=>by
  obtain⟨d,g,l⟩ :=bI h;have e:bD x=true:=by
   simp only [aF,cP]at hp;exact zq27.1 hp.2 x (kS d)
  simp only [bD,cP,decide_eq_true_eq]at e;have a:=aPi p x hc f e.1.2;cases k:aP p x
  case false=>
   rw [k]at a;exact Ends.eqv (aL6 p u i x false sd sd sd a rfl) (by simp [bT,k,allT])
  rw [k]at a;refine(aL7 p u i x true sd sd sd a rfl).ends ?_;refine Ends.eqv (bGd p x i d b (by omega) (fun v=>allT (bT p (i+1) t v)) (fun v j=>rF1 p hp b hc f t (i+1) v j g) x.kids 0 u c rfl) ?_;simp only [bT,k,if_true];cases marks ((i:Int) +1) (p.nodes.length:Int) x.kids u<;>rfl
theorem rF0 (p:Prog)(hp:aF p=true)(d:p.nodes.length≤1000)(hc:p.cons.length≤1000)(e:p.funs.length≤1000) :∀ (t:List Int) (i:Nat) (u:List Bool),u.length=p.nodes.length→p.funs.drop i=t →
  Ends PP 0 (uV p (i:Int) u).as (.ret (.bool (match marks 0 p.nodes.length t u with|some v=>allT (bT p 0 p.nodes v) |none=>false))) (aA [] 0)
 | [],i,u,c,h=>by
  have:=bL h;refine(aL5 p i u sd).ends ?_;exact rF1 p hp d hc e p.nodes 0 u c rfl
 | y::t,i,u,c,h=>by
  obtain⟨j,f,k⟩ :=bI h;have a:=aX y 0 ((p.nodes.length:Int) -1);cases b:eB y 0 ((p.nodes.length:Int) -1)
  case false=>
   rw [b]at a;exact Ends.eqv (aL2 p i u y false sd sd sd sd a rfl) (by simp [marks,b])
  rw [b]at a;have g:=inB_iff.1 b;obtain⟨z,hz⟩ :∃z,u[y.toNat]?=some z:= ⟨_,kR (by omega)⟩;cases z
  case true=>exact Ends.eqv (aL3 p i u y true true sd sd sd sd a rfl (by omega) (by omega) hz rfl) (by simp [marks,hz])
  refine(aL4 p i u y true false sd sd sd sd a rfl (by omega) (by omega) hz rfl sd).ends ?_;exact Ends.eqv (rF0 p hp d hc e t (i+1) (u.set y.toNat true) (by simpa using c) f) (by simp [marks,b,hz])
theorem aBS (p:Prog)(hp:aF p=true) :aM PP 27 [Prog.av p] (.bool (aK p)) :=by
 refine aJ aC rfl rfl ?_;have h:=hp;simp only [aF,cP,decide_eq_true_eq]at h;obtain⟨⟨⟨⟨j,l⟩,k⟩,_⟩,_⟩ :=h;by_cases i:p.nodes.length≤300
 · have a:=aX (p.funs.length:Int) 1 (p.nodes.length:Int);cases g:eB (p.funs.length:Int) 1 (p.nodes.length:Int)
   case false=>
    rw [g]at a;exact Ends.eqv (aLY p false sd a rfl) (by simp [aK,eA,g])
   rw [g]at a;have b:=aX p.main 0 ((p.funs.length:Int) -1);cases d:eB p.main 0 ((p.funs.length:Int) -1)
   case false=>
    rw [d]at b;exact Ends.eqv (aLZ p true false sd a rfl sd b rfl) (by simp [aK,eA,d])
   rw [d]at b;have c:=aPj p.cons (by omega);cases f:xU p.cons
   case false=>
    rw [f]at c;exact Ends.eqv (aL0 p true true false sd a rfl sd b rfl c rfl) (by simp [aK,f])
   rw [f]at c;refine(aL1 p true true true sd a rfl sd b rfl c rfl (by omega)).ends ?_;refine Ends.eqv (rF0 p hp (by omega) (by omega) (by omega) p.funs 0 _ (by simp) rfl) ?_;have e:eA p=true:=by simp [eA,i,g,d]
   simp only [aK,e,f,nX]
 ·exact Ends.eqv (aLX p sd) (by simp [aK,eA,i])
def checkN (b:Bool) :Int:=if b=true then 0 else 2
end
end Go.Hb
