/- A machine on abstract values, its soundness, ways, plain laws. -/
import Derived.Test.YtnljmgihoioocaaGreatHF
set_option linter.defProp false
set_option linter.unusedVariables false
set_option linter.unusedSimpArgs false
set_option linter.unusedSectionVars false
set_option maxRecDepth 100000
set_option maxHeartbeats 2000000
namespace Go.Hb
open AV (ilst int keyless keylessL ptr ren renL)
open List (all_nil drop getElem?_set length length_nil map map_nil nodup_nil replicate set set_cons_succ take)
open Nat (le_of_lt le_refl lt_irrefl mul_one)
open Go.Proofs Tryz
noncomputable section
section
variable {P :Program}
theorem Rel.swap {E E':Emb}{h h':Hp}{w:World}(r:Rel E h w.heap)(K:Nat→Prop)(hnb:h.nb≤h'.nb)(s:∀b,b<h.nb→E' b=E b)(f:E'.imm=E.imm)(T:∀b,h'.nb≤b→E' b=none)
  (A:∀b o,h.look b=some o→¬K b→bY o= [] ∧jF o=false)
  (c:∀b o,h'.look b=some o→ (K b∧h.look b=some o) ∨ (b<h'.nb∧bY o= [] ∧jF o=false∧ (b<h.nb→¬K b∧∃d,h.look b=some d) ∧∃L,E' b=some L∧OR E' w.heap L o∧∀i,Own o L i→∃l d p,¬K l∧h.look l=some d∧E l=some p∧Own d p i))
  (M:∀b a o j L u,¬ (K b∧h.look b=some o) →¬ (K a∧h.look a=some j) →h'.look b=some o→h'.look a=some j→E' b=some L→E' a=some u→b≠a→¬Meet o j L u) :
  E.le E'∧Rel E' h' w.heap∧∀m,m≤h.nb→ExtM m E h w E' h' w:=by
 have B:E.le E':= ⟨fun b L e=>by rw [s b (r.nb_gt e)];exact e,fun k C e=>by rw [f];exact e⟩;have hK:∀ {b o},K b∧h.look b=some o→E' b=E b:=fun {b o} g=>s b (r.keys b o g.2)
 have y:∀ {b o L},h'.look b=some o→E' b=some L→∀i,Own o L i→∃l d p,h.look l=some d∧E l=some p∧Own d p i:=fun {b o L} e k i F=>by
  rcases c b o e with g| ⟨_,_,_,_,Y,D,_,S⟩
  ·exact⟨b,o,L,g.2,by rw [←hK g];exact k,F⟩
  · rw [k]at D;cases D;obtain⟨l,d,p,_,G,H,J⟩ :=S i F;exact⟨l,d,p,G,H,J⟩
 have n:∀ {b a o j L u},¬ (K b∧h.look b=some o) →K a∧h.look a=some j→h'.look b=some o→E' b=some L→E a=some u→∀i,Own o L i→¬Own j u i:=fun {b a o j L u} g t e k z i O N=>by
  rcases c b o e with q| ⟨_,_,_,_,Y,D,_,S⟩
  ·exact g q
  · rw [k]at D;cases D;obtain⟨l,d,p,V,G,H,J⟩ :=S i O;obtain⟨R,Q⟩ :=A l d G V;rcases r.kin l a d j p u G t.2 H z ⟨i,J,N⟩ (fun e=>V (e ▸ t.1))with⟨x,_⟩ | ⟨_,x,_⟩
    ·rw [R]at x;cases x
    ·rw [Q]at x;cases x
 refine⟨B,⟨fun b o e=>?_,fun b a o j L u e U k z v I=>?_,T,fun k C e=>by rw [f]at e;exact r.imm k C e,fun b o L e k i F=>?_,fun b o e=>?_⟩,fun m hm=> ⟨fun b hb=>s b (by omega),B.2,le_refl _,fun _ _ _=>rfl,fun b o L e k i F _=>y e k i F,by omega,rfl,rfl,rfl,fun _ _=>rfl,fun k C e _=>.inl (by rw [f]at e;exact e),fun b o e hb=>?_⟩⟩
 · rcases c b o e with g| ⟨_,_,_,_,L,D,W,_⟩
   · rcases r.obj0 b o g.2 with⟨R,Q⟩ | ⟨L,Z,X⟩
     ·exact .inl ⟨R,by rw [hK g];exact Q⟩
     ·exact .inr ⟨L,by rw [hK g];exact Z,X.mono B⟩
   ·exact .inr ⟨L,D,W⟩
 · by_cases g:K b∧h.look b=some o
   · by_cases t:K a∧h.look a=some j
     · rw [hK g]at k;rw [hK t]at z;exact r.kin b a o j L u g.2 t.2 k z v I
     · rw [hK g]at k;obtain⟨i,O,N⟩ :=v;exact absurd O (n t g U z k i N)
   · by_cases t:K a∧h.look a=some j
     · rw [hK t]at z;obtain⟨i,O,N⟩ :=v;exact absurd N (n g t e k z i O)
     ·exact absurd v (M b a o j L u g t e U k z I)
 · rw [f];obtain⟨l,d,p,G,H,J⟩ :=y e k i F;exact r.apart l d p G H i J
 · rcases c b o e with g| ⟨g,_⟩
   ·have:=r.keys b o g.2;omega
   ·exact g
 · rcases c b o e with g| ⟨_,_,_,g,_⟩
   ·exact⟨o,g.2⟩
   ·exact(g (by omega)).2
end
inductive XT where
 |mk (op n:Int) (kids:List XT) (pats:List Pat)
mutual
def XT.av :XT→AV
 | .mk o n ks ps=>.iptr [.int .i64 o,.int .i64 n,.ilst 1 (XTs.av ks) false,.ilst 4 (Pats.av ps) false]
def XTs.av :List XT→List AV
 | [] =>[]
 |p::ps=>XT.av p::XTs.av ps
end
theorem cR :∀l,XTs.av l=map XT.av l
 | [] =>rfl
 |p::a=>by rw [XTs.av,cR a];rfl
mutual
theorem aLW :∀p,keyless (XT.av p) =true
 | .mk o n b a=>by simp [XT.av,keyless]
theorem bBt :∀l,keylessL (XTs.av l) =true
 | [] =>rfl
 |p::a=>by rw [XTs.av,keylessL,aLW p,bBt a];rfl
end
abbrev Imm :=Nat→Option (Array Value)
def Imm.le (a b:Imm) :Prop:=∀k C,a k=some C→b k=some C
def emI (imm:Imm) :Emb:= ⟨fun _=>none,imm⟩
theorem aCS {a b:Imm}(h:Imm.le a b) : (emI a).le (emI b) := ⟨fun _ _ e=>e,h⟩
def adr (a:Nat×Nat) :Value:=.pointer (some ⟨a.1,a.2,none⟩)
mutual
def TAt (imm:Imm)(H:Array Obj) :Nat×Nat→XT→List Nat→Prop
 | a,.mk o n ks ps,F=>∃ (C:Array Value) (e:TypeId) (kv pv:Value) (Fk:List Nat),H[a.1]?=some (.cells C e (0,0)) ∧C[a.2]?=some (.int .i64 o) ∧C[a.2+1]?=some (.int .i64 n) ∧C[a.2+2]?=some kv∧C[a.2+3]?=some pv∧VR (emI imm) (.ilst 4 (Pats.av ps) false) pv∧F=a.1::Fk ∧
   ((ks= [] ∧Fk= [] ∧ ((∃b,kv= .slice b 0 0) ∨∃ (b:Nat×Nat) (cap:Nat),kv= .slice (some ⟨b.1,b.2,none⟩) 0 cap)) ∨∃ (b:Nat×Nat) (cap:Nat) (Ck:Array Value) (ek:TypeId) (ad:List (Nat×Nat)) (Fr:List Nat),kv= .slice (some ⟨b.1,b.2,none⟩) ks.length cap∧ks≠ [] ∧ks.length≤cap∧b.2+cap≤Ck.size∧H[b.1]?=some (.cells Ck ek (0,0)) ∧ad.length=ks.length∧ (∀j,j<ks.length→Ck[b.2+j]?= (ad.map adr)[j]?) ∧Fk=b.1::Fr∧TsAt imm H ad ks Fr)
def TsAt (imm:Imm)(H:Array Obj) :List (Nat×Nat) →List XT→List Nat→Prop
 |ad,[],F=>ad= [] ∧F= []
 |ad,t::ts,F=>∃a ad' F1 F2,ad=a::ad'∧F=F1++F2∧TAt imm H a t F1∧TsAt imm H ad' ts F2
end
mutual
theorem TAt.go {d c:Imm}{H m:Array Obj}(f:Imm.le d c) :∀ (t:XT) (a:Nat×Nat) (F:List Nat),TAt d H a t F→ (∀i∈F,m[i]?=H[i]?) →TAt c m a t F
 | .mk o n O T,a,F,h,j=>by
  simp only [TAt]at h ⊢;obtain⟨C,e,N,M,v,K,R,x,Q,S,L,z,w⟩ :=h;subst z;refine⟨C,e,N,M,v,by rw [j _ (cQ ..)];exact K,R,x,Q,S,L.mono (aCS f),rfl,?_⟩;rcases w with g| ⟨b,k,G,q,l,p,I,D,r,J,y,u,A,s,B⟩
  ·exact .inl g
  · subst s;exact .inr ⟨b,k,G,q,l,p,I,D,r,J,by rw [j _ (by simp)];exact y,u,A,rfl,TsAt.go f O l p B (fun i f=>j i (by simp [f]))⟩
theorem TsAt.go {e b:Imm}{H l:Array Obj}(c:Imm.le e b) :∀ (g:List XT) (f:List (Nat×Nat)) (F:List Nat),TsAt e H f g F→ (∀i∈F,l[i]?=H[i]?) →TsAt b l f g F
 | [],f,F,h,_=>by simpa only [TsAt]using h
 | t::g,f,F,h,j=>by
  simp only [TsAt]at h ⊢;obtain⟨a,d,k,m,rfl,rfl,n,o⟩ :=h;exact⟨a,d,k,m,rfl,rfl,TAt.go c t a k n (fun i c=>j i (by simp [c])),TsAt.go c g d m o (fun i c=>j i (by simp [c]))⟩
end
mutual
theorem TAt.blk {d:Imm}{H:Array Obj}:∀ (t:XT) (a:Nat×Nat) (F:List Nat),TAt d H a t F→∀i∈F,∃C e,H[i]?=some (.cells C e (0,0))
 | .mk o n r u,a,F,h,i,c=>by
  simp only [TAt]at h;obtain⟨C,e,J,I,x,p,L,y,K,M,G,rfl,j⟩ :=h;rcases zq7.1 c with rfl|c
  ·exact⟨C,e,p⟩
  · rcases j with⟨_,rfl,_⟩ | ⟨b,g,m,f,q,s,B,A,v,D,k,w,z,rfl,l⟩
    ·cases c
    · rcases zq7.1 c with rfl|c
      ·exact⟨m,f,k⟩
      ·exact TsAt.blk r q s l i c
theorem TsAt.blk {f:Imm}{H:Array Obj}:∀ (g:List XT) (d:List (Nat×Nat)) (F:List Nat),TsAt f H d g F→∀i∈F,∃C e,H[i]?=some (.cells C e (0,0))
 | [],d,F,h,i,b=>by simp only [TsAt]at h;rw [h.2]at b;cases b
 | t::g,d,F,h,i,b=>by
  simp only [TsAt]at h;obtain⟨a,c,j,l,rfl,rfl,k,m⟩ :=h;rcases zq28.1 b with b|b
  ·exact TAt.blk t a j k i b
  ·exact TsAt.blk g c l m i b
end
theorem TsAt.len {c:Imm}{H:Array Obj}:∀ {d:List XT} {b:List (Nat×Nat)} {F:List Nat},TsAt c H b d F→b.length=d.length
 | [],b,F,h=>by simp only [TsAt]at h;rw [h.1];rfl
 | t::d,b,F,h=>by
  simp only [TsAt]at h;obtain⟨a,e,g,i,rfl,rfl,_,f⟩ :=h;simp [f.len]
def OsAt (imm:Imm)(H:Array Obj) :List (Nat×Nat) →List (Option XT) →List Nat→Prop
 |ad,[],F=>ad= [] ∧F= []
 |ad,some t::ts,F=>∃a ad' F1 F2,ad=a::ad'∧F=F1++F2∧TAt imm H a t F1∧OsAt imm H ad' ts F2
 |ad,none::ts,F=>∃a ad',ad=a::ad'∧OsAt imm H ad' ts F
theorem os_ts {c:Imm}{H:Array Obj}:∀ {j:List XT} {d:List (Nat×Nat)} {F:List Nat},OsAt c H d (j.map some) F↔TsAt c H d j F
 | [],d,F=>by simp [OsAt,TsAt]
 | t::j,d,F=>by
  simp only [eU,OsAt,TsAt];constructor
  ·rintro⟨a,b,f,h,e,k,g,i⟩;exact⟨a,b,f,h,e,k,g,os_ts.1 i⟩
  ·rintro⟨a,b,f,h,e,k,g,i⟩;exact⟨a,b,f,h,e,k,g,os_ts.2 i⟩
theorem OsAt.go {g c:Imm}{H m:Array Obj}(d:Imm.le g c) :∀ (e:List (Option XT)) (f:List (Nat×Nat)) (F:List Nat),OsAt g H f e F→ (∀i∈F,m[i]?=H[i]?) →OsAt c m f e F
 | [],f,F,h,_=>by simpa only [OsAt]using h
 | some t::e,f,F,h,j=>by
  simp only [OsAt]at h ⊢;obtain⟨a,b,l,n,rfl,rfl,o,k⟩ :=h;exact⟨a,b,l,n,rfl,rfl,TAt.go d t a l o (fun i d=>j i (by simp [d])),OsAt.go d e b n k (fun i d=>j i (by simp [d]))⟩
 | none::e,f,F,h,j=>by
  simp only [OsAt]at h ⊢;obtain⟨a,b,rfl,k⟩ :=h;exact⟨a,b,rfl,OsAt.go d e b F k j⟩
theorem OsAt.blk {j:Imm}{H:Array Obj}:∀ (d:List (Option XT)) (f:List (Nat×Nat)) (F:List Nat),OsAt j H f d F→∀i∈F,∃C e,H[i]?=some (.cells C e (0,0))
 | [],f,F,h,i,b=>by simp only [OsAt]at h;rw [h.2]at b;cases b
 | some t::d,f,F,h,i,b=>by
  simp only [OsAt]at h;obtain⟨a,c,k,m,rfl,rfl,l,g⟩ :=h;rcases zq28.1 b with b|b
  ·exact TAt.blk t a k l i b
  ·exact OsAt.blk d c m g i b
 | none::d,f,F,h,i,b=>by
  simp only [OsAt]at h;obtain⟨a,c,rfl,g⟩ :=h;exact OsAt.blk d c F g i b
theorem OsAt.len {f:Imm}{H:Array Obj}:∀ {c:List (Option XT)} {b:List (Nat×Nat)} {F:List Nat},OsAt f H b c F→b.length=c.length
 | [],b,F,h=>by simp only [OsAt]at h;rw [h.1];rfl
 | some t::c,b,F,h=>by
  simp only [OsAt]at h;obtain⟨a,d,g,i,rfl,rfl,_,e⟩ :=h;simp [e.len]
 | none::c,b,F,h=>by
  simp only [OsAt]at h;obtain⟨a,d,rfl,e⟩ :=h;simp [e.len]
theorem OsAt.out {f:Imm}{H:Array Obj}:∀ {g:List (Option XT)} {d:List (Nat×Nat)} {F:List Nat} {i:Nat} {t:XT},OsAt f H d g F→g[i]?=some (some t) →∃a c l,d[i]?=some a∧TAt f H a t c∧OsAt f H d (g.set i none) l∧ (c++l).Perm F
 | [],d,F,i,t,_,e=>by simp at e
 | some u::g,d,F,0,t,h,e=>by
  simp only [OsAt]at h;obtain⟨a,b,c,l,rfl,rfl,r,m⟩ :=h;simp only [mM,Option.some.injEq]at e;subst e;exact⟨a,c,l,rfl,r,by simp only [List.set_cons_zero,OsAt];exact⟨a,b,rfl,m⟩,List.Perm.refl _⟩
 |none::g,d,F,0,t,h,e=>by simp at e
 | some u::g,d,F,i+1,t,h,e=>by
  simp only [OsAt]at h;obtain⟨a,b,c,l,rfl,rfl,r,m⟩ :=h;obtain⟨n,k,j,p,o,q,s⟩ :=OsAt.out m (by simpa using e);refine⟨n,k,c++j,by simpa using p,o,by simp only [set_cons_succ,OsAt];exact⟨a,b,c,j,rfl,rfl,r,q⟩,?_⟩;have: (k++ (c++j)).Perm (c++ (k++j)) :=by
   rw [←zq9,←zq9];exact List.Perm.append_right _ List.perm_append_comm
  exact this.trans (List.Perm.append_left _ s)
 | none::g,d,F,i+1,t,h,e=>by
  simp only [OsAt]at h;obtain⟨a,b,rfl,m⟩ :=h;obtain⟨n,k,j,p,o,q,s⟩ :=OsAt.out m (by simpa using e);exact⟨n,k,j,by simpa using p,o,by simp only [set_cons_succ,OsAt];exact⟨a,b,rfl,q⟩,s⟩
theorem OsAt.put {g:Imm}{H:Array Obj}:∀ {j:List (Option XT)} {d:List (Nat×Nat)} {F c:List Nat} {i:Nat} {t:XT} {a:Nat×Nat},OsAt g H d j F→j[i]?=some none→TAt g H a t c→∃f,OsAt g H (d.set i a) (j.set i (some t)) f∧f.Perm (c++F)
 | [],d,F,c,i,t,a,_,e,_=>by simp at e
 |some r::j,d,F,c,0,t,a,h,e,_=>by simp at e
 | none::j,d,F,c,0,t,a,h,e,k=>by
  simp only [OsAt]at h;obtain⟨m,b,rfl,l⟩ :=h;exact⟨c++F,by simp only [List.set_cons_zero,OsAt];exact⟨a,b,c,F,rfl,rfl,k,l⟩,List.Perm.refl _⟩
 | some r::j,d,F,c,i+1,t,a,h,e,k=>by
  simp only [OsAt]at h;obtain⟨m,b,p,s,rfl,rfl,q,l⟩ :=h;obtain⟨f,o,n⟩ :=OsAt.put l (by simpa using e) k;refine⟨p++f,by simp only [set_cons_succ,OsAt];exact⟨m,b.set i a,p,f,rfl,rfl,q,o⟩,?_⟩;refine(List.Perm.append_left _ n).trans ?_;rw [←zq9,←zq9];exact List.Perm.append_right _ List.perm_append_comm
 | none::j,d,F,c,i+1,t,a,h,e,k=>by
  simp only [OsAt]at h;obtain⟨m,b,rfl,l⟩ :=h;obtain⟨f,o,n⟩ :=OsAt.put l (by simpa using e) k;exact⟨f,by simp only [set_cons_succ,OsAt];exact⟨m,b.set i a,rfl,o⟩,n⟩
section
variable {P :Program}
abbrev ZP :=List Nat→List (Nat×Nat×Nat) →Imm→Array Obj→Prop
def gh :AObj:=.zone false [] (fun _ _ _ _=>True)
def cH (ts:List XT) :ZP:=fun F Ks imm H=>F.Nodup∧∃K:Nat×Nat×Nat,Ks= [K] ∧ ((ts= [] ∧F= []) ∨∃ (C:Array Value) (e:TypeId) (ad:List (Nat×Nat)) (Fr:List Nat),ts≠ [] ∧F=K.1::Fr∧H[K.1]?=some (.cells C e (0,0)) ∧C.size=K.2.2∧ (∀j,j<ts.length→C[K.2.1+j]?= (ad.map adr)[j]?) ∧TsAt imm H ad ts Fr)
def ZV (us:List (Nat×Nat))(ts:List (Option XT)) :ZP:=fun F _ imm H=>F.Nodup∧OsAt imm H us ts F
def eN (us:List (Nat×Nat))(ts:List (Option XT))(i:Nat) :ZP:=fun F Ks imm H=>F.Nodup∧OsAt imm H us ts F∧ts[i]?=some none∧∃K:Nat×Nat×Nat,Ks= [K] ∧us[i]?=some (K.1,K.2.1)
def Z1 (t:XT) :ZP:=fun F Ks imm H=>F.Nodup∧∃K:Nat×Nat×Nat,Ks= [K] ∧TAt imm H (K.1,K.2.1) t F
theorem uT {E:Emb}{H:Array Obj}{F:List Nat}{b sz:Nat}{rs:List Nat}{Ls:List Loc}{Z:ZP}(f:map E.loc rs=map some Ls)(hb:∀i∈F,∃C e,H[i]?=some (.cells C e (0,0)))
  (hz:∀ (a:Imm) (c:Array Obj),Imm.le E.imm a→ (∀i∈F,c[i]?=H[i]?) →Z F (map (fun K=> (K.blk,K.sh,K.sz)) Ls) a c) :OR E H ⟨iV F,b,sz⟩ (.zone true rs Z) :=by
 have d:fpz true ⟨iV F,b,sz⟩ =F:=aHo F;show(∀i∈fpz true ⟨iV F,b,sz⟩,_) ∧_;rw [d];exact⟨hb,Ls,f,hz⟩
theorem zone_own {F:List Nat}{a sz:Nat}{rs:List Nat}{Z:ZP}{i:Nat}:Own (.zone true rs Z) ⟨iV F,a,sz⟩ i↔i∈F:=by
 show i∈fpz true ⟨iV F,a,sz⟩ ↔_;rw [show fpz true ⟨iV F,a,sz⟩ =F from aHo F]
theorem aRO {E:Emb}{H:Array Obj}{L:Loc}:OR E H L gh:= ⟨fun i a=> (by cases a),[],rfl,fun _ _ _ _=>trivial⟩
theorem lB {L:Loc}{i:Nat}:¬Own gh L i:=fun h=>by cases h
theorem fV {E:Emb}{H:Array Obj}{L:Loc}{rs:List Nat}{Z:ZP}(r:OR E H L (.zone true rs Z)) :∃a:List Loc,map E.loc rs=map some a∧Z (jE L.blk) (map (fun K=> (K.blk,K.sh,K.sz)) a) E.imm H:=by
 obtain⟨_,a,c,b⟩ :=r;exact⟨a,c,b E.imm H (fun _ _ e=>e) (fun _ _=>rfl)⟩
def kN (h h':Hp) :Prop:=∀ (E:Emb) (w:World),Rel E h w.heap→∃E',E.le E'∧Rel E' h' w.heap∧∀m,m≤h.nb→ExtM m E h w E' h' w
theorem aLX {m:Nat}{fr:AFrame}{cs:List AFrame}{h h':Hp}(z:kN h h') :LeadsM P m ⟨fr,cs,h⟩ ⟨fr,cs,h'⟩ :=fun hm E e a w c f fs r=>by
 obtain⟨d,b,i,g⟩ :=z E w r;exact⟨d,e,a,w,Steps.refl _ _,f.mono b,fs.mono b,i,g m hm⟩
def aAV {α:Type}(h:Hp)(ok:α→Prop)(h':α→Hp) :Prop:=∀ (E:Emb) (w:World),Rel E h w.heap→∃x E',ok x∧E.le E'∧Rel E' (h' x) w.heap∧∀m,m≤h.nb→ExtM m E h w E' (h' x) w
theorem aLY {e:Type}{m:Nat}{fr:AFrame}{cs:List AFrame}{h:Hp}{ok:e→Prop}{h':e→Hp}{a:Res}{hf:Hp}(z:aAV h ok h')(k:∀x,ok x→Ends P m ⟨fr,cs,h' x⟩ a hf) :Ends P m ⟨fr,cs,h⟩ a hf:=fun hm E q d w f fs r s b=>by
 obtain⟨x,n,u,g,A,t⟩ :=z E w r;have i:=t m hm;obtain⟨c,j,p,y,l,v,o⟩ :=k x u i.nb n q d w (f.mono g) (fs.mono g) A s b;exact⟨c,j,p,y,l,v,i.trans o⟩
theorem Rel.noMeet {E:Emb}{h:Hp}{H:Array Obj}(r:Rel E h H){b a:Nat}{o o':AObj}{L L':Loc}(e:h.look b=some o)(f:h.look a=some o')(k:E b=some L)(d:E a=some L')(c:b≠a)(h1:bY o= [] :=by rfl)(h2:bY o'= [] :=by rfl) :¬Meet o o' L L':=fun hm=>by
 rcases r.kin b a o o' L L' e f k d hm c with⟨g,_⟩ | ⟨g,_⟩
 ·rw [h1]at g;cases g
 ·rw [h2]at g;cases g
def vls (us:List (Nat×Nat)) :List AV:=map (fun a=>AV.val (adr a)) us
theorem vls_vrs {E:Emb}:∀ {b:List (Nat×Nat)} {a:List Value},VRs E (vls b) a↔a=b.map adr
 | [],a=>by simp [vls,VRs]
 | u::b,a=>by
  simp only [vls,eU,VRs,VR];constructor
  ·rintro⟨v,c,rfl,rfl,h⟩;rw [vls_vrs.1 h]
  ·intro h;exact⟨_,_,h,rfl,vls_vrs.2 rfl⟩
theorem aJr (a:Nat×Nat) :okE 1 (adr a) := ⟨rfl,fun c hc=>by simp [adr,Value.cells]at hc;subst hc;rfl⟩
theorem lZ :∀a:List (Nat×Nat),flat (a.map adr) =a.map adr
 | [] =>rfl
 | u::a=>by
  have:=lZ a;unfold flat at this ⊢;simp only [eU,List.flatMap_cons,this];rfl
theorem aCU {h h':Hp}{k g:Nat}{us:List (Nat×Nat)}{ts:List XT}(hk:h.look k=some (.lst 1 (vls us)))(n:h.look g=some (.zone true [] (ZV us (ts.map some))))(t:ts≠ [])(I:h.nb<h'.nb)
  (hl:∀b o,h'.look b=some o→ (b=k∧o=gh) ∨ (b=h.nb∧o= .zone true [k] (cH ts)) ∨ (b≠k∧b≠g∧h.look b=some o)) :kN h h':=fun E w r=>by
 have G:k≠g:=fun e=>by subst e;rw [hk]at n;cases n
 obtain⟨v,K,O⟩ :=r.obj g _ n;obtain⟨Ls,_,F,z⟩ :=fV O;have m:=os_ts.1 z;have s:us.length=ts.length:=m.len;have hu:kL (.lst 1 (vls us)) =false:=by
  cases us with
  |nil=>exact absurd (zq35.1 s.symm) t
  |cons u us=>rfl
 obtain⟨p,x,C,M,vs,N,X,A,c4,U⟩ :=r.obj k _ hk hu;have A:=vls_vrs.1 A;subst A;have B:p.blk∉jE v.blk:=fun c=>r.noMeet hk n x K G rfl rfl ⟨_,rfl,c⟩
 let E':=E.put h.nb ⟨iV (p.blk::jE v.blk),0,0⟩
 have Z:=r.keys k _ hk;have V:=r.keys g _ n;have y:∀ {b},b≠h.nb→E' b=E b:=fun hb=>Emb.put_ne _ _ hb;have Y:E.le E':=Emb.le_put (r.fresh _ (le_refl _));have l:OR E' w.heap ⟨iV (p.blk::jE v.blk),0,0⟩ (.zone true [k] (cH ts)) :=by
  refine uT (Ls:=[p]) (by simp only [eU,map_nil,List.cons.injEq,and_true];rw [show E'.loc k=E.loc k from y (by omega)];exact x) (fun i a=>?_) (fun J H' a H=> ⟨List.nodup_cons.2 ⟨B,F⟩,_,rfl,.inr ⟨C,M,us,_,t,rfl,by rw [H _ (cQ ..)];exact N,X,fun j hj=>?_,TsAt.go a ts us _ m (fun i a=>H i (cL _ a))⟩⟩)
  · rcases zq7.1 a with rfl|a
    ·exact⟨C,M,N⟩
    ·exact TsAt.blk ts us _ m i a
  · have:=U j (by rw [mR];omega);rw [this,lZ]
 obtain⟨q1,S,q3⟩ :=r.swap (E':=E') (h':=h') (fun b=>b≠k∧b≠g) (le_of_lt I) (fun b hb=>y (by omega)) rfl (fun b hb=>by rw [y (by omega)];exact r.fresh b (by omega))
  (fun b o e hb=>by
   by_cases f:b=k
   ·subst f;rw [hk]at e;cases e;exact⟨rfl,rfl⟩
   · have d:b=g:=Classical.not_not.1 (fun d=>hb ⟨f,d⟩);subst d;rw [n]at e;cases e;exact⟨rfl,rfl⟩)
  (fun b o e=>by
   rcases hl b o e with⟨rfl,rfl⟩ | ⟨rfl,rfl⟩ | ⟨f,d,q⟩
   ·exact .inr ⟨by omega,rfl,rfl,fun _=> ⟨fun c=>c.1 rfl,_,hk⟩,p,by rw [y (by omega)];exact x,aRO,fun i a=>absurd a lB⟩
   · refine .inr ⟨I,rfl,rfl,fun c=>absurd c (lt_irrefl _),_,Emb.put_same _ _ _,l,fun i a=>?_⟩;rw [zone_own]at a;rcases zq7.1 a with rfl|a
     ·exact⟨k,_,p,fun c=>c.1 rfl,hk,x,rfl⟩
     ·exact⟨g,_,v,fun c=>c.2 rfl,n,K,a⟩
   ·exact .inl ⟨⟨f,d⟩,q⟩)
  (fun b R o W L L' n1 T e e' k k' D hm=>by
   obtain⟨i,Q,i2⟩ :=hm;rcases hl b o e with⟨rfl,rfl⟩ | ⟨rfl,rfl⟩ | ⟨f,d,q⟩
   ·exact lB Q
   · rcases hl R W e' with⟨rfl,rfl⟩ | ⟨rfl,rfl⟩ | ⟨f,d,q⟩
     ·exact lB i2
     ·exact D rfl
     ·exact T ⟨⟨f,d⟩,q⟩
   ·exact n1 ⟨⟨f,d⟩,q⟩)
 exact⟨E',q1,S,q3⟩
def ndC (op n:Int)(kv:AV)(pv:AV) :AObj:=.cells (putCells .leaf 0 [.int .i64 op,.int .i64 n,kv,pv]) 4 [] false
theorem aJs {E:Emb}{H:Array Obj}{L:Loc}{op n:Int}{kv pv:AV}(r:OR E H L (ndC op n kv pv)) :∃C e k p,H[L.blk]?=some (.cells C e (0,0)) ∧C.size=L.sz∧C[L.sh]?=some (.int .i64 op) ∧C[L.sh+1]?=some (.int .i64 n) ∧C[L.sh+2]?=some k∧VR E kv k∧C[L.sh+3]?=some p∧VR E pv p:=by
 obtain⟨C,e,j,m,a⟩ :=r;obtain⟨_,t,d,b⟩ :=a 0 (.int .i64 op) (by rw [bB];rfl);obtain⟨_,s,q,c⟩ :=a 1 (.int .i64 n) (by rw [bB];rfl);obtain⟨_,g,f,h⟩ :=a 2 kv (by rw [bB];rfl);obtain⟨_,l,o,i⟩ :=a 3 pv (by rw [bB];rfl);simp only [VR]at b c;subst b c;exact⟨C,e,g,l,j,m,d,q,f,h,o,i⟩
theorem bFZ {E:Emb}{H:Array Obj}{L:Loc}{op n:Int}{kv pv:AV}{C:Array Value}{e:TypeId}{k p:Value}(h1:H[L.blk]?=some (.cells C e (0,0)))(h2:C.size=L.sz)(c:C[L.sh]?=some (.int .i64 op))(h:C[L.sh+1]?=some (.int .i64 n))(g:C[L.sh+2]?=some k)(b2:VR E kv k)(d:C[L.sh+3]?=some p)(f:VR E pv p) :OR E H L (ndC op n kv pv) :=by
 refine⟨C,e,h1,h2,fun i a b=>?_⟩;rw [bB]at b;split at b
 · match i,b with
   |0,b=>cases b;exact⟨by omega,_,c,by simp only [VR]⟩
   |1,b=>cases b;exact⟨by omega,_,h,by simp only [VR]⟩
   |2,b=>cases b;exact⟨by omega,_,g,b2⟩
   |3,b=>cases b;exact⟨by omega,_,d,f⟩
   |n+4,b=>rename_i hl;simp at hl;omega
 ·cases b
theorem VR.emI {E:Emb}{a:AV}{v:Value}(hk:keyless a=true)(h:VR E a v) :VR (Hb.emI E.imm) a v:=eJ hk h
theorem VR.of_emI {E:Emb}{a:AV}{v:Value}(h:VR (Hb.emI E.imm) a v) :VR E a v:=VR.of_p h
theorem aRP {E:Emb}{H:Array Obj}{f d:Loc}{op n:Int}{k:Nat}{len:Nat}{ex:Bool}{pv:AV}{ps:List Pat}{ks:List XT}{F:List Nat}(hk:E k=some d)(r:OR E H f (ndC op n (.gl k 1 0 len ex) pv))(b:len=ks.length)(hp:∀E v,VR E pv v→VR E (.ilst 4 (Pats.av ps) false) v)
  (hz:cH ks F [(d.blk,d.sh,d.sz)] E.imm H) :TAt E.imm H (f.blk,f.sh) (.mk op n ks ps) (f.blk::F) :=by
 obtain⟨C,e,O,p,T,V,I,G,y,h,x,w⟩ :=aJs r;obtain⟨_,K,hK,hz⟩ :=hz;cases hK;simp only [TAt];refine⟨C,e,O,p,F,T,I,G,y,x,VR.emI (by simp [keyless]) (hp E p w),rfl,?_⟩;simp only [VR]at h;rcases hz with⟨rfl,rfl⟩ | ⟨J,s,N,R,q,t,M,B,u,o⟩
 · refine .inl ⟨rfl,rfl,?_⟩;simp only [length_nil]at b;rcases h with⟨_,a,m⟩ | ⟨L,a,c,i,g,z,Q,l⟩
   ·exact .inl ⟨a,m⟩
   ·rw [b]at g;exact .inr ⟨(L.blk,a),c,g⟩
 · have A:0<ks.length:=List.length_pos_iff.2 q;rcases h with⟨W,a,m⟩ | ⟨L,a,c,i,g,z,Q,l⟩
   ·omega
   · rw [hk]at i;cases i;obtain⟨S,U⟩ :=l (by omega);refine .inr ⟨(d.blk,a),c,J,s,N,R,by rw [←b];exact g,q,by omega,?_,M,o.len,fun j D=>?_,t,o⟩
     ·simp only at B ⊢;omega
     · have:=u j D;simp only at this ⊢;rw [S,show d.sh+0*1+j=d.sh+j by omega];exact this
theorem sT {h h':Hp}{g:Nat}{us:List (Nat×Nat)}{ts:List (Option XT)}{i:Nat}{u:Nat×Nat}{op n:Int}{ks:List XT}{ps:List Pat}(H:h.look g=some (.zone true [] (ZV us ts)))(hu:us[i]?=some u)(ht:ts[i]?=some (some (.mk op n ks ps)))(hn:h'.nb=h.nb+4)
  (hl:∀b o,h'.look b=some o→ (b=h.nb∧o=ndC op n (.gl (h.nb+1) 1 0 ks.length false) (.ilst 4 (Pats.av ps) false)) ∨ (b=h.nb+1∧o=gh) ∨ (b=h.nb+2∧o= .zone true [h.nb+1] (cH ks)) ∨ (b=h.nb+3∧o= .zone true [h.nb] (eN us (ts.set i none) i)) ∨ (b≠g∧h.look b=some o))
  {m:Nat} (hm:m≤h.nb) :lW m h h' (.val (adr u)) (.ptr h.nb 0) :=fun E w r=>by
 obtain⟨O,g1,g2⟩ :=r.obj g _ H;obtain⟨Ls,_,S,X⟩ :=fV g2;obtain⟨a,F1,s,o1,o2,o3,o4⟩ :=X.out ht;rw [hu]at o1;cases o1;have D:= (o4.nodup_iff).2 S;obtain⟨z,nd2,A⟩ :=List.nodup_append.1 D;simp only [TAt]at o2;obtain⟨C,e,kv,pv,Fk,t1,t2,t3,t4,t5,t6,rfl,t8⟩ :=o2;obtain⟨Kk,k1,k2⟩ :∃Kk:Loc,(∀E:Emb,E (h.nb+1) =some Kk→VR E (.gl (h.nb+1) 1 0 ks.length false) kv) ∧∀ (d:Imm) (H':Array Obj),Imm.le E.imm d→ (∀i∈Fk,H'[i]?=w.heap[i]?) →cH ks Fk [(Kk.blk,Kk.sh,Kk.sz)] d H':=by
  rcases t8 with⟨rfl,rfl,x⟩ | ⟨b,l,R,ek,G,I,x1,x0,x2,x3,V,x5,x6,rfl,T⟩
  · rcases x with⟨b,rfl⟩ | ⟨b,l,rfl⟩
    ·exact⟨⟨0,0,0⟩,fun E _=>by simp only [VR];exact .inl ⟨rfl,b,rfl⟩,fun _ _ _ _=> ⟨nodup_nil,_,rfl,.inl ⟨rfl,rfl⟩⟩⟩
    ·exact⟨⟨b.1,b.2,b.2+l⟩,fun E hE=>by simp only [VR];exact .inr ⟨_,b.2,l,hE,rfl,by simp,fun h=>by(cases h),fun _=> ⟨by simp,by simp⟩⟩,fun _ _ _ _=> ⟨nodup_nil,_,rfl,.inl ⟨rfl,rfl⟩⟩⟩
  · exact⟨⟨b.1,b.2,R.size⟩,fun E hE=>by simp only [VR];exact .inr ⟨_,b.2,l,hE,x1,x2,fun h=>by(cases h),fun _=> ⟨by simp,by simp only [mul_one];exact x3⟩⟩,
     fun d H' c y=> ⟨(List.nodup_cons.1 z).2,_,rfl,.inr ⟨R,ek,G,I,x0,rfl,by rw [y _ (cQ ..)];exact V,rfl,fun j hj=>x6 j hj,TsAt.go c ks G I T (fun i c=>y i (cL _ c))⟩⟩⟩
 have Y:∀i∈Fk,∃C e,w.heap[i]?=some (.cells C e (0,0)) :=fun i c=>by
  rcases t8 with⟨rfl,rfl,x⟩ | ⟨b,l,R,ek,G,I,x1,x0,x2,x3,V,x5,x6,rfl,T⟩
  ·cases c
  · rcases zq7.1 c with rfl|c
    ·exact⟨_,_,V⟩
    ·exact TsAt.blk ks G I T i c
 let E':Emb:= ⟨fun b=>if b=h.nb then some ⟨u.1,u.2,C.size⟩else if b=h.nb+1 then some Kk else if b=h.nb+2 then some ⟨iV Fk,0,0⟩else if b=h.nb+3 then some ⟨iV s,0,0⟩else E b,E.imm⟩
 have K:E' h.nb=some ⟨u.1,u.2,C.size⟩ :=if_pos rfl;have N:E' (h.nb+1) =some Kk:=by simp [E']
 have e2:E' (h.nb+2) =some ⟨iV Fk,0,0⟩ :=by simp [E']
 have e3:E' (h.nb+3) =some ⟨iV s,0,0⟩ :=by simp [E']
 have eo:∀ {b},b<h.nb∨h.nb+4≤b→E' b=E b:=fun {b} hb=>by
  simp only [E'];rw [if_neg (by omega),if_neg (by omega),if_neg (by omega),if_neg (by omega)]
 have hgb:=r.keys g _ H
 have v:∀ {i},i=u.1∨i∈Fk∨i∈s→i∈jE O.blk:=fun {i} c=>by
  refine(o4.mem_iff).1 ?_;rcases c with rfl|c|c
  ·simp
  ·simp [c]
  ·simp [c]
 have d1:u.1∉Fk:= (List.nodup_cons.1 z).1;have J:∀ {i},i∈s→i≠u.1∧i∉Fk:=fun {i} c=> ⟨fun f=>A u.1 (cQ ..) i c f.symm,fun f=>A i (cL _ f) i c rfl⟩;have B: (ts.set i none)[i]?=some none:=by
  rw [getElem?_set,if_pos rfl,if_pos (zq0.1 ht).1]
 have oc:OR E' w.heap ⟨u.1,u.2,C.size⟩ (ndC op n (.gl (h.nb+1) 1 0 ks.length false) (.ilst 4 (Pats.av ps) false)) :=bFZ t1 rfl t2 t3 t4 (k1 E' N) t5 (VR.of_emI (E:=E') t6);have oz:OR E' w.heap ⟨iV Fk,0,0⟩ (.zone true [h.nb+1] (cH ks)) :=uT (Ls:=[Kk]) (by simp only [eU,map_nil,List.cons.injEq,and_true];exact N) Y (fun d H' c y=>k2 d H' c y);have oh:OR E' w.heap ⟨iV s,0,0⟩ (.zone true [h.nb] (eN us (ts.set i none) i)) :=uT (Ls:=[⟨u.1,u.2,C.size⟩]) (by simp only [eU,map_nil,List.cons.injEq,and_true];exact K) (OsAt.blk _ us s o3) (fun d H' c y=> ⟨nd2,OsAt.go c _ us s o3 y,B,_,rfl,hu⟩)
 have F:∀ {b o L},h'.look b=some o→E' b=some L→¬ (b≠g∧h.look b=some o) → (b=h.nb∧o=ndC op n (.gl (h.nb+1) 1 0 ks.length false) (.ilst 4 (Pats.av ps) false) ∧L= ⟨u.1,u.2,C.size⟩) ∨ (b=h.nb+1∧o=gh) ∨ (b=h.nb+2∧o= .zone true [h.nb+1] (cH ks) ∧L= ⟨iV Fk,0,0⟩) ∨ (b=h.nb+3∧o= .zone true [h.nb] (eN us (ts.set i none) i) ∧L= ⟨iV s,0,0⟩) :=fun {b o L} e k hb=>by
  rcases hl b o e with⟨rfl,rfl⟩ | ⟨rfl,rfl⟩ | ⟨rfl,rfl⟩ | ⟨rfl,rfl⟩ |W
  ·rw [K]at k;cases k;exact .inl ⟨rfl,rfl,rfl⟩
  ·exact .inr (.inl ⟨rfl,rfl⟩)
  ·rw [e2]at k;cases k;exact .inr (.inr (.inl ⟨rfl,rfl,rfl⟩))
  ·rw [e3]at k;cases k;exact .inr (.inr (.inr ⟨rfl,rfl,rfl⟩))
  ·exact absurd W hb
 obtain ⟨q1,q2,q3⟩ :=r.swap (E':=E') (h':=h') (fun b=>b≠g) (by omega) (fun b hb=>eo (.inl hb)) rfl (fun b hb=>by rw [eo (by omega)];exact r.fresh b (by omega))
  (fun b o e hb=>by
   have h2:b=g:=Classical.not_not.1 hb;subst h2;rw [H]at e;cases e;exact⟨rfl,rfl⟩)
  (fun b o e=>by
   have old:∀i,i∈jE O.blk→∃Q o0 L0,¬ (fun b=>b≠g) Q∧h.look Q=some o0∧E Q=some L0∧Own o0 L0 i:=fun i c=> ⟨g,_,O,fun f=>f rfl,H,g1,c⟩;rcases hl b o e with⟨rfl,rfl⟩ | ⟨rfl,rfl⟩ | ⟨rfl,rfl⟩ | ⟨rfl,rfl⟩ |W
   ·exact .inr ⟨by omega,rfl,rfl,fun f=>absurd f (by omega),_,K,oc,fun i c=>old i (v (.inl (Eq.symm c)))⟩
   ·exact .inr ⟨by omega,rfl,rfl,fun f=>absurd f (by omega),_,N,aRO,fun i c=>absurd c lB⟩
   ·exact .inr ⟨by omega,rfl,rfl,fun f=>absurd f (by omega),_,e2,oz,fun i c=>old i (v (.inr (.inl (zone_own.1 c))))⟩
   ·exact .inr ⟨by omega,rfl,rfl,fun f=>absurd f (by omega),_,e3,oh,fun i c=>old i (v (.inr (.inr (zone_own.1 c))))⟩
   ·exact .inl W)
  (fun b b' o o' L L' n1 M e Z k U t hm=>by
   obtain⟨x,p,q⟩ :=hm;rcases F e k n1 with⟨rfl,rfl,rfl⟩ | ⟨rfl,rfl⟩ | ⟨rfl,rfl,rfl⟩ | ⟨rfl,rfl,rfl⟩
   · obtain rfl:u.1=x:=p;rcases F Z U M with⟨rfl,rfl,rfl⟩ | ⟨rfl,rfl⟩ | ⟨rfl,rfl,rfl⟩ | ⟨rfl,rfl,rfl⟩
     ·exact t rfl
     ·exact lB q
     ·exact d1 (zone_own.1 q)
     ·exact(J (zone_own.1 q)).1 rfl
   ·exact lB p
   · have p:=zone_own.1 p;rcases F Z U M with⟨rfl,rfl,rfl⟩ | ⟨rfl,rfl⟩ | ⟨rfl,rfl,rfl⟩ | ⟨rfl,rfl,rfl⟩
     · obtain rfl:u.1=x:=q;exact d1 p
     ·exact lB q
     ·exact t rfl
     ·exact(J (zone_own.1 q)).2 p
   · have p:=zone_own.1 p;rcases F Z U M with⟨rfl,rfl,rfl⟩ | ⟨rfl,rfl⟩ | ⟨rfl,rfl,rfl⟩ | ⟨rfl,rfl,rfl⟩
     · obtain rfl:u.1=x:=q;exact(J p).1 rfl
     ·exact lB q
     ·exact(J p).2 (zone_own.1 q)
     ·exact t rfl)
 refine⟨E',q1,q2,q3 m hm,fun cv hv=>?_⟩;simp only [VR]at hv ⊢;exact⟨_,K,by subst hv;rfl⟩
theorem sU {E:Emb}{h h':Hp}{w:World}(r:Rel E h w.heap)(G:List Nat){rs:List Nat}{Z:ZP}{F:List Nat}{Ls:List Loc}(y:h.nb<h'.nb)
  (hl:∀b o,h'.look b=some o→ (b=h.nb∧o= .zone true rs Z) ∨ (b∈G∧o=gh∧∃L,E b=some L) ∨ (b∉G∧h.look b=some o))
  (t:∀b∈G,∃o,h.look b=some o∧bY o= [] ∧jF o=false) (p:map E.loc rs=map some Ls)
  (z:∀i∈F,(∃b∈G,∃o L,h.look b=some o∧E b=some L∧Own o L i) ∧∃C e,w.heap[i]?=some (.cells C e (0,0)))
  (hz:∀ (a:Imm) (A:Array Obj),Imm.le E.imm a→ (∀i∈F,A[i]?=w.heap[i]?) →Z F (map (fun K=> (K.blk,K.sh,K.sz)) Ls) a A) :
  ∃E',E.le E'∧Rel E' h' w.heap∧∀m,m≤h.nb→ExtM m E h w E' h' w:=by
 let E':=E.put h.nb ⟨iV F,0,0⟩
 have x:∀ {b},b≠h.nb→E' b=E b:=fun hb=>Emb.put_ne _ _ hb;have u:E.le E':=Emb.le_put (r.fresh _ (le_refl _));have s:∀b∈G,b<h.nb:=fun b hb=>by obtain⟨o,e,_⟩ :=t b hb;exact r.keys b o e
 have d:OR E' w.heap ⟨iV F,0,0⟩ (.zone true rs Z) :=uT (tM u.1 p) (fun i j=> (z i j).2) hz
 obtain⟨V,H,Q⟩ :=r.swap (E':=E') (h':=h') (fun b=>b∉G) (le_of_lt y) (fun b hb=>x (by omega)) rfl (fun b hb=>by rw [x (by omega)];exact r.fresh b (by omega))
  (fun b o e hb=>by
   have hb:=Classical.not_not.1 hb;obtain⟨n,f,c,l⟩ :=t b hb;rw [e]at f;cases f;exact⟨c,l⟩)
  (fun b o e=>by
   rcases hl b o e with⟨rfl,rfl⟩ | ⟨c,rfl,L,l⟩ | ⟨c,l⟩
   · refine .inr ⟨y,rfl,rfl,fun g=>absurd g (lt_irrefl _),_,Emb.put_same _ _ _,d,fun i j=>?_⟩;obtain⟨⟨N,S,B,M,W,O,J⟩,_⟩ :=z i (zone_own.1 j);exact⟨N,B,M,fun g=>g S,W,O,J⟩
   · have:=s b c;refine .inr ⟨by omega,rfl,rfl,fun _=> ⟨fun g=>g c,?_⟩,L,by rw [x (by omega)];exact l,aRO,fun i j=>absurd j lB⟩;obtain⟨n,f,_⟩ :=t b c;exact⟨n,f⟩
   ·exact .inl ⟨c,l⟩)
  (fun b D o n L Y R I e f k X v hm=>by
   obtain⟨i,U,T⟩ :=hm;rcases hl b o e with⟨rfl,rfl⟩ | ⟨_,rfl,_⟩ |q
   · rcases hl D n f with⟨rfl,rfl⟩ | ⟨_,rfl,_⟩ |q
     ·exact v rfl
     ·exact lB T
     ·exact I q
   ·exact lB U
   ·exact R q)
 exact⟨E',V,H,Q⟩
theorem aFP {h h':Hp}{b k gk g:Nat}{us:List (Nat×Nat)}{ts:List (Option XT)}{i:Nat}{op n:Int}{ks:List XT}{ps:List Pat}{len:Nat}{ex:Bool}{pv:AV}(hb:h.look b=some (ndC op n (.gl k 1 0 len ex) pv))(m:len=ks.length)(hp:∀E v,VR E pv v→VR E (.ilst 4 (Pats.av ps) false) v)
  (d:h.look gk=some (.zone true [k] (cH ks))) (f:h.look g=some (.zone true [b] (eN us ts i))) (D:gk≠g) (hn:h.nb<h'.nb)
  (hl:∀x o,h'.look x=some o→ (x=h.nb∧o= .zone true [] (ZV us (ts.set i (some (.mk op n ks ps))))) ∨ (x∉ [b,gk,g] ∧h.look x=some o)) :kN h h':=fun E w r=>by
 obtain⟨l,q,X⟩ :=r.obj b _ hb;obtain⟨H,B,k2⟩ :=r.obj gk _ d;obtain⟨u,C,g2⟩ :=r.obj g _ f;obtain⟨U,W,N⟩ :=fV k2;obtain⟨S,t,z2⟩ :=fV g2;obtain⟨V,rfl⟩ :∃V,U= [V] :=by
  obtain⟨_,K,hK,_⟩ :=N
  match U,hK with
  | [x],_=>exact⟨x,rfl⟩
 obtain⟨z,L,M,K,hK,A⟩ :=z2;obtain⟨R,rfl⟩ :∃R,S= [R] :=by
  match S,hK with
  | [x],_=>exact⟨x,rfl⟩
 simp only [eU,map_nil,List.cons.injEq,and_true]at W t hK;rw [q]at t;cases t;subst hK;have Z:=aRP W X m hp N;obtain⟨G,s,Q⟩ :=L.put M Z (a:= (l.blk,l.sh));have J:us.set i (l.blk,l.sh) =us:=by
  apply List.ext_getElem?;intro j;rw [getElem?_set];split
  · rename_i hj;subst hj;split
    ·exact A.symm
    ·rename_i hl;rw [aIy (by omega)]at A;cases A
  ·rfl
 rw [J]at s;have I:b≠gk:=fun e=>by subst e;rw [hb]at d;cases d
 have p:b≠g:=fun e=>by subst e;rw [hb]at f;cases f
 have Y:l.blk∉jE H.blk:=fun F=>r.noMeet hb d q B I rfl rfl ⟨_,rfl,F⟩;have d2:l.blk∉jE u.blk:=fun F=>r.noMeet hb f q C p rfl rfl ⟨_,rfl,F⟩;have d3:∀x∈jE H.blk,x∉jE u.blk:=fun x h1 h2=>r.noMeet d f B C D rfl rfl ⟨x,h1,h2⟩;have nd:G.Nodup:=by
  refine(Q.nodup_iff).2 (List.nodup_append.2 ⟨List.nodup_cons.2 ⟨Y,N.1⟩,z,fun x c y O e=>?_⟩);subst e;rcases zq7.1 c with rfl|c
  ·exact d2 O
  ·exact d3 x c O
 refine sU r [b,gk,g] (Ls:=[]) hn (fun x o e=> (hl x o e).imp id .inr) (fun x c=>?_) rfl (fun x c=> ⟨?_,OsAt.blk _ us G s x c⟩) (fun T H' hi hH=> ⟨nd,OsAt.go hi _ us G s hH⟩)
 · rcases zq7.1 c with rfl|c
   ·exact⟨_,hb,rfl,rfl⟩
   · rcases zq7.1 c with rfl|c
     ·exact⟨_,d,rfl,rfl⟩
     ·rw [zq32.1 c];exact⟨_,f,rfl,rfl⟩
 · rcases zq28.1 ((Q.mem_iff).1 c)with c|c
   · rcases zq7.1 c with rfl|c
     ·exact⟨b,by simp,_,l,hb,q,rfl⟩
     ·exact⟨gk,by simp,_,H,d,B,c⟩
   ·exact⟨g,by simp,_,u,f,C,c⟩
theorem aBS {h h':Hp}{b k g:Nat}{us:List (Nat×Nat)}{op n:Int}{ts:List XT}{ps:List Pat}{len:Nat}{ex:Bool}{pv:AV}(hb:h.look b=some (ndC op n (.gl k 1 0 len ex) pv))(f:len=ts.length)(hp:∀E v,VR E pv v→VR E (.ilst 4 (Pats.av ps) false) v)
  (hk:h.look k=some (.lst 1 (vls us))) (m:h.look g=some (.zone true [] (ZV us (ts.map some)))) (hn:h.nb<h'.nb)
  (hl:∀x o,h'.look x=some o→ (x=h.nb∧o= .zone true [b] (Z1 (.mk op n ts ps))) ∨ (x=b∧o=gh) ∨ (x∉ [b,k,g] ∧h.look x=some o)) :kN h h':=fun E w r=>by
 obtain⟨l,s,X⟩ :=r.obj b _ hb;obtain⟨z,O,g2⟩ :=r.obj g _ m;obtain⟨Gs,n2,B,W⟩ :=fV g2;have y:=os_ts.1 W;have T:=y.len;have V:b≠g:=fun e=>by subst e;rw [hb]at m;cases m
 have J:b≠k:=fun e=>by subst e;rw [hb]at hk;cases hk
 have M:k≠g:=fun e=>by subst e;rw [hk]at m;cases m
 have d2:l.blk∉jE z.blk:=fun G=>r.noMeet hb m s O V rfl rfl ⟨_,rfl,G⟩
 have hG:∀x∈ [b,k,g],∃o,h.look x=some o∧bY o= [] ∧jF o=false:=fun x c=>by
  rcases zq7.1 c with rfl|c
  ·exact⟨_,hb,rfl,rfl⟩
  · rcases zq7.1 c with rfl|c
    ·exact⟨_,hk,rfl,rfl⟩
    ·rw [zq32.1 c];exact⟨_,m,rfl,rfl⟩
 have A:∀x o,h'.look x=some o→ (x=h.nb∧o= .zone true [b] (Z1 (.mk op n ts ps))) ∨ (x∈ [b,k,g] ∧o=gh∧∃L,E x=some L) ∨ (x∉ [b,k,g] ∧h.look x=some o) :=fun x o e=>by
  rcases hl x o e with g| ⟨rfl,rfl⟩ |g
  ·exact .inl g
  ·exact .inr (.inl ⟨by simp,rfl,l,s⟩)
  ·exact .inr (.inr g)
 obtain⟨C,e,kv,p,Q,c2,c3,c4,c5,c6,c7,c8⟩ :=aJs X;simp only [VR]at c6;by_cases t:ts= []
 · subst t;simp only [length_nil]at f;subst f
   have I:∀ (d:Imm) (H':Array Obj),Imm.le E.imm d→ (∀i∈ [l.blk],H'[i]?=w.heap[i]?) →Z1 (.mk op n [] ps) [l.blk] (map (fun K=> (K.blk,K.sh,K.sz)) [l]) d H':=fun d H' S N=>by
    refine⟨List.nodup_cons.2 ⟨by simp,nodup_nil⟩,_,rfl,?_⟩;simp only [TAt];refine⟨C,e,kv,p,[],by rw [N _ (by simp)];exact Q,c3,c4,c5,c7,(VR.emI (by simp [keyless]) (hp E p c8)).mono (aCS S),rfl,.inl ⟨trivial,rfl,?_⟩⟩;rcases c6 with⟨_,a,ha⟩ | ⟨L,a,R,_,h2,_⟩
    ·exact .inl ⟨a,ha⟩
    ·exact .inr ⟨(L.blk,a),R,h2⟩
   exact sU r [b,k,g] (Ls:=[l]) hn A hG (by simp only [eU,map_nil,List.cons.injEq,and_true];exact s) (fun x c=>by
    rw [zq32]at c;subst c;exact⟨⟨b,by simp,_,l,hb,s,rfl⟩,C,e,Q⟩) I
 · have hu:kL (.lst 1 (vls us)) =false:=by
    cases us with
    |nil=>exact absurd (zq35.1 T.symm) t
    |cons u us=>rfl
   obtain⟨q,H,Z,el,vs,x1,x2,U,x4,x5⟩ :=r.obj k _ hk hu;have U:=vls_vrs.1 U;subst U;have Y:q.blk∉jE z.blk:=fun G=>r.noMeet hk m H O M rfl rfl ⟨_,rfl,G⟩;have d3:l.blk≠q.blk:=fun G=>r.noMeet hb hk s H J rfl rfl ⟨_,G,rfl⟩
   have D:cH ts (q.blk::jE z.blk) [(q.blk,q.sh,q.sz)] E.imm w.heap:= ⟨List.nodup_cons.2 ⟨Y,B⟩,_,rfl,.inr ⟨Z,el,us,_,t,rfl,x1,x2,fun j hj=>by
    have:=x5 j (by rw [mR];omega);rw [this,lZ],y⟩⟩
   have I:=aRP H X f hp D;refine sU r [b,k,g] (Ls:=[l]) (F:=l.blk:: (q.blk::jE z.blk)) hn A hG (by simp only [eU,map_nil,List.cons.injEq,and_true];exact s) (fun x c=>?_) (fun d H' S N=> ⟨List.nodup_cons.2 ⟨?_,List.nodup_cons.2 ⟨Y,B⟩⟩,_,rfl,TAt.go S _ _ _ I N⟩)
   · rcases zq7.1 c with rfl|c
     ·exact⟨⟨b,by simp,_,l,hb,s,rfl⟩,C,e,Q⟩
     · rcases zq7.1 c with rfl|c
       ·exact⟨⟨k,by simp,_,q,hk,H,rfl⟩,Z,el,x1⟩
       ·exact⟨⟨g,by simp,_,z,m,O,c⟩,TsAt.blk ts us _ y x c⟩
   · intro c;rcases zq7.1 c with c|c
     ·exact d3 c
     ·exact d2 c
theorem aWb {h h':Hp}{b:Nat}{op n:Int}{ps:List Pat}{kv pv:AV}(hb:h.look b=some (ndC op n kv pv))(hk:∀E v,VR E kv v→∃a,v= .slice a 0 0)(hp:∀E v,VR E pv v→VR E (.ilst 4 (Pats.av ps) false) v)(t:h.nb<h'.nb)
  (hl:∀x o,h'.look x=some o→ (x=h.nb∧o= .zone true [b] (Z1 (.mk op n [] ps))) ∨ (x=b∧o=gh) ∨ (x∉ [b] ∧h.look x=some o)) :kN h h':=fun E w r=>by
 obtain⟨d,j,m⟩ :=r.obj b _ hb;obtain⟨C,e,k,p,l,H,G,D,y,A,u,s⟩ :=aJs m;obtain⟨a,B⟩ :=hk E k A
 have F:∀ (c:Imm) (H':Array Obj),Imm.le E.imm c→ (∀i∈ [d.blk],H'[i]?=w.heap[i]?) →Z1 (.mk op n [] ps) [d.blk] (map (fun K=> (K.blk,K.sh,K.sz)) [d]) c H':=fun c H' z q=>by
  refine⟨List.nodup_cons.2 ⟨by simp,nodup_nil⟩,_,rfl,?_⟩;simp only [TAt];exact⟨C,e,k,p,[],by rw [q _ (by simp)];exact l,G,D,y,u,(VR.emI (by simp [keyless]) (hp E p s)).mono (aCS z),rfl,.inl ⟨trivial,rfl,.inl ⟨a,B⟩⟩⟩
 exact sU r [b] (rs:=[b]) (Ls:=[d]) t (fun x o e=>by
  rcases hl x o e with g| ⟨rfl,rfl⟩ |g
  ·exact .inl g
  ·exact .inr (.inl ⟨by simp,rfl,d,j⟩)
  · exact .inr (.inr g)) (fun x f=>by rw [zq32.1 f];exact⟨_,hb,rfl,rfl⟩) (by simp only [eU,map_nil,List.cons.injEq,and_true];exact j) (fun x f=>by
    rw [zq32]at f;subst f;exact⟨⟨b,by simp,_,d,hb,j,rfl⟩,C,e,l⟩) F
theorem aCV {E:Emb}{h h':Hp}{w:World}(r:Rel E h w.heap)(G:List Nat){rs:List Nat}{Z:ZP}{F:List Nat}{Ls:List Loc}{kk:Nat}{ok:AObj}{Lk:Loc}(V:h.nb<h'.nb)
  (hl:∀b o,h'.look b=some o→ (b=h.nb∧o= .zone true rs Z) ∨ (b=kk∧o=ok) ∨ (b∈G∧o=gh∧∃L,E b=some L) ∨ (b∉G∧h.look b=some o))
  (J:∀b∈G,∃o,h.look b=some o∧bY o= [] ∧jF o=false) (D:map E.loc rs=map some Ls)
  (t:kk∈G) (x:E kk=some Lk) (v:bY ok= [] ∧jF ok=false) (H:OR E w.heap Lk ok) (f:∀i,Own ok Lk i→i∉F∧∃b∈G,∃o L,h.look b=some o∧E b=some L∧Own o L i)
  (X:∀i∈F,(∃b∈G,∃o L,h.look b=some o∧E b=some L∧Own o L i) ∧∃C e,w.heap[i]?=some (.cells C e (0,0)))
  (hz:∀ (d:Imm) (H':Array Obj),Imm.le E.imm d→ (∀i∈F,H'[i]?=w.heap[i]?) →Z F (map (fun K=> (K.blk,K.sh,K.sz)) Ls) d H') :
  ∃E',E.le E'∧Rel E' h' w.heap∧∀m,m≤h.nb→ExtM m E h w E' h' w:=by
 let E':=E.put h.nb ⟨iV F,0,0⟩
 have z:∀ {b},b≠h.nb→E' b=E b:=fun hb=>Emb.put_ne _ _ hb;have u:E.le E':=Emb.le_put (r.fresh _ (le_refl _));have s:∀b∈G,b<h.nb:=fun b hb=>by obtain⟨o,e,_⟩ :=J b hb;exact r.keys b o e
 have hkb:=s kk t;have j:OR E' w.heap ⟨iV F,0,0⟩ (.zone true rs Z) :=uT (tM u.1 D) (fun i g=> (X i g).2) hz
 obtain ⟨q1,q2,q3⟩ :=r.swap (E':=E') (h':=h') (fun b=>b∉G) (le_of_lt V) (fun b hb=>z (by omega)) rfl (fun b hb=>by rw [z (by omega)];exact r.fresh b (by omega))
  (fun b o e hb=>by
   have hb:=Classical.not_not.1 hb;obtain⟨q,l,c,A⟩ :=J b hb;rw [e]at l;cases l;exact⟨c,A⟩)
  (fun b o e=>by
   have old:∀ {b},b∈G→b<h.nb→¬ (fun b=>b∉G) b∧∃o0,h.look b=some o0:=fun {b} c _=> ⟨fun a=>a c,by obtain⟨q,l,_⟩ :=J b c;exact⟨q,l⟩⟩;rcases hl b o e with⟨rfl,rfl⟩ | ⟨rfl,rfl⟩ | ⟨c,rfl,L,A⟩ | ⟨c,A⟩
   · refine .inr ⟨V,rfl,rfl,fun a=>absurd a (lt_irrefl _),_,Emb.put_same _ _ _,j,fun i g=>?_⟩;obtain⟨⟨N,Q,o0,M,R,O,I⟩,_⟩ :=X i (zone_own.1 g);exact⟨N,o0,M,fun a=>a Q,R,O,I⟩
   · refine .inr ⟨by omega,v.1,v.2,old t,Lk,by rw [z (by omega)];exact x,H.mono u,fun i g=>?_⟩;obtain⟨_,N,Q,o0,M,R,O,I⟩ :=f i g;exact⟨N,o0,M,fun a=>a Q,R,O,I⟩
   · have:=s b c;exact .inr ⟨by omega,rfl,rfl,old c,L,by rw [z (by omega)];exact A,aRO,fun i g=>absurd g lB⟩
   ·exact .inl ⟨c,A⟩)
  (fun b S o q L L' n1 U e l k T y hm=>by
   obtain⟨i,B,n⟩ :=hm;have Y:∀ {L:Loc},E' h.nb=some L→L= ⟨iV F,0,0⟩ :=fun a=>by rw [Emb.put_same]at a;cases a;rfl
   have W:∀ {L:Loc},E' kk=some L→L=Lk:=fun a=>by rw [z (by omega),x]at a;cases a;rfl
   rcases hl b o e with⟨rfl,rfl⟩ | ⟨rfl,rfl⟩ | ⟨_,rfl,_⟩ |p
   · rcases hl S q l with⟨rfl,rfl⟩ | ⟨rfl,rfl⟩ | ⟨_,rfl,_⟩ |p
     ·exact y rfl
     · rw [Y k]at B;rw [W T]at n;exact(f i n).1 (zone_own.1 B)
     ·exact lB n
     ·exact U p
   · rcases hl S q l with⟨rfl,rfl⟩ | ⟨rfl,rfl⟩ | ⟨_,rfl,_⟩ |p
     · rw [W k]at B;rw [Y T]at n;exact(f i B).1 (zone_own.1 n)
     ·exact y rfl
     ·exact lB n
     ·exact U p
   ·exact lB B
   ·exact n1 p)
 exact⟨E',q1,q2,q3⟩
theorem aJt {E:Emb}{H:Array Obj}{L:Loc}{C:Array Value}{b:TypeId}{us:List (Nat×Nat)}(h1:H[L.blk]?=some (.cells C b (0,0)))(h2:C.size=L.sz)(d:∀j,j<us.length→C[L.sh+j]?= (us.map adr)[j]?) :OR E H L (.lst 1 (vls us)) :=
 ⟨C,b,us.map adr,h1,h2,vls_vrs.2 rfl,fun u c=>by obtain⟨a,_,rfl⟩ :=zq24.1 c;exact aJr a,fun j e=>by rw [lZ];exact d j (by rw [mR]at e;omega)⟩
theorem xN {h:Hp}{h':List (Nat×Nat) →Hp}{k g:Nat}{o:AObj}{ts:List XT}(hk:h.look k=some o)(I:o=gh)(n:h.look g=some (.zone true [k] (cH ts)))(s:ts≠ [])(L:∀a,h.nb< (h' a).nb)
  (hl:∀a b o,(h' a).look b=some o→ (b=h.nb∧o= .zone true [] (ZV a (ts.map some))) ∨ (b=k∧o= .lst 1 (vls a)) ∨ (b∉ [k,g] ∧h.look b=some o)) :aAV h (fun a=>a.length=ts.length) h':=fun E w r=>by
 subst I;obtain⟨l,A,G⟩ :=r.obj g _ n;obtain⟨Ls,B,f,K,hK,hz⟩ :=fV G;obtain⟨Lk,rfl⟩ :∃Lk,Ls= [Lk] :=by
  match Ls,hK with
  | [x],_=>exact⟨x,rfl⟩
 simp only [eU,map_nil,List.cons.injEq,and_true]at B hK;subst hK;rcases hz with⟨M,_⟩ | ⟨C,e,a,q,_,m,D,z,y,p⟩
 ·exact absurd M s
 · rw [m]at f;obtain⟨d,u⟩ :=List.nodup_cons.1 f;simp only at D z y d m;have t:=p.len
   obtain⟨N,Q,J,O⟩ :=aCV (h':=h' a) r [k,g] (rs:=[]) (Z:=ZV a (ts.map some)) (F:=q) (Ls:=[]) (kk:=k) (ok:=.lst 1 (vls a)) (Lk:=Lk) (L a) (fun b o e=>by
    rcases hl a b o e with g|g|g
    ·exact .inl g
    ·exact .inr (.inl g)
    · exact .inr (.inr (.inr g))) (fun b hb=>by
      rcases zq7.1 hb with rfl|hb
      ·exact⟨_,hk,rfl,rfl⟩
      ·rw [zq32.1 hb];exact⟨_,n,rfl,rfl⟩) rfl (by simp) B ⟨rfl,rfl⟩ (aJt D z (fun j R=>y j (by omega))) (fun i c=>by
      obtain rfl:Lk.blk=i:=c;exact⟨d,g,by simp,_,l,n,A,by show _∈jE l.blk;rw [m];simp⟩) (fun i c=> ⟨⟨g,by simp,_,l,n,A,by show _∈jE l.blk;rw [m];simp [c]⟩,TsAt.blk ts a q p i c⟩)
      (fun v S c H=> ⟨u,os_ts.2 (TsAt.go c ts a q p H)⟩)
   exact⟨a,N,t,Q,J,O⟩
theorem aJu {h:Hp}{h':Nat×Nat→Hp}{k g gz z:Nat}{us:List (Nat×Nat)}{ts:List (Option XT)}{i:Nat}{t:XT}(hk:h.look k=some (.lst 1 ((vls us).set i (.ptr z 0))))(l:h.look g=some (.zone true [] (ZV us ts)))(hz:h.look gz=some (.zone true [z] (Z1 t)))(S:ts[i]?=some none)(Q:g≠gz)(hn:∀u,h.nb< (h' u).nb)
  (hl:∀u b o,(h' u).look b=some o→ (b=h.nb∧o= .zone true [] (ZV (us.set i u) (ts.set i (some t)))) ∨ (b=k∧o= .lst 1 (vls (us.set i u))) ∨ (b∉ [k,g,gz] ∧h.look b=some o)) :aAV h (fun _=>True) h':=fun E w r=>by
 obtain⟨D,O,g2⟩ :=r.obj g _ l;obtain⟨Ls,_,H,p⟩ :=fV g2;obtain⟨N,R,z2⟩ :=r.obj gz _ hz;obtain⟨T,Y,zd,K,hK,hT⟩ :=fV z2;obtain⟨c,rfl⟩ :∃c,T= [c] :=by
  match T,hK with
  | [x],_=>exact⟨x,rfl⟩
 simp only [eU,map_nil,List.cons.injEq,and_true]at Y hK;subst hK;have n:i<us.length:=by
  have:= (zq0.1 S).1;rw [p.len];exact this
 have hu:kL (.lst 1 ((vls us).set i (.ptr z 0))) =false:=by
  cases us with
  |nil=>simp at n
  |cons u us=>cases i<;>rfl
 obtain⟨Lk,A,C,el,vs,x1,x2,M,x4,x5⟩ :=r.obj k _ hk hu;have B:vs= (us.set i (c.blk,c.sh)).map adr:=by
  have:VRs E ((vls us).set i (.val (adr (c.blk,c.sh)))) vs:=by
   refine VRs.of_get (by rw [dZ,M.length,dZ]) (fun j a m=>?_);rw [getElem?_set]at m;split at m
   · rename_i f;subst f;have q:i< (vls us).length:=by simpa [vls]using n
     rw [if_pos q]at m;cases m;obtain⟨v,v1,X⟩ :=M.get i (.ptr z 0) (by rw [getElem?_set,if_pos rfl,if_pos q]);simp only [VR]at X ⊢;obtain⟨L,V,l2⟩ :=X;rw [Y]at V;cases V;exact⟨v,v1,by rw [l2];rfl⟩
   · rename_i f;exact M.get j a (by rw [getElem?_set,if_neg f];exact m)
  have e: (vls us).set i (.val (adr (c.blk,c.sh))) =vls (us.set i (c.blk,c.sh)) :=by simp [vls,List.map_set]
  rw [e]at this;exact vls_vrs.1 this
 subst B;have J:k≠g:=fun e=>by subst e;rw [hk]at l;cases l
 have I:k≠gz:=fun e=>by subst e;rw [hk]at hz;cases hz
 have d1:Lk.blk∉jE D.blk:=fun d=>r.noMeet hk l A O J rfl rfl ⟨_,rfl,d⟩;have d2:Lk.blk∉jE N.blk:=fun d=>r.noMeet hk hz A R I rfl rfl ⟨_,rfl,d⟩;have d3:∀x∈jE N.blk,x∉jE D.blk:=fun x h1 h2=>r.noMeet l hz O R Q rfl rfl ⟨x,h2,h1⟩;obtain⟨s,U,G⟩ :=p.put S hT;have nd:s.Nodup:= (G.nodup_iff).2 (List.nodup_append.2 ⟨zd,H,fun x hx y hy e=>by subst e;exact d3 x hx hy⟩)
 obtain ⟨E',q1,q2,q3⟩ :=aCV (h':=h' (c.blk,c.sh)) r [k,g,gz] (rs:=[]) (Z:=ZV (us.set i (c.blk,c.sh)) (ts.set i (some t))) (F:=s) (Ls:=[]) (kk:=k) (ok:=.lst 1 (vls (us.set i (c.blk,c.sh)))) (Lk:=Lk) (hn _) (fun b o e=>by
   rcases hl _ b o e with g|g|g
   ·exact .inl g
   ·exact .inr (.inl g)
   · exact .inr (.inr (.inr g))) (fun b hb=>by
     rcases zq7.1 hb with rfl|hb
     ·exact⟨_,hk,rfl,rfl⟩
     · rcases zq7.1 hb with rfl|hb
       ·exact⟨_,l,rfl,rfl⟩
       ·rw [zq32.1 hb];exact⟨_,hz,rfl,rfl⟩) rfl (by simp) A ⟨rfl,rfl⟩ (aJt x1 x2 (fun j f=>by have:=x5 j (by rw [mR];omega);rw [this,lZ])) (fun j f=>by
     obtain rfl:Lk.blk=j:=f;refine⟨fun d=>?_,k,by simp,_,Lk,hk,A,rfl⟩;rcases zq28.1 ((G.mem_iff).1 d)with d|d
     ·exact d2 d
     ·exact d1 d) (fun j f=>by
     refine⟨?_,OsAt.blk _ _ s U j f⟩;rcases zq28.1 ((G.mem_iff).1 f)with d|d
     ·exact⟨gz,by simp,_,N,hz,R,d⟩
     ·exact⟨g,by simp,_,D,l,O,d⟩)
     (fun W H' hi hH=> ⟨nd,OsAt.go hi _ _ s U hH⟩)
 exact⟨_,E',trivial,q1,q2,q3⟩
theorem OsAt.add {c:Imm}{H:Array Obj}{a:Nat×Nat}{t:XT}{e:List Nat}(g:TAt c H a t e) :∀ {f:List (Option XT)} {d:List (Nat×Nat)} {F:List Nat},OsAt c H d f F→OsAt c H (d++ [a]) (f++ [some t]) (F++e)
 | [],d,F,h=>by
  simp only [OsAt]at h;obtain⟨rfl,rfl⟩ :=h;simp only [List.nil_append,OsAt];exact⟨a,[],e,[],rfl,by simp,g,rfl,rfl⟩
 | some n::f,d,F,h=>by
  simp only [OsAt]at h;obtain⟨i,b,l,k,rfl,rfl,m,j⟩ :=h;simp only [wA,OsAt];exact⟨i,b++ [a],l,k++e,rfl,by simp,m,OsAt.add g j⟩
 | none::f,d,F,h=>by
  simp only [OsAt]at h;obtain⟨i,b,rfl,j⟩ :=h;simp only [wA,OsAt];exact⟨i,b++ [a],rfl,OsAt.add g j⟩
theorem aEh {h:Hp}{h':Nat×Nat→Hp}{k g gz z:Nat}{us:List (Nat×Nat)}{ts:List (Option XT)}{t:XT}(hk:h.look k=some (.lst 1 (vls us++ [.ptr z 0])))(f:h.look g=some (.zone true [] (ZV us ts)))(hz:h.look gz=some (.zone true [z] (Z1 t)))(I:g≠gz)(hn:∀u,h.nb< (h' u).nb)
  (hl:∀u b o,(h' u).look b=some o→ (b=h.nb∧o= .zone true [] (ZV (us++ [u]) (ts++ [some t]))) ∨ (b=k∧o= .lst 1 (vls (us++ [u]))) ∨ (b∉ [k,g,gz] ∧h.look b=some o)) :aAV h (fun _=>True) h':=fun E w r=>by
 obtain⟨i,H,g2⟩ :=r.obj g _ f;obtain⟨Ls,_,B,J⟩ :=fV g2;obtain⟨m,M,z2⟩ :=r.obj gz _ hz;obtain⟨O,U,W,K,hK,X⟩ :=fV z2;obtain⟨c,rfl⟩ :∃c,O= [c] :=by
  match O,hK with
  | [x],_=>exact⟨x,rfl⟩
 simp only [eU,map_nil,List.cons.injEq,and_true]at U hK;subst hK;have hu:kL (.lst 1 (vls us++ [.ptr z 0])) =false:=by cases us<;>rfl
 obtain⟨Lk,p,C,el,S,x1,x2,T,x4,x5⟩ :=r.obj k _ hk hu;have s:S= (us++ [(c.blk,c.sh)]).map adr:=by
  have d:= (T.take us.length);have n:= (T.drop us.length);have hl: (vls us).length=us.length:=by simp [vls]
  rw [←hl,List.take_left]at d;rw [←hl,List.drop_left]at n;rw [hl]at d n;have d:=vls_vrs.1 d;obtain⟨v,vs',e,q,A⟩ :=n.cons_inv;have:=A.nil_inv;subst this;simp only [VR]at q;obtain⟨L,Q,l2⟩ :=q;rw [U]at Q;cases Q;rw [←List.take_append_drop us.length S,d,e,l2];simp [adr]
 subst s;have G:k≠g:=fun e=>by subst e;rw [hk]at f;cases f
 have D:k≠gz:=fun e=>by subst e;rw [hk]at hz;cases hz
 have V:Lk.blk∉jE i.blk:=fun a=>r.noMeet hk f p H G rfl rfl ⟨_,rfl,a⟩;have d2:Lk.blk∉jE m.blk:=fun a=>r.noMeet hk hz p M D rfl rfl ⟨_,rfl,a⟩;have Y:∀x∈jE m.blk,x∉jE i.blk:=fun x d n=>r.noMeet f hz H M I rfl rfl ⟨x,n,d⟩;have N:=J.add X;have nd: (jE i.blk++jE m.blk).Nodup:=List.nodup_append.2 ⟨B,W,fun x hx y hy e=>by subst e;exact Y x hy hx⟩
 obtain ⟨E',q,A,q3⟩ :=aCV (h':=h' (c.blk,c.sh)) r [k,g,gz] (rs:=[]) (Z:=ZV (us++ [(c.blk,c.sh)]) (ts++ [some t])) (F:=jE i.blk++jE m.blk) (Ls:=[]) (kk:=k) (ok:=.lst 1 (vls (us++ [(c.blk,c.sh)]))) (Lk:=Lk) (hn _) (fun b o e=>by
   rcases hl _ b o e with g|g|g
   ·exact .inl g
   ·exact .inr (.inl g)
   · exact .inr (.inr (.inr g))) (fun b hb=>by
     rcases zq7.1 hb with rfl|hb
     ·exact⟨_,hk,rfl,rfl⟩
     · rcases zq7.1 hb with rfl|hb
       ·exact⟨_,f,rfl,rfl⟩
       ·rw [zq32.1 hb];exact⟨_,hz,rfl,rfl⟩) rfl (by simp) p ⟨rfl,rfl⟩ (aJt x1 x2 (fun j l=>by have:=x5 j (by rw [mR];omega);rw [this,lZ])) (fun j l=>by
     obtain rfl:Lk.blk=j:=l;refine⟨fun a=>?_,k,by simp,_,Lk,hk,p,rfl⟩;rcases zq28.1 a with a|a
     ·exact V a
     ·exact d2 a) (fun j l=>by
     refine⟨?_,OsAt.blk _ _ _ N j l⟩;rcases zq28.1 l with a|a
     ·exact⟨g,by simp,_,i,f,H,a⟩
     ·exact⟨gz,by simp,_,m,hz,M,a⟩)
     (fun R H' hi hH=> ⟨nd,OsAt.go hi _ _ _ N hH⟩)
 exact⟨_,E',trivial,q,A,q3⟩
def snap (H:Array Obj) :Imm:=fun k=>match H[k]? with
 |some (.cells C _ _) =>some C
 |_=>none
theorem sV {H:Array Obj}{k:Nat}{C:Array Value}{e:TypeId}{f:Nat×Nat}(h:H[k]?=some (.cells C e f)) :snap H k=some C:=by
 unfold snap;rw [h]
theorem aLZ {H:Array Obj}{k:Nat}{C:Array Value}(h:snap H k=some C) :∃e f,H[k]?=some (.cells C e f) :=by
 unfold snap at h;split at h
 ·rename_i a e f he;cases h;exact⟨e,f,he⟩
 ·cases h
theorem Rel.snap {E:Emb}{h:Hp}{H:Array Obj}(r:Rel E h H) :Imm.le E.imm (snap H) :=fun k C e=>by
 obtain⟨a,f,g⟩ :=r.imm k C e;exact sV g
mutual
theorem aL0 {f:Imm}{H:Array Obj}(m:Imm.le f (snap H)) :∀ (t:XT) (a:Nat×Nat) (F:List Nat),TAt f H a t F→VR (emI (snap H)) (XT.av t) (adr a)
 | .mk o n l N,a,F,h=>by
  simp only [TAt]at h;obtain⟨C,e,kv,G,Q,B,J,s,I,K,D,rfl,r⟩ :=h;have g:VR (emI (snap H)) (.ilst 1 (XTs.av l) false) kv:=by
   rcases r with⟨rfl,rfl,x⟩ | ⟨b,c,z,M,i,L,A,R,p,S,v,q,w,O,y⟩
   · simp only [VR];refine⟨[],VRs.nil _,fun _ k=>by(cases k),.inl ⟨rfl,?_⟩⟩;rcases x with⟨b,rfl⟩ | ⟨b,c,rfl⟩
     ·exact⟨b,0,rfl,fun _=>rfl,fun h=>by(cases h)⟩
     ·exact⟨_,c,rfl,fun h=>by(cases h),fun h=>by(cases h)⟩
   · simp only [VR];have hl: (i.map adr).length=l.length:=by rw [mR,q]
     refine⟨i.map adr,aHM m l i L y,fun u k=>by obtain⟨x,_,rfl⟩ :=zq24.1 k;exact aJr x,.inr ⟨b.1,b.2,c,z,by rw [hl];exact A,sV v,by rw [hl];exact p,fun h=>by(cases h),fun j d=>?_⟩⟩;rw [hl,mul_one]at d;rw [lZ];exact w j d
  simp only [XT.av,VR];refine⟨[.int .i64 o,.int .i64 n,kv,G],VRs.cons (by simp only [VR]) (VRs.cons (by simp only [VR]) (VRs.cons g (VRs.cons (D.mono (aCS m)) (VRs.nil _)))),a.1,a.2,C,rfl,sV B,fun j d=>?_⟩
  match j,d with
  |0,_=>exact J
  |1,_=>exact s
  |2,_=>exact I
  |3,_=>exact K
  |j+4,d=>simp at d;omega
theorem aHM {b:Imm}{H:Array Obj}(f:Imm.le b (snap H)) :∀ (c:List XT) (d:List (Nat×Nat)) (F:List Nat),TsAt b H d c F→VRs (emI (snap H)) (XTs.av c) (d.map adr)
 | [],d,F,h=>by simp only [TsAt]at h;rw [h.1];exact VRs.nil _
 | t::c,d,F,h=>by
  simp only [TsAt]at h;obtain⟨a,e,i,j,rfl,rfl,g,k⟩ :=h;exact VRs.cons (aL0 f t a i g) (aHM f c e j k)
end
def aFQ (v:AV) :Prop:=∀E E' cv,VR E v cv→VR E' v cv
theorem aL1 {k:IntKind}{n:Int}:aFQ (.int k n) :=fun E a b h=>by simpa only [VR]using h
theorem aTg :aFQ .nili:=fun E a b h=>by simpa only [VR]using h
theorem aFR {t:Nat}{v:AV}(a:aFQ v) :aFQ (.iface t v) :=fun E b e h=>by
 simp only [VR]at h ⊢;obtain⟨u,d,c⟩ :=h;exact⟨u,d,a E b u c⟩
theorem aTh :aFQ (.agg []) :=fun E a b h=>by simpa only [VR,VRs]using h
theorem aDD {f:Nat}{j m:List AV}{v:AV}{h:Hp}(hp:aK P f m v)(V:aFQ v)(B:j.length=m.length)
  (U:∀ (E:Emb) (H:Array Obj) (d:List Value),Rel E h H→VRs E j d→VRs (emI (snap H)) m d) :Spec P (.enter f j) h (.ret v) h:=by
 obtain⟨gB,n,he⟩ :=hp ⟨.leaf,0⟩;simp only [dG,dA]at n;split at n
 · rename_i fn F;split at n
   · rename_i c hc;cases n;refine⟨⟨f,dN .leaf 0 j,max fn.ntmps j.length,[.code c],[],.run,.normal,none⟩,by simp [dG,dA,F,hc],fun hm E fr Q w fr' fs r S z=>?_⟩;simp only at fs;rw [fs.nil_inv]
     have J:∀ {l:List AV} {t:Nat} {a:AV},(dN .leaf 0 l).at t=some a→l[t]?=some a:=fun {l t a} e=>by
      unfold dN at e;rw [bB]at e;split at e
      ·exact e
      ·cases e
     have D:∀ {l:List AV} {t:Nat} {a:AV},l[t]?=some a→ (dN .leaf 0 l).at t=some a:=fun {l t a} e=>by
      unfold dN;rw [bB,if_pos (zq0.1 e).1];exact e
     have I:∃d:List Value,VRs E j d∧∀ (t:Nat),t<j.length→fr.tmps[t]?=d[t]?:=by
      have X:j.length≤fr.tmps.size:=by have:=fr'.tm.1;simp only at this;omega
      refine⟨(fr.tmps.toList.take j.length),VRs.of_get (by simp;omega) (fun i a p=>?_),fun t N=>?_⟩
      · have A:= (zq0.1 p).1;obtain⟨y,s,q⟩ :=fr'.tm.2 i a (D p);exact⟨y,by rw [List.getElem?_take_of_lt A,rS];exact s,q⟩
      ·rw [List.getElem?_take_of_lt N,rS]
     obtain⟨d,c1,W⟩ :=I;have Y:=U E w.heap d r c1;have G:FR (emI (snap w.heap)) ⟨f,dN .leaf 0 m,max fn.ntmps m.length,[.code c],[],.run,.normal,none⟩ fr:=by
      refine⟨fr'.fn,⟨by have:=fr'.tm.1;rw [←B];exact this,fun t a e=>?_⟩,?_,?_,fr'.mode,fr'.kind,?_⟩
      · have M:=J e;have A:= (zq0.1 M).1;obtain⟨y,s,q⟩ :=Y.get t a M;exact⟨y,by rw [W t (by omega)];exact s,q⟩
      ·have:=fr'.todo;simpa [IRs,IR]using this
      ·have:=fr'.defers;simpa [DRs]using this
      ·have:=fr'.round;simpa [RR]using this
     have Z:Rel (emI (snap w.heap)) ⟨.leaf,0⟩ w.heap:= ⟨fun b o e=>by simp [Hp.look,T.at_leaf]at e,fun b b' o o' L L' e=>by simp [Hp.look,T.at_leaf]at e,fun _ _=>rfl,fun k C e=>aLZ e,fun b o L e=>by simp [Hp.look,T.at_leaf]at e,fun b o e=>by simp [Hp.look,T.at_leaf]at e⟩;obtain⟨O,K,E',s,⟨y,rfl,q⟩,g3,x⟩ :=he (Nat.zero_le _) (emI (snap w.heap)) fr [] w G rfl Z S z;have keep:∀i,i<w.heap.size→K.heap[i]?=w.heap[i]?:=fun i p=>x.keep i p (fun b o L e=>by simp [Hp.look,T.at_leaf]at e);refine⟨_,K,E,s,⟨y,rfl,V E' E y q⟩,⟨fun b o e=>?_,r.kin,r.fresh,fun k C e=>?_,r.apart,r.keys⟩,⟨fun _ _=>rfl,fun _ _ e=>e,x.size,fun i p _=>keep i p,fun b o L e k i p _=> ⟨b,o,L,e,k,p⟩,hm,x.os,x.tape,x.output,x.froz,fun k C e _=>.inl e,fun b o e _=> ⟨o,e⟩⟩⟩
     · rcases r.obj0 b o e with u| ⟨L,s,q⟩
       ·exact .inl u
       ·exact .inr ⟨L,s,q.heap fun i p=>keep _ (q.lt i p)⟩
     · obtain⟨R,G,g⟩ :=r.imm k C e;exact⟨R,G,by rw [keep k (zq44.1 g).1];exact g⟩
   ·cases n
 ·cases n
def aW (a:Nat×Nat) :AV:=.val (adr a)
theorem aFS (b:Nat→Nat) :∀a:List (Nat×Nat),renL b (map aW a) =map aW a
 | [] =>rfl
 |u::a=>by rw [eU,renL,aFS b a];rfl
theorem bBv {b:Nat→Nat}{z a:Nat}(us:List (Nat×Nat))(hz:b a=z) :renL b (map aW us++ [.ptr a 0]) =map aW us++ [.ptr z 0] :=by
 rw [aDw,aFS,←hz];rfl
theorem aL2 (c:Nat→Nat) :∀ (b:List AV) (i:Nat) (a:AV),renL c (b.set i a) = (renL c b).set i (ren c a)
 | [],_,_=>rfl
 |x::b,0,a=>rfl
 |x::b,i+1,a=>by simp only [set_cons_succ,renL,aL2 c b i a]
theorem aWc {b:Nat→Nat}{z a:Nat}(us:List (Nat×Nat))(i:Nat)(hz:b a=z) :renL b ((map aW us).set i (.ptr a 0)) = (map aW us).set i (.ptr z 0) :=by
 rw [aL2,aFS,←hz];rfl
theorem wc {c:Type}{a b:c}{l k:List c}(h:a=b)(g:l=k) :a::l=b::k:=by rw [h,g]
theorem wn {a:Type}: ([] :List a) = [] :=rfl
theorem aBT {b:Nat→Nat}{z a:Nat}{us:List (Nat×Nat)}(hz:b a=z) :some (bif false then AObj.lst 1 (map aW us++ [.ptr a 0])else(AObj.lst 1 (map aW us++ [.ptr a 0])).ren b) =some (AObj.lst 1 (map aW us++ [.ptr z 0])) :=by
 show some (AObj.lst 1 (renL b _)) =_;rw [bBv us hz]
theorem zD {b:Nat→Nat}{z a:Nat}{us:List (Nat×Nat)}{i:Nat}(hz:b a=z) :some (bif false then AObj.lst 1 ((map aW us).set i (.ptr a 0))else(AObj.lst 1 ((map aW us).set i (.ptr a 0))).ren b) =some (AObj.lst 1 ((map aW us).set i (.ptr z 0))) :=by
 show some (AObj.lst 1 (renL b _)) =_;rw [aWc us i hz]
theorem lC {m:Nat}{is:List Ins}{s t:TS}{ks:List Nat}{n1:Nat}{ps:List Prop}{W:List (Option AObj)}(hW:iK (fK m t.nb n1 ks) t.hp=W)(c:way P m is s t ks=some (n1,⟨aFr (fK m t.nb n1 ks) t.fr,t.cs.length,t.cs.map (aFr (fK m t.nb n1 ks)),W⟩,ps))(b:dH m t ks=true)(a:eY t.hp)(hp:AllP ps) :LeadsM P m s.as t.as:=
 aS6 (n1:=n1) (ks:=ks) (by rw [c,←hW];rfl) b a hp
theorem aL3 {m:Nat}{is:List Ins}{s:TS}{hp:List (Nat×AObj×Bool)}{nb:Nat}{ks:List Nat}{n1:Nat}{v:AV}{ps:List Prop}{W:List (Option AObj)}(hW:iK (fK m nb n1 ks) hp=W)(d:bFS P m is s hp nb ks=some (n1,ren (fK m nb n1 ks) v,W,ps))
  (b:dH m ⟨⟨0,0,[],[],[],.run,.normal,none⟩,[],hp,nb⟩ ks=true) (a:eY hp) (c:AllP ps) :Ends P m s.as (.ret v) (aA hp nb) :=
 aOM (n1:=n1) (ks:=ks) (by rw [d,←hW]) b a c
theorem aFT {us:List (Nat×Nat)}:0+length us≤length (map aW us) :=by simp
theorem aO5 {us:List (Nat×Nat)}{z:Nat}:take (length us) (drop 0 (map aW us)) ++ [ptr z 0] =map aW us++ [.ptr z 0] :=by
 rw [List.drop_zero,aAG (by simp)]
theorem aO6 {us:List (Nat×Nat)}{z:Nat}:length us+length [ptr z 0] =length us+1:=rfl
theorem bF3 {us:List (Nat×Nat)}:take (length ([] :List (Nat×Nat))) (drop 0 (map aW ([] :List (Nat×Nat)))) ++take (length us) (drop 0 (map aW us)) =map aW us:=by
 show [] ++take us.length (map aW us) =_;rw [List.nil_append,aAG (by simp)]
theorem aWd (xs:List AV)(i:Nat)(a:AV) :xs.set (0+i) a=xs.set i a:=by rw [fE]
theorem aCW {h h':Hp}{g:Nat}{rs rs':List Nat}{Z Z':ZP}(f:h.look g=some (.zone true rs Z))(hr:rs'= [] ∨rs'=rs)
  (hz:∀F j b H,Z F j b H→Z' F (if rs'= []then []else j) b H) (q:h.nb<h'.nb)
  (hl:∀x o,h'.look x=some o→ (x=h.nb∧o= .zone true rs' Z') ∨ (x≠g∧h.look x=some o)) :kN h h':=fun E w r=>by
 obtain⟨k,p,l⟩ :=r.obj g _ f;obtain⟨u,Ls,s,m⟩ :=l;refine sU r [g] (rs:=rs') (Z:=Z') (Ls:=if rs'= []then []else Ls) (F:=jE k.blk) q (fun x o e=>?_) (fun x v=>?_) ?_ (fun i c=> ⟨⟨g,by simp,_,k,f,p,c⟩,u i c⟩) (fun a t c n=>?_)
 · rcases hl x o e with d| ⟨d,y⟩
   ·exact .inl d
   ·exact .inr (.inr ⟨by simpa using d,y⟩)
 ·rw [zq32.1 v];exact⟨_,f,rfl,rfl⟩
 · rcases hr with rfl|rfl
   ·rfl
   · by_cases e:rs'= []
     ·rw [if_pos e,e];rfl
     ·rw [if_neg e];exact s
 · have:=hz _ _ _ _ (m a t c n);by_cases e:rs'= []
   ·rw [if_pos e]at this ⊢;exact this
   ·rw [if_neg e]at this ⊢;exact this
theorem zE {h h':Hp}{Z:ZP}(hz:∀b H,Z [] [] b H)(c:h.nb<h'.nb)
  (hl:∀x o,h'.look x=some o→ (x=h.nb∧o= .zone true [] Z) ∨h.look x=some o) :kN h h':=fun E w r=>
 sU r [] (rs:=[]) (Ls:=[]) (F:=[]) c (fun x o e=> (hl x o e).imp id (fun h=>.inr ⟨by simp,h⟩)) (fun x g=> (by cases g)) rfl (fun i d=> (by cases d)) (fun a f _ _=>hz a f)
theorem aRQ {b:Imm}{H:Array Obj}:∀a:List (Nat×Nat),OsAt b H a (map (fun _=>none) a) []
 | [] =>by simp [OsAt]
 |u::a=>by simp only [eU,OsAt];exact⟨u,a,rfl,aRQ a⟩
theorem bBw {us:List (Nat×Nat)}{a:Imm}{H:Array Obj}:ZV us (map (fun _=>none) us) [] [] a H:= ⟨nodup_nil,aRQ us⟩
theorem aJv {us:List (Nat×Nat)}{ts:List (Option XT)}{i:Nat}{F:List Nat}{b:List (Nat×Nat×Nat)}{a:Imm}{H:Array Obj}(h:eN us ts i F b a H) :ZV us ts F [] a H:= ⟨h.1,h.2.1⟩
end
abbrev RT :=XT
abbrev RT.mk (o n:Int)(ps:List Pat)(ks:List XT) :XT:=.mk o n ks ps
mutual
def RT.av :XT→AV
 | .mk o n ks ps=>.agg [.int .i64 o,.int .i64 n,.ilst 4 (Pats.av ps) false,.ilst 4 (RTs.av ks) false]
def RTs.av :List XT→List AV
 | [] =>[]
 |p::ps=>RT.av p::RTs.av ps
end
theorem aE :∀l,RTs.av l=map RT.av l
 | [] =>rfl
 |p::a=>by rw [RTs.av,aE a];rfl
mutual
theorem mA :∀p,keyless (RT.av p) =true
 | .mk o n a b=>by simp [RT.av,keyless,keylessL]
theorem mB :∀l,keylessL (RTs.av l) =true
 | [] =>rfl
 |p::a=>by rw [RTs.av,keylessL,mA p,mB a];rfl
end
theorem bT {l:List RT}:keylessL (RTs.av l) =true:=mB l
def XT.op :XT→Int| .mk o _ _ _=>o
def XT.n :XT→Int| .mk _ n _ _=>n
def XT.kids :XT→List XT| .mk _ _ ks _=>ks
def XT.pats :XT→List Pat| .mk _ _ _ ps=>ps
structure Flow where
 binds:List XT
 last:XT
noncomputable def Flow.av (f:Flow) :AV:=.agg ([.ilst 4 (RTs.av f.binds) false] ++ (RT.av f.last).cells)
section
variable {P :Program}
mutual
theorem bBx {g J:Imm}{H:Array Obj}(k:Imm.le g J) :∀ (t:XT) (a:Nat×Nat) (F:List Nat),TAt g H a t F→ (∀i∈F,∀C e f,H[i]?=some (.cells C e f) →J i=some C) →VR (emI J) (XT.av t) (adr a)
 | .mk o n r S,a,F,h,l=>by
  simp only [TAt]at h;obtain⟨C,e,kv,L,T,I,N,y,M,O,K,rfl,w⟩ :=h;have m:VR (emI J) (.ilst 1 (XTs.av r) false) kv:=by
   rcases w with⟨rfl,rfl,x⟩ | ⟨b,c,D,R,p,Q,G,U,s,V,z,v,A,rfl,B⟩
   · simp only [VR];refine⟨[],VRs.nil _,fun _ q=>by(cases q),.inl ⟨rfl,?_⟩⟩;rcases x with⟨b,rfl⟩ | ⟨b,c,rfl⟩
     ·exact⟨b,0,rfl,fun _=>rfl,fun h=>by(cases h)⟩
     ·exact⟨_,c,rfl,fun h=>by(cases h),fun h=>by(cases h)⟩
   · simp only [VR];have hl: (p.map adr).length=r.length:=by rw [mR,v]
     refine⟨p.map adr,aFU k r p Q B (fun i k=>l i (cL _ (cL _ k))),fun u q=>by obtain⟨x,_,rfl⟩ :=zq24.1 q;exact aJr x,.inr ⟨b.1,b.2,c,D,by rw [hl];exact G,l _ (by simp) _ _ _ z,by rw [hl];exact s,fun h=>by(cases h),fun j d=>?_⟩⟩;rw [hl,mul_one]at d;rw [lZ];exact A j d
  simp only [XT.av,VR];refine⟨[.int .i64 o,.int .i64 n,kv,L],VRs.cons (by simp only [VR]) (VRs.cons (by simp only [VR]) (VRs.cons m (VRs.cons (K.mono (aCS k)) (VRs.nil _)))),a.1,a.2,C,rfl,l _ (cQ ..) _ _ _ I,fun j d=>?_⟩
  match j,d with
  |0,_=>exact N
  |1,_=>exact y
  |2,_=>exact M
  |3,_=>exact O
  |j+4,d=>simp at d;omega
theorem aFU {c J:Imm}{H:Array Obj}(b:Imm.le c J) :∀ (g:List XT) (d:List (Nat×Nat)) (F:List Nat),TsAt c H d g F→ (∀i∈F,∀C e f,H[i]?=some (.cells C e f) →J i=some C) →VRs (emI J) (XTs.av g) (d.map adr)
 | [],d,F,h,_=>by simp only [TsAt]at h;rw [h.1];exact VRs.nil _
 | t::g,d,F,h,k=>by
  simp only [TsAt]at h;obtain⟨a,j,l,n,rfl,rfl,m,o⟩ :=h;exact VRs.cons (bBx b t a l m (fun i b=>k i (zq28.2 (.inl b)))) (aFU b g j n o (fun i b=>k i (zq28.2 (.inr b))))
end
def fhC (r n:Nat)(mn:Int)(cs:List Con) :AObj:=.cells (putCells .leaf 0 [.gl r 1 0 n false,.int .i64 mn,.ilst 2 (map Con.av cs) false]) 3 [] false
def fvA (ts:List XT)(mn:Int)(cs:List Con) :AV:=.iptr [.ilst 1 (XTs.av ts) false,.int .i64 mn,.ilst 2 (map Con.av cs) false]
theorem aFV {E:Emb}{H:Array Obj}{J:Imm}{k r n:Nat}{mn:Int}{cs:List Con}{ts:List XT}{Lk D:Loc}{cv:Value}(l:Imm.le E.imm J)(hk:E k=some Lk)(ok:OR E H Lk (fhC r n mn cs))(oz:OR E H D (.zone true [r] (cH ts)))(o:n=ts.length)
  (p:∀i,i=Lk.blk∨i∈jE D.blk→∀C e f,H[i]?=some (.cells C e f) →J i=some C) (A:VR E (.ptr k 0) cv) :VR (emI J) (fvA ts mn cs) cv:=by
 obtain⟨C,e,c1,c2,q⟩ :=ok;obtain⟨_,v0,F,s⟩ :=q 0 (.gl r 1 0 n false) (by rw [bB];rfl);obtain⟨_,N,a1,V⟩ :=q 1 (.int .i64 mn) (by rw [bB];rfl);obtain⟨_,G,S,I⟩ :=q 2 (.ilst 2 (map Con.av cs) false) (by rw [bB];rfl);obtain⟨y,B,Z⟩ :=fV oz;obtain⟨Y,K,hK,hz⟩ :=Z;obtain⟨g,rfl⟩ :∃g,y= [g] :=by
  match y,hK with
  | [x],_=>exact⟨x,rfl⟩
 simp only [eU,map_nil,List.cons.injEq,and_true]at B hK;subst hK;have d:VR (emI J) (.ilst 1 (XTs.av ts) false) v0:=by
  simp only [VR]at s;rcases hz with⟨rfl,hF⟩ | ⟨T,ek,t,Fr,U,w,W,g4,M,z⟩
  · simp only [length_nil]at o;simp only [VR];refine⟨[],VRs.nil _,fun _ v=>by(cases v),.inl ⟨rfl,?_⟩⟩;rcases s with⟨_,a,R⟩ | ⟨L,a,b,_,m,_⟩
    ·exact⟨a,0,R,fun _=>rfl,fun h=>by(cases h)⟩
    ·rw [o]at m;exact⟨_,b,m,fun h=>by(cases h),fun h=>by(cases h)⟩
  · have O:0<ts.length:=List.length_pos_iff.2 U;rcases s with⟨h0,_⟩ | ⟨L,a,b,X,m,h3,h4,h5⟩
    ·omega
    · have:E.loc r=some L:=X;rw [B]at this;cases this;obtain⟨q1,q2⟩ :=h5 (by omega);have hl: (t.map adr).length=ts.length:=by rw [mR,z.len]
      simp only [VR];refine⟨t.map adr,aFU l ts t Fr z (fun i l=>p i (.inr (by rw [w];exact cL _ l))),fun u v=>by obtain⟨x,_,rfl⟩ :=zq24.1 v;exact aJr x,.inr ⟨g.blk,a,b,T,by rw [hl,←o];exact m,p _ (.inr (by rw [w];exact cQ ..)) _ _ _ W,by rw [hl];omega,fun h=>by(cases h),fun j c=>?_⟩⟩;rw [hl,mul_one]at c;rw [lZ,q1,show g.sh+0*1+j=g.sh+j by omega];exact M j c
 simp only [VR]at A;obtain⟨L,Q,rfl⟩ :=A;have:E.loc k=some L:=Q;rw [show E.loc k=E k from rfl,hk]at this;cases this;simp only [fvA,VR];refine⟨[v0,N,G],VRs.cons d (VRs.cons (by simpa only [VR]using V) (VRs.cons ((VR.emI (by simp [keyless]) I).mono (aCS l)) (VRs.nil _))),Lk.blk,Lk.sh+0,C,rfl,p _ (.inl rfl) _ _ _ c1,fun j c=>?_⟩
 match j,c with
 |0,_=>exact F
 |1,_=>exact a1
 |2,_=>exact S
 |j+3,c=>simp at c;omega
theorem aHh {E:Emb}{h:Hp}{H:Array Obj}(r:Rel E h H){k q z n:Nat}{mn:Int}{cs:List Con}{ts:List XT}{cv:Value}(hk:h.look k=some (fhC q n mn cs))(hz:h.look z=some (.zone true [q] (cH ts)))(d:n=ts.length)(a:VR E (.ptr k 0) cv) :VR (emI (snap H)) (fvA ts mn cs) cv:=by
 obtain⟨l,c,b⟩ :=r.obj k _ hk;obtain⟨o,m,j⟩ :=r.obj z _ hz;exact aFV r.snap c b j d (fun i _ C e f g=>sV g) a
theorem aJw {h h':Hp}{k q z n:Nat}{mn:Int}{cs:List Con}{ts:List XT}(hk:h.look k=some (fhC q n mn cs))(hz:h.look z=some (.zone true [q] (cH ts)))(M:n=ts.length)(hb:h'.nb=h.nb)
  (hl:∀b o,h'.look b=some o→b∉ [k,z] ∧h.look b=some o) {m:Nat} (hm:m≤h.nb) :lW m h h' (.ptr k 0) (fvA ts mn cs) :=fun E w r=>by
 obtain⟨D,F,I⟩ :=r.obj k _ hk;obtain⟨G,Z,O⟩ :=r.obj z _ hz
 let own:Nat→Prop:=fun i=>i=D.blk∨i∈jE G.blk
 have c:∀ {i},own i→∃b∈ [k,z],∃o L,h.look b=some o∧E b=some L∧Own o L i∧bY o= [] ∧jF o=false:=fun {i} a=>by
  rcases a with rfl|a
  ·exact⟨k,by simp,_,D,hk,F,rfl,rfl,rfl⟩
  ·exact⟨z,by simp,_,G,hz,Z,a,rfl,rfl⟩
 have p:∀ {i},own i→E.imm i=none:=fun {i} a=>by
  obtain⟨b,_,o,L,v,y,t,_⟩ :=c a;exact r.apart b o L v y i t
 classical
 let E':Emb:= ⟨E.loc,fun i=>if own i then snap w.heap i else E.imm i⟩
 have d:E.le E':= ⟨fun _ _ e=>e,fun i C e=>by
  show(if own i then snap w.heap i else E.imm i) =some C;rw [if_neg (fun s=>by rw [p s]at e;cases e)];exact e⟩
 have l:∀ {b o L i},h'.look b=some o→E b=some L→Own o L i→¬own i:=fun {b o L i} e g a j=>by
  obtain⟨U,h0,J,T,q1,K,Y,V,R⟩ :=c j;obtain⟨N,e2⟩ :=hl b o e;rcases r.kin U b J o T L q1 e2 K g ⟨i,Y,a⟩ (fun e=>N (e ▸ h0))with⟨x,_⟩ | ⟨_,x,_⟩
  ·rw [V]at x;cases x
  ·rw [R]at x;cases x
 refine⟨E',d,⟨fun b o e=>?_,fun b A o B L X e e'=>r.kin b A o B L X (hl b o e).2 (hl A B e').2,fun b Q=>r.fresh b (by omega),fun i C e=>?_,fun b o L e g i a=>?_,fun b o e=>by rw [hb];exact r.keys b o (hl b o e).2⟩,
  ⟨fun _ _=>rfl,d.2,le_refl _,fun _ _ _=>rfl,fun b o L e g i a _=> ⟨b,o,L,(hl b o e).2,g,a⟩,by omega,rfl,rfl,rfl,fun _ _=>rfl,fun i C e _=>?_,fun b o e _=> ⟨o,(hl b o e).2⟩⟩,fun cv S=>VR.of_emI (E:=E') (aFV d.2 F I O M (fun i a C e f s=>?_) S)⟩
 · rcases r.obj0 b o (hl b o e).2 with u| ⟨L,W,H⟩
   ·exact .inl u
   ·exact .inr ⟨L,W,H.mono d⟩
 · simp only [E']at e;split at e
   ·exact aLZ e
   ·exact r.imm i C e
 · show(if own i then snap w.heap i else E.imm i) =none;rw [if_neg (l e g a)];exact r.apart b o L (hl b o e).2 g i a
 · simp only [E']at e;split at e
   · rename_i j;obtain⟨b,_,o,L,v,y,t,_⟩ :=c j;exact .inr ⟨b,o,L,v,y,t⟩
   ·exact .inl e
 · show(if own i then snap w.heap i else E.imm i) =some C;rw [if_pos a];exact sV s
end
mutual
def mQ :Pat→Int→Int
 | .mk _ _ _ ps,left=>if left<1 then -1 else kE ps (left-1)
def kE :List Pat→Int→Int
 | [],left=>left
 |p::ps,left=>if 0≤left then kE ps (mQ p left)else left
end
mutual
theorem aL4 :∀ (p:Pat) (left:Int),0≤left→ -1≤mQ p left∧mQ p left≤left-1
 | .mk _ _ _ a,left,h=>by
  rw [mQ];split
  ·omega
  ·have:=aHN a (left-1) (by omega);omega
theorem aHN :∀ (b:List Pat) (left:Int),-1≤left→ -1≤kE b left∧kE b left≤left
 | [],left,h=>by rw [kE];omega
 | p ::b,left,h=>by
  rw [kE];split
  · rename_i c;have a:=aL4 p left c;have:=aHN b (mQ p left) a.1;omega
  ·omega
end
theorem aDE (f n:Int)(s:cF)(ps:List Pat)(b:Int)(d:∀p∈ps,∀left:Int,0≤left→left≤1000→aK PP 69 [Pat.av p,.int .i64 left] (.int .i64 (mQ p left))) :
  ∀ (t:List Pat) (i:Nat) (left:Int),ps.drop i=t→ -1≤left→ (i:Int) +left≤1000→Ends PP 0 (zC f n s ps b left (i:Int)).as (.ret (.int .i64 (kE t left))) (aA [] 0)
 | [],i,left,h,m,o=>by
  have:=bH h;rw [kE];exact aO4 f n s ps b left i sd
 | .mk c e j a::t,i,left,h,m,o=>by
  obtain⟨l,k,q⟩ :=bE h;rw [kE];split
  · rename_i g;have w:=aL4 (.mk c e j a) left g;refine(aO2 f n s ps b left i c e j a _ sd sd sd sd (d _ (jQ l) left g (by omega)) sd).ends ?_;exact aDE f n s ps b d t (i+1) _ k w.1 (by omega)
  ·exact aO3 f n s ps b left i sd sd
mutual
theorem xO :∀ (p:Pat) (left:Int),-1≤left→left≤1000→aK PP 69 [Pat.av p,.int .i64 left] (.int .i64 (mQ p left))
 | .mk f n s a,left,b,c=>by
  refine aG aC (by simp [keylessL,nB,keyless]) rfl ?_;rw [mQ];split
  ·exact aO0 f n s a left sd
  · refine(aO1 f n s a left sd sd).ends ?_;exact aDE f n s a left (fun p d left b c=>aFW a p d left b c) a 0 _ rfl (by omega) (by omega)
theorem aFW :∀ (b:List Pat),∀p∈b,∀left:Int,0≤left→left≤1000→aK PP 69 [Pat.av p,.int .i64 left] (.int .i64 (mQ p left))
 | [],p,a,_,_,_=>by cases a
 | q::b,p,a,left,d,c=>by
  rcases zq7.1 a with e|a
  ·rw [e];exact xO q left (by omega) c
  ·exact aFW b p a left d c
end
mutual
def xP :Pat→Bool
 | .mk _ _ s ps=>aBU ps&&decide (s.length≤30)
def aBU :List Pat→Bool
 | [] =>true
 |p::ps=>xP p&&aBU ps
end
mutual
def cB :Pat→Nat
 | .mk _ _ _ ps=>bI ps+1
def bI :List Pat→Nat
 | [] =>0
 |p::ps=>cB p+bI ps
end
theorem fA :∀a:List Pat,a.length≤bI a
 | [] =>by simp [bI]
 | .mk _ _ _ qs::a=>by have:=fA a;simp only [bI,cB,qN];omega
mutual
theorem aFX :∀ (p:Pat) (left:Int),0≤mQ p left→mQ p left=left-cB p
 | .mk _ _ _ a,left,h=>by
  rw [mQ]at h ⊢;split at h
  ·omega
  · rename_i b;rw [if_neg b];have:=aDF a (left-1) h;simp only [cB];omega
theorem aDF :∀ (c:List Pat) (left:Int),0≤kE c left→kE c left=left-bI c
 | [],left,h=>by simp [kE,bI]
 | p ::c,left,h=>by
  rw [kE]at h ⊢;split at h
  · rename_i d;rw [if_pos d];have a:=aDF c _ h;have b:=aFX p left (by omega);simp only [bI];omega
  ·omega
end
mutual
theorem aFY :∀ (p:Pat) (left:Int),(cB p:Int) ≤left→mQ p left=left-cB p
 | .mk _ _ _ a,left,h=>by
  simp only [cB]at h ⊢;rw [mQ,if_neg (by omega),aDG a (left-1) (by omega)];omega
theorem aDG :∀ (a:List Pat) (left:Int),(bI a:Int) ≤left→kE a left=left-bI a
 | [],left,h=>by simp [kE,bI]
 | p::a,left,h=>by
  simp only [bI]at h ⊢;rw [kE,if_pos (by omega),aFY p left (by omega),aDG a _ (by omega)];omega
end
theorem zG (p:Pat)(left:Int) :0≤mQ p left↔ (cB p:Int) ≤left:=by
 constructor
 ·intro h;have:=aFX p left h;omega
 ·intro h;rw [aFY p left h];omega
theorem xQ (f n:Int)(s:cF)(ps:List Pat)(hl:ps.length<1000000)(j:∀p∈ps,aK PP 70 [Pat.av p] (.bool (xP p))) :
  ∀ (t:List Pat) (i:Nat),ps.drop i=t→Ends PP 0 (pC f n s ps (i:Int)).as (.ret (.bool (aBU t&&decide (s.length≤30)))) (aA [] 0)
 | [],i,h=>by
  have:=bH h;have e:decide (((length s:Nat) :Int) ≤ (30:Int)) =decide (s.length≤30) :=by congr 1;simp;omega
  rw [aBU,mL,←e];exact aHg f n s ps i sd
 | .mk c d g b::t,i,h=>by
  obtain⟨l,k,m⟩ :=bE h;have a:=j _ (jQ l);rw [aBU];cases hb:xP (.mk c d g b)
  case false=>
   rw [hb]at a;exact aHe f n s ps i c d g b false sd sd sd a rfl
  rw [hb]at a;refine(aHf f n s ps i c d g b true sd sd sd a rfl sd).ends ?_;rw [mL];exact xQ f n s ps hl j t (i+1) k
mutual
theorem xR :∀ (p:Pat),cB p<1000000→aK PP 70 [Pat.av p] (.bool (xP p))
 | .mk f n s a,h=>by
  refine aG aC (by simp [keylessL,nB]) rfl ?_;simp only [cB]at h;have:=fA a;refine(aHd f n s a).ends ?_;rw [xP];exact xQ f n s a (by omega) (aAC a (by omega)) a 0 rfl
theorem aAC :∀ (b:List Pat),bI b<1000000→∀p∈b,aK PP 70 [Pat.av p] (.bool (xP p))
 | [],_,p,a=>by cases a
 | q::b,h,p,a=>by
  simp only [bI]at h;rcases zq7.1 a with e|a
  ·rw [e];exact xR q (by omega)
  ·exact aAC b (by omega) p a
end
def xT (p:Pat) :Bool:=decide (cB p≤16) &&xP p
theorem aJx (p:Pat) :aK PP 31 [Pat.av p] (.bool (xT p)) :=by
 refine aG aC (by simp [keylessL,nB]) rfl ?_;obtain⟨f,n,s,a⟩ :=p;have b:=xO (.mk f n s a) 16 (by omega) (by omega);by_cases h:cB (.mk f n s a) ≤16
 · have e:xT (.mk f n s a) =xP (.mk f n s a) :=by simp [xT,h]
   rw [e];have c:0≤mQ (.mk f n s a) 16:= (zG (.mk f n s a) 16).2 (by omega);exact aLR f n s a _ _ b (decide_eq_true c) (xR (.mk f n s a) (by omega))
 · have e:xT (.mk f n s a) =false:=by simp [xT,h]
   rw [e];refine aLS f n s a _ b (decide_eq_false fun g=>h ?_);have:= (zG (.mk f n s a) 16).1 g;omega
def jY (l:List Con) :Bool:=l.all fun c=>decide (c.name.length≤40)
def gU (l:List Pat) :Bool:=l.all xT
def bO (x:Node) :Bool:=decide (x.kids.length≤10) &&decide (x.pats.length≤10) &&gU x.pats
def aJ (p:Prog) :Bool:=decide (p.nodes.length≤320) &&decide (p.funs.length≤320) &&decide (p.cons.length≤25) &&jY p.cons&&p.nodes.all bO
mutual
theorem bHF (p:Prog)(r:p.nodes.length≤320) :∀ (t:List Node) (i:Nat),p.nodes.drop i=t→Ends PP 0 (nT p (i:Int)).as (.ret (.bool (t.all bO))) (aA [] 0)
 | [],i,h=>by
  have:=bH h;exact aFL p i sd
 | x :: t,i,h=>by
  obtain⟨s,j,v⟩ :=bE h;by_cases m:x.kids.length≤10
  · by_cases l:x.pats.length≤10
    · have e: (x::t).all bO= (gU (x.pats.drop 0) &&t.all bO) :=by simp [bO,m,l]
      rw [e];refine(aFK p i x sd sd sd sd sd).ends ?_;have o:=bHF p r t (i+1) j;clear e s j h
      suffices ∀ (u:List Pat) (k:Nat),x.pats.drop k=u→Ends PP 0 (nU p x.op x.n x.kids x.pats (k:Int) (i:Int)).as (.ret (.bool (gU u&&t.all bO))) (aA [] 0)from this _ 0 rfl
      intro u
      induction u with
      | nil=>
       intro k hk;have:=bH hk;refine(aFO p x.op x.n x.kids x.pats k i sd sd).ends ?_;simp only [gU,all_nil,mL];exact o
      | cons q u g=>
       intro k hk;obtain⟨y,n,w⟩ :=bE hk;obtain⟨b,d,c,a⟩ :=q;have f:=aJx (.mk b d c a);cases hb:xT (.mk b d c a)
       case false=>
        rw [hb]at f;have e: (gU (.mk b d c a::u) &&t.all bO) =false:=by simp [gU,hb]
        rw [e];exact aFM p x.op x.n x.kids x.pats k i b d c a false sd sd sd f rfl
       rw [hb]at f;have e: (gU (.mk b d c a::u) &&t.all bO) = (gU u&&t.all bO) :=by simp [gU,hb]
       rw [e];refine(aFN p x.op x.n x.kids x.pats k i b d c a true sd sd sd f rfl sd).ends ?_;exact g (k+1) n
    · have e: (x::t).all bO=false:=by simp [bO,l]
      rw [e];exact aFJ p i x sd sd sd sd sd
  · have e: (x::t).all bO=false:=by simp [bO,m]
    rw [e];exact aFI p i x sd sd sd sd
end
theorem bHG (p:Prog)(hc:p.cons.length≤25)(a:p.nodes.length≤320) :∀ (t:List Con) (i:Nat),p.cons.drop i=t→Ends PP 0 (nS p (i:Int)).as (.ret (.bool (jY t&&p.nodes.all bO))) (aA [] 0)
 | [],i,h=>by
  have:=bH h;refine(aFH p i sd).ends ?_;simp only [jY,all_nil,mL];exact bHF p a p.nodes 0 rfl
 | c ::t,i,h=>by
  obtain⟨d,b,f⟩ :=bE h;by_cases k:c.name.length≤40
  · have e: (jY (c::t) &&p.nodes.all bO) = (jY t&&p.nodes.all bO) :=by simp [jY,k]
    rw [e];refine(aFG p i c sd sd sd sd sd).ends ?_;exact bHG p hc a t (i+1) b
  · have e: (jY (c::t) &&p.nodes.all bO) =false:=by simp [jY,k]
    rw [e];exact aFF p i c sd sd sd sd
theorem aD3 (p:Prog) :aK PP 10 [Prog.av p] (.bool (aJ p)) :=by
 refine aG aC rfl rfl ?_;by_cases b:p.nodes.length≤320
 · by_cases c:p.funs.length≤320
   · by_cases a:p.cons.length≤25
     · have e:aJ p= (jY p.cons&&p.nodes.all bO) :=by simp [aJ,b,c,a]
       rw [e];exact(aFE p sd sd sd).ends (bHG p a b p.cons 0 rfl)
     · have e:aJ p=false:=by simp [aJ,a]
       rw [e];exact aFD p sd sd sd
   · have e:aJ p=false:=by simp [aJ,c]
     rw [e];exact aFC p sd sd
 · have e:aJ p=false:=by simp [aJ,b]
   rw [e];exact aFB p sd
def dQ(b c:Int)(d:cF)(a:List Pat)(e:List Con)(f:Bool)(g:Int):TS:=⟨(tf 104 82 [(1,(iC e)),kp 2 0,(4,(bV false)),(5,(bV f)),(6,(nI (a.length:Int))),(7,(nI g))] [kc f104 1012,kl f104 1012,.inBlock 1,kc f104 127]),[],[oC 0 [(nI b),(nI c),(dP d),(iP a)]],1⟩
def uU(d b:Int)(a:cF)(c:List Pat)(e:List Con):=tT 0 (start PP 104 [(.agg [(nI d),(nI b),(dP a),(iP c)]),(iC e)])<|gm 13 aH c<|.b 15 13 (d==1) (.b 7 19 ((c.length:Int) ==0) (.b 11 61 (b==0) (.W 13 1 [0] (dQ d b a c e (kB a.length (aF a) 0 0) 0))<|.W 13 1 [0] (dQ d b a c e false 0))<|.W 24 1 [0] (dQ d b a c e false 0))<|.b 6 13 (d==2) (.b 7 19 ((c.length:Int) ==0) (.b 11 61 (b==0) (.W 13 1 [0] (dQ d b a c e (kB a.length (aF a) 0 0) 0))<|.W 13 1 [0] (dQ d b a c e false 0))<|.W 24 1 [0] (dQ d b a c e false 0))<|.b 5 13 (d==5) (.b 5 19 ((c.length:Int) ==0) (.b 11 61 (b==0) (.W 13 1 [0] (dQ d b a c e (kB a.length (aF a) 0 0) 0))<|.W 13 1 [0] (dQ d b a c e false 0))<|.W 24 1 [0] (dQ d b a c e false 0))<|.b 6 24 (d==3) (.b 5 28 ((c.length:Int) ==0) (kJ 2 62 [(nI b),(nI (-1000000000)),(nI 1000000000)]<|fun f=>.b 8 61 f (.W 13 1 [0] (dQ d b a c e (kB a.length (aF a) 0 0) 0))<|.W 13 1 [0] (dQ d b a c e false 0))<|.W 24 1 [0] (dQ d b a c e false 0))<|.b 6 33 (d==4) (.b 5 37 ((c.length:Int) ==0) (kJ 2 62 [(nI b),(nI 0),(nI 1)]<|fun f=>.b 8 61 f (.W 13 1 [0] (dQ d b a c e (kB a.length (aF a) 0 0) 0))<|.W 13 1 [0] (dQ d b a c e false 0))<|.W 24 1 [0] (dQ d b a c e false 0))<|.b 6 42 (d==6) (gl 5 Con.av e<|gw 1 48 ((e.length:Int) -1)<|kJ 0 62 [(nI b),(nI 0),(nI ((e.length:Int) -1))]<|fun f=>.b 1 50 f (gX Con.av 4 e b<|fun g=>.b 11 61 ((c.length:Int) ==g.args) (.W 13 1 [0] (dQ d b a c e (kB a.length (aF a) 0 0) 0))<|.W 13 1 [0] (dQ d b a c e false 0))<|.W 29 1 [0] (dQ d b a c e false 0))<|.W 20 1 [0] (dQ d b a c e false 0)
def aWe:=fun a b c d e f g i=>uU a b c d e|>.t f|>.t g|>.t i tv
def aWf:=fun a b c d e f g i=>uU a b c d e|>.t f|>.t g|>.f i tv
def aWg:=fun a b c d e f g=>uU a b c d e|>.t f|>.f g tv
def aWh:=fun a b c d e f g i j=>uU a b c d e|>.f f|>.t g|>.t i|>.t j tv
def aWi:=fun a b c d e f g i j=>uU a b c d e|>.f f|>.t g|>.t i|>.f j tv
def aWj:=fun a b c d e f g i=>uU a b c d e|>.f f|>.t g|>.f i tv
def aWk:=fun a b c d e f g i j k=>uU a b c d e|>.f f|>.f g|>.t i|>.t j|>.t k tv
def aWl:=fun a b c d e f g i j k=>uU a b c d e|>.f f|>.f g|>.t i|>.t j|>.f k tv
def aWm:=fun a b c d e f g i j=>uU a b c d e|>.f f|>.f g|>.t i|>.f j tv
def aWn:=fun a b c d e f g i j k l m n=>uU a b c d e|>.f g|>.f i|>.f j|>.t k|>.t l f m|>.t n tv
def aTi:=fun a b c d e f g i j k l m n=>uU a b c d e|>.f g|>.f i|>.f j|>.t k|>.t l f m|>.f n tv
def aTj:=fun a b c d e f g i j k=>uU a b c d e|>.f f|>.f g|>.f i|>.t j|>.f k tv
def aTk:=fun a b c d e f g i j k l m n o=>uU a b c d e|>.f g|>.f i|>.f j|>.f k|>.t l|>.t m f n|>.t o tv
def aTl:=fun a b c d e f g i j k l m n o=>uU a b c d e|>.f g|>.f i|>.f j|>.f k|>.t l|>.t m f n|>.f o tv
def aTm:=fun a b c d e f g i j k l=>uU a b c d e|>.f f|>.f g|>.f i|>.f j|>.t k|>.f l tv
def aTn:=fun a b c d e f g i j k l m n o p q r s t=>uU a b c d e|>.f i|>.f j|>.f k|>.f l|>.f m|>.t n o f p|>.t q g r s|>.t t tv
def aTo:=fun a b c d e f g i j k l m n o p q r s t=>uU a b c d e|>.f i|>.f j|>.f k|>.f l|>.f m|>.t n o f p|>.t q g r s|>.f t tv
def aTp:=fun a b c d e f g i j k l m n o p=>uU a b c d e|>.f g|>.f i|>.f j|>.f k|>.f l|>.t m n f o|>.f p tv
def aTq:=fun a b c d e f g i j k l=>uU a b c d e|>.f f|>.f g|>.f i|>.f j|>.f k|>.f l tv
def bF4(e f:Int)(g:cF)(b:List Pat)(d:List Con)(c:Bool)(a:Int):=tT 0 (dQ e f g b d c a)<|gd 7 69 (a< (b.length:Int)) (.b 3 71 c (uP 8 b a<|fun i j k l=>kJ 2 104 [(.agg [(nI i),(nI j),(dP k),(iP l)]),(iC d)]<|fun m=>gw 6 73 (a+1)<|.W 3 1 [0] (dQ e f g b d m (a+1)))<|gE 8 1 (bV c))<|gE 11 1 (bV c)
def aWo:=fun a b c d e f g i j k l m n o p q r s=>bF4 a b c d e f g|>.t n|>.t o i j k l p q m r s tv
def aWp:=fun a b c d e f g i j=>bF4 a b c d e f g|>.t i|>.f j tv
def aWq:=fun a b c d e f g i=>bF4 a b c d e f g|>.f i tv
def mC(a b c:Int):=tT 0 (start PP 105 [(nI a),(nI b),(nI c)])<|.b 16 8 (a==1) (gE 8 0 (nI 0))<|.b 6 8 (a==2) (gE 8 0 (nI 0))<|.b 6 8 (a==3) (gE 8 0 (nI 0))<|.b 6 8 (a==4) (gE 8 0 (nI 0))<|.b 6 8 (a==21) (gE 8 0 (nI 0))<|.b 6 8 (a==25) (gE 8 0 (nI 0))<|.b 5 8 (a==28) (gE 6 0 (nI 0))<|.b 7 16 (a==5) (gE 8 0 (nI 1))<|.b 6 16 (a==27) (gE 8 0 (nI 1))<|.b 6 16 (a==16) (gE 8 0 (nI 1))<|.b 6 16 (a==17) (gE 8 0 (nI 1))<|.b 6 16 (a==19) (gE 8 0 (nI 1))<|.b 6 16 (a==20) (gE 8 0 (nI 1))<|.b 6 16 (a==23) (gE 8 0 (nI 1))<|.b 6 16 (a==26) (gE 8 0 (nI 1))<|.b 5 16 (a==24) (gE 6 0 (nI 1))<|.b 7 26 (a==6) (gE 8 0 (nI 2))<|.b 6 26 (a==7) (gE 8 0 (nI 2))<|.b 6 26 (a==9) (gE 8 0 (nI 2))<|.b 6 26 (a==10) (gE 8 0 (nI 2))<|.b 6 26 (a==11) (gE 8 0 (nI 2))<|.b 6 26 (a==12) (gE 8 0 (nI 2))<|.b 6 26 (a==13) (gE 8 0 (nI 2))<|.b 6 26 (a==18) (gE 8 0 (nI 2))<|.b 5 26 (a==22) (gE 6 0 (nI 2))<|.b 6 36 (a==8) (gE 6 0 (nI 3))<|.b 6 38 (a==15) (gw 5 41 (1+b)<|gE 3 0 (nI (1+b)))<|.b 6 42 (a==14) (gE 7 0 (nI c))<|gE 8 0 (nI (-1))
def aTr:=fun a b c d=>mC a b c|>.t d tv
def aTs:=fun a b c d e=>mC a b c|>.f d|>.t e tv
def aTt:=fun a b c d e f=>mC a b c|>.f d|>.f e|>.t f tv
def aTu:=fun a b c d e f g=>mC a b c|>.f d|>.f e|>.f f|>.t g tv
def aTv:=fun a b c d e f g i=>mC a b c|>.f d|>.f e|>.f f|>.f g|>.t i tv
def aTw:=fun a b c d e f g i j=>mC a b c|>.f d|>.f e|>.f f|>.f g|>.f i|>.t j tv
def aTx:=fun a b c d e f g i j k=>mC a b c|>.f d|>.f e|>.f f|>.f g|>.f i|>.f j|>.t k tv
def aTy:=fun a b c d e f g i j k l=>mC a b c|>.f d|>.f e|>.f f|>.f g|>.f i|>.f j|>.f k|>.t l tv
def aTz:=fun a b c d e f g i j k l m=>mC a b c|>.f d|>.f e|>.f f|>.f g|>.f i|>.f j|>.f k|>.f l|>.t m tv
def aTA:=fun a b c d e f g i j k l m n=>mC a b c|>.f d|>.f e|>.f f|>.f g|>.f i|>.f j|>.f k|>.f l|>.f m|>.t n tv
def aO7:=fun a b c d e f g i j k l m n o=>mC a b c|>.f d|>.f e|>.f f|>.f g|>.f i|>.f j|>.f k|>.f l|>.f m|>.f n|>.t o tv
def aO8:=fun a b c d e f g i j k l m n o p=>mC a b c|>.f d|>.f e|>.f f|>.f g|>.f i|>.f j|>.f k|>.f l|>.f m|>.f n|>.f o|>.t p tv
def aO9:=fun a b c d e f g i j k l m n o p q=>mC a b c|>.f d|>.f e|>.f f|>.f g|>.f i|>.f j|>.f k|>.f l|>.f m|>.f n|>.f o|>.f p|>.t q tv
def aPa:=fun a b c d e f g i j k l m n o p q r=>mC a b c|>.f d|>.f e|>.f f|>.f g|>.f i|>.f j|>.f k|>.f l|>.f m|>.f n|>.f o|>.f p|>.f q|>.t r tv
def aPb:=fun a b c d e f g i j k l m n o p q r s=>mC a b c|>.f d|>.f e|>.f f|>.f g|>.f i|>.f j|>.f k|>.f l|>.f m|>.f n|>.f o|>.f p|>.f q|>.f r|>.t s tv
def aPc:=fun a b c d e f g i j k l m n o p q r s t=>mC a b c|>.f d|>.f e|>.f f|>.f g|>.f i|>.f j|>.f k|>.f l|>.f m|>.f n|>.f o|>.f p|>.f q|>.f r|>.f s|>.t t tv
def aPd:=fun a b c d e f g i j k l m n o p q r s t u=>mC a b c|>.f d|>.f e|>.f f|>.f g|>.f i|>.f j|>.f k|>.f l|>.f m|>.f n|>.f o|>.f p|>.f q|>.f r|>.f s|>.f t|>.t u tv
def aPe:=fun a b c d e f g i j k l m n o p q r s t u v=>mC a b c|>.f d|>.f e|>.f f|>.f g|>.f i|>.f j|>.f k|>.f l|>.f m|>.f n|>.f o|>.f p|>.f q|>.f r|>.f s|>.f t|>.f u|>.t v tv
def aPf:=fun a b c d e f g i j k l m n o p q r s t u v w=>mC a b c|>.f d|>.f e|>.f f|>.f g|>.f i|>.f j|>.f k|>.f l|>.f m|>.f n|>.f o|>.f p|>.f q|>.f r|>.f s|>.f t|>.f u|>.f v|>.t w tv
def aPg:=fun a b c d e f g i j k l m n o p q r s t u v w x=>mC a b c|>.f d|>.f e|>.f f|>.f g|>.f i|>.f j|>.f k|>.f l|>.f m|>.f n|>.f o|>.f p|>.f q|>.f r|>.f s|>.f t|>.f u|>.f v|>.f w|>.t x tv
def aPh:=fun a b c d e f g i j k l m n o p q r s t u v w x y=>mC a b c|>.f d|>.f e|>.f f|>.f g|>.f i|>.f j|>.f k|>.f l|>.f m|>.f n|>.f o|>.f p|>.f q|>.f r|>.f s|>.f t|>.f u|>.f v|>.f w|>.f x|>.t y tv
def aPi:=fun a b c d e f g i j k l m n o p q r s t u v w x y z=>mC a b c|>.f d|>.f e|>.f f|>.f g|>.f i|>.f j|>.f k|>.f l|>.f m|>.f n|>.f o|>.f p|>.f q|>.f r|>.f s|>.f t|>.f u|>.f v|>.f w|>.f x|>.f y|>.t z tv
def aPj:=fun a b c d e f g i j k l m n o p q r s t u v w x y z A=>mC a b c|>.f d|>.f e|>.f f|>.f g|>.f i|>.f j|>.f k|>.f l|>.f m|>.f n|>.f o|>.f p|>.f q|>.f r|>.f s|>.f t|>.f u|>.f v|>.f w|>.f x|>.f y|>.f z|>.t A tv
def aPk:=fun a b c d e f g i j k l m n o p q r s t u v w x y z A B=>mC a b c|>.f d|>.f e|>.f f|>.f g|>.f i|>.f j|>.f k|>.f l|>.f m|>.f n|>.f o|>.f p|>.f q|>.f r|>.f s|>.f t|>.f u|>.f v|>.f w|>.f x|>.f y|>.f z|>.f A|>.t B tv
def aPl:=fun a b c d e f g i j k l m n o p q r s t u v w x y z A B C=>mC a b c|>.f d|>.f e|>.f f|>.f g|>.f i|>.f j|>.f k|>.f l|>.f m|>.f n|>.f o|>.f p|>.f q|>.f r|>.f s|>.f t|>.f u|>.f v|>.f w|>.f x|>.f y|>.f z|>.f A|>.f B|>.t C tv
def aPm:=fun a b c d e f g i j k l m n o p q r s t u v w x y z A B C D=>mC a b c|>.f d|>.f e|>.f f|>.f g|>.f i|>.f j|>.f k|>.f l|>.f m|>.f n|>.f o|>.f p|>.f q|>.f r|>.f s|>.f t|>.f u|>.f v|>.f w|>.f x|>.f y|>.f z|>.f A|>.f B|>.f C|>.t D tv
def aPn:=fun a b c d e f g i j k l m n o p q r s t u v w x y z A B C D F G=>mC a b c|>.f d|>.f e|>.f f|>.f g|>.f i|>.f j|>.f k|>.f l|>.f m|>.f n|>.f o|>.f p|>.f q|>.f r|>.f s|>.f t|>.f u|>.f v|>.f w|>.f x|>.f y|>.f z|>.f A|>.f B|>.f C|>.f D|>.t F G tv
def aPo:=fun a b c d e f g i j k l m n o p q r s t u v w x y z A B C D F G=>mC a b c|>.f d|>.f e|>.f f|>.f g|>.f i|>.f j|>.f k|>.f l|>.f m|>.f n|>.f o|>.f p|>.f q|>.f r|>.f s|>.f t|>.f u|>.f v|>.f w|>.f x|>.f y|>.f z|>.f A|>.f B|>.f C|>.f D|>.f F|>.t G tv
def aPp:=fun a b c d e f g i j k l m n o p q r s t u v w x y z A B C D F G=>mC a b c|>.f d|>.f e|>.f f|>.f g|>.f i|>.f j|>.f k|>.f l|>.f m|>.f n|>.f o|>.f p|>.f q|>.f r|>.f s|>.f t|>.f u|>.f v|>.f w|>.f x|>.f y|>.f z|>.f A|>.f B|>.f C|>.f D|>.f F|>.f G tv
theorem Ends.eqv {P:Program}{m:Nat}{s:AS}{v v':AV}{h':Hp}(h:Ends P m s (.ret v) h')(e:v=v') :Ends P m s (.ret v') h':=e ▸ h
theorem inB_iff {n lo hi:Int}:dY n lo hi=true↔lo≤n∧n≤hi:=by simp [dY]
theorem inB_not {n lo a:Int}:dY n lo a=false↔¬ (lo≤n∧n≤a) :=by simp [dY]
theorem sdI {p:Prop}(h:p:=by first|assumption|rfl| (simp only [tI];assumption) | (simp only [decide_eq_true_eq,decide_eq_false_iff_not];omega) |omega| (apply wrap64<;>omega) | (simp_all;done) | (simp only [inB_iff,inB_not,beq_iff_eq,decide_eq_true_eq,decide_eq_false_iff_not]at *;omega)) :p:=h
theorem idT {p:Prop}(h:p:=by exact⟨_,kX (by simp only [inB_iff,inB_not,beq_iff_eq,decide_eq_true_eq,decide_eq_false_iff_not]at *;omega)⟩) :p:=h
def cK (op pats args:Int) :Int:=
 if op=1∨op=2∨op=3∨op=4∨op=21∨op=25∨op=28 then 0
 else if op=5∨op=27∨op=16∨op=17∨op=19∨op=20∨op=23∨op=26∨op=24 then 1
 else if op=6∨op=7∨op=9∨op=10∨op=11∨op=12∨op=13∨op=18∨op=22 then 2
 else if op=8 then 3 else if op=15 then 1+pats else if op=14 then args else -1
theorem bBy (op pats a:Int)(hp:0≤pats)(D:pats≤1000) :Ends PP 0 (start PP 105 [.int .i64 op,.int .i64 pats,.int .i64 a]).as (.ret (.int .i64 (cK op pats a))) (aA [] 0) :=by
 cases c: (op== (1:Int))
 case true=>exact Ends.eqv (aTr op pats a   c) (by simp_all [cK])
 cases e: (op== (2:Int))
 case true=>exact Ends.eqv (aTs op pats a   c e) (by simp_all [cK])
 cases g: (op== (3:Int))
 case true=>exact Ends.eqv (aTt op pats a   c e g) (by simp_all [cK])
 cases i: (op== (4:Int))
 case true=>exact Ends.eqv (aTu op pats a   c e g i) (by simp_all [cK])
 cases j: (op== (21:Int))
 case true=>exact Ends.eqv (aTv op pats a   c e g i j) (by simp_all [cK])
 cases l: (op== (25:Int))
 case true=>exact Ends.eqv (aTw op pats a   c e g i j l) (by simp_all [cK])
 cases n: (op== (28:Int))
 case true=>exact Ends.eqv (aTx op pats a   c e g i j l n) (by simp_all [cK])
 cases o: (op== (5:Int))
 case true=>exact Ends.eqv (aTy op pats a   c e g i j l n o) (by simp_all [cK])
 cases q: (op== (27:Int))
 case true=>exact Ends.eqv (aTz op pats a   c e g i j l n o q) (by simp_all [cK])
 cases b: (op== (16:Int))
 case true=>exact Ends.eqv (aTA op pats a   c e g i j l n o q b) (by simp_all [cK])
 cases d: (op== (17:Int))
 case true=>exact Ends.eqv (aO7 op pats a   c e g i j l n o q b d) (by simp_all [cK])
 cases f: (op== (19:Int))
 case true=>exact Ends.eqv (aO8 op pats a   c e g i j l n o q b d f) (by simp_all [cK])
 cases h: (op== (20:Int))
 case true=>exact Ends.eqv (aO9 op pats a   c e g i j l n o q b d f h) (by simp_all [cK])
 cases k: (op== (23:Int))
 case true=>exact Ends.eqv (aPa op pats a   c e g i j l n o q b d f h k) (by simp_all [cK])
 cases m: (op== (26:Int))
 case true=>exact Ends.eqv (aPb op pats a   c e g i j l n o q b d f h k m) (by simp_all [cK])
 cases p: (op== (24:Int))
 case true=>exact Ends.eqv (aPc op pats a   c e g i j l n o q b d f h k m p) (by simp_all [cK])
 cases r: (op== (6:Int))
 case true=>exact Ends.eqv (aPd op pats a   c e g i j l n o q b d f h k m p r) (by simp_all [cK])
 cases s: (op== (7:Int))
 case true=>exact Ends.eqv (aPe op pats a   c e g i j l n o q b d f h k m p r s) (by simp_all [cK])
 cases t: (op== (9:Int))
 case true=>exact Ends.eqv (aPf op pats a   c e g i j l n o q b d f h k m p r s t) (by simp_all [cK])
 cases u: (op== (10:Int))
 case true=>exact Ends.eqv (aPg op pats a   c e g i j l n o q b d f h k m p r s t u) (by simp_all [cK])
 cases v: (op== (11:Int))
 case true=>exact Ends.eqv (aPh op pats a   c e g i j l n o q b d f h k m p r s t u v) (by simp_all [cK])
 cases w: (op== (12:Int))
 case true=>exact Ends.eqv (aPi op pats a   c e g i j l n o q b d f h k m p r s t u v w) (by simp_all [cK])
 cases x: (op== (13:Int))
 case true=>exact Ends.eqv (aPj op pats a   c e g i j l n o q b d f h k m p r s t u v w x) (by simp_all [cK])
 cases y: (op== (18:Int))
 case true=>exact Ends.eqv (aPk op pats a   c e g i j l n o q b d f h k m p r s t u v w x y) (by simp_all [cK])
 cases z: (op== (22:Int))
 case true=>exact Ends.eqv (aPl op pats a   c e g i j l n o q b d f h k m p r s t u v w x y z) (by simp_all [cK])
 cases A: (op== (8:Int))
 case true=>exact Ends.eqv (aPm op pats a   c e g i j l n o q b d f h k m p r s t u v w x y z A) (by simp_all [cK])
 cases B: (op== (15:Int))
 case true=>exact Ends.eqv (aPn op pats a   c e g i j l n o q b d f h k m p r s t u v w x y z A B sdI) (by simp_all [cK])
 cases C: (op== (14:Int))
 case true=>exact Ends.eqv (aPo op pats a   c e g i j l n o q b d f h k m p r s t u v w x y z A B C) (by simp_all [cK])
 exact Ends.eqv (aPp op pats a   c e g i j l n o q b d f h k m p r s t u v w x y z A B C) (by simp_all [cK])
theorem aPq (op pats a:Int)(hp:0≤pats)(b:pats≤1000) :aK PP 105 [.int .i64 op,.int .i64 pats,.int .i64 a] (.int .i64 (cK op pats a)) :=
 aG aC rfl rfl (bBy op pats a hp b)
def gV (cons:List Con)(n:Int) :Int:=match cons[n.toNat]? with
 |some c=>c.args
 |none=> -1
def eP (cons:List Con)(f n:Int)(s:cF)(k:Nat) :Bool:=
 (if f=1∨f=2∨f=5 then decide (k=0) &&decide (n=0)
 else if f=3 then decide (k=0) &&dY n (-1000000000) 1000000000
 else if f=4 then decide (k=0) &&dY n 0 1
 else if f=6 then dY n 0 ((cons.length:Int) -1) &&decide ((k:Int) =gV cons n)
 else false) &&decide (s= [])
mutual
def eT (cons:List Con) :Pat→Bool
 | .mk f n s ps=>eP cons f n s ps.length&&dT cons ps
def dT (cons:List Con) :List Pat→Bool
 | [] =>true
 |p::ps=>eT cons p&&dT cons ps
end
theorem ptT {p:Prop}(h:p:=by simp_all [eP,gV,dM]) :p:=h
theorem bF5 (c e:Int)(d:cF)(a:List Pat)(cons:List Con)(hc:cons.length≤1000)(b:Bool)(hk:∀i:Bool,i=eP cons c e d a.length→Ends PP 0 (dQ c e d a cons i 0).as (.ret (.bool b)) (aA [] 0)) :
  Ends PP 0 (start PP 104 [Pat.av (.mk c e d a),.ilst 2 (map Con.av cons) false]).as (.ret (.bool b)) (aA [] 0) :=by
 cases f: (c== (1:Int))
 case true=>
  cases t: (((length a:Nat) :Int) == (0:Int))
  case true=>
   cases w: (e== (0:Int))
   case true=>exact LeadsM.ends (aWe c e d a cons   f t w) (hk _ (by clear hk;exact ptT))
   exact LeadsM.ends (aWf c e d a cons   f t w) (hk _ (by clear hk;exact ptT))
  exact LeadsM.ends (aWg c e d a cons   f t) (hk _ (by clear hk;exact ptT))
 cases g: (c== (2:Int))
 case true=>
  cases v: (((length a:Nat) :Int) == (0:Int))
  case true=>
   cases z: (e== (0:Int))
   case true=>exact LeadsM.ends (aWh c e d a cons   f g v z) (hk _ (by clear hk;exact ptT))
   exact LeadsM.ends (aWi c e d a cons   f g v z) (hk _ (by clear hk;exact ptT))
  exact LeadsM.ends (aWj c e d a cons   f g v) (hk _ (by clear hk;exact ptT))
 cases j: (c== (5:Int))
 case true=>
  cases u: (((length a:Nat) :Int) == (0:Int))
  case true=>
   cases x: (e== (0:Int))
   case true=>exact LeadsM.ends (aWk c e d a cons   f g j u x) (hk _ (by clear hk;exact ptT))
   exact LeadsM.ends (aWl c e d a cons   f g j u x) (hk _ (by clear hk;exact ptT))
  exact LeadsM.ends (aWm c e d a cons   f g j u) (hk _ (by clear hk;exact ptT))
 cases h: (c== (3:Int))
 case true=>
  cases o: (((length a:Nat) :Int) == (0:Int))
  case true=>
   cases s: (dY e (-1000000000) 1000000000)
   case true=>exact LeadsM.ends (aWn c e d a cons  (dY e (-1000000000) 1000000000) f g j h o (aY e (-1000000000) 1000000000) s) (hk _ (by clear hk;exact ptT))
   exact LeadsM.ends (aTi c e d a cons  (dY e (-1000000000) 1000000000) f g j h o (aY e (-1000000000) 1000000000) s) (hk _ (by clear hk;exact ptT))
  exact LeadsM.ends (aTj c e d a cons   f g j h o) (hk _ (by clear hk;exact ptT))
 cases k: (c== (4:Int))
 case true=>
  cases m: (((length a:Nat) :Int) == (0:Int))
  case true=>
   cases p: (dY e 0 1)
   case true=>exact LeadsM.ends (aTk c e d a cons  (dY e 0 1) f g j h k m (aY e 0 1) p) (hk _ (by clear hk;exact ptT))
   exact LeadsM.ends (aTl c e d a cons  (dY e 0 1) f g j h k m (aY e 0 1) p) (hk _ (by clear hk;exact ptT))
  exact LeadsM.ends (aTm c e d a cons   f g j h k m) (hk _ (by clear hk;exact ptT))
 cases l: (c== (6:Int))
 case true=>
  cases n: (dY e 0 (((length cons:Nat) :Int) - (1:Int)))
  case true=>
   obtain⟨A,q⟩ :∃y,((cons)[e.toNat]?) =some y:=idT;cases r: (((length a:Nat) :Int) ==A.args)
   case true=>exact LeadsM.ends (aTn c e d a cons  (dY e 0 (((length cons:Nat) :Int) - (1:Int))) A f g j h k l sdI (aY e 0 (((length cons:Nat) :Int) - (1:Int))) n sdI q r) (hk _ (by clear hk;exact ptT))
   exact LeadsM.ends (aTo c e d a cons  (dY e 0 (((length cons:Nat) :Int) - (1:Int))) A f g j h k l sdI (aY e 0 (((length cons:Nat) :Int) - (1:Int))) n sdI q r) (hk _ (by clear hk;exact ptT))
  exact LeadsM.ends (aTp c e d a cons  (dY e 0 (((length cons:Nat) :Int) - (1:Int))) f g j h k l sdI (aY e 0 (((length cons:Nat) :Int) - (1:Int))) n) (hk _ (by clear hk;exact ptT))
 exact LeadsM.ends (aTq c e d a cons   f g j h k l) (hk _ (by clear hk;exact ptT))
theorem aHO (f n:Int)(s:cF)(ps:List Pat)(cons:List Con)(hl:ps.length<1000000)(d:∀p∈ps,aK PP 104 [Pat.av p,.ilst 2 (map Con.av cons) false] (.bool (eT cons p))) :
  ∀ (t:List Pat) (i:Nat) (b:Bool),ps.drop i=t→Ends PP 0 (dQ f n s ps cons b (i:Int)).as (.ret (.bool (b&&dT cons t))) (aA [] 0)
 | [],i,b,h=>by
  have:=bH h;exact Ends.eqv (aWq f n s ps cons b i sd) (by simp [dT])
 | .mk c e g a::t,i,b,h=>by
  obtain⟨k,j,l⟩ :=bE h;cases b
  case false=>exact Ends.eqv (aWp f n s ps cons false i sd rfl) (by simp)
  refine(aWo f n s ps cons true i c e g a _ sd rfl sd sd (d (.mk c e g a) (jQ k)) sd).ends ?_;exact Ends.eqv (aHO f n s ps cons hl d t (i+1) _ j) (by simp [dT])
mutual
theorem aHP (cons:List Con)(hc:cons.length≤1000) :∀ (p:Pat),cB p<1000000→aK PP 104 [Pat.av p,.ilst 2 (map Con.av cons) false] (.bool (eT cons p))
 | .mk f n s a,h=>by
  refine aG aC (by simp [keylessL,nB,keyless]) rfl ?_;simp only [cB]at h;have:=fA a;refine bF5 f n s a cons hc _ (fun i b=>?_);subst b;rw [eT];exact aHO f n s a cons (by omega) (aL6 cons hc a (by omega)) a 0 _ rfl
theorem aL6 (cons:List Con)(hc:cons.length≤1000) :∀ (b:List Pat),bI b<1000000→∀p∈b,aK PP 104 [Pat.av p,.ilst 2 (map Con.av cons) false] (.bool (eT cons p))
 | [],_,p,a=>by cases a
 | q::b,h,p,a=>by
  simp only [bI]at h;rcases zq7.1 a with e|a
  ·rw [e];exact aHP cons hc q (by omega)
  ·exact aL6 cons hc b (by omega) p a
end
section
variable (mf mc:List (Int×Int))
end
def bU(a:Prog)(b:Node)(c:Bool)(d e:Int):TS:=⟨(tf 64 112 [kp 2 0,kp 3 1,(4,(bV false)),(5,(nI d)),(6,(bV c)),(7,(nI e))] [kc f64 1012,kl f64 1012,.inBlock 1,kc f64 127]),[],[oC 0 [(iN a.nodes),(iI a.funs),(nI a.main),(iC a.cons)],oC 1 [(nI b.op),(nI b.n),(iI b.kids),(iP b.pats)]],2⟩
def aBV(b:List Con)(c:Int)(a:List cF):TS:=⟨(tf 63 42 [(0,(iC b)),(2,(bV false)),(3,(.gl 0 1 0 a.length false)),(4,(nI c))] [kc f63 116,kl f63 116,.inBlock 0,kc f63 15]),[],[oL 0 1 (map dP a)],1⟩
def uV(a:Prog)(c:Int)(b:List Bool):TS:=⟨(tf 27 133 [kp 1 0,(2,(bV false)),(3,(nI (a.nodes.length:Int))),(4,(.gl 1 1 0 b.length true)),(5,(nI c))] [kc f27 500,kl f27 500,.inBlock 0,kc f27 63]),[],[oC 0 [(iN a.nodes),(iI a.funs),(nI a.main),(iC a.cons)],oL 1 1 (map zA b)],2⟩
def qB(a:Prog)(b:List Bool)(c:Int):TS:=⟨(tf 27 133 [kp 1 0,(2,(bV false)),(3,(nI (a.nodes.length:Int))),(4,(.gl 1 1 0 b.length true)),(6,(nI c))] [kc f27 1012,kl f27 1012,.inBlock 2,kc f27 127]),[],[oC 0 [(iN a.nodes),(iI a.funs),(nI a.main),(iC a.cons)],oL 1 1 (map zA b)],2⟩
def uW(a:Prog)(b:List Bool)(c d:Int):TS:=⟨(tf 27 133 [kp 1 0,(2,(bV false)),(3,(nI (a.nodes.length:Int))),(4,(.gl 1 1 0 b.length true)),(6,(nI d)),(7,(nI c))] [kc f27 129612,kl f27 129612,.inBlock 4,.inBlock 3,kc f27 4051,kl f27 1012,.inBlock 2,kc f27 127]),[],[oC 0 [(iN a.nodes),(iI a.funs),(nI a.main),(iC a.cons)],oL 1 1 (map zA b)],2⟩
def uX(b:Prog)(a:List Bool)(c:Int):TS:=⟨(tf 27 133 [(2,(bV false)),(3,(nI (b.nodes.length:Int))),(4,(.gl 0 1 0 a.length true)),(9,(nI c))] [kc f27 2036,kl f27 2036,.inBlock 6,kc f27 255]),[],[oL 0 1 (map zA a)],1⟩
def pE(b:Prog)(a:Node):=tT 0 (start PP 64 [(Prog.av b),(Node.av a)])<|.b 29 13 (a.op==1) (kJ 4 62 [(nI a.n),(nI (-1000000000)),(nI 1000000000)]<|fun c=>.b 10 56 (a.op==15) (.b 4 58 c (gm 2 aH a.pats<|kJ 0 62 [(nI (a.pats.length:Int)),(nI 1),(nI 5)]<|fun d=>.W 10 2 [0,1] (bU b a d 0 0))<|.W 14 2 [0,1] (bU b a false 0 0))<|.b 4 65 c (gm 2 aH a.pats<|.W 11 2 [0,1] (bU b a ((a.pats.length:Int) ==0) 0 0))<|.W 14 2 [0,1] (bU b a false 0 0))<|.b 6 18 (a.op==2) (kJ 4 62 [(nI a.n),(nI 0),(nI 1)]<|fun c=>.b 10 56 (a.op==15) (.b 4 58 c (gm 2 aH a.pats<|kJ 0 62 [(nI (a.pats.length:Int)),(nI 1),(nI 5)]<|fun d=>.W 10 2 [0,1] (bU b a d 0 0))<|.W 14 2 [0,1] (bU b a false 0 0))<|.b 4 65 c (gm 2 aH a.pats<|.W 11 2 [0,1] (bU b a ((a.pats.length:Int) ==0) 0 0))<|.W 14 2 [0,1] (bU b a false 0 0))<|.b 6 23 (a.op==4) (gl 6 cG b.funs<|gw 1 30 (0- (b.funs.length:Int))<|kJ 0 62 [(nI a.n),(nI (0- (b.funs.length:Int))),(nI 29)]<|fun c=>.b 10 56 (a.op==15) (.b 4 58 c (gm 2 aH a.pats<|kJ 0 62 [(nI (a.pats.length:Int)),(nI 1),(nI 5)]<|fun d=>.W 10 2 [0,1] (bU b a d 0 0))<|.W 14 2 [0,1] (bU b a false 0 0))<|.b 4 65 c (gm 2 aH a.pats<|.W 11 2 [0,1] (bU b a ((a.pats.length:Int) ==0) 0 0))<|.W 14 2 [0,1] (bU b a false 0 0))<|.b 6 32 (a.op==24) (kJ 4 62 [(nI a.n),(nI 0),(nI 3)]<|fun c=>.b 10 56 (a.op==15) (.b 4 58 c (gm 2 aH a.pats<|kJ 0 62 [(nI (a.pats.length:Int)),(nI 1),(nI 5)]<|fun d=>.W 10 2 [0,1] (bU b a d 0 0))<|.W 14 2 [0,1] (bU b a false 0 0))<|.b 4 65 c (gm 2 aH a.pats<|.W 11 2 [0,1] (bU b a ((a.pats.length:Int) ==0) 0 0))<|.W 14 2 [0,1] (bU b a false 0 0))<|.b 6 37 (a.op==14) (gl 7 Con.av b.cons<|gw 1 44 ((b.cons.length:Int) -1)<|kJ 0 62 [(nI a.n),(nI 0),(nI ((b.cons.length:Int) -1))]<|fun c=>.b 6 46 c (gX Con.av 6 b.cons a.n<|fun d=>.b 12 56 (a.op==15) (.b 4 58 c (gm 2 aH a.pats<|kJ 0 62 [(nI (a.pats.length:Int)),(nI 1),(nI 5)]<|fun e=>.W 10 2 [0,1] (bU b a e d.args 0)) .x)<|.b 4 65 c (gm 2 aH a.pats<|.W 11 2 [0,1] (bU b a ((a.pats.length:Int) ==0) d.args 0)) .x)<|.b 10 56 (a.op==15) (.b 4 58 c .x<|.W 14 2 [0,1] (bU b a false 0 0))<|.b 4 65 c .x<|.W 14 2 [0,1] (bU b a false 0 0))<|.b 10 56 (a.op==15) (.b 4 58 (a.n==0) (gm 2 aH a.pats<|kJ 0 62 [(nI (a.pats.length:Int)),(nI 1),(nI 5)]<|fun c=>.W 10 2 [0,1] (bU b a c 0 0))<|.W 14 2 [0,1] (bU b a false 0 0))<|.b 4 65 (a.n==0) (gm 2 aH a.pats<|.W 11 2 [0,1] (bU b a ((a.pats.length:Int) ==0) 0 0))<|.W 14 2 [0,1] (bU b a false 0 0)
def aTB:=fun a b c d e f g i j=>pE a b|>.t e c f|>.t g|>.t i d j tv
def aTC:=fun a b c d e f g=>pE a b|>.t d c e|>.t f|>.f g tv
def aTD:=fun a b c d e f g=>pE a b|>.t d c e|>.f f|>.t g tv
def aTE:=fun a b c d e f g=>pE a b|>.t d c e|>.f f|>.f g tv
def aTF:=fun a b c d e f g i j k=>pE a b|>.f e|>.t f c g|>.t i|>.t j d k tv
def aTG:=fun a b c d e f g i=>pE a b|>.f d|>.t e c f|>.t g|>.f i tv
def aTH:=fun a b c d e f g i=>pE a b|>.f d|>.t e c f|>.f g|>.t i tv
def aTI:=fun a b c d e f g i=>pE a b|>.f d|>.t e c f|>.f g|>.f i tv
def aTJ:=fun a b c d e f g i j k l m=>pE a b|>.f e|>.f f|>.t g i c j|>.t k|>.t l d m tv
def aTK:=fun a b c d e f g i j k=>pE a b|>.f d|>.f e|>.t f g c i|>.t j|>.f k tv
def aPr:=fun a b c d e f g i j k=>pE a b|>.f d|>.f e|>.t f g c i|>.f j|>.t k tv
def aPs:=fun a b c d e f g i j k=>pE a b|>.f d|>.f e|>.t f g c i|>.f j|>.f k tv
def aPt:=fun a b c d e f g i j k l m=>pE a b|>.f e|>.f f|>.f g|>.t i c j|>.t k|>.t l d m tv
def aPu:=fun a b c d e f g i j k=>pE a b|>.f d|>.f e|>.f f|>.t g c i|>.t j|>.f k tv
def aPv:=fun a b c d e f g i j k=>pE a b|>.f d|>.f e|>.f f|>.t g c i|>.f j|>.t k tv
def aPw:=fun a b c d e f g i j k=>pE a b|>.f d|>.f e|>.f f|>.t g c i|>.f j|>.f k tv
def aPx:=fun b c d e f g i j k l m n a o p q r=>pE b c|>.f g|>.f i|>.f j|>.f k|>.t l m d n|>.t a e o p|>.t q|>.t a f r tv
def aPy:=fun b c d e f g i j k l m a n o p=>pE b c|>.f f|>.f g|>.f i|>.f j|>.t k l d m|>.t a e n o|>.f p|>.t a tv
def aPz:=fun b c d e f g i j k l a m=>pE b c|>.f e|>.f f|>.f g|>.f i|>.t j k d l|>.f a|>.t m|>.f a tv
def aPA:=fun b c d e f g i j k l a m=>pE b c|>.f e|>.f f|>.f g|>.f i|>.t j k d l|>.f a|>.f m|>.f a tv
def aPB:=fun a b c d e f g i j k l=>pE a b|>.f d|>.f e|>.f f|>.f g|>.f i|>.t j|>.t k c l tv
def aPC:=fun a b c d e f g i j=>pE a b|>.f c|>.f d|>.f e|>.f f|>.f g|>.t i|>.f j tv
def aPD:=fun a b c d e f g i j=>pE a b|>.f c|>.f d|>.f e|>.f f|>.f g|>.f i|>.t j tv
def aPE:=fun a b c d e f g i j=>pE a b|>.f c|>.f d|>.f e|>.f f|>.f g|>.f i|>.f j tv
def aWr(j:Prog)(a:Node)(i:Bool)(k b:Int):=tT 0 (bU j a i k b)<|gm 6 aH a.pats<|gd 2 76 (b< (a.pats.length:Int)) (.b 3 78 i (.o (.y fun c:Int=>.y fun d:Int=>.y fun e:cF=>.y fun f:List Pat=>.y fun g:Int=>.y fun l:Bool=>.i [rn 4,.reg (rd 3 (.ans (.idx (Pat.av (Pat.mk c d e f)))::.d::.pure (nI g)::.d::.d::.b 88 true::rd 3 (.ans (.idx (Pat.av (Pat.mk c d e f)))::rd 3 [.pure (bV l),.d,.d])))] [hA (0≤b),.a (((a.pats)[b.toNat]?) =some (Pat.mk c d e f)) (dL aH),hA (aK PP 69 [(.agg [(nI c),(nI d),(dP e),(iP f)]),(nI 12)] (nI g)),hA (decide (g≥0) =true),hA (0≤b),.a (((a.pats)[b.toNat]?) =some (Pat.mk c d e f)) (dL aH),hA (aK PP 104 [(.agg [(nI c),(nI d),(dP e),(iP f)]),(iC j.cons)] (bV l))]<|gw 4 80 (b+1)<|.W 3 2 [0,1] (bU j a l k (b+1)))<|.y fun c:Int=>.y fun d:Int=>.y fun e:cF=>.y fun f:List Pat=>.y fun g:Int=>.i [rn 4,.reg (rd 3 (.ans (.idx (Pat.av (Pat.mk c d e f)))::.d::.pure (nI g)::.d::.d::.b 88 false::rd 10 []))] [hA (0≤b),.a (((a.pats)[b.toNat]?) =some (Pat.mk c d e f)) (dL aH),hA (aK PP 69 [(.agg [(nI c),(nI d),(dP e),(iP f)]),(nI 12)] (nI g)),hA (decide (g≥0) =false)]<|gw 4 80 (b+1)<|.W 3 2 [0,1] (bU j a false k (b+1)))<|.i [rn 3,.reg (.d::.d::.b 99 false::rd 13 [])] [hA (i=false)]<|gE 1 2 (bV false))<|.o (.y fun m:Int=>.i [rn 6,.reg (.d::.d::.b 99 true::.d::.d::.ans (.len (a.kids.length:Int))::rd 4 (.ans (.len (a.pats.length:Int))::.d::.pure (nI m)::rd 3 []))] [hA (i=true),hl cG a.kids,hm aH a.pats,hA (aK PP 105 [(nI a.op),(nI (a.pats.length:Int)),(nI k)] (nI m)),.q (p:=(nI ((jI a.kids).length:Int)) = (nI (a.kids.length:Int))) (congrArg (int .i64) (aVY _ _)),.q (p:=(nI ((jI a.kids).length:Int)) = (nI (a.kids.length:Int))) (congrArg (int .i64) (aVY _ _)),hr (ilst 1 (jI a.kids) false),hr (ilst 1 (jI a.kids) false)]<|gE 1 2 (bV ((a.kids.length:Int) ==m)))<|.i [rn 6,.reg (.d::.d::.b 99 false::rd 13 [])] [hA (i=false)]<|gE 1 2 (bV false)
def aTL:=fun c d e f g i j k l m n o p a b q r s t=>aWr c d e f g|>.t o|>.t p|>.1 i j k l m n a b q r a b s t tv
def aTM:=fun a b c d e f g i j k l m n o p q r=>aWr a b c d e|>.t l|>.t m|>.2 f g i j k n o p q r tv
def aTN:=fun b c d e f g a=>aWr b c d e f|>.t g|>.f a a tv
def aTO:=fun a b c d e f g i j=>aWr a b c d e|>.f g|>.1 f i j tv
def aTP:=fun a b c d e f g=>aWr a b c d e|>.f f|>.2 g tv
def aTQ (a:List Con):=(tT 0 (start PP 63 [(iC a)])<|.i [rn 15,.nilL 3 1] []<|gu 0 0 (map dP ([] :List cF))<|gs 0 3 (.gl 0 1 0 ([] :List cF).length false)<|.W 0 1 [0] (aBV a 0 ([] :List cF))) ⟨kk,trivial⟩
def aWs(a:List Con)(c:Int)(d:List cF):=tT 0 (aBV a c d)<|gl 5 Con.av a<|gd 2 8 (c< (a.length:Int)) (gX Con.av 9 a c<|fun b=>kJ 2 102 [(dP b.name)]<|fun e=>.b 2 18 (!e) (gE 15 1 (bV false))<|gi Con.av 2 a c b<|kJ 2 62 [(nI b.args),(nI 0),(nI 3)]<|fun f=>.b 3 26 (!f) (gE 6 1 (bV false))<|gi Con.av 6 a c b<|ga 3 dP d [b.name]<|gw 6 10 (c+1)<|.W 3 3 [2] (aBV a (c+1) (d++ [b.name])))<|gl 5 Con.av a<|gd 2 38 ((a.length:Int) ≤20) (gz 1 39 0 1 dP d false<|kJ 0 103 [(iS d)]<|fun b=>gE 4 1 (bV b))<|gE 6 1 (bV false)
def aTR:=fun a b c d e f g i j k=>aWs a b c|>.t f d g i e j|>.t k tv
def aTS:=fun c d e f g i j a b k l m n=>aWs c d e|>.t j f a b g k|>.f l a b i m|>.t n tv
def aTT:=fun c d e f g i j a b k l m n o p=>aWs c d e|>.t j f a b g k|>.f l a b i m|>.f n a b o p ⟨kk,trivial⟩
def aTU:=fun a b c d e f g=>aWs a b c|>.f e|>.t f d g tv
def aTV:=fun a b c d e=>aWs a b c|>.f d|>.f e tv
def aWt(a:Prog):=tT 0 (start PP 27 [(Prog.av a)])<|gl 9 Node.av a.nodes<|gd 8 15 ((a.nodes.length:Int) >300) (gE 30 1 (bV false))<|gl 2 cG a.funs<|kJ 1 62 [(nI (a.funs.length:Int)),(nI 1),(nI (a.nodes.length:Int))]<|fun b=>.b 3 23 (!b) (gE 22 1 (bV false))<|gl 4 cG a.funs<|gw 1 29 ((a.funs.length:Int) -1)<|kJ 0 62 [(nI a.main),(nI 0),(nI ((a.funs.length:Int) -1))]<|fun c=>.b 3 33 (!c) (gE 12 1 (bV false))<|kJ 2 63 [(iC a.cons)]<|fun d=>.b 3 38 (!d) (gE 6 1 (bV false))<|.i [rn 5,.mk a.nodes.length] [hr (a.nodes.length:Int),hr (a.nodes.length:Int),hA (a.nodes.length<100000)]<|.i [.lset 1 (map zA (replicate a.nodes.length false))] [.q (p:=replicate a.nodes.length (zA false) = (map zA (replicate a.nodes.length false))) (aEf _ _ _)]<|.i [.set 40 (.gl 1 1 0 (replicate a.nodes.length false).length true)] [.q (p:=(AV.gl 1 1 0 a.nodes.length true) = (.gl 1 1 0 (replicate a.nodes.length false).length true)) (bK (aLh ..).symm)]<|.W 9 2 [0,1] (uV a 0 (replicate a.nodes.length false))
def aL7:=fun a b=>aWt a|>.t b tv
def aL8:=fun a b c d e=>aWt a|>.f c b d|>.t e tv
def aL9:=fun a b c d e f g i j=>aWt a|>.f d b e|>.f f g c i|>.t j tv
def aMa:=fun a b c d e f g i j k l m=>aWt a|>.f e b f|>.f g i c j|>.f k d l|>.t m tv
def aMb:=fun a b c d e f g i j k l m n=>aWt a|>.f e b f|>.f g i c j|>.f k d l|>.f m n ⟨kk,trivial⟩
def bBz(c:Prog)(d:Int)(a:List Bool):=tT 0 (uV c d a)<|gl 6 cG c.funs<|gd 2 45 (d< (c.funs.length:Int)) (gX cG 10 c.funs d<|fun b=>gw 3 54 ((c.nodes.length:Int) -1)<|kJ 0 62 [(nI b),(nI 0),(nI ((c.nodes.length:Int) -1))]<|fun f=>.b 2 57 (!f) (gE 16 2 (bV false))<|gi cG 4 c.funs d b<|.i [rn 1,.ans (.ix)] [hA (0≤b),hA (b< (a.length:Int))]<|.y fun e:Bool=>gj zA 0 a b.toNat e<|.b 2 66 e (gE 6 2 (bV false))<|gi cG 7 c.funs d b<|.i [rn 1,.ans (.ix)] [hA (0≤b),hA (b< (a.length:Int))]<|.i [.st (zA e) (zA true)] [.a (((a)[b.toNat]?) =some e) (cI (f:=zA)),hr (some (zA true))]<|.i [.lset 1 (map zA (set a b.toNat true))] [.q (p:=(map zA a).set (0+b.toNat) (zA true) = (map zA (set a b.toNat true))) (oH _ _ _ _)]<|.i [.set 4 (.gl 1 1 0 (set a b.toNat true).length true)] [.q (p:=(AV.gl 1 1 0 a.length true) = (.gl 1 1 0 (set a b.toNat true).length true)) (bK (dZ ..).symm)]<|.i [.set 58 (.gl 1 1 0 (set a b.toNat true).length true)] [.q (p:=(AV.gl 1 1 0 a.length true) = (.gl 1 1 0 (set a b.toNat true).length true)) (bK (dZ ..).symm)]<|.i [.set 67 (.gl 1 1 0 (set a b.toNat true).length true)] [.q (p:=(AV.gl 1 1 0 a.length true) = (.gl 1 1 0 (set a b.toNat true).length true)) (bK (dZ ..).symm)]<|gw 5 47 (d+1)<|.W 3 2 [0,1] (uV c (d+1) (set a b.toNat true)))<|.W 9 2 [0,1] (qB c a 0)
def aMc:=fun a b c d e f g i j k l=>bBz a b c|>.t f d g i j e k|>.t l tv
def aMd:=fun c d e f g i j a b k l m n o p q=>bBz c d e|>.t j f a b k g l|>.f m a b n o i p|>.t q tv
def aMe:=fun f g i j k l m a b n o p c d e q r=>bBz f g i|>.t m j a b n k o|>.f p a b c d l e|>.f q a b c d e r ⟨kk,trivial⟩
def aMf:=fun a b c d=>bBz a b c|>.f d ⟨kk,trivial⟩
def bF6(a:Prog)(c:List Bool)(b:Int):=tT 0 (qB a c b)<|gd 7 76 (b< (a.nodes.length:Int)) (.y fun d:Node=>.y fun e:Bool=>.i [rn 6,.reg (rd 4 [.ans (.idx (Node.av d)),.d,.pure (bV e),.d])] [hA (0≤b),.a (((a.nodes)[b.toNat]?) =some d) (bL (f:=Node.av)),hA (aK PP 64 [(Prog.av a),(Node.av d)] (bV e))]<|.b 0 86 (!e) (gE 6 2 (bV false))<|.W 8 2 [0,1] (uW a c 0 b))<|.W 9 2 [1] (uX a c 0)
def aMg:=fun a b c d e f g i j k=>bF6 a b c|>.t f d e g i j|>.t k tv
def aMh:=fun a b c d e f g i j k=>bF6 a b c|>.t f d e g i j|>.f k ⟨kk,trivial⟩
def aMi:=fun a b c d=>bF6 a b c|>.f d ⟨kk,trivial⟩
def bBA(d:Prog)(a:List Bool)(e c:Int):=tT 0 (uW d a e c)<|gX Node.av 7 d.nodes c<|fun f=>gl 2 cG f.kids<|gd 2 95 (e< (f.kids.length:Int)) (gi Node.av 9 d.nodes c f<|gX cG 3 f.kids e<|fun b=>gw 9 109 (c+1)<|gw 2 111 ((d.nodes.length:Int) -1)<|kJ 0 62 [(nI b),(nI (c+1)),(nI ((d.nodes.length:Int) -1))]<|fun i=>.b 2 114 (!i) (gE 12 2 (bV false))<|.i [rn 2,.ans (.ix)] [hA (0≤b),hA (b< (a.length:Int))]<|.y fun g:Bool=>gj zA 0 a b.toNat g<|.b 2 119 g (gE 6 2 (bV false))<|.i [rn 5,.ans (.ix)] [hA (0≤b),hA (b< (a.length:Int))]<|.i [.st (zA g) (zA true)] [.a (((a)[b.toNat]?) =some g) (cI (f:=zA)),hr (some (zA true))]<|.i [.lset 1 (map zA (set a b.toNat true))] [.q (p:=(map zA a).set (0+b.toNat) (zA true) = (map zA (set a b.toNat true))) (oH _ _ _ _)]<|.i [.set 4 (.gl 1 1 0 (set a b.toNat true).length true)] [.q (p:=(AV.gl 1 1 0 a.length true) = (.gl 1 1 0 (set a b.toNat true).length true)) (bK (dZ ..).symm)]<|.i [.set 115 (.gl 1 1 0 (set a b.toNat true).length true)] [.q (p:=(AV.gl 1 1 0 a.length true) = (.gl 1 1 0 (set a b.toNat true).length true)) (bK (dZ ..).symm)]<|.i [.set 120 (.gl 1 1 0 (set a b.toNat true).length true)] [.q (p:=(AV.gl 1 1 0 a.length true) = (.gl 1 1 0 (set a b.toNat true).length true)) (bK (dZ ..).symm)]<|gw 5 97 (e+1)<|.W 3 2 [0,1] (uW d (set a b.toNat true) (e+1) c))<|gw 6 78 (c+1)<|.W 3 2 [0,1] (qB d a (c+1))
def aMj:=fun c d e f g i j a b k l m n o p q=>bBA c d e f g a b|>.t k a b i l m n o j p|>.t q tv
def aMk:=fun c d e f g i j k a b l m n o p q r s t u v=>bBA c d e f g a b|>.t l a b i m n o p j q|>.f r s t k u|>.t v tv
def aMl:=fun f g i j k l m n a b o p q r s t u c d e v w=>bBA f g i j k a b|>.t o a b l p q r s m t|>.f u c d n e|>.f v c d e w ⟨kk,trivial⟩
def aMm:=fun a b c d e f g i j=>bBA a b c d e f g|>.f i j ⟨kk,trivial⟩
def bF7(c:Prog)(b:List Bool)(a:Int):=tT 0 (uX c b a)<|gd 7 125 (a< (c.nodes.length:Int)) (.i [rn 8,.ans (.ix)] [hA (0≤a),hA (a< (b.length:Int))]<|.y fun d:Bool=>gj zA 0 b a.toNat d<|.b 2 132 (!d) (gE 6 1 (bV false))<|gw 6 127 (a+1)<|.W 3 1 [0] (uX c b (a+1)))<|gE 7 1 (bV true)
def aMn:=fun a b c d e f g i j=>bF7 a b c|>.t e f g d i|>.t j tv
def aMo:=fun a b c d e f g i j k=>bF7 a b c|>.t e f g d i|>.f j k ⟨kk,trivial⟩
def aMp:=fun a b c d=>bF7 a b c|>.f d tv
def jB (c:Con) :Bool:=jL c.name&&dY c.args 0 3
def bD (l:List Con) :List cF:=l.map Con.name
def aCX (l:List Con) :Bool:=l.all jB&&decide (l.length≤20) &&pD (bD l)
def eG (p:Prog)(op n:Int) :Bool:=
 if op=1 then dY n (-1000000000) 1000000000
 else if op=2 then dY n 0 1
 else if op=4 then dY n (0- (p.funs.length:Int)) 29
 else if op=24 then dY n 0 3
 else if op=14 then dY n 0 ((p.cons.length:Int) -1)
 else decide (n=0)
def iL (p:Prog)(x:Node) :Bool:=
 eG p x.op x.n&& (if x.op=15 then dY (x.pats.length:Int) 1 5 else decide (x.pats.length=0))
def iM (p:Prog)(x:Node) :Int:=if x.op=14∧dY x.n 0 ((p.cons.length:Int) -1) =true then gV p.cons x.n else 0
def jZ (cons:List Con)(q:Pat) :Bool:=decide (cB q≤12) &&eT cons q
def bG (p:Prog)(x:Node) :Bool:=
 iL p x&&x.pats.all (jZ p.cons) &&decide ((x.kids.length:Int) =cK x.op x.pats.length (iM p x))
theorem gJ {a:Type}(l:List a) : ((l.length:Int) ==0) =decide (l= []) :=by cases l<;>simp;omega
theorem pL {p:Prop}(h:p:=by simp_all [iL,eG,iM,gV,gJ]) :p:=h
theorem bBB (p:Prog)(x:Node)(hc:p.cons.length≤1000)(G:p.funs.length≤1000)(b:Bool)(hk:∀ (i:Bool) (a:Int),i=iL p x→a=iM p x→Ends PP 0 (bU p x i a 0).as (.ret (.bool b)) (aA [] 0)) :
  Ends PP 0 (start PP 64 [Prog.av p,Node.av x]).as (.ret (.bool b)) (aA [] 0) :=by
 cases c: (x.op== (1:Int))
 case true=>
  cases m: (x.op== (15:Int))
  case true=>
   cases A: (dY (x.n) (-1000000000) 1000000000)
   case true=>exact LeadsM.ends (aTB p x  (dY (x.n) (-1000000000) 1000000000) (dY ((length x.pats:Nat) :Int) 1 5) c (aY (x.n) (-1000000000) 1000000000) m A (aY ((length x.pats:Nat) :Int) 1 5)) (hk _ _ (by clear hk;exact pL) (by clear hk;exact pL))
   exact LeadsM.ends (aTC p x  (dY (x.n) (-1000000000) 1000000000) c (aY (x.n) (-1000000000) 1000000000) m A) (hk _ _ (by clear hk;exact pL) (by clear hk;exact pL))
  cases D: (dY (x.n) (-1000000000) 1000000000)
  case true=>exact LeadsM.ends (aTD p x  (dY (x.n) (-1000000000) 1000000000) c (aY (x.n) (-1000000000) 1000000000) m D) (hk _ _ (by clear hk;exact pL) (by clear hk;exact pL))
  exact LeadsM.ends (aTE p x  (dY (x.n) (-1000000000) 1000000000) c (aY (x.n) (-1000000000) 1000000000) m D) (hk _ _ (by clear hk;exact pL) (by clear hk;exact pL))
 cases d: (x.op== (2:Int))
 case true=>
  cases n: (x.op== (15:Int))
  case true=>
   cases C: (dY (x.n) 0 1)
   case true=>exact LeadsM.ends (aTF p x  (dY (x.n) 0 1) (dY ((length x.pats:Nat) :Int) 1 5) c d (aY (x.n) 0 1) n C (aY ((length x.pats:Nat) :Int) 1 5)) (hk _ _ (by clear hk;exact pL) (by clear hk;exact pL))
   exact LeadsM.ends (aTG p x  (dY (x.n) 0 1) c d (aY (x.n) 0 1) n C) (hk _ _ (by clear hk;exact pL) (by clear hk;exact pL))
  cases B: (dY (x.n) 0 1)
  case true=>exact LeadsM.ends (aTH p x  (dY (x.n) 0 1) c d (aY (x.n) 0 1) n B) (hk _ _ (by clear hk;exact pL) (by clear hk;exact pL))
  exact LeadsM.ends (aTI p x  (dY (x.n) 0 1) c d (aY (x.n) 0 1) n B) (hk _ _ (by clear hk;exact pL) (by clear hk;exact pL))
 cases f: (x.op== (4:Int))
 case true=>
  cases l: (x.op== (15:Int))
  case true=>
   cases w: (dY (x.n) (0- ((length p.funs:Nat) :Int)) 29)
   case true=>exact LeadsM.ends (aTJ p x  (dY (x.n) (0- ((length p.funs:Nat) :Int)) 29) (dY ((length x.pats:Nat) :Int) 1 5) c d f sdI (aY (x.n) (0- ((length p.funs:Nat) :Int)) 29) l w (aY ((length x.pats:Nat) :Int) 1 5)) (hk _ _ (by clear hk;exact pL) (by clear hk;exact pL))
   exact LeadsM.ends (aTK p x  (dY (x.n) (0- ((length p.funs:Nat) :Int)) 29) c d f sdI (aY (x.n) (0- ((length p.funs:Nat) :Int)) 29) l w) (hk _ _ (by clear hk;exact pL) (by clear hk;exact pL))
  cases t: (dY (x.n) (0- ((length p.funs:Nat) :Int)) 29)
  case true=>exact LeadsM.ends (aPr p x  (dY (x.n) (0- ((length p.funs:Nat) :Int)) 29) c d f sdI (aY (x.n) (0- ((length p.funs:Nat) :Int)) 29) l t) (hk _ _ (by clear hk;exact pL) (by clear hk;exact pL))
  exact LeadsM.ends (aPs p x  (dY (x.n) (0- ((length p.funs:Nat) :Int)) 29) c d f sdI (aY (x.n) (0- ((length p.funs:Nat) :Int)) 29) l t) (hk _ _ (by clear hk;exact pL) (by clear hk;exact pL))
 cases e: (x.op== (24:Int))
 case true=>
  cases j: (x.op== (15:Int))
  case true=>
   cases r: (dY (x.n) 0 3)
   case true=>exact LeadsM.ends (aPt p x  (dY (x.n) 0 3) (dY ((length x.pats:Nat) :Int) 1 5) c d f e (aY (x.n) 0 3) j r (aY ((length x.pats:Nat) :Int) 1 5)) (hk _ _ (by clear hk;exact pL) (by clear hk;exact pL))
   exact LeadsM.ends (aPu p x  (dY (x.n) 0 3) c d f e (aY (x.n) 0 3) j r) (hk _ _ (by clear hk;exact pL) (by clear hk;exact pL))
  cases u: (dY (x.n) 0 3)
  case true=>exact LeadsM.ends (aPv p x  (dY (x.n) 0 3) c d f e (aY (x.n) 0 3) j u) (hk _ _ (by clear hk;exact pL) (by clear hk;exact pL))
  exact LeadsM.ends (aPw p x  (dY (x.n) 0 3) c d f e (aY (x.n) 0 3) j u) (hk _ _ (by clear hk;exact pL) (by clear hk;exact pL))
 cases g: (x.op== (14:Int))
 case true=>
  cases h: (dY (x.n) 0 (((length p.cons:Nat) :Int) - (1:Int)))
  case true=>
   obtain⟨F,s⟩ :∃y,((p.cons)[x.n.toNat]?) =some y:=idT;cases v: (x.op== (15:Int))
   case true=>exact LeadsM.ends (aPx p x  (dY (x.n) 0 (((length p.cons:Nat) :Int) - (1:Int))) F (dY ((length x.pats:Nat) :Int) 1 5) c d f e g sdI (aY (x.n) 0 (((length p.cons:Nat) :Int) - (1:Int))) h sdI s v (aY ((length x.pats:Nat) :Int) 1 5)) (hk _ _ (by clear hk;exact pL) (by clear hk;exact pL))
   exact LeadsM.ends (aPy p x  (dY (x.n) 0 (((length p.cons:Nat) :Int) - (1:Int))) F c d f e g sdI (aY (x.n) 0 (((length p.cons:Nat) :Int) - (1:Int))) h sdI s v) (hk _ _ (by clear hk;exact pL) (by clear hk;exact pL))
  cases q: (x.op== (15:Int))
  case true=>exact LeadsM.ends (aPz p x  (dY (x.n) 0 (((length p.cons:Nat) :Int) - (1:Int))) c d f e g sdI (aY (x.n) 0 (((length p.cons:Nat) :Int) - (1:Int))) h q) (hk _ _ (by clear hk;exact pL) (by clear hk;exact pL))
  exact LeadsM.ends (aPA p x  (dY (x.n) 0 (((length p.cons:Nat) :Int) - (1:Int))) c d f e g sdI (aY (x.n) 0 (((length p.cons:Nat) :Int) - (1:Int))) h q) (hk _ _ (by clear hk;exact pL) (by clear hk;exact pL))
 cases k: (x.op== (15:Int))
 case true=>
  cases z: (x.n== (0:Int))
  case true=>exact LeadsM.ends (aPB p x  (dY ((length x.pats:Nat) :Int) 1 5) c d f e g k z (aY ((length x.pats:Nat) :Int) 1 5)) (hk _ _ (by clear hk;exact pL) (by clear hk;exact pL))
  exact LeadsM.ends (aPC p x   c d f e g k z) (hk _ _ (by clear hk;exact pL) (by clear hk;exact pL))
 cases o: (x.n== (0:Int))
 case true=>exact LeadsM.ends (aPD p x   c d f e g k o) (hk _ _ (by clear hk;exact pL) (by clear hk;exact pL))
 exact LeadsM.ends (aPE p x   c d f e g k o) (hk _ _ (by clear hk;exact pL) (by clear hk;exact pL))
theorem aAW (p:Prog)(x:Node)(hc:p.cons.length≤1000)(hl:x.pats.length≤10)(a:Int) :
  ∀ (t:List Pat) (i:Nat) (b:Bool),x.pats.drop i=t→Ends PP 0 (bU p x b a (i:Int)).as (.ret (.bool (b&&t.all (jZ p.cons) &&decide ((x.kids.length:Int) =cK x.op x.pats.length a)))) (aA [] 0)
 | [],i,b,h=>by
  have:=bH h;cases b
  case false=>exact Ends.eqv (aTP p x false a i sd rfl) (by simp)
  refine Ends.eqv (aTO p x true a i _ sd rfl (aPq x.op x.pats.length a (by omega) (by omega))) ?_;simp only [all_nil,mL,AV.bool.injEq];rfl
 | .mk d e f c::t,i,b,h=>by
  obtain⟨n,l,o⟩ :=bE h;cases b
  case false=>exact Ends.eqv (aTN p x false a i sd rfl) (by simp)
  have m:=xO (.mk d e f c) 12 (by omega) (by omega);by_cases k:cB (.mk d e f c) ≤12
  · have j:0≤mQ (.mk d e f c) 12:= (zG (.mk d e f c) 12).2 (by omega);refine(aTL p x true a i d e f c _ _ sd rfl sd sd m (decide_eq_true j) (aHP p.cons hc (.mk d e f c) (by omega)) sd).ends ?_;exact Ends.eqv (aAW p x hc hl a t (i+1) _ l) (by simp [jZ,k])
  · have j:¬mQ (.mk d e f c) 12≥0:=fun g=>k (by have:= (zG (.mk d e f c) 12).1 g;omega);refine(aTM p x true a i d e f c _ sd rfl sd sd m (decide_eq_false j) sd).ends ?_;exact Ends.eqv (aAW p x hc hl a t (i+1) _ l) (by simp [jZ,k])
theorem aPF (p:Prog)(x:Node)(hc:p.cons.length≤1000)(d:p.funs.length≤1000)(hl:x.pats.length≤10) :aK PP 64 [Prog.av p,Node.av x] (.bool (bG p x)) :=by
 refine aG aC rfl rfl (bBB p x hc d _ fun i a b c=>?_);subst b c;exact aAW p x hc hl _ x.pats 0 _ rfl
theorem aFZ (l:List Con)(hl:l.length≤1000) :∀ (t:List Con) (i:Nat),l.drop i=t→Ends PP 0 (aBV l (i:Int) (bD (l.take i))).as (.ret (.bool (t.all jB&&decide (l.length≤20) &&pD (bD l)))) (aA [] 0)
 | [],i,h=>by
  have a:=bH h;have e:bD (l.take i) =bD l:=by rw [aAG a]
  rw [e];by_cases k:l.length≤20
  ·exact Ends.eqv (aTU l i _ _ sd sd (aJo (bD l) (by simp [bD];omega))) (by simp [k])
  ·exact Ends.eqv (aTV l i _ sd sd) (by simp [k])
 | c::t,i,h=>by
  obtain⟨j,g,m⟩ :=bE h;have d:=aLU c.name;cases b:jL c.name
  case false=>
   rw [b]at d;exact Ends.eqv (aTR l i _ c false sd sd sd d rfl) (by simp [jB,b])
  rw [b]at d;have a:=aY c.args 0 3;cases f:dY c.args 0 3
  case false=>
   rw [f]at a;exact Ends.eqv (aTS l i _ c true false sd sd sd d rfl a rfl) (by simp [jB,b,f])
  rw [f]at a;have e:bD (l.take i) ++ [c.name] =bD (l.take (i+1)) :=by
   rw [List.take_add_one,j];simp [bD]
  refine(aTT l i (bD (l.take i)) c true true sd sd sd d rfl a rfl (by simp [bD];omega) sd).ends ?_;rw [e];exact Ends.eqv (aFZ l hl t (i+1) g) (by simp [jB,b,f])
theorem aPG (l:List Con)(hl:l.length≤1000) :aK PP 63 [.ilst 2 (map Con.av l) false] (.bool (aCX l)) :=
 aG aC rfl rfl ((aTQ l).ends (aFZ l hl l 0 rfl))
def marks (lo n:Int) :List Int→List Bool→Option (List Bool)
 | [],u=>some u
 |k::ks,u=>if dY k lo (n-1) =true∧u[k.toNat]?=some false then marks lo n ks (u.set k.toNat true)else none
theorem nD {lo n:Int}:∀ {a:List Int} {u v:List Bool},marks lo n a u=some v→v.length=u.length
 | [],u,v,h=>by simp only [marks,Option.some.injEq]at h;rw [h]
 | k::a,u,v,h=>by
  simp only [marks]at h;split at h
  ·have:=nD h;simpa using this
  ·cases h
def cC (p:Prog) :Nat→List Node→List Bool→Option (List Bool)
 |_,[],u=>some u
 | i,x::t,u=>if bG p x=true then match marks ((i:Int) +1) (p.nodes.length:Int) x.kids u with
   |some v=>cC p (i+1) t v
   |none=>none
  else none
def allT :Option (List Bool) →Bool
 |some u=>u.all fun b=>b
 |none=>false
def eB (p:Prog) :Bool:=decide (p.nodes.length≤300) &&dY (p.funs.length:Int) 1 (p.nodes.length:Int) &&dY p.main 0 ((p.funs.length:Int) -1)
def aM (p:Prog) :Bool:=
 eB p&&aCX p.cons&& (match marks 0 (p.nodes.length:Int) p.funs (replicate p.nodes.length false)with
  |some u=>allT (cC p 0 p.nodes u)
  |none=>false)
theorem rF3 (p:Prog)(u:List Bool)(d:p.nodes.length≤1000)(a:u.length=p.nodes.length) :∀ (t:List Bool) (i:Nat),u.drop i=t→Ends PP 0 (uX p u (i:Int)).as (.ret (.bool (t.all fun b=>b))) (aA [] 0)
 | [],i,h=>by
  have:=bH h;exact aMp p u i sd
 | b::t,i,h=>by
  obtain⟨e,c,f⟩ :=bE h;cases b
  case false=>exact Ends.eqv (aMn p u i false sd sd sd sd rfl) (by simp)
  refine(aMo p u i true sd sd sd sd rfl sd).ends ?_;exact Ends.eqv (rF3 p u d a t (i+1) c) (by simp)
theorem bHH (p:Prog)(x:Node)(i:Nat)(d:p.nodes[i]?=some x)(f:p.nodes.length≤1000)(hk:x.kids.length≤1000)(K:List Bool→Bool)
  (hb:∀v:List Bool,v.length=p.nodes.length→Ends PP 0 (qB p v ((i:Int) +1)).as (.ret (.bool (K v))) (aA [] 0)) :
  ∀ (t:List Int) (k:Nat) (u:List Bool),u.length=p.nodes.length→x.kids.drop k=t→Ends PP 0 (uW p u (k:Int) (i:Int)).as (.ret (.bool (match marks ((i:Int) +1) p.nodes.length t u with|some v=>K v|none=>false))) (aA [] 0)
 | [],k,u,c,h=>by
  have:=bH h;have g:= (zq0.1 d).1;refine(aMm p u k i x sd sd sd sd).ends ?_;exact hb u c
 | y::t,k,u,c,h=>by
  obtain⟨l,e,m⟩ :=bE h;have g:= (zq0.1 d).1;have a:=aY y ((i:Int) +1) ((p.nodes.length:Int) -1);cases b:dY y ((i:Int) +1) ((p.nodes.length:Int) -1)
  case false=>
   rw [b]at a;exact Ends.eqv (aMj p u k i x y false sd sd sd sd sd sd sd a rfl) (by simp [marks,b])
  rw [b]at a;have j:=inB_iff.1 b;obtain⟨z,hz⟩ :∃z,u[y.toNat]?=some z:= ⟨_,kX (by omega)⟩;cases z
  case true=>exact Ends.eqv (aMk p u k i x y true true sd sd sd sd sd sd sd a rfl (by omega) (by omega) hz rfl) (by simp [marks,hz])
  refine(aMl p u k i x y true false sd sd sd sd sd sd sd a rfl (by omega) (by omega) hz rfl sd).ends ?_;exact Ends.eqv (bHH p x i d f hk K hb t (k+1) (u.set y.toNat true) (by simpa using c) e) (by simp [marks,b,hz])
theorem rF1 (p:Prog)(hp:aJ p=true)(b:p.nodes.length≤1000)(hc:p.cons.length≤1000)(f:p.funs.length≤1000) :∀ (t:List Node) (i:Nat) (u:List Bool),u.length=p.nodes.length→p.nodes.drop i=t →
  Ends PP 0 (qB p u (i:Int)).as (.ret (.bool (allT (cC p i t u)))) (aA [] 0)
 | [],i,u,c,h=>by
  have:=bH h;refine(aMi p u i sd).ends ?_;exact rF3 p u b c u 0 rfl
 | x::t,i,u,c,h=>by
  obtain⟨d,j,l⟩ :=bE h;have e:bO x=true:=by
   simp only [aJ,dS]at hp;exact zq27.1 hp.2 x (jQ d)
  simp only [bO,dS,decide_eq_true_eq]at e;have a:=aPF p x hc f e.1.2;cases k:bG p x
  case false=>
   rw [k]at a;exact Ends.eqv (aMg p u i x false sd sd sd a rfl) (by simp [cC,k,allT])
  rw [k]at a;refine(aMh p u i x true sd sd sd a rfl).ends ?_;refine Ends.eqv (bHH p x i d b (by omega) (fun v=>allT (cC p (i+1) t v)) (fun v g=>rF1 p hp b hc f t (i+1) v g j) x.kids 0 u c rfl) ?_;simp only [cC,k,if_true];cases marks ((i:Int) +1) (p.nodes.length:Int) x.kids u<;>rfl
theorem rF0 (p:Prog)(hp:aJ p=true)(d:p.nodes.length≤1000)(hc:p.cons.length≤1000)(e:p.funs.length≤1000) :∀ (t:List Int) (i:Nat) (u:List Bool),u.length=p.nodes.length→p.funs.drop i=t →
  Ends PP 0 (uV p (i:Int) u).as (.ret (.bool (match marks 0 p.nodes.length t u with|some v=>allT (cC p 0 p.nodes v) |none=>false))) (aA [] 0)
 | [],i,u,c,h=>by
  have:=bH h;refine(aMf p i u sd).ends ?_;exact rF1 p hp d hc e p.nodes 0 u c rfl
 | y::t,i,u,c,h=>by
  obtain⟨g,f,j⟩ :=bE h;have a:=aY y 0 ((p.nodes.length:Int) -1);cases b:dY y 0 ((p.nodes.length:Int) -1)
  case false=>
   rw [b]at a;exact Ends.eqv (aMc p i u y false sd sd sd sd a rfl) (by simp [marks,b])
  rw [b]at a;have k:=inB_iff.1 b;obtain⟨z,hz⟩ :∃z,u[y.toNat]?=some z:= ⟨_,kX (by omega)⟩;cases z
  case true=>exact Ends.eqv (aMd p i u y true true sd sd sd sd a rfl (by omega) (by omega) hz rfl) (by simp [marks,hz])
  refine(aMe p i u y true false sd sd sd sd a rfl (by omega) (by omega) hz rfl sd).ends ?_;exact Ends.eqv (rF0 p hp d hc e t (i+1) (u.set y.toNat true) (by simpa using c) f) (by simp [marks,b,hz])
theorem aJz (p:Prog)(hp:aJ p=true) :aK PP 27 [Prog.av p] (.bool (aM p)) :=by
 refine aG aC rfl rfl ?_;have h:=hp;simp only [aJ,dS,decide_eq_true_eq]at h;obtain⟨⟨⟨⟨j,k⟩,l⟩,_⟩,_⟩ :=h;by_cases i:p.nodes.length≤300
 · have a:=aY (p.funs.length:Int) 1 (p.nodes.length:Int);cases f:dY (p.funs.length:Int) 1 (p.nodes.length:Int)
   case false=>
    rw [f]at a;exact Ends.eqv (aL8 p false sd a rfl) (by simp [aM,eB,f])
   rw [f]at a;have b:=aY p.main 0 ((p.funs.length:Int) -1);cases d:dY p.main 0 ((p.funs.length:Int) -1)
   case false=>
    rw [d]at b;exact Ends.eqv (aL9 p true false sd a rfl sd b rfl) (by simp [aM,eB,d])
   rw [d]at b;have c:=aPG p.cons (by omega);cases g:aCX p.cons
   case false=>
    rw [g]at c;exact Ends.eqv (aMa p true true false sd a rfl sd b rfl c rfl) (by simp [aM,g])
   rw [g]at c;refine(aMb p true true true sd a rfl sd b rfl c rfl (by omega)).ends ?_;refine Ends.eqv (rF0 p hp (by omega) (by omega) (by omega) p.funs 0 _ (by simp) rfl) ?_;have e:eB p=true:=by simp [eB,i,f,d]
   simp only [aM,e,g,mL]
 ·exact Ends.eqv (aL7 p sd) (by simp [aM,eB,i])
def checkN (b:Bool) :Int:=if b=true then 0 else 2
end
end Go.Hb
