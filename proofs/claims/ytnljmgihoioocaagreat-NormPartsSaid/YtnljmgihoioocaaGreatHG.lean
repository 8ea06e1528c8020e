/- A machine on abstract values, its soundness, ways, plain laws. -/
import Derived.Test.YtnljmgihoioocaaGreatHF
set_option linter.defProp false
set_option linter.unusedVariables false
set_option linter.unusedSimpArgs false
set_option linter.unusedSectionVars false
set_option maxRecDepth 100000
set_option maxHeartbeats 2000000
namespace Go.Hb
open AV (ilst int keyless keylessL ptr ren renL)
open List (all_nil drop getElem?_set length length_nil map map_nil nodup_nil replicate set set_cons_succ take)
open Nat (le_of_lt le_refl lt_irrefl mul_one)
open Go.Proofs Tryz
noncomputable section
inductive XT where
 |mk (op n:Int) (kids:List XT) (pats:List Pat)
mutual
def XT.av :XT→AV
 | .mk o n ks ps=>.iptr [.int .i64 o,.int .i64 n,.ilst 1 (XTs.av ks) false,.ilst 4 (Pats.av ps) false]
def XTs.av :List XT→List AV
 | [] =>[]
 |p::ps=>XT.av p::XTs.av ps
end
theorem dA :∀l,XTs.av l=map XT.av l
 | [] =>rfl
 |p::a=>by rw [XTs.av,dA a];rfl
mutual
theorem aMU :∀p,keyless (XT.av p) =true
 | .mk o n b a=>by simp [XT.av,keyless]
theorem bA4 :∀l,keylessL (XTs.av l) =true
 | [] =>rfl
 |p::a=>by rw [XTs.av,keylessL,aMU p,bA4 a];rfl
end
abbrev Imm :=Nat→Option (Array Value)
def Imm.le (a b:Imm) :Prop:=∀k C,a k=some C→b k=some C
def emI (imm:Imm) :Emb:= ⟨fun _=>none,imm⟩
theorem aDj {a b:Imm}(h:Imm.le a b) : (emI a).le (emI b) := ⟨fun _ _ e=>e,h⟩
def adr (a:Nat×Nat) :Value:=.pointer (some ⟨a.1,a.2,none⟩)
mutual
def TAt (imm:Imm)(H:Array Obj) :Nat×Nat→XT→List Nat→Prop
 | a,.mk o n ks ps,F=>∃ (C:Array Value) (e:TypeId) (kv pv:Value) (Fk:List Nat),H[a.1]?=some (.cells C e (0,0)) ∧C[a.2]?=some (.int .i64 o) ∧C[a.2+1]?=some (.int .i64 n) ∧C[a.2+2]?=some kv∧C[a.2+3]?=some pv∧VR (emI imm) (.ilst 4 (Pats.av ps) false) pv∧F=a.1::Fk ∧
   ((ks= [] ∧Fk= [] ∧ ((∃b,kv= .slice b 0 0) ∨∃ (b:Nat×Nat) (cap:Nat),kv= .slice (some ⟨b.1,b.2,none⟩) 0 cap)) ∨∃ (b:Nat×Nat) (cap:Nat) (Ck:Array Value) (ek:TypeId) (ad:List (Nat×Nat)) (Fr:List Nat),kv= .slice (some ⟨b.1,b.2,none⟩) ks.length cap∧ks≠ [] ∧ks.length≤cap∧b.2+cap≤Ck.size∧H[b.1]?=some (.cells Ck ek (0,0)) ∧ad.length=ks.length∧ (∀j,j<ks.length→Ck[b.2+j]?= (ad.map adr)[j]?) ∧Fk=b.1::Fr∧TsAt imm H ad ks Fr)
def TsAt (imm:Imm)(H:Array Obj) :List (Nat×Nat) →List XT→List Nat→Prop
 |ad,[],F=>ad= [] ∧F= []
 |ad,t::ts,F=>∃a ad' F1 F2,ad=a::ad'∧F=F1++F2∧TAt imm H a t F1∧TsAt imm H ad' ts F2
end
mutual
theorem TAt.go {d c:Imm}{H l:Array Obj}(f:Imm.le d c) :∀ (t:XT) (a:Nat×Nat) (F:List Nat),TAt d H a t F→ (∀i∈F,l[i]?=H[i]?) →TAt c l a t F
 | .mk o n q T,a,F,h,k=>by
  simp only [TAt]at h ⊢;obtain⟨C,e,D,Q,K,z,w,J,M,s,A,u,O⟩ :=h;subst u;refine⟨C,e,D,Q,K,by rw [k _ (dT ..)];exact z,w,J,M,s,A.mono (aDj f),rfl,?_⟩;rcases O with g| ⟨b,j,I,G,p,m,x,N,L,v,R,S,B,r,y⟩
  ·exact .inl g
  · subst r;exact .inr ⟨b,j,I,G,p,m,x,N,L,v,by rw [k _ (by simp)];exact R,S,B,rfl,TsAt.go f q p m y (fun i f=>k i (by simp [f]))⟩
theorem TsAt.go {d b:Imm}{H l:Array Obj}(c:Imm.le d b) :∀ (f:List XT) (g:List (Nat×Nat)) (F:List Nat),TsAt d H g f F→ (∀i∈F,l[i]?=H[i]?) →TsAt b l g f F
 | [],g,F,h,_=>by simpa only [TsAt]using h
 | t::f,g,F,h,j=>by
  simp only [TsAt]at h ⊢;obtain⟨a,e,k,m,rfl,rfl,n,o⟩ :=h;exact⟨a,e,k,m,rfl,rfl,TAt.go c t a k n (fun i c=>j i (by simp [c])),TsAt.go c f e m o (fun i c=>j i (by simp [c]))⟩
end
mutual
theorem TAt.blk {d:Imm}{H:Array Obj}:∀ (t:XT) (a:Nat×Nat) (F:List Nat),TAt d H a t F→∀i∈F,∃C e,H[i]?=some (.cells C e (0,0))
 | .mk o n f y,a,F,h,i,c=>by
  simp only [TAt]at h;obtain⟨C,e,B,L,G,k,w,D,J,u,z,rfl,q⟩ :=h;rcases zq7.1 c with rfl|c
  ·exact⟨C,e,k⟩
  · rcases q with⟨_,rfl,_⟩ | ⟨b,j,p,m,r,l,x,K,I,v,s,M,A,rfl,g⟩
    ·cases c
    · rcases zq7.1 c with rfl|c
      ·exact⟨p,m,s⟩
      ·exact TsAt.blk f r l g i c
theorem TsAt.blk {c:Imm}{H:Array Obj}:∀ (d:List XT) (g:List (Nat×Nat)) (F:List Nat),TsAt c H g d F→∀i∈F,∃C e,H[i]?=some (.cells C e (0,0))
 | [],g,F,h,i,b=>by simp only [TsAt]at h;rw [h.2]at b;cases b
 | t::d,g,F,h,i,b=>by
  simp only [TsAt]at h;obtain⟨a,f,k,m,rfl,rfl,j,l⟩ :=h;rcases zq28.1 b with b|b
  ·exact TAt.blk t a k j i b
  ·exact TsAt.blk d f m l i b
end
theorem TsAt.len {c:Imm}{H:Array Obj}:∀ {d:List XT} {b:List (Nat×Nat)} {F:List Nat},TsAt c H b d F→b.length=d.length
 | [],b,F,h=>by simp only [TsAt]at h;rw [h.1];rfl
 | t::d,b,F,h=>by
  simp only [TsAt]at h;obtain⟨a,e,g,i,rfl,rfl,_,f⟩ :=h;simp [f.len]
def OsAt (imm:Imm)(H:Array Obj) :List (Nat×Nat) →List (Option XT) →List Nat→Prop
 |ad,[],F=>ad= [] ∧F= []
 |ad,some t::ts,F=>∃a ad' F1 F2,ad=a::ad'∧F=F1++F2∧TAt imm H a t F1∧OsAt imm H ad' ts F2
 |ad,none::ts,F=>∃a ad',ad=a::ad'∧OsAt imm H ad' ts F
theorem os_ts {c:Imm}{H:Array Obj}:∀ {f:List XT} {d:List (Nat×Nat)} {F:List Nat},OsAt c H d (f.map some) F↔TsAt c H d f F
 | [],d,F=>by simp [OsAt,TsAt]
 | t::f,d,F=>by
  simp only [dJ,OsAt,TsAt];constructor
  ·rintro⟨a,b,g,j,k,h,e,i⟩;exact⟨a,b,g,j,k,h,e,os_ts.1 i⟩
  ·rintro⟨a,b,g,j,k,h,e,i⟩;exact⟨a,b,g,j,k,h,e,os_ts.2 i⟩
theorem OsAt.go {f c:Imm}{H m:Array Obj}(d:Imm.le f c) :∀ (e:List (Option XT)) (g:List (Nat×Nat)) (F:List Nat),OsAt f H g e F→ (∀i∈F,m[i]?=H[i]?) →OsAt c m g e F
 | [],g,F,h,_=>by simpa only [OsAt]using h
 | some t::e,g,F,h,j=>by
  simp only [OsAt]at h ⊢;obtain⟨a,b,l,n,rfl,rfl,o,k⟩ :=h;exact⟨a,b,l,n,rfl,rfl,TAt.go d t a l o (fun i d=>j i (by simp [d])),OsAt.go d e b n k (fun i d=>j i (by simp [d]))⟩
 | none::e,g,F,h,j=>by
  simp only [OsAt]at h ⊢;obtain⟨a,b,rfl,k⟩ :=h;exact⟨a,b,rfl,OsAt.go d e b F k j⟩
theorem OsAt.blk {g:Imm}{H:Array Obj}:∀ (d:List (Option XT)) (f:List (Nat×Nat)) (F:List Nat),OsAt g H f d F→∀i∈F,∃C e,H[i]?=some (.cells C e (0,0))
 | [],f,F,h,i,b=>by simp only [OsAt]at h;rw [h.2]at b;cases b
 | some t::d,f,F,h,i,b=>by
  simp only [OsAt]at h;obtain⟨a,c,l,m,rfl,rfl,k,j⟩ :=h;rcases zq28.1 b with b|b
  ·exact TAt.blk t a l k i b
  ·exact OsAt.blk d c m j i b
 | none::d,f,F,h,i,b=>by
  simp only [OsAt]at h;obtain⟨a,c,rfl,j⟩ :=h;exact OsAt.blk d c F j i b
theorem OsAt.len {e:Imm}{H:Array Obj}:∀ {c:List (Option XT)} {b:List (Nat×Nat)} {F:List Nat},OsAt e H b c F→b.length=c.length
 | [],b,F,h=>by simp only [OsAt]at h;rw [h.1];rfl
 | some t::c,b,F,h=>by
  simp only [OsAt]at h;obtain⟨a,d,g,i,rfl,rfl,_,f⟩ :=h;simp [f.len]
 | none::c,b,F,h=>by
  simp only [OsAt]at h;obtain⟨a,d,rfl,f⟩ :=h;simp [f.len]
theorem OsAt.out {f:Imm}{H:Array Obj}:∀ {g:List (Option XT)} {d:List (Nat×Nat)} {F:List Nat} {i:Nat} {t:XT},OsAt f H d g F→g[i]?=some (some t) →∃a c m,d[i]?=some a∧TAt f H a t c∧OsAt f H d (g.set i none) m∧ (c++m).Perm F
 | [],d,F,i,t,_,e=>by simp at e
 | some u::g,d,F,0,t,h,e=>by
  simp only [OsAt]at h;obtain⟨a,b,c,m,rfl,rfl,n,l⟩ :=h;simp only [lF,Option.some.injEq]at e;subst e;exact⟨a,c,m,rfl,n,by simp only [List.set_cons_zero,OsAt];exact⟨a,b,rfl,l⟩,List.Perm.refl _⟩
 |none::g,d,F,0,t,h,e=>by simp at e
 | some u::g,d,F,i+1,t,h,e=>by
  simp only [OsAt]at h;obtain⟨a,b,c,m,rfl,rfl,n,l⟩ :=h;obtain⟨o,k,j,q,r,p,s⟩ :=OsAt.out l (by simpa using e);refine⟨o,k,c++j,by simpa using q,r,by simp only [set_cons_succ,OsAt];exact⟨a,b,c,j,rfl,rfl,n,p⟩,?_⟩;have: (k++ (c++j)).Perm (c++ (k++j)) :=by
   rw [←zq9,←zq9];exact List.Perm.append_right _ List.perm_append_comm
  exact this.trans (List.Perm.append_left _ s)
 | none::g,d,F,i+1,t,h,e=>by
  simp only [OsAt]at h;obtain⟨a,b,rfl,l⟩ :=h;obtain⟨o,k,j,q,r,p,s⟩ :=OsAt.out l (by simpa using e);exact⟨o,k,j,by simpa using q,r,by simp only [set_cons_succ,OsAt];exact⟨a,b,rfl,p⟩,s⟩
theorem OsAt.put {d:Imm}{H:Array Obj}:∀ {f:List (Option XT)} {j:List (Nat×Nat)} {F c:List Nat} {i:Nat} {t:XT} {a:Nat×Nat},OsAt d H j f F→f[i]?=some none→TAt d H a t c→∃g,OsAt d H (j.set i a) (f.set i (some t)) g∧g.Perm (c++F)
 | [],j,F,c,i,t,a,_,e,_=>by simp at e
 |some r::f,j,F,c,0,t,a,h,e,_=>by simp at e
 | none::f,j,F,c,0,t,a,h,e,k=>by
  simp only [OsAt]at h;obtain⟨m,b,rfl,l⟩ :=h;exact⟨c++F,by simp only [List.set_cons_zero,OsAt];exact⟨a,b,c,F,rfl,rfl,k,l⟩,List.Perm.refl _⟩
 | some r::f,j,F,c,i+1,t,a,h,e,k=>by
  simp only [OsAt]at h;obtain⟨m,b,p,s,rfl,rfl,q,l⟩ :=h;obtain⟨g,n,o⟩ :=OsAt.put l (by simpa using e) k;refine⟨p++g,by simp only [set_cons_succ,OsAt];exact⟨m,b.set i a,p,g,rfl,rfl,q,n⟩,?_⟩;refine(List.Perm.append_left _ o).trans ?_;rw [←zq9,←zq9];exact List.Perm.append_right _ List.perm_append_comm
 | none::f,j,F,c,i+1,t,a,h,e,k=>by
  simp only [OsAt]at h;obtain⟨m,b,rfl,l⟩ :=h;obtain⟨g,n,o⟩ :=OsAt.put l (by simpa using e) k;exact⟨g,by simp only [set_cons_succ,OsAt];exact⟨m,b.set i a,rfl,n⟩,o⟩
section
variable {P :Program}
abbrev ZP :=List Nat→List (Nat×Nat×Nat) →Imm→Array Obj→Prop
def gh :AObj:=.zone false [] (fun _ _ _ _=>True)
def cQ (ts:List XT) :ZP:=fun F Ks imm H=>F.Nodup∧∃K:Nat×Nat×Nat,Ks= [K] ∧ ((ts= [] ∧F= []) ∨∃ (C:Array Value) (e:TypeId) (ad:List (Nat×Nat)) (Fr:List Nat),ts≠ [] ∧F=K.1::Fr∧H[K.1]?=some (.cells C e (0,0)) ∧C.size=K.2.2∧ (∀j,j<ts.length→C[K.2.1+j]?= (ad.map adr)[j]?) ∧TsAt imm H ad ts Fr)
def ZV (us:List (Nat×Nat))(ts:List (Option XT)) :ZP:=fun F _ imm H=>F.Nodup∧OsAt imm H us ts F
def eY (us:List (Nat×Nat))(ts:List (Option XT))(i:Nat) :ZP:=fun F Ks imm H=>F.Nodup∧OsAt imm H us ts F∧ts[i]?=some none∧∃K:Nat×Nat×Nat,Ks= [K] ∧us[i]?=some (K.1,K.2.1)
def Z1 (t:XT) :ZP:=fun F Ks imm H=>F.Nodup∧∃K:Nat×Nat×Nat,Ks= [K] ∧TAt imm H (K.1,K.2.1) t F
theorem vF {E:Emb}{H:Array Obj}{F:List Nat}{b sz:Nat}{rs:List Nat}{Ls:List Loc}{Z:ZP}(d:map E.loc rs=map some Ls)(hb:∀i∈F,∃C e,H[i]?=some (.cells C e (0,0)))
  (hz:∀ (a:Imm) (c:Array Obj),Imm.le E.imm a→ (∀i∈F,c[i]?=H[i]?) →Z F (map (fun K=> (K.blk,K.sh,K.sz)) Ls) a c) :OR E H ⟨jD F,b,sz⟩ (.zone true rs Z) :=by
 have f:fpz true ⟨jD F,b,sz⟩ =F:=aIo F;show(∀i∈fpz true ⟨jD F,b,sz⟩,_) ∧_;rw [f];exact⟨hb,Ls,d,hz⟩
theorem zone_own {F:List Nat}{a sz:Nat}{rs:List Nat}{Z:ZP}{i:Nat}:Own (.zone true rs Z) ⟨jD F,a,sz⟩ i↔i∈F:=by
 show i∈fpz true ⟨jD F,a,sz⟩ ↔_;rw [show fpz true ⟨jD F,a,sz⟩ =F from aIo F]
theorem aSx {E:Emb}{H:Array Obj}{L:Loc}:OR E H L gh:= ⟨fun i a=> (by cases a),[],rfl,fun _ _ _ _=>trivial⟩
theorem lJ {L:Loc}{i:Nat}:¬Own gh L i:=fun h=>by cases h
theorem gJ {E:Emb}{H:Array Obj}{L:Loc}{rs:List Nat}{Z:ZP}(r:OR E H L (.zone true rs Z)) :∃a:List Loc,map E.loc rs=map some a∧Z (jK L.blk) (map (fun K=> (K.blk,K.sh,K.sz)) a) E.imm H:=by
 obtain⟨_,a,c,b⟩ :=r;exact⟨a,c,b E.imm H (fun _ _ e=>e) (fun _ _=>rfl)⟩
def kV (h h':Hp) :Prop:=∀ (E:Emb) (w:World),Rel E h w.heap→∃E',E.le E'∧Rel E' h' w.heap∧∀m,m≤h.nb→ExtM m E h w E' h' w
theorem aMV {m:Nat}{fr:AFrame}{cs:List AFrame}{h h':Hp}(z:kV h h') :LeadsM P m ⟨fr,cs,h⟩ ⟨fr,cs,h'⟩ :=fun hm E e a w b f fs r=>by
 obtain⟨d,c,i,g⟩ :=z E w r;exact⟨d,e,a,w,Steps.refl _ _,f.mono c,fs.mono c,i,g m hm⟩
def aA1 {α:Type}(h:Hp)(ok:α→Prop)(h':α→Hp) :Prop:=∀ (E:Emb) (w:World),Rel E h w.heap→∃x E',ok x∧E.le E'∧Rel E' (h' x) w.heap∧∀m,m≤h.nb→ExtM m E h w E' (h' x) w
theorem aMW {g:Type}{m:Nat}{fr:AFrame}{cs:List AFrame}{h:Hp}{ok:g→Prop}{h':g→Hp}{b:Res}{hf:Hp}(z:aA1 h ok h')(k:∀x,ok x→Ends P m ⟨fr,cs,h' x⟩ b hf) :Ends P m ⟨fr,cs,h⟩ b hf:=fun hm E j c w f fs r y a=>by
 obtain⟨x,l,o,i,u,p⟩ :=z E w r;have e:=p m hm;obtain⟨d,s,t,A,v,q,n⟩ :=k x o e.nb l j c w (f.mono i) (fs.mono i) u y a;exact⟨d,s,t,A,v,q,e.trans n⟩
theorem Rel.noMeet {E:Emb}{h:Hp}{H:Array Obj}(r:Rel E h H){b a:Nat}{o o':AObj}{L L':Loc}(e:h.look b=some o)(f:h.look a=some o')(k:E b=some L)(d:E a=some L')(c:b≠a)(h1:bW o= [] :=by rfl)(h2:bW o'= [] :=by rfl) :¬Meet o o' L L':=fun hm=>by
 rcases r.kin b a o o' L L' e f k d hm c with⟨g,_⟩ | ⟨g,_⟩
 ·rw [h1]at g;cases g
 ·rw [h2]at g;cases g
def vls (us:List (Nat×Nat)) :List AV:=map (fun a=>AV.val (adr a)) us
theorem vls_vrs {E:Emb}:∀ {b:List (Nat×Nat)} {a:List Value},VRs E (vls b) a↔a=b.map adr
 | [],a=>by simp [vls,VRs]
 | u::b,a=>by
  simp only [vls,dJ,VRs,VR];constructor
  ·rintro⟨v,c,rfl,rfl,h⟩;rw [vls_vrs.1 h]
  ·intro h;exact⟨_,_,h,rfl,vls_vrs.2 rfl⟩
theorem aKk (a:Nat×Nat) :okE 1 (adr a) := ⟨rfl,fun c hc=>by simp [adr,Value.cells]at hc;subst hc;rfl⟩
theorem mG :∀a:List (Nat×Nat),flat (a.map adr) =a.map adr
 | [] =>rfl
 | u::a=>by
  have:=mG a;unfold flat at this ⊢;simp only [dJ,List.flatMap_cons,this];rfl
theorem aDl {h h':Hp}{k g:Nat}{us:List (Nat×Nat)}{ts:List XT}(hk:h.look k=some (.lst 1 (vls us)))(l:h.look g=some (.zone true [] (ZV us (ts.map some))))(q:ts≠ [])(I:h.nb<h'.nb)
  (hl:∀b o,h'.look b=some o→ (b=k∧o=gh) ∨ (b=h.nb∧o= .zone true [k] (cQ ts)) ∨ (b≠k∧b≠g∧h.look b=some o)) :kV h h':=fun E w r=>by
 have G:k≠g:=fun e=>by subst e;rw [hk]at l;cases l
 obtain⟨x,J,g2⟩ :=r.obj g _ l;obtain⟨Ls,_,D,A⟩ :=gJ g2;have n:=os_ts.1 A;have t:us.length=ts.length:=n.len;have hu:lN (.lst 1 (vls us)) =false:=by
  cases us with
  |nil=>exact absurd (zq35.1 t.symm) q
  |cons u us=>rfl
 obtain⟨p,v,C,M,vs,N,W,z,c4,c5⟩ :=r.obj k _ hk hu;have z:=vls_vrs.1 z;subst z;have B:p.blk∉jK x.blk:=fun d=>r.noMeet hk l v J G rfl rfl ⟨_,rfl,d⟩
 let E':=E.put h.nb ⟨jD (p.blk::jK x.blk),0,0⟩
 have X:=r.keys k _ hk;have V:=r.keys g _ l;have y:∀ {b},b≠h.nb→E' b=E b:=fun hb=>Emb.put_ne _ _ hb;have Y:E.le E':=Emb.le_put (r.fresh _ (le_refl _));have m:OR E' w.heap ⟨jD (p.blk::jK x.blk),0,0⟩ (.zone true [k] (cQ ts)) :=by
  refine vF (Ls:=[p]) (by simp only [dJ,map_nil,List.cons.injEq,and_true];rw [show E'.loc k=E.loc k from y (by omega)];exact v) (fun i a=>?_) (fun H H' a K=> ⟨List.nodup_cons.2 ⟨B,D⟩,_,rfl,.inr ⟨C,M,us,_,q,rfl,by rw [K _ (dT ..)];exact N,W,fun j hj=>?_,TsAt.go a ts us _ n (fun i a=>K i (eD _ a))⟩⟩)
  · rcases zq7.1 a with rfl|a
    ·exact⟨C,M,N⟩
    ·exact TsAt.blk ts us _ n i a
  · have:=c5 j (by rw [hJ];omega);rw [this,mG]
 obtain⟨O,q2,S⟩ :=r.swap (E':=E') (h':=h') (fun b=>b≠k∧b≠g) (le_of_lt I) (fun b hb=>y (by omega)) rfl (fun b hb=>by rw [y (by omega)];exact r.fresh b (by omega))
  (fun b o e hb=>by
   by_cases f:b=k
   ·subst f;rw [hk]at e;cases e;exact⟨rfl,rfl⟩
   · have c:b=g:=Classical.not_not.1 (fun c=>hb ⟨f,c⟩);subst c;rw [l]at e;cases e;exact⟨rfl,rfl⟩)
  (fun b o e=>by
   rcases hl b o e with⟨rfl,rfl⟩ | ⟨rfl,rfl⟩ | ⟨f,c,s⟩
   ·exact .inr ⟨by omega,rfl,rfl,fun _=> ⟨fun d=>d.1 rfl,_,hk⟩,p,by rw [y (by omega)];exact v,aSx,fun i a=>absurd a lJ⟩
   · refine .inr ⟨I,rfl,rfl,fun d=>absurd d (lt_irrefl _),_,Emb.put_same _ _ _,m,fun i a=>?_⟩;rw [zone_own]at a;rcases zq7.1 a with rfl|a
     ·exact⟨k,_,p,fun d=>d.1 rfl,hk,v,rfl⟩
     ·exact⟨g,_,x,fun d=>d.2 rfl,l,J,a⟩
   ·exact .inl ⟨⟨f,c⟩,s⟩)
  (fun b Q o R L L' n1 T e U k k' F hm=>by
   obtain⟨i,i1,Z⟩ :=hm;rcases hl b o e with⟨rfl,rfl⟩ | ⟨rfl,rfl⟩ | ⟨f,c,s⟩
   ·exact lJ i1
   · rcases hl Q R U with⟨rfl,rfl⟩ | ⟨rfl,rfl⟩ | ⟨f,c,s⟩
     ·exact lJ Z
     ·exact F rfl
     ·exact T ⟨⟨f,c⟩,s⟩
   ·exact n1 ⟨⟨f,c⟩,s⟩)
 exact⟨E',O,q2,S⟩
def ndC (op n:Int)(kv:AV)(pv:AV) :AObj:=.cells (putCells .leaf 0 [.int .i64 op,.int .i64 n,kv,pv]) 4 [] false
theorem aKl {E:Emb}{H:Array Obj}{L:Loc}{op n:Int}{kv pv:AV}(r:OR E H L (ndC op n kv pv)) :∃C e k p,H[L.blk]?=some (.cells C e (0,0)) ∧C.size=L.sz∧C[L.sh]?=some (.int .i64 op) ∧C[L.sh+1]?=some (.int .i64 n) ∧C[L.sh+2]?=some k∧VR E kv k∧C[L.sh+3]?=some p∧VR E pv p:=by
 obtain⟨C,e,q,j,a⟩ :=r;obtain⟨_,s,h,b⟩ :=a 0 (.int .i64 op) (by rw [bH];rfl);obtain⟨_,t,i,c⟩ :=a 1 (.int .i64 n) (by rw [bH];rfl);obtain⟨_,l,m,g⟩ :=a 2 kv (by rw [bH];rfl);obtain⟨_,o,f,d⟩ :=a 3 pv (by rw [bH];rfl);simp only [VR]at b c;subst b c;exact⟨C,e,l,o,q,j,h,i,m,g,f,d⟩
theorem bGi {E:Emb}{H:Array Obj}{L:Loc}{op n:Int}{kv pv:AV}{C:Array Value}{e:TypeId}{k p:Value}(h1:H[L.blk]?=some (.cells C e (0,0)))(h2:C.size=L.sz)(g:C[L.sh]?=some (.int .i64 op))(f:C[L.sh+1]?=some (.int .i64 n))(h:C[L.sh+2]?=some k)(b2:VR E kv k)(d:C[L.sh+3]?=some p)(c:VR E pv p) :OR E H L (ndC op n kv pv) :=by
 refine⟨C,e,h1,h2,fun i a b=>?_⟩;rw [bH]at b;split at b
 · match i,b with
   |0,b=>cases b;exact⟨by omega,_,g,by simp only [VR]⟩
   |1,b=>cases b;exact⟨by omega,_,f,by simp only [VR]⟩
   |2,b=>cases b;exact⟨by omega,_,h,b2⟩
   |3,b=>cases b;exact⟨by omega,_,d,c⟩
   |n+4,b=>rename_i hl;simp at hl;omega
 ·cases b
theorem VR.emI {E:Emb}{a:AV}{v:Value}(hk:keyless a=true)(h:VR E a v) :VR (Hb.emI E.imm) a v:=gR hk h
theorem VR.of_emI {E:Emb}{a:AV}{v:Value}(h:VR (Hb.emI E.imm) a v) :VR E a v:=VR.of_p h
theorem aSy {E:Emb}{H:Array Obj}{f c:Loc}{op n:Int}{k:Nat}{len:Nat}{ex:Bool}{pv:AV}{ps:List Pat}{ks:List XT}{F:List Nat}(hk:E k=some c)(r:OR E H f (ndC op n (.gl k 1 0 len ex) pv))(b:len=ks.length)(hp:∀E v,VR E pv v→VR E (.ilst 4 (Pats.av ps) false) v)
  (hz:cQ ks F [(c.blk,c.sh,c.sz)] E.imm H) :TAt E.imm H (f.blk,f.sh) (.mk op n ks ps) (f.blk::F) :=by
 obtain⟨C,e,z,p,u,V,s,G,M,h,t,T⟩ :=aKl r;obtain⟨_,K,hK,hz⟩ :=hz;cases hK;simp only [TAt];refine⟨C,e,z,p,F,u,s,G,M,t,VR.emI (by simp [keyless]) (hp E p T),rfl,?_⟩;simp only [VR]at h;rcases hz with⟨rfl,rfl⟩ | ⟨I,B,R,A,m,O,w,S,y,o⟩
 · refine .inl ⟨rfl,rfl,?_⟩;simp only [length_nil]at b;rcases h with⟨_,a,q⟩ | ⟨L,a,d,i,g,J,Q,l⟩
   ·exact .inl ⟨a,q⟩
   ·rw [b]at g;exact .inr ⟨(L.blk,a),d,g⟩
 · have D:0<ks.length:=List.length_pos_iff.2 m;rcases h with⟨U,a,q⟩ | ⟨L,a,d,i,g,J,Q,l⟩
   ·omega
   · rw [hk]at i;cases i;obtain⟨x,W⟩ :=l (by omega);refine .inr ⟨(c.blk,a),d,I,B,R,A,by rw [←b];exact g,m,by omega,?_,w,o.len,fun j N=>?_,O,o⟩
     ·simp only at S ⊢;omega
     · have:=y j N;simp only at this ⊢;rw [x,show c.sh+0*1+j=c.sh+j by omega];exact this
theorem tI {h h':Hp}{g:Nat}{us:List (Nat×Nat)}{ts:List (Option XT)}{i:Nat}{u:Nat×Nat}{op n:Int}{ks:List XT}{ps:List Pat}(J:h.look g=some (.zone true [] (ZV us ts)))(hu:us[i]?=some u)(ht:ts[i]?=some (some (.mk op n ks ps)))(hn:h'.nb=h.nb+4)
  (hl:∀b o,h'.look b=some o→ (b=h.nb∧o=ndC op n (.gl (h.nb+1) 1 0 ks.length false) (.ilst 4 (Pats.av ps) false)) ∨ (b=h.nb+1∧o=gh) ∨ (b=h.nb+2∧o= .zone true [h.nb+1] (cQ ks)) ∨ (b=h.nb+3∧o= .zone true [h.nb] (eY us (ts.set i none) i)) ∨ (b≠g∧h.look b=some o))
  {m:Nat} (hm:m≤h.nb) :rN m h h' (.val (adr u)) (.ptr h.nb 0) :=fun E w r=>by
 obtain⟨U,g1,g2⟩ :=r.obj g _ J;obtain⟨Ls,_,Q,M⟩ :=gJ g2;obtain⟨a,F1,s,o1,o2,o3,o4⟩ :=M.out ht;rw [hu]at o1;cases o1;have D:= (o4.nodup_iff).2 Q;obtain⟨B,W,z⟩ :=List.nodup_append.1 D;simp only [TAt]at o2;obtain⟨C,e,kv,pv,Fk,t1,t2,t3,t4,t5,t6,rfl,t8⟩ :=o2;obtain⟨Kk,k1,k2⟩ :∃Kk:Loc,(∀E:Emb,E (h.nb+1) =some Kk→VR E (.gl (h.nb+1) 1 0 ks.length false) kv) ∧∀ (d:Imm) (H':Array Obj),Imm.le E.imm d→ (∀i∈Fk,H'[i]?=w.heap[i]?) →cQ ks Fk [(Kk.blk,Kk.sh,Kk.sz)] d H':=by
  rcases t8 with⟨rfl,rfl,x⟩ | ⟨b,l,X,ek,I,K,x1,x0,x2,x3,T,x5,x6,rfl,O⟩
  · rcases x with⟨b,rfl⟩ | ⟨b,l,rfl⟩
    ·exact⟨⟨0,0,0⟩,fun E _=>by simp only [VR];exact .inl ⟨rfl,b,rfl⟩,fun _ _ _ _=> ⟨nodup_nil,_,rfl,.inl ⟨rfl,rfl⟩⟩⟩
    ·exact⟨⟨b.1,b.2,b.2+l⟩,fun E hE=>by simp only [VR];exact .inr ⟨_,b.2,l,hE,rfl,by simp,fun h=>by(cases h),fun _=> ⟨by simp,by simp⟩⟩,fun _ _ _ _=> ⟨nodup_nil,_,rfl,.inl ⟨rfl,rfl⟩⟩⟩
  · exact⟨⟨b.1,b.2,X.size⟩,fun E hE=>by simp only [VR];exact .inr ⟨_,b.2,l,hE,x1,x2,fun h=>by(cases h),fun _=> ⟨by simp,by simp only [mul_one];exact x3⟩⟩,
     fun d H' c y=> ⟨(List.nodup_cons.1 B).2,_,rfl,.inr ⟨X,ek,I,K,x0,rfl,by rw [y _ (dT ..)];exact T,rfl,fun j hj=>x6 j hj,TsAt.go c ks I K O (fun i c=>y i (eD _ c))⟩⟩⟩
 have hFk:∀i∈Fk,∃C e,w.heap[i]?=some (.cells C e (0,0)) :=fun i c=>by
  rcases t8 with⟨rfl,rfl,x⟩ | ⟨b,l,X,ek,I,K,x1,x0,x2,x3,T,x5,x6,rfl,O⟩
  ·cases c
  · rcases zq7.1 c with rfl|c
    ·exact⟨_,_,T⟩
    ·exact TsAt.blk ks I K O i c
 let E':Emb:= ⟨fun b=>if b=h.nb then some ⟨u.1,u.2,C.size⟩else if b=h.nb+1 then some Kk else if b=h.nb+2 then some ⟨jD Fk,0,0⟩else if b=h.nb+3 then some ⟨jD s,0,0⟩else E b,E.imm⟩
 have G:E' h.nb=some ⟨u.1,u.2,C.size⟩ :=if_pos rfl;have V:E' (h.nb+1) =some Kk:=by simp [E']
 have e2:E' (h.nb+2) =some ⟨jD Fk,0,0⟩ :=by simp [E']
 have e3:E' (h.nb+3) =some ⟨jD s,0,0⟩ :=by simp [E']
 have eo:∀ {b},b<h.nb∨h.nb+4≤b→E' b=E b:=fun {b} hb=>by
  simp only [E'];rw [if_neg (by omega),if_neg (by omega),if_neg (by omega),if_neg (by omega)]
 have hgb:=r.keys g _ J
 have t:∀ {i},i=u.1∨i∈Fk∨i∈s→i∈jK U.blk:=fun {i} c=>by
  refine(o4.mem_iff).1 ?_;rcases c with rfl|c|c
  ·simp
  ·simp [c]
  ·simp [c]
 have d1:u.1∉Fk:= (List.nodup_cons.1 B).1;have H:∀ {i},i∈s→i≠u.1∧i∉Fk:=fun {i} c=> ⟨fun f=>z u.1 (dT ..) i c f.symm,fun f=>z i (eD _ f) i c rfl⟩;have A: (ts.set i none)[i]?=some none:=by
  rw [getElem?_set,if_pos rfl,if_pos (zq0.1 ht).1]
 have oc:OR E' w.heap ⟨u.1,u.2,C.size⟩ (ndC op n (.gl (h.nb+1) 1 0 ks.length false) (.ilst 4 (Pats.av ps) false)) :=bGi t1 rfl t2 t3 t4 (k1 E' V) t5 (VR.of_emI (E:=E') t6);have oz:OR E' w.heap ⟨jD Fk,0,0⟩ (.zone true [h.nb+1] (cQ ks)) :=vF (Ls:=[Kk]) (by simp only [dJ,map_nil,List.cons.injEq,and_true];exact V) hFk (fun d H' c y=>k2 d H' c y);have oh:OR E' w.heap ⟨jD s,0,0⟩ (.zone true [h.nb] (eY us (ts.set i none) i)) :=vF (Ls:=[⟨u.1,u.2,C.size⟩]) (by simp only [dJ,map_nil,List.cons.injEq,and_true];exact G) (OsAt.blk _ us s o3) (fun d H' c y=> ⟨W,OsAt.go c _ us s o3 y,A,_,rfl,hu⟩)
 have F:∀ {b o L},h'.look b=some o→E' b=some L→¬ (b≠g∧h.look b=some o) → (b=h.nb∧o=ndC op n (.gl (h.nb+1) 1 0 ks.length false) (.ilst 4 (Pats.av ps) false) ∧L= ⟨u.1,u.2,C.size⟩) ∨ (b=h.nb+1∧o=gh) ∨ (b=h.nb+2∧o= .zone true [h.nb+1] (cQ ks) ∧L= ⟨jD Fk,0,0⟩) ∨ (b=h.nb+3∧o= .zone true [h.nb] (eY us (ts.set i none) i) ∧L= ⟨jD s,0,0⟩) :=fun {b o L} e k hb=>by
  rcases hl b o e with⟨rfl,rfl⟩ | ⟨rfl,rfl⟩ | ⟨rfl,rfl⟩ | ⟨rfl,rfl⟩ |Z
  ·rw [G]at k;cases k;exact .inl ⟨rfl,rfl,rfl⟩
  ·exact .inr (.inl ⟨rfl,rfl⟩)
  ·rw [e2]at k;cases k;exact .inr (.inr (.inl ⟨rfl,rfl,rfl⟩))
  ·rw [e3]at k;cases k;exact .inr (.inr (.inr ⟨rfl,rfl,rfl⟩))
  ·exact absurd Z hb
 obtain ⟨q1,q2,q3⟩ :=r.swap (E':=E') (h':=h') (fun b=>b≠g) (by omega) (fun b hb=>eo (.inl hb)) rfl (fun b hb=>by rw [eo (by omega)];exact r.fresh b (by omega))
  (fun b o e hb=>by
   have h2:b=g:=Classical.not_not.1 hb;subst h2;rw [J]at e;cases e;exact⟨rfl,rfl⟩)
  (fun b o e=>by
   have old:∀i,i∈jK U.blk→∃N o0 L0,¬ (fun b=>b≠g) N∧h.look N=some o0∧E N=some L0∧Own o0 L0 i:=fun i c=> ⟨g,_,U,fun f=>f rfl,J,g1,c⟩;rcases hl b o e with⟨rfl,rfl⟩ | ⟨rfl,rfl⟩ | ⟨rfl,rfl⟩ | ⟨rfl,rfl⟩ |Z
   ·exact .inr ⟨by omega,rfl,rfl,fun f=>absurd f (by omega),_,G,oc,fun i c=>old i (t (.inl (Eq.symm c)))⟩
   ·exact .inr ⟨by omega,rfl,rfl,fun f=>absurd f (by omega),_,V,aSx,fun i c=>absurd c lJ⟩
   ·exact .inr ⟨by omega,rfl,rfl,fun f=>absurd f (by omega),_,e2,oz,fun i c=>old i (t (.inr (.inl (zone_own.1 c))))⟩
   ·exact .inr ⟨by omega,rfl,rfl,fun f=>absurd f (by omega),_,e3,oh,fun i c=>old i (t (.inr (.inr (zone_own.1 c))))⟩
   ·exact .inl Z)
  (fun b b' o o' L L' n1 R e S k Y v hm=>by
   obtain⟨x,p,q⟩ :=hm;rcases F e k n1 with⟨rfl,rfl,rfl⟩ | ⟨rfl,rfl⟩ | ⟨rfl,rfl,rfl⟩ | ⟨rfl,rfl,rfl⟩
   · obtain rfl:u.1=x:=p;rcases F S Y R with⟨rfl,rfl,rfl⟩ | ⟨rfl,rfl⟩ | ⟨rfl,rfl,rfl⟩ | ⟨rfl,rfl,rfl⟩
     ·exact v rfl
     ·exact lJ q
     ·exact d1 (zone_own.1 q)
     ·exact(H (zone_own.1 q)).1 rfl
   ·exact lJ p
   · have p:=zone_own.1 p;rcases F S Y R with⟨rfl,rfl,rfl⟩ | ⟨rfl,rfl⟩ | ⟨rfl,rfl,rfl⟩ | ⟨rfl,rfl,rfl⟩
     · obtain rfl:u.1=x:=q;exact d1 p
     ·exact lJ q
     ·exact v rfl
     ·exact(H (zone_own.1 q)).2 p
   · have p:=zone_own.1 p;rcases F S Y R with⟨rfl,rfl,rfl⟩ | ⟨rfl,rfl⟩ | ⟨rfl,rfl,rfl⟩ | ⟨rfl,rfl,rfl⟩
     · obtain rfl:u.1=x:=q;exact(H p).1 rfl
     ·exact lJ q
     ·exact(H p).2 (zone_own.1 q)
     ·exact v rfl)
 refine⟨E',q1,q2,q3 m hm,fun cv hv=>?_⟩;simp only [VR]at hv ⊢;exact⟨_,G,by subst hv;rfl⟩
theorem tJ {E:Emb}{h h':Hp}{w:World}(r:Rel E h w.heap)(G:List Nat){rs:List Nat}{Z:ZP}{F:List Nat}{Ls:List Loc}(y:h.nb<h'.nb)
  (hl:∀b o,h'.look b=some o→ (b=h.nb∧o= .zone true rs Z) ∨ (b∈G∧o=gh∧∃L,E b=some L) ∨ (b∉G∧h.look b=some o))
  (u:∀b∈G,∃o,h.look b=some o∧bW o= [] ∧jO o=false) (p:map E.loc rs=map some Ls)
  (A:∀i∈F,(∃b∈G,∃o L,h.look b=some o∧E b=some L∧Own o L i) ∧∃C e,w.heap[i]?=some (.cells C e (0,0)))
  (hz:∀ (a:Imm) (z:Array Obj),Imm.le E.imm a→ (∀i∈F,z[i]?=w.heap[i]?) →Z F (map (fun K=> (K.blk,K.sh,K.sz)) Ls) a z) :
  ∃E',E.le E'∧Rel E' h' w.heap∧∀m,m≤h.nb→ExtM m E h w E' h' w:=by
 let E':=E.put h.nb ⟨jD F,0,0⟩
 have t:∀ {b},b≠h.nb→E' b=E b:=fun hb=>Emb.put_ne _ _ hb;have x:E.le E':=Emb.le_put (r.fresh _ (le_refl _));have s:∀b∈G,b<h.nb:=fun b hb=>by obtain⟨o,e,_⟩ :=u b hb;exact r.keys b o e
 have c:OR E' w.heap ⟨jD F,0,0⟩ (.zone true rs Z) :=vF (uB x.1 p) (fun i g=> (A i g).2) hz
 obtain⟨N,T,O⟩ :=r.swap (E':=E') (h':=h') (fun b=>b∉G) (le_of_lt y) (fun b hb=>t (by omega)) rfl (fun b hb=>by rw [t (by omega)];exact r.fresh b (by omega))
  (fun b o e hb=>by
   have hb:=Classical.not_not.1 hb;obtain⟨n,f,d,j⟩ :=u b hb;rw [e]at f;cases f;exact⟨d,j⟩)
  (fun b o e=>by
   rcases hl b o e with⟨rfl,rfl⟩ | ⟨d,rfl,L,j⟩ | ⟨d,j⟩
   · refine .inr ⟨y,rfl,rfl,fun l=>absurd l (lt_irrefl _),_,Emb.put_same _ _ _,c,fun i g=>?_⟩;obtain⟨⟨I,D,S,H,M,V,B⟩,_⟩ :=A i (zone_own.1 g);exact⟨I,S,H,fun l=>l D,M,V,B⟩
   · have:=s b d;refine .inr ⟨by omega,rfl,rfl,fun _=> ⟨fun l=>l d,?_⟩,L,by rw [t (by omega)];exact j,aSx,fun i g=>absurd g lJ⟩;obtain⟨n,f,_⟩ :=u b d;exact⟨n,f⟩
   ·exact .inl ⟨d,j⟩)
  (fun b J o n L Y U R e f k X q hm=>by
   obtain⟨i,W,Q⟩ :=hm;rcases hl b o e with⟨rfl,rfl⟩ | ⟨_,rfl,_⟩ |v
   · rcases hl J n f with⟨rfl,rfl⟩ | ⟨_,rfl,_⟩ |v
     ·exact q rfl
     ·exact lJ Q
     ·exact R v
   ·exact lJ W
   ·exact U v)
 exact⟨E',N,T,O⟩
theorem aGr {h h':Hp}{b k gk g:Nat}{us:List (Nat×Nat)}{ts:List (Option XT)}{i:Nat}{op n:Int}{ks:List XT}{ps:List Pat}{len:Nat}{ex:Bool}{pv:AV}(hb:h.look b=some (ndC op n (.gl k 1 0 len ex) pv))(p:len=ks.length)(hp:∀E v,VR E pv v→VR E (.ilst 4 (Pats.av ps) false) v)
  (d:h.look gk=some (.zone true [k] (cQ ks))) (f:h.look g=some (.zone true [b] (eY us ts i))) (s:gk≠g) (X:h.nb<h'.nb)
  (hl:∀x o,h'.look x=some o→ (x=h.nb∧o= .zone true [] (ZV us (ts.set i (some (.mk op n ks ps))))) ∨ (x∉ [b,gk,g] ∧h.look x=some o)) :kV h h':=fun E w r=>by
 obtain⟨l,q,b2⟩ :=r.obj b _ hb;obtain⟨C,N,k2⟩ :=r.obj gk _ d;obtain⟨A,u,g2⟩ :=r.obj g _ f;obtain⟨Q,S,B⟩ :=gJ k2;obtain⟨O,I,z2⟩ :=gJ g2;obtain⟨V,rfl⟩ :∃V,Q= [V] :=by
  obtain⟨_,K,hK,_⟩ :=B
  match Q,hK with
  | [x],_=>exact⟨x,rfl⟩
 obtain⟨H,t,M,K,hK,F⟩ :=z2;obtain⟨R,rfl⟩ :∃R,O= [R] :=by
  match O,hK with
  | [x],_=>exact⟨x,rfl⟩
 simp only [dJ,map_nil,List.cons.injEq,and_true]at S I hK;rw [q]at I;cases I;subst hK;have Z:=aSy S b2 p hp B;obtain⟨L,z,U⟩ :=t.put M Z (a:= (l.blk,l.sh));have D:us.set i (l.blk,l.sh) =us:=by
  apply List.ext_getElem?;intro j;rw [getElem?_set];split
  · rename_i hj;subst hj;split
    ·exact F.symm
    ·rename_i hl;rw [aBt (by omega)]at F;cases F
  ·rfl
 rw [D]at z;have J:b≠gk:=fun e=>by subst e;rw [hb]at d;cases d
 have m:b≠g:=fun e=>by subst e;rw [hb]at f;cases f
 have d1:l.blk∉jK C.blk:=fun G=>r.noMeet hb d q N J rfl rfl ⟨_,rfl,G⟩;have Y:l.blk∉jK A.blk:=fun G=>r.noMeet hb f q u m rfl rfl ⟨_,rfl,G⟩;have d3:∀x∈jK C.blk,x∉jK A.blk:=fun x h1 h2=>r.noMeet d f N u s rfl rfl ⟨x,h1,h2⟩;have nd:L.Nodup:=by
  refine(U.nodup_iff).2 (List.nodup_append.2 ⟨List.nodup_cons.2 ⟨d1,B.1⟩,H,fun x c y W e=>?_⟩);subst e;rcases zq7.1 c with rfl|c
  ·exact Y W
  ·exact d3 x c W
 refine tJ r [b,gk,g] (Ls:=[]) X (fun x o e=> (hl x o e).imp id .inr) (fun x c=>?_) rfl (fun x c=> ⟨?_,OsAt.blk _ us L z x c⟩) (fun T H' hi hH=> ⟨nd,OsAt.go hi _ us L z hH⟩)
 · rcases zq7.1 c with rfl|c
   ·exact⟨_,hb,rfl,rfl⟩
   · rcases zq7.1 c with rfl|c
     ·exact⟨_,d,rfl,rfl⟩
     ·rw [zq32.1 c];exact⟨_,f,rfl,rfl⟩
 · rcases zq28.1 ((U.mem_iff).1 c)with c|c
   · rcases zq7.1 c with rfl|c
     ·exact⟨b,by simp,_,l,hb,q,rfl⟩
     ·exact⟨gk,by simp,_,C,d,N,c⟩
   ·exact⟨g,by simp,_,A,f,u,c⟩
theorem aB4 {h h':Hp}{b k g:Nat}{us:List (Nat×Nat)}{op n:Int}{ts:List XT}{ps:List Pat}{len:Nat}{ex:Bool}{pv:AV}(hb:h.look b=some (ndC op n (.gl k 1 0 len ex) pv))(l:len=ts.length)(hp:∀E v,VR E pv v→VR E (.ilst 4 (Pats.av ps) false) v)
  (hk:h.look k=some (.lst 1 (vls us))) (m:h.look g=some (.zone true [] (ZV us (ts.map some)))) (X:h.nb<h'.nb)
  (hl:∀x o,h'.look x=some o→ (x=h.nb∧o= .zone true [b] (Z1 (.mk op n ts ps))) ∨ (x=b∧o=gh) ∨ (x∉ [b,k,g] ∧h.look x=some o)) :kV h h':=fun E w r=>by
 obtain⟨f,y,Y⟩ :=r.obj b _ hb;obtain⟨z,M,g2⟩ :=r.obj g _ m;obtain⟨Gs,n2,G,J⟩ :=gJ g2;have t:=os_ts.1 J;have W:=t.len;have V:b≠g:=fun e=>by subst e;rw [hb]at m;cases m
 have I:b≠k:=fun e=>by subst e;rw [hb]at hk;cases hk
 have R:k≠g:=fun e=>by subst e;rw [hk]at m;cases m
 have d2:f.blk∉jK z.blk:=fun A=>r.noMeet hb m y M V rfl rfl ⟨_,rfl,A⟩
 have hG:∀x∈ [b,k,g],∃o,h.look x=some o∧bW o= [] ∧jO o=false:=fun x c=>by
  rcases zq7.1 c with rfl|c
  ·exact⟨_,hb,rfl,rfl⟩
  · rcases zq7.1 c with rfl|c
    ·exact⟨_,hk,rfl,rfl⟩
    ·rw [zq32.1 c];exact⟨_,m,rfl,rfl⟩
 have D:∀x o,h'.look x=some o→ (x=h.nb∧o= .zone true [b] (Z1 (.mk op n ts ps))) ∨ (x∈ [b,k,g] ∧o=gh∧∃L,E x=some L) ∨ (x∉ [b,k,g] ∧h.look x=some o) :=fun x o e=>by
  rcases hl x o e with g| ⟨rfl,rfl⟩ |g
  ·exact .inl g
  ·exact .inr (.inl ⟨by simp,rfl,f,y⟩)
  ·exact .inr (.inr g)
 obtain⟨C,e,kv,p,O,c2,c3,c4,c5,c6,c7,c8⟩ :=aKl Y;simp only [VR]at c6;by_cases s:ts= []
 · subst s;simp only [length_nil]at l;subst l
   have N:∀ (d:Imm) (H':Array Obj),Imm.le E.imm d→ (∀i∈ [f.blk],H'[i]?=w.heap[i]?) →Z1 (.mk op n [] ps) [f.blk] (map (fun K=> (K.blk,K.sh,K.sz)) [f]) d H':=fun d H' S Q=>by
    refine⟨List.nodup_cons.2 ⟨by simp,nodup_nil⟩,_,rfl,?_⟩;simp only [TAt];refine⟨C,e,kv,p,[],by rw [Q _ (by simp)];exact O,c3,c4,c5,c7,(VR.emI (by simp [keyless]) (hp E p c8)).mono (aDj S),rfl,.inl ⟨trivial,rfl,?_⟩⟩;rcases c6 with⟨_,a,ha⟩ | ⟨L,a,U,_,h2,_⟩
    ·exact .inl ⟨a,ha⟩
    ·exact .inr ⟨(L.blk,a),U,h2⟩
   exact tJ r [b,k,g] (Ls:=[f]) X D hG (by simp only [dJ,map_nil,List.cons.injEq,and_true];exact y) (fun x c=>by
    rw [zq32]at c;subst c;exact⟨⟨b,by simp,_,f,hb,y,rfl⟩,C,e,O⟩) N
 · have hu:lN (.lst 1 (vls us)) =false:=by
    cases us with
    |nil=>exact absurd (zq35.1 W.symm) s
    |cons u us=>rfl
   obtain⟨q,H,Z,el,vs,x1,x2,T,x4,x5⟩ :=r.obj k _ hk hu;have T:=vls_vrs.1 T;subst T;have d1:q.blk∉jK z.blk:=fun A=>r.noMeet hk m H M R rfl rfl ⟨_,rfl,A⟩;have d3:f.blk≠q.blk:=fun A=>r.noMeet hb hk y H I rfl rfl ⟨_,A,rfl⟩
   have B:cQ ts (q.blk::jK z.blk) [(q.blk,q.sh,q.sz)] E.imm w.heap:= ⟨List.nodup_cons.2 ⟨d1,G⟩,_,rfl,.inr ⟨Z,el,us,_,s,rfl,x1,x2,fun j hj=>by
    have:=x5 j (by rw [hJ];omega);rw [this,mG],t⟩⟩
   have N:=aSy H Y l hp B;refine tJ r [b,k,g] (Ls:=[f]) (F:=f.blk:: (q.blk::jK z.blk)) X D hG (by simp only [dJ,map_nil,List.cons.injEq,and_true];exact y) (fun x c=>?_) (fun d H' S Q=> ⟨List.nodup_cons.2 ⟨?_,List.nodup_cons.2 ⟨d1,G⟩⟩,_,rfl,TAt.go S _ _ _ N Q⟩)
   · rcases zq7.1 c with rfl|c
     ·exact⟨⟨b,by simp,_,f,hb,y,rfl⟩,C,e,O⟩
     · rcases zq7.1 c with rfl|c
       ·exact⟨⟨k,by simp,_,q,hk,H,rfl⟩,Z,el,x1⟩
       ·exact⟨⟨g,by simp,_,z,m,M,c⟩,TsAt.blk ts us _ t x c⟩
   · intro c;rcases zq7.1 c with c|c
     ·exact d3 c
     ·exact d2 c
theorem aWN {h h':Hp}{b:Nat}{op n:Int}{ps:List Pat}{kv pv:AV}(hb:h.look b=some (ndC op n kv pv))(hk:∀E v,VR E kv v→∃a,v= .slice a 0 0)(hp:∀E v,VR E pv v→VR E (.ilst 4 (Pats.av ps) false) v)(y:h.nb<h'.nb)
  (hl:∀x o,h'.look x=some o→ (x=h.nb∧o= .zone true [b] (Z1 (.mk op n [] ps))) ∨ (x=b∧o=gh) ∨ (x∉ [b] ∧h.look x=some o)) :kV h h':=fun E w r=>by
 obtain⟨d,j,t⟩ :=r.obj b _ hb;obtain⟨C,e,k,p,l,H,s,A,B,q,u,G⟩ :=aKl t;obtain⟨a,D⟩ :=hk E k q
 have F:∀ (c:Imm) (H':Array Obj),Imm.le E.imm c→ (∀i∈ [d.blk],H'[i]?=w.heap[i]?) →Z1 (.mk op n [] ps) [d.blk] (map (fun K=> (K.blk,K.sh,K.sz)) [d]) c H':=fun c H' m z=>by
  refine⟨List.nodup_cons.2 ⟨by simp,nodup_nil⟩,_,rfl,?_⟩;simp only [TAt];exact⟨C,e,k,p,[],by rw [z _ (by simp)];exact l,s,A,B,u,(VR.emI (by simp [keyless]) (hp E p G)).mono (aDj m),rfl,.inl ⟨trivial,rfl,.inl ⟨a,D⟩⟩⟩
 exact tJ r [b] (rs:=[b]) (Ls:=[d]) y (fun x o e=>by
  rcases hl x o e with g| ⟨rfl,rfl⟩ |g
  ·exact .inl g
  ·exact .inr (.inl ⟨by simp,rfl,d,j⟩)
  · exact .inr (.inr g)) (fun x f=>by rw [zq32.1 f];exact⟨_,hb,rfl,rfl⟩) (by simp only [dJ,map_nil,List.cons.injEq,and_true];exact j) (fun x f=>by
    rw [zq32]at f;subst f;exact⟨⟨b,by simp,_,d,hb,j,rfl⟩,C,e,l⟩) F
theorem aDm {E:Emb}{h h':Hp}{w:World}(r:Rel E h w.heap)(G:List Nat){rs:List Nat}{Z:ZP}{F:List Nat}{Ls:List Loc}{kk:Nat}{ok:AObj}{Lk:Loc}(S:h.nb<h'.nb)
  (hl:∀b o,h'.look b=some o→ (b=h.nb∧o= .zone true rs Z) ∨ (b=kk∧o=ok) ∨ (b∈G∧o=gh∧∃L,E b=some L) ∨ (b∉G∧h.look b=some o))
  (Q:∀b∈G,∃o,h.look b=some o∧bW o= [] ∧jO o=false) (D:map E.loc rs=map some Ls)
  (y:kk∈G) (A:E kk=some Lk) (p:bW ok= [] ∧jO ok=false) (O:OR E w.heap Lk ok) (j:∀i,Own ok Lk i→i∉F∧∃b∈G,∃o L,h.look b=some o∧E b=some L∧Own o L i)
  (W:∀i∈F,(∃b∈G,∃o L,h.look b=some o∧E b=some L∧Own o L i) ∧∃C e,w.heap[i]?=some (.cells C e (0,0)))
  (hz:∀ (d:Imm) (V:Array Obj),Imm.le E.imm d→ (∀i∈F,V[i]?=w.heap[i]?) →Z F (map (fun K=> (K.blk,K.sh,K.sz)) Ls) d V) :
  ∃E',E.le E'∧Rel E' h' w.heap∧∀m,m≤h.nb→ExtM m E h w E' h' w:=by
 let E':=E.put h.nb ⟨jD F,0,0⟩
 have v:∀ {b},b≠h.nb→E' b=E b:=fun hb=>Emb.put_ne _ _ hb;have z:E.le E':=Emb.le_put (r.fresh _ (le_refl _));have u:∀b∈G,b<h.nb:=fun b hb=>by obtain⟨o,e,_⟩ :=Q b hb;exact r.keys b o e
 have hkb:=u kk y;have f:OR E' w.heap ⟨jD F,0,0⟩ (.zone true rs Z) :=vF (uB z.1 D) (fun i g=> (W i g).2) hz
 obtain ⟨q1,q2,q3⟩ :=r.swap (E':=E') (h':=h') (fun b=>b∉G) (le_of_lt S) (fun b hb=>v (by omega)) rfl (fun b hb=>by rw [v (by omega)];exact r.fresh b (by omega))
  (fun b o e hb=>by
   have hb:=Classical.not_not.1 hb;obtain⟨q,l,c,s⟩ :=Q b hb;rw [e]at l;cases l;exact⟨c,s⟩)
  (fun b o e=>by
   have old:∀ {b},b∈G→b<h.nb→¬ (fun b=>b∉G) b∧∃o0,h.look b=some o0:=fun {b} c _=> ⟨fun a=>a c,by obtain⟨q,l,_⟩ :=Q b c;exact⟨q,l⟩⟩;rcases hl b o e with⟨rfl,rfl⟩ | ⟨rfl,rfl⟩ | ⟨c,rfl,L,s⟩ | ⟨c,s⟩
   · refine .inr ⟨S,rfl,rfl,fun a=>absurd a (lt_irrefl _),_,Emb.put_same _ _ _,f,fun i g=>?_⟩;obtain⟨⟨M,I,o0,J,N,R,H⟩,_⟩ :=W i (zone_own.1 g);exact⟨M,o0,J,fun a=>a I,N,R,H⟩
   · refine .inr ⟨by omega,p.1,p.2,old y,Lk,by rw [v (by omega)];exact A,O.mono z,fun i g=>?_⟩;obtain⟨_,M,I,o0,J,N,R,H⟩ :=j i g;exact⟨M,o0,J,fun a=>a I,N,R,H⟩
   · have:=u b c;exact .inr ⟨by omega,rfl,rfl,old c,L,by rw [v (by omega)];exact s,aSx,fun i g=>absurd g lJ⟩
   ·exact .inl ⟨c,s⟩)
  (fun b T o q L L' n1 U e l k Y t hm=>by
   obtain⟨i,B,n⟩ :=hm;have lz:∀ {L:Loc},E' h.nb=some L→L= ⟨jD F,0,0⟩ :=fun a=>by rw [Emb.put_same]at a;cases a;rfl
   have X:∀ {L:Loc},E' kk=some L→L=Lk:=fun a=>by rw [v (by omega),A]at a;cases a;rfl
   rcases hl b o e with⟨rfl,rfl⟩ | ⟨rfl,rfl⟩ | ⟨_,rfl,_⟩ |x
   · rcases hl T q l with⟨rfl,rfl⟩ | ⟨rfl,rfl⟩ | ⟨_,rfl,_⟩ |x
     ·exact t rfl
     · rw [lz k]at B;rw [X Y]at n;exact(j i n).1 (zone_own.1 B)
     ·exact lJ n
     ·exact U x
   · rcases hl T q l with⟨rfl,rfl⟩ | ⟨rfl,rfl⟩ | ⟨_,rfl,_⟩ |x
     · rw [X k]at B;rw [lz Y]at n;exact(j i B).1 (zone_own.1 n)
     ·exact t rfl
     ·exact lJ n
     ·exact U x
   ·exact lJ B
   ·exact n1 x)
 exact⟨E',q1,q2,q3⟩
theorem aKm {E:Emb}{H:Array Obj}{L:Loc}{C:Array Value}{b:TypeId}{us:List (Nat×Nat)}(h1:H[L.blk]?=some (.cells C b (0,0)))(h2:C.size=L.sz)(e:∀j,j<us.length→C[L.sh+j]?= (us.map adr)[j]?) :OR E H L (.lst 1 (vls us)) :=
 ⟨C,b,us.map adr,h1,h2,vls_vrs.2 rfl,fun u c=>by obtain⟨a,_,rfl⟩ :=zq24.1 c;exact aKk a,fun j d=>by rw [mG];exact e j (by rw [hJ]at d;omega)⟩
theorem yM {h:Hp}{h':List (Nat×Nat) →Hp}{k g:Nat}{o:AObj}{ts:List XT}(hk:h.look k=some o)(O:o=gh)(l:h.look g=some (.zone true [k] (cQ ts)))(p:ts≠ [])(H:∀a,h.nb< (h' a).nb)
  (hl:∀a b o,(h' a).look b=some o→ (b=h.nb∧o= .zone true [] (ZV a (ts.map some))) ∨ (b=k∧o= .lst 1 (vls a)) ∨ (b∉ [k,g] ∧h.look b=some o)) :aA1 h (fun a=>a.length=ts.length) h':=fun E w r=>by
 subst O;obtain⟨n,z,M⟩ :=r.obj g _ l;obtain⟨Ls,D,d,K,hK,hz⟩ :=gJ M;obtain⟨Lk,rfl⟩ :∃Lk,Ls= [Lk] :=by
  match Ls,hK with
  | [x],_=>exact⟨x,rfl⟩
 simp only [dJ,map_nil,List.cons.injEq,and_true]at D hK;subst hK;rcases hz with⟨Q,_⟩ | ⟨C,e,a,s,_,m,B,A,y,u⟩
 ·exact absurd Q p
 · rw [m]at d;obtain⟨f,q⟩ :=List.nodup_cons.1 d;simp only at B A y f m;have t:=u.len
   obtain⟨G,I,N,J⟩ :=aDm (h':=h' a) r [k,g] (rs:=[]) (Z:=ZV a (ts.map some)) (F:=s) (Ls:=[]) (kk:=k) (ok:=.lst 1 (vls a)) (Lk:=Lk) (H a) (fun b o e=>by
    rcases hl a b o e with g|g|g
    ·exact .inl g
    ·exact .inr (.inl g)
    · exact .inr (.inr (.inr g))) (fun b hb=>by
      rcases zq7.1 hb with rfl|hb
      ·exact⟨_,hk,rfl,rfl⟩
      ·rw [zq32.1 hb];exact⟨_,l,rfl,rfl⟩) rfl (by simp) D ⟨rfl,rfl⟩ (aKm B A (fun j S=>y j (by omega))) (fun i c=>by
      obtain rfl:Lk.blk=i:=c;exact⟨f,g,by simp,_,n,l,z,by show _∈jK n.blk;rw [m];simp⟩) (fun i c=> ⟨⟨g,by simp,_,n,l,z,by show _∈jK n.blk;rw [m];simp [c]⟩,TsAt.blk ts a s u i c⟩)
      (fun v R c L=> ⟨q,os_ts.2 (TsAt.go c ts a s u L)⟩)
   exact⟨a,G,t,I,N,J⟩
theorem aKn {h:Hp}{h':Nat×Nat→Hp}{k g gz z:Nat}{us:List (Nat×Nat)}{ts:List (Option XT)}{i:Nat}{t:XT}(hk:h.look k=some (.lst 1 ((vls us).set i (.ptr z 0))))(l:h.look g=some (.zone true [] (ZV us ts)))(hz:h.look gz=some (.zone true [z] (Z1 t)))(U:ts[i]?=some none)(B:g≠gz)(hn:∀u,h.nb< (h' u).nb)
  (hl:∀u b o,(h' u).look b=some o→ (b=h.nb∧o= .zone true [] (ZV (us.set i u) (ts.set i (some t)))) ∨ (b=k∧o= .lst 1 (vls (us.set i u))) ∨ (b∉ [k,g,gz] ∧h.look b=some o)) :aA1 h (fun _=>True) h':=fun E w r=>by
 obtain⟨O,J,g2⟩ :=r.obj g _ l;obtain⟨Ls,_,H,m⟩ :=gJ g2;obtain⟨M,Q,z2⟩ :=r.obj gz _ hz;obtain⟨Y,W,zd,K,hK,hT⟩ :=gJ z2;obtain⟨c,rfl⟩ :∃c,Y= [c] :=by
  match Y,hK with
  | [x],_=>exact⟨x,rfl⟩
 simp only [dJ,map_nil,List.cons.injEq,and_true]at W hK;subst hK;have p:i<us.length:=by
  have:= (zq0.1 U).1;rw [m.len];exact this
 have hu:lN (.lst 1 ((vls us).set i (.ptr z 0))) =false:=by
  cases us with
  |nil=>simp at p
  |cons u us=>cases i<;>rfl
 obtain⟨Lk,A,C,el,vs,x1,x2,D,x4,x5⟩ :=r.obj k _ hk hu;have N:vs= (us.set i (c.blk,c.sh)).map adr:=by
  have:VRs E ((vls us).set i (.val (adr (c.blk,c.sh)))) vs:=by
   refine VRs.of_get (by rw [eG,D.length,eG]) (fun j a n=>?_);rw [getElem?_set]at n;split at n
   · rename_i f;subst f;have q:i< (vls us).length:=by simpa [vls]using p
     rw [if_pos q]at n;cases n;obtain⟨v,v1,X⟩ :=D.get i (.ptr z 0) (by rw [getElem?_set,if_pos rfl,if_pos q]);simp only [VR]at X ⊢;obtain⟨L,V,l2⟩ :=X;rw [W]at V;cases V;exact⟨v,v1,by rw [l2];rfl⟩
   · rename_i f;exact D.get j a (by rw [getElem?_set,if_neg f];exact n)
  have e: (vls us).set i (.val (adr (c.blk,c.sh))) =vls (us.set i (c.blk,c.sh)) :=by simp [vls,List.map_set]
  rw [e]at this;exact vls_vrs.1 this
 subst N;have R:k≠g:=fun e=>by subst e;rw [hk]at l;cases l
 have G:k≠gz:=fun e=>by subst e;rw [hk]at hz;cases hz
 have d1:Lk.blk∉jK O.blk:=fun d=>r.noMeet hk l A J R rfl rfl ⟨_,rfl,d⟩;have d2:Lk.blk∉jK M.blk:=fun d=>r.noMeet hk hz A Q G rfl rfl ⟨_,rfl,d⟩;have d3:∀x∈jK M.blk,x∉jK O.blk:=fun x h1 h2=>r.noMeet l hz J Q B rfl rfl ⟨x,h2,h1⟩;obtain⟨s,T,I⟩ :=m.put U hT;have nd:s.Nodup:= (I.nodup_iff).2 (List.nodup_append.2 ⟨zd,H,fun x hx y hy e=>by subst e;exact d3 x hx hy⟩)
 obtain ⟨E',q1,q2,q3⟩ :=aDm (h':=h' (c.blk,c.sh)) r [k,g,gz] (rs:=[]) (Z:=ZV (us.set i (c.blk,c.sh)) (ts.set i (some t))) (F:=s) (Ls:=[]) (kk:=k) (ok:=.lst 1 (vls (us.set i (c.blk,c.sh)))) (Lk:=Lk) (hn _) (fun b o e=>by
   rcases hl _ b o e with g|g|g
   ·exact .inl g
   ·exact .inr (.inl g)
   · exact .inr (.inr (.inr g))) (fun b hb=>by
     rcases zq7.1 hb with rfl|hb
     ·exact⟨_,hk,rfl,rfl⟩
     · rcases zq7.1 hb with rfl|hb
       ·exact⟨_,l,rfl,rfl⟩
       ·rw [zq32.1 hb];exact⟨_,hz,rfl,rfl⟩) rfl (by simp) A ⟨rfl,rfl⟩ (aKm x1 x2 (fun j f=>by have:=x5 j (by rw [hJ];omega);rw [this,mG])) (fun j f=>by
     obtain rfl:Lk.blk=j:=f;refine⟨fun d=>?_,k,by simp,_,Lk,hk,A,rfl⟩;rcases zq28.1 ((I.mem_iff).1 d)with d|d
     ·exact d2 d
     ·exact d1 d) (fun j f=>by
     refine⟨?_,OsAt.blk _ _ s T j f⟩;rcases zq28.1 ((I.mem_iff).1 f)with d|d
     ·exact⟨gz,by simp,_,M,hz,Q,d⟩
     ·exact⟨g,by simp,_,O,l,J,d⟩)
     (fun S H' hi hH=> ⟨nd,OsAt.go hi _ _ s T hH⟩)
 exact⟨_,E',trivial,q1,q2,q3⟩
theorem OsAt.add {b:Imm}{H:Array Obj}{a:Nat×Nat}{t:XT}{f:List Nat}(i:TAt b H a t f) :∀ {e:List (Option XT)} {d:List (Nat×Nat)} {F:List Nat},OsAt b H d e F→OsAt b H (d++ [a]) (e++ [some t]) (F++f)
 | [],d,F,h=>by
  simp only [OsAt]at h;obtain⟨rfl,rfl⟩ :=h;simp only [qW,OsAt];exact⟨a,[],f,[],rfl,by simp,i,rfl,rfl⟩
 | some n::e,d,F,h=>by
  simp only [OsAt]at h;obtain⟨g,c,l,k,rfl,rfl,m,j⟩ :=h;simp only [sT,OsAt];exact⟨g,c++ [a],l,k++f,rfl,by simp,m,OsAt.add i j⟩
 | none::e,d,F,h=>by
  simp only [OsAt]at h;obtain⟨g,c,rfl,j⟩ :=h;simp only [sT,OsAt];exact⟨g,c++ [a],rfl,OsAt.add i j⟩
theorem aEW {h:Hp}{h':Nat×Nat→Hp}{k g gz z:Nat}{us:List (Nat×Nat)}{ts:List (Option XT)}{t:XT}(hk:h.look k=some (.lst 1 (vls us++ [.ptr z 0])))(d:h.look g=some (.zone true [] (ZV us ts)))(hz:h.look gz=some (.zone true [z] (Z1 t)))(s:g≠gz)(V:∀u,h.nb< (h' u).nb)
  (hl:∀u b o,(h' u).look b=some o→ (b=h.nb∧o= .zone true [] (ZV (us++ [u]) (ts++ [some t]))) ∨ (b=k∧o= .lst 1 (vls (us++ [u]))) ∨ (b∉ [k,g,gz] ∧h.look b=some o)) :aA1 h (fun _=>True) h':=fun E w r=>by
 obtain⟨i,B,g2⟩ :=r.obj g _ d;obtain⟨Ls,_,I,A⟩ :=gJ g2;obtain⟨m,D,z2⟩ :=r.obj gz _ hz;obtain⟨R,Q,zd,K,hK,Y⟩ :=gJ z2;obtain⟨c,rfl⟩ :∃c,R= [c] :=by
  match R,hK with
  | [x],_=>exact⟨x,rfl⟩
 simp only [dJ,map_nil,List.cons.injEq,and_true]at Q hK;subst hK;have hu:lN (.lst 1 (vls us++ [.ptr z 0])) =false:=by cases us<;>rfl
 obtain⟨Lk,p,C,el,U,x1,W,S,x4,x5⟩ :=r.obj k _ hk hu;have J:U= (us++ [(c.blk,c.sh)]).map adr:=by
  have f:= (S.take us.length);have l:= (S.drop us.length);have hl: (vls us).length=us.length:=by simp [vls]
  rw [←hl,List.take_left]at f;rw [←hl,List.drop_left]at l;rw [hl]at f l;have f:=vls_vrs.1 f;obtain⟨v,vs',e,q,M⟩ :=l.cons_inv;have:=M.nil_inv;subst this;simp only [VR]at q;obtain⟨L,O,l2⟩ :=q;rw [Q]at O;cases O;rw [←List.take_append_drop us.length U,f,e,l2];simp [adr]
 subst J;have G:k≠g:=fun e=>by subst e;rw [hk]at d;cases d
 have H:k≠gz:=fun e=>by subst e;rw [hk]at hz;cases hz
 have d1:Lk.blk∉jK i.blk:=fun a=>r.noMeet hk d p B G rfl rfl ⟨_,rfl,a⟩;have X:Lk.blk∉jK m.blk:=fun a=>r.noMeet hk hz p D H rfl rfl ⟨_,rfl,a⟩;have d3:∀x∈jK m.blk,x∉jK i.blk:=fun x f l=>r.noMeet d hz B D s rfl rfl ⟨x,l,f⟩;have N:=A.add Y;have nd: (jK i.blk++jK m.blk).Nodup:=List.nodup_append.2 ⟨I,zd,fun x hx y hy e=>by subst e;exact d3 x hy hx⟩
 obtain ⟨E',q,M,q3⟩ :=aDm (h':=h' (c.blk,c.sh)) r [k,g,gz] (rs:=[]) (Z:=ZV (us++ [(c.blk,c.sh)]) (ts++ [some t])) (F:=jK i.blk++jK m.blk) (Ls:=[]) (kk:=k) (ok:=.lst 1 (vls (us++ [(c.blk,c.sh)]))) (Lk:=Lk) (V _) (fun b o e=>by
   rcases hl _ b o e with g|g|g
   ·exact .inl g
   ·exact .inr (.inl g)
   · exact .inr (.inr (.inr g))) (fun b hb=>by
     rcases zq7.1 hb with rfl|hb
     ·exact⟨_,hk,rfl,rfl⟩
     · rcases zq7.1 hb with rfl|hb
       ·exact⟨_,d,rfl,rfl⟩
       ·rw [zq32.1 hb];exact⟨_,hz,rfl,rfl⟩) rfl (by simp) p ⟨rfl,rfl⟩ (aKm x1 W (fun j n=>by have:=x5 j (by rw [hJ];omega);rw [this,mG])) (fun j n=>by
     obtain rfl:Lk.blk=j:=n;refine⟨fun a=>?_,k,by simp,_,Lk,hk,p,rfl⟩;rcases zq28.1 a with a|a
     ·exact d1 a
     ·exact X a) (fun j n=>by
     refine⟨?_,OsAt.blk _ _ _ N j n⟩;rcases zq28.1 n with a|a
     ·exact⟨g,by simp,_,i,d,B,a⟩
     ·exact⟨gz,by simp,_,m,hz,D,a⟩)
     (fun T H' hi hH=> ⟨nd,OsAt.go hi _ _ _ N hH⟩)
 exact⟨_,E',trivial,q,M,q3⟩
def snap (H:Array Obj) :Imm:=fun k=>match H[k]? with
 |some (.cells C _ _) =>some C
 |_=>none
theorem tK {H:Array Obj}{k:Nat}{C:Array Value}{e:TypeId}{f:Nat×Nat}(h:H[k]?=some (.cells C e f)) :snap H k=some C:=by
 unfold snap;rw [h]
theorem aMX {H:Array Obj}{k:Nat}{C:Array Value}(h:snap H k=some C) :∃e f,H[k]?=some (.cells C e f) :=by
 unfold snap at h;split at h
 ·rename_i a e f he;cases h;exact⟨e,f,he⟩
 ·cases h
theorem Rel.snap {E:Emb}{h:Hp}{H:Array Obj}(r:Rel E h H) :Imm.le E.imm (snap H) :=fun k C e=>by
 obtain⟨a,f,g⟩ :=r.imm k C e;exact tK g
mutual
theorem aMY {f:Imm}{H:Array Obj}(m:Imm.le f (snap H)) :∀ (t:XT) (a:Nat×Nat) (F:List Nat),TAt f H a t F→VR (emI (snap H)) (XT.av t) (adr a)
 | .mk o n g O,a,F,h=>by
  simp only [TAt]at h;obtain⟨C,e,kv,J,R,v,q,B,G,p,w,rfl,I⟩ :=h;have l:VR (emI (snap H)) (.ilst 1 (XTs.av g) false) kv:=by
   rcases I with⟨rfl,rfl,x⟩ | ⟨b,c,A,Q,k,z,r,S,D,N,K,L,y,M,s⟩
   · simp only [VR];refine⟨[],VRs.nil _,fun _ i=>by(cases i),.inl ⟨rfl,?_⟩⟩;rcases x with⟨b,rfl⟩ | ⟨b,c,rfl⟩
     ·exact⟨b,0,rfl,fun _=>rfl,fun h=>by(cases h)⟩
     ·exact⟨_,c,rfl,fun h=>by(cases h),fun h=>by(cases h)⟩
   · simp only [VR];have hl: (k.map adr).length=g.length:=by rw [hJ,L]
     refine⟨k.map adr,aIL m g k z s,fun u i=>by obtain⟨x,_,rfl⟩ :=zq24.1 i;exact aKk x,.inr ⟨b.1,b.2,c,A,by rw [hl];exact r,tK K,by rw [hl];exact D,fun h=>by(cases h),fun j d=>?_⟩⟩;rw [hl,mul_one]at d;rw [mG];exact y j d
  simp only [XT.av,VR];refine⟨[.int .i64 o,.int .i64 n,kv,J],VRs.cons (by simp only [VR]) (VRs.cons (by simp only [VR]) (VRs.cons l (VRs.cons (w.mono (aDj m)) (VRs.nil _)))),a.1,a.2,C,rfl,tK v,fun j d=>?_⟩
  match j,d with
  |0,_=>exact q
  |1,_=>exact B
  |2,_=>exact G
  |3,_=>exact p
  |j+4,d=>simp at d;omega
theorem aIL {b:Imm}{H:Array Obj}(f:Imm.le b (snap H)) :∀ (d:List XT) (c:List (Nat×Nat)) (F:List Nat),TsAt b H c d F→VRs (emI (snap H)) (XTs.av d) (c.map adr)
 | [],c,F,h=>by simp only [TsAt]at h;rw [h.1];exact VRs.nil _
 | t::d,c,F,h=>by
  simp only [TsAt]at h;obtain⟨a,e,g,k,rfl,rfl,i,j⟩ :=h;exact VRs.cons (aMY f t a g i) (aIL f d e k j)
end
def aGs (v:AV) :Prop:=∀E E' cv,VR E v cv→VR E' v cv
theorem aMZ {k:IntKind}{n:Int}:aGs (.int k n) :=fun E b a h=>by simpa only [VR]using h
theorem aUb :aGs .nili:=fun E b a h=>by simpa only [VR]using h
theorem aGt {t:Nat}{v:AV}(a:aGs v) :aGs (.iface t v) :=fun E b e h=>by
 simp only [VR]at h ⊢;obtain⟨u,d,c⟩ :=h;exact⟨u,d,a E b u c⟩
theorem aUc :aGs (.agg []) :=fun E b a h=>by simpa only [VR,VRs]using h
theorem aEa {f:Nat}{j m:List AV}{v:AV}{h:Hp}(hp:aJ P f m v)(V:aGs v)(D:j.length=m.length)
  (Z:∀ (E:Emb) (H:Array Obj) (d:List Value),Rel E h H→VRs E j d→VRs (emI (snap H)) m d) :Spec P (.enter f j) h (.ret v) h:=by
 obtain⟨gB,n,he⟩ :=hp ⟨.leaf,0⟩;simp only [dW,dV]at n;split at n
 · rename_i fn I;split at n
   · rename_i c hc;cases n;refine⟨⟨f,eO .leaf 0 j,max fn.ntmps j.length,[.code c],[],.run,.normal,none⟩,by simp [dW,dV,I,hc],fun hm E fr N w fr' fs r cl z=>?_⟩;simp only at fs;rw [fs.nil_inv]
     have J:∀ {l:List AV} {t:Nat} {a:AV},(eO .leaf 0 l).at t=some a→l[t]?=some a:=fun {l t a} e=>by
      unfold eO at e;rw [bH]at e;split at e
      ·exact e
      ·cases e
     have A:∀ {l:List AV} {t:Nat} {a:AV},l[t]?=some a→ (eO .leaf 0 l).at t=some a:=fun {l t a} e=>by
      unfold eO;rw [bH,if_pos (zq0.1 e).1];exact e
     have F:∃d:List Value,VRs E j d∧∀ (t:Nat),t<j.length→fr.tmps[t]?=d[t]?:=by
      have U:j.length≤fr.tmps.size:=by have:=fr'.tm.1;simp only at this;omega
      refine⟨(fr.tmps.toList.take j.length),VRs.of_get (by simp;omega) (fun i a p=>?_),fun t Y=>?_⟩
      · have B:= (zq0.1 p).1;obtain⟨y,s,q⟩ :=fr'.tm.2 i a (A p);exact⟨y,by rw [List.getElem?_take_of_lt B,sU];exact s,q⟩
      ·rw [List.getElem?_take_of_lt Y,sU]
     obtain⟨d,c1,X⟩ :=F;have S:=Z E w.heap d r c1;have G:FR (emI (snap w.heap)) ⟨f,eO .leaf 0 m,max fn.ntmps m.length,[.code c],[],.run,.normal,none⟩ fr:=by
      refine⟨fr'.fn,⟨by have:=fr'.tm.1;rw [←D];exact this,fun t a e=>?_⟩,?_,?_,fr'.mode,fr'.kind,?_⟩
      · have M:=J e;have B:= (zq0.1 M).1;obtain⟨y,s,q⟩ :=S.get t a M;exact⟨y,by rw [X t (by omega)];exact s,q⟩
      ·have:=fr'.todo;simpa [IRs,IR]using this
      ·have:=fr'.defers;simpa [DRs]using this
      ·have:=fr'.round;simpa [RR]using this
     have W:Rel (emI (snap w.heap)) ⟨.leaf,0⟩ w.heap:= ⟨fun b o e=>by simp [Hp.look,T.at_leaf]at e,fun b b' o o' L L' e=>by simp [Hp.look,T.at_leaf]at e,fun _ _=>rfl,fun k C e=>aMX e,fun b o L e=>by simp [Hp.look,T.at_leaf]at e,fun b o e=>by simp [Hp.look,T.at_leaf]at e⟩;obtain⟨O,K,Q,s,⟨y,rfl,q⟩,g3,x⟩ :=he (Nat.zero_le _) (emI (snap w.heap)) fr [] w G rfl W cl z;have keep:∀i,i<w.heap.size→K.heap[i]?=w.heap[i]?:=fun i p=>x.keep i p (fun b o L e=>by simp [Hp.look,T.at_leaf]at e);refine⟨_,K,E,s,⟨y,rfl,V Q E y q⟩,⟨fun b o e=>?_,r.kin,r.fresh,fun k C e=>?_,r.apart,r.keys⟩,⟨fun _ _=>rfl,fun _ _ e=>e,x.size,fun i p _=>keep i p,fun b o L e k i p _=> ⟨b,o,L,e,k,p⟩,hm,x.os,x.tape,x.output,x.froz,fun k C e _=>.inl e,fun b o e _=> ⟨o,e⟩⟩⟩
     · rcases r.obj0 b o e with u| ⟨L,s,q⟩
       ·exact .inl u
       ·exact .inr ⟨L,s,q.heap fun i p=>keep _ (q.lt i p)⟩
     · obtain⟨R,G,g⟩ :=r.imm k C e;exact⟨R,G,by rw [keep k (zq44.1 g).1];exact g⟩
   ·cases n
 ·cases n
def aU (a:Nat×Nat) :AV:=.val (adr a)
theorem aGu (b:Nat→Nat) :∀a:List (Nat×Nat),renL b (map aU a) =map aU a
 | [] =>rfl
 |u::a=>by rw [dJ,renL,aGu b a];rfl
theorem bA6 {b:Nat→Nat}{z a:Nat}(us:List (Nat×Nat))(hz:b a=z) :renL b (map aU us++ [.ptr a 0]) =map aU us++ [.ptr z 0] :=by
 rw [aD2,aGu,←hz];rfl
theorem aM0 (c:Nat→Nat) :∀ (b:List AV) (i:Nat) (a:AV),renL c (b.set i a) = (renL c b).set i (ren c a)
 | [],_,_=>rfl
 |x::b,0,a=>rfl
 |x::b,i+1,a=>by simp only [set_cons_succ,renL,aM0 c b i a]
theorem aWO {b:Nat→Nat}{z a:Nat}(us:List (Nat×Nat))(i:Nat)(hz:b a=z) :renL b ((map aU us).set i (.ptr a 0)) = (map aU us).set i (.ptr z 0) :=by
 rw [aM0,aGu,←hz];rfl
theorem wc {c:Type}{a b:c}{l k:List c}(h:a=b)(g:l=k) :a::l=b::k:=by rw [h,g]
theorem wn {a:Type}: ([] :List a) = [] :=rfl
theorem aB5 {b:Nat→Nat}{z a:Nat}{us:List (Nat×Nat)}(hz:b a=z) :some (bif false then AObj.lst 1 (map aU us++ [.ptr a 0])else(AObj.lst 1 (map aU us++ [.ptr a 0])).ren b) =some (AObj.lst 1 (map aU us++ [.ptr z 0])) :=by
 show some (AObj.lst 1 (renL b _)) =_;rw [bA6 us hz]
theorem zS {b:Nat→Nat}{z a:Nat}{us:List (Nat×Nat)}{i:Nat}(hz:b a=z) :some (bif false then AObj.lst 1 ((map aU us).set i (.ptr a 0))else(AObj.lst 1 ((map aU us).set i (.ptr a 0))).ren b) =some (AObj.lst 1 ((map aU us).set i (.ptr z 0))) :=by
 show some (AObj.lst 1 (renL b _)) =_;rw [aWO us i hz]
theorem lK {m:Nat}{is:List Ins}{s t:TS}{ks:List Nat}{n1:Nat}{ps:List Prop}{W:List (Option AObj)}(hW:iE (fE m t.nb n1 ks) t.hp=W)(c:way P m is s t ks=some (n1,⟨aF5 (fE m t.nb n1 ks) t.fr,t.cs.length,t.cs.map (aF5 (fE m t.nb n1 ks)),W⟩,ps))(a:cR m t ks=true)(b:fJ t.hp)(hp:AllP ps) :LeadsM P m s.as t.as:=
 aT2 (n1:=n1) (ks:=ks) (by rw [c,←hW];rfl) a b hp
theorem aM1 {m:Nat}{is:List Ins}{s:TS}{hp:List (Nat×AObj×Bool)}{nb:Nat}{ks:List Nat}{n1:Nat}{v:AV}{ps:List Prop}{W:List (Option AObj)}(hW:iE (fE m nb n1 ks) hp=W)(d:bGb P m is s hp nb ks=some (n1,ren (fE m nb n1 ks) v,W,ps))
  (a:cR m ⟨⟨0,0,[],[],[],.run,.normal,none⟩,[],hp,nb⟩ ks=true) (b:fJ hp) (c:AllP ps) :Ends P m s.as (.ret v) (aA hp nb) :=
 aPD (n1:=n1) (ks:=ks) (by rw [d,←hW]) a b c
theorem aGv {us:List (Nat×Nat)}:0+length us≤length (map aU us) :=by simp
theorem aPZ {us:List (Nat×Nat)}{z:Nat}:take (length us) (drop 0 (map aU us)) ++ [ptr z 0] =map aU us++ [.ptr z 0] :=by
 rw [List.drop_zero,aHY (by simp)]
theorem aP0 {us:List (Nat×Nat)}{z:Nat}:length us+length [ptr z 0] =length us+1:=rfl
theorem bGj {us:List (Nat×Nat)}:take (length ([] :List (Nat×Nat))) (drop 0 (map aU ([] :List (Nat×Nat)))) ++take (length us) (drop 0 (map aU us)) =map aU us:=by
 show [] ++take us.length (map aU us) =_;rw [qW,aHY (by simp)]
theorem aWP (xs:List AV)(i:Nat)(a:AV) :xs.set (0+i) a=xs.set i a:=by rw [eX]
theorem aDn {h h':Hp}{g:Nat}{rs rs':List Nat}{Z Z':ZP}(d:h.look g=some (.zone true rs Z))(hr:rs'= [] ∨rs'=rs)
  (hz:∀F j a H,Z F j a H→Z' F (if rs'= []then []else j) a H) (m:h.nb<h'.nb)
  (hl:∀x o,h'.look x=some o→ (x=h.nb∧o= .zone true rs' Z') ∨ (x≠g∧h.look x=some o)) :kV h h':=fun E w r=>by
 obtain⟨k,q,s⟩ :=r.obj g _ d;obtain⟨n,Ls,t,u⟩ :=s;refine tJ r [g] (rs:=rs') (Z:=Z') (Ls:=if rs'= []then []else Ls) (F:=jK k.blk) m (fun x o e=>?_) (fun x y=>?_) ?_ (fun i c=> ⟨⟨g,by simp,_,k,d,q,c⟩,n i c⟩) (fun b v c l=>?_)
 · rcases hl x o e with f| ⟨f,p⟩
   ·exact .inl f
   ·exact .inr (.inr ⟨by simpa using f,p⟩)
 ·rw [zq32.1 y];exact⟨_,d,rfl,rfl⟩
 · rcases hr with rfl|rfl
   ·rfl
   · by_cases e:rs'= []
     ·rw [if_pos e,e];rfl
     ·rw [if_neg e];exact t
 · have:=hz _ _ _ _ (u b v c l);by_cases e:rs'= []
   ·rw [if_pos e]at this ⊢;exact this
   ·rw [if_neg e]at this ⊢;exact this
theorem zU {h h':Hp}{Z:ZP}(hz:∀b H,Z [] [] b H)(d:h.nb<h'.nb)
  (hl:∀x o,h'.look x=some o→ (x=h.nb∧o= .zone true [] Z) ∨h.look x=some o) :kV h h':=fun E w r=>
 tJ r [] (rs:=[]) (Ls:=[]) (F:=[]) d (fun x o e=> (hl x o e).imp id (fun h=>.inr ⟨by simp,h⟩)) (fun x g=> (by cases g)) rfl (fun i c=> (by cases c)) (fun a f _ _=>hz a f)
theorem aSz {b:Imm}{H:Array Obj}:∀a:List (Nat×Nat),OsAt b H a (map (fun _=>none) a) []
 | [] =>by simp [OsAt]
 |u::a=>by simp only [dJ,OsAt];exact⟨u,a,rfl,aSz a⟩
theorem bA7 {us:List (Nat×Nat)}{a:Imm}{H:Array Obj}:ZV us (map (fun _=>none) us) [] [] a H:= ⟨nodup_nil,aSz us⟩
theorem aKo {us:List (Nat×Nat)}{ts:List (Option XT)}{i:Nat}{F:List Nat}{b:List (Nat×Nat×Nat)}{a:Imm}{H:Array Obj}(h:eY us ts i F b a H) :ZV us ts F [] a H:= ⟨h.1,h.2.1⟩
end
abbrev RT :=XT
abbrev RT.mk (o n:Int)(ps:List Pat)(ks:List XT) :XT:=.mk o n ks ps
mutual
def RT.av :XT→AV
 | .mk o n ks ps=>.agg [.int .i64 o,.int .i64 n,.ilst 4 (Pats.av ps) false,.ilst 4 (RTs.av ks) false]
def RTs.av :List XT→List AV
 | [] =>[]
 |p::ps=>RT.av p::RTs.av ps
end
def XT.op :XT→Int| .mk o _ _ _=>o
def XT.n :XT→Int| .mk _ n _ _=>n
def XT.kids :XT→List XT| .mk _ _ ks _=>ks
def XT.pats :XT→List Pat| .mk _ _ _ ps=>ps
structure Flow where
 binds:List XT
 last:XT
noncomputable def Flow.av (f:Flow) :AV:=.agg ([.ilst 4 (RTs.av f.binds) false] ++ (RT.av f.last).cells)
section
variable {P :Program}
mutual
theorem bA8 {g J:Imm}{H:Array Obj}(k:Imm.le g J) :∀ (t:XT) (a:Nat×Nat) (F:List Nat),TAt g H a t F→ (∀i∈F,∀C e f,H[i]?=some (.cells C e f) →J i=some C) →VR (emI J) (XT.av t) (adr a)
 | .mk o n l S,a,F,h,p=>by
  simp only [TAt]at h;obtain⟨C,e,kv,N,U,z,v,I,L,s,A,rfl,M⟩ :=h;have r:VR (emI J) (.ilst 1 (XTs.av l) false) kv:=by
   rcases M with⟨rfl,rfl,x⟩ | ⟨b,c,G,T,q,D,w,V,K,R,O,Q,B,rfl,y⟩
   · simp only [VR];refine⟨[],VRs.nil _,fun _ m=>by(cases m),.inl ⟨rfl,?_⟩⟩;rcases x with⟨b,rfl⟩ | ⟨b,c,rfl⟩
     ·exact⟨b,0,rfl,fun _=>rfl,fun h=>by(cases h)⟩
     ·exact⟨_,c,rfl,fun h=>by(cases h),fun h=>by(cases h)⟩
   · simp only [VR];have hl: (q.map adr).length=l.length:=by rw [hJ,Q]
     refine⟨q.map adr,aGw k l q D y (fun i k=>p i (eD _ (eD _ k))),fun u m=>by obtain⟨x,_,rfl⟩ :=zq24.1 m;exact aKk x,.inr ⟨b.1,b.2,c,G,by rw [hl];exact w,p _ (by simp) _ _ _ O,by rw [hl];exact K,fun h=>by(cases h),fun j d=>?_⟩⟩;rw [hl,mul_one]at d;rw [mG];exact B j d
  simp only [XT.av,VR];refine⟨[.int .i64 o,.int .i64 n,kv,N],VRs.cons (by simp only [VR]) (VRs.cons (by simp only [VR]) (VRs.cons r (VRs.cons (A.mono (aDj k)) (VRs.nil _)))),a.1,a.2,C,rfl,p _ (dT ..) _ _ _ z,fun j d=>?_⟩
  match j,d with
  |0,_=>exact v
  |1,_=>exact I
  |2,_=>exact L
  |3,_=>exact s
  |j+4,d=>simp at d;omega
theorem aGw {c J:Imm}{H:Array Obj}(b:Imm.le c J) :∀ (d:List XT) (g:List (Nat×Nat)) (F:List Nat),TsAt c H g d F→ (∀i∈F,∀C e f,H[i]?=some (.cells C e f) →J i=some C) →VRs (emI J) (XTs.av d) (g.map adr)
 | [],g,F,h,_=>by simp only [TsAt]at h;rw [h.1];exact VRs.nil _
 | t::d,g,F,h,k=>by
  simp only [TsAt]at h;obtain⟨a,j,m,o,rfl,rfl,l,n⟩ :=h;exact VRs.cons (bA8 b t a m l (fun i b=>k i (zq28.2 (.inl b)))) (aGw b d j o n (fun i b=>k i (zq28.2 (.inr b))))
end
def fhC (r n:Nat)(mn:Int)(cs:List Con) :AObj:=.cells (putCells .leaf 0 [.gl r 1 0 n false,.int .i64 mn,.ilst 2 (map Con.av cs) false]) 3 [] false
def fvA (ts:List XT)(mn:Int)(cs:List Con) :AV:=.iptr [.ilst 1 (XTs.av ts) false,.int .i64 mn,.ilst 2 (map Con.av cs) false]
theorem aGx {E:Emb}{H:Array Obj}{J:Imm}{k r n:Nat}{mn:Int}{cs:List Con}{ts:List XT}{Lk w:Loc}{cv:Value}(l:Imm.le E.imm J)(hk:E k=some Lk)(ok:OR E H Lk (fhC r n mn cs))(oz:OR E H w (.zone true [r] (cQ ts)))(q:n=ts.length)
  (t:∀i,i=Lk.blk∨i∈jK w.blk→∀C e f,H[i]?=some (.cells C e f) →J i=some C) (z:VR E (.ptr k 0) cv) :VR (emI J) (fvA ts mn cs) cv:=by
 obtain⟨C,e,c1,c2,o⟩ :=ok;obtain⟨_,v0,X,p⟩ :=o 0 (.gl r 1 0 n false) (by rw [bH];rfl);obtain⟨_,v1,N,I⟩ :=o 1 (.int .i64 mn) (by rw [bH];rfl);obtain⟨_,v2,a2,G⟩ :=o 2 (.ilst 2 (map Con.av cs) false) (by rw [bH];rfl);obtain⟨A,D,T⟩ :=gJ oz;obtain⟨M,K,hK,hz⟩ :=T;obtain⟨g,rfl⟩ :∃g,A= [g] :=by
  match A,hK with
  | [x],_=>exact⟨x,rfl⟩
 simp only [dJ,map_nil,List.cons.injEq,and_true]at D hK;subst hK;have d:VR (emI J) (.ilst 1 (XTs.av ts) false) v0:=by
  simp only [VR]at p;rcases hz with⟨rfl,hF⟩ | ⟨W,ek,v,U,R,B,O,g4,g5,y⟩
  · simp only [length_nil]at q;simp only [VR];refine⟨[],VRs.nil _,fun _ s=>by(cases s),.inl ⟨rfl,?_⟩⟩;rcases p with⟨_,a,Y⟩ | ⟨L,a,b,_,m,_⟩
    ·exact⟨a,0,Y,fun _=>rfl,fun h=>by(cases h)⟩
    ·rw [q]at m;exact⟨_,b,m,fun h=>by(cases h),fun h=>by(cases h)⟩
  · have V:0<ts.length:=List.length_pos_iff.2 R;rcases p with⟨h0,_⟩ | ⟨L,a,b,S,m,h3,h4,F⟩
    ·omega
    · have:E.loc r=some L:=S;rw [D]at this;cases this;obtain⟨Q,q2⟩ :=F (by omega);have hl: (v.map adr).length=ts.length:=by rw [hJ,y.len]
      simp only [VR];refine⟨v.map adr,aGw l ts v U y (fun i l=>t i (.inr (by rw [B];exact eD _ l))),fun u s=>by obtain⟨x,_,rfl⟩ :=zq24.1 s;exact aKk x,.inr ⟨g.blk,a,b,W,by rw [hl,←q];exact m,t _ (.inr (by rw [B];exact dT ..)) _ _ _ O,by rw [hl];omega,fun h=>by(cases h),fun j c=>?_⟩⟩;rw [hl,mul_one]at c;rw [mG,Q,show g.sh+0*1+j=g.sh+j by omega];exact g5 j c
 simp only [VR]at z;obtain⟨L,Z,rfl⟩ :=z;have:E.loc k=some L:=Z;rw [show E.loc k=E k from rfl,hk]at this;cases this;simp only [fvA,VR];refine⟨[v0,v1,v2],VRs.cons d (VRs.cons (by simpa only [VR]using I) (VRs.cons ((VR.emI (by simp [keyless]) G).mono (aDj l)) (VRs.nil _))),Lk.blk,Lk.sh+0,C,rfl,t _ (.inl rfl) _ _ _ c1,fun j c=>?_⟩
 match j,c with
 |0,_=>exact X
 |1,_=>exact N
 |2,_=>exact a2
 |j+3,c=>simp at c;omega
theorem aIh {E:Emb}{h:Hp}{H:Array Obj}(r:Rel E h H){k q z n:Nat}{mn:Int}{cs:List Con}{ts:List XT}{cv:Value}(hk:h.look k=some (fhC q n mn cs))(hz:h.look z=some (.zone true [q] (cQ ts)))(c:n=ts.length)(a:VR E (.ptr k 0) cv) :VR (emI (snap H)) (fvA ts mn cs) cv:=by
 obtain⟨m,d,b⟩ :=r.obj k _ hk;obtain⟨o,l,g⟩ :=r.obj z _ hz;exact aGx r.snap d b g c (fun i _ C e f j=>tK j) a
theorem aKp {h h':Hp}{k q z n:Nat}{mn:Int}{cs:List Con}{ts:List XT}(hk:h.look k=some (fhC q n mn cs))(hz:h.look z=some (.zone true [q] (cQ ts)))(O:n=ts.length)(hb:h'.nb=h.nb)
  (hl:∀b o,h'.look b=some o→b∉ [k,z] ∧h.look b=some o) {m:Nat} (hm:m≤h.nb) :rN m h h' (.ptr k 0) (fvA ts mn cs) :=fun E w r=>by
 obtain⟨G,B,I⟩ :=r.obj k _ hk;obtain⟨F,W,z2⟩ :=r.obj z _ hz
 let own:Nat→Prop:=fun i=>i=G.blk∨i∈jK F.blk
 have c:∀ {i},own i→∃b∈ [k,z],∃o L,h.look b=some o∧E b=some L∧Own o L i∧bW o= [] ∧jO o=false:=fun {i} a=>by
  rcases a with rfl|a
  ·exact⟨k,by simp,_,G,hk,B,rfl,rfl,rfl⟩
  ·exact⟨z,by simp,_,F,hz,W,a,rfl,rfl⟩
 have s:∀ {i},own i→E.imm i=none:=fun {i} a=>by
  obtain⟨b,_,o,L,p,l,t,_⟩ :=c a;exact r.apart b o L p l i t
 classical
 let E':Emb:= ⟨E.loc,fun i=>if own i then snap w.heap i else E.imm i⟩
 have d:E.le E':= ⟨fun _ _ e=>e,fun i C e=>by
  show(if own i then snap w.heap i else E.imm i) =some C;rw [if_neg (fun y=>by rw [s y]at e;cases e)];exact e⟩
 have j:∀ {b o L i},h'.look b=some o→E b=some L→Own o L i→¬own i:=fun {b o L i} e g a v=>by
  obtain⟨N,J,Z,K,Q,q2,R,U,M⟩ :=c v;obtain⟨H,e2⟩ :=hl b o e;rcases r.kin N b Z o K L Q e2 q2 g ⟨i,R,a⟩ (fun e=>H (e ▸ J))with⟨x,_⟩ | ⟨_,x,_⟩
  ·rw [U]at x;cases x
  ·rw [M]at x;cases x
 refine⟨E',d,⟨fun b o e=>?_,fun b A o D L Y e T=>r.kin b A o D L Y (hl b o e).2 (hl A D T).2,fun b X=>r.fresh b (by omega),fun i C e=>?_,fun b o L e g i a=>?_,fun b o e=>by rw [hb];exact r.keys b o (hl b o e).2⟩,
  ⟨fun _ _=>rfl,d.2,le_refl _,fun _ _ _=>rfl,fun b o L e g i a _=> ⟨b,o,L,(hl b o e).2,g,a⟩,by omega,rfl,rfl,rfl,fun _ _=>rfl,fun i C e _=>?_,fun b o e _=> ⟨o,(hl b o e).2⟩⟩,fun cv V=>VR.of_emI (E:=E') (aGx d.2 B I z2 O (fun i a C e f y=>?_) V)⟩
 · rcases r.obj0 b o (hl b o e).2 with u| ⟨L,S,g2⟩
   ·exact .inl u
   ·exact .inr ⟨L,S,g2.mono d⟩
 · simp only [E']at e;split at e
   ·exact aMX e
   ·exact r.imm i C e
 · show(if own i then snap w.heap i else E.imm i) =none;rw [if_neg (j e g a)];exact r.apart b o L (hl b o e).2 g i a
 · simp only [E']at e;split at e
   · rename_i v;obtain⟨b,_,o,L,p,l,t,_⟩ :=c v;exact .inr ⟨b,o,L,p,l,t⟩
   ·exact .inl e
 · show(if own i then snap w.heap i else E.imm i) =some C;rw [if_pos a];exact tK y
end
mutual
def mT :Pat→Int→Int
 | .mk _ _ _ ps,left=>if left<1 then -1 else kO ps (left-1)
def kO :List Pat→Int→Int
 | [],left=>left
 |p::ps,left=>if 0≤left then kO ps (mT p left)else left
end
mutual
theorem aM2 :∀ (p:Pat) (left:Int),0≤left→ -1≤mT p left∧mT p left≤left-1
 | .mk _ _ _ a,left,h=>by
  rw [mT];split
  ·omega
  ·have:=aIM a (left-1) (by omega);omega
theorem aIM :∀ (b:List Pat) (left:Int),-1≤left→ -1≤kO b left∧kO b left≤left
 | [],left,h=>by rw [kO];omega
 | p ::b,left,h=>by
  rw [kO];split
  · rename_i c;have a:=aM2 p left c;have:=aIM b (mT p left) a.1;omega
  ·omega
end
theorem aEb (f n:Int)(s:cA)(ps:List Pat)(b:Int)(g:∀p∈ps,∀left:Int,0≤left→left≤1000→aJ PP 69 [Pat.av p,.int .i64 left] (.int .i64 (mT p left))) :
  ∀ (t:List Pat) (i:Nat) (left:Int),ps.drop i=t→ -1≤left→ (i:Int) +left≤1000→Ends PP 0 (zR f n s ps b left (i:Int)).as (.ret (.int .i64 (kO t left))) (aA [] 0)
 | [],i,left,h,o,m=>by
  have:=bJ h;rw [kO];exact aPY f n s ps b left i sd
 | .mk j d c a::t,i,left,h,o,m=>by
  obtain⟨k,l,q⟩ :=bE h;rw [kO];split
  · rename_i e;have w:=aM2 (.mk j d c a) left e;refine(aPW f n s ps b left i j d c a _ sd sd sd sd (g _ (iO k) left e (by omega)) sd).ends ?_;exact aEb f n s ps b g t (i+1) _ l w.1 (by omega)
  ·exact aPX f n s ps b left i sd sd
mutual
theorem yN :∀ (p:Pat) (left:Int),-1≤left→left≤1000→aJ PP 69 [Pat.av p,.int .i64 left] (.int .i64 (mT p left))
 | .mk f n s a,left,b,c=>by
  refine aO aC (by simp [keylessL,mF,keyless]) rfl ?_;rw [mT];split
  ·exact aPU f n s a left sd
  · refine(aPV f n s a left sd sd).ends ?_;exact aEb f n s a left (fun p d left b c=>aGy a p d left b c) a 0 _ rfl (by omega) (by omega)
theorem aGy :∀ (b:List Pat),∀p∈b,∀left:Int,0≤left→left≤1000→aJ PP 69 [Pat.av p,.int .i64 left] (.int .i64 (mT p left))
 | [],p,a,_,_,_=>by cases a
 | q::b,p,a,left,d,c=>by
  rcases zq7.1 a with e|a
  ·rw [e];exact yN q left (by omega) c
  ·exact aGy b p a left d c
end
mutual
def sK :Pat→Bool
 | .mk _ _ s ps=>vG ps&&decide (s.length≤30)
def vG :List Pat→Bool
 | [] =>true
 |p::ps=>sK p&&vG ps
end
mutual
def cB :Pat→Nat
 | .mk _ _ _ ps=>aT ps+1
def aT :List Pat→Nat
 | [] =>0
 |p::ps=>cB p+aT ps
end
theorem eT :∀a:List Pat,a.length≤aT a
 | [] =>by simp [aT]
 | .mk _ _ _ qs::a=>by have:=eT a;simp only [aT,cB,oK];omega
mutual
theorem aGz :∀ (p:Pat) (left:Int),0≤mT p left→mT p left=left-cB p
 | .mk _ _ _ a,left,h=>by
  rw [mT]at h ⊢;split at h
  ·omega
  · rename_i b;rw [if_neg b];have:=aEc a (left-1) h;simp only [cB];omega
theorem aEc :∀ (c:List Pat) (left:Int),0≤kO c left→kO c left=left-aT c
 | [],left,h=>by simp [kO,aT]
 | p ::c,left,h=>by
  rw [kO]at h ⊢;split at h
  · rename_i d;rw [if_pos d];have a:=aEc c _ h;have b:=aGz p left (by omega);simp only [aT];omega
  ·omega
end
mutual
theorem aGA :∀ (p:Pat) (left:Int),(cB p:Int) ≤left→mT p left=left-cB p
 | .mk _ _ _ a,left,h=>by
  simp only [cB]at h ⊢;rw [mT,if_neg (by omega),aEd a (left-1) (by omega)];omega
theorem aEd :∀ (a:List Pat) (left:Int),(aT a:Int) ≤left→kO a left=left-aT a
 | [],left,h=>by simp [kO,aT]
 | p::a,left,h=>by
  simp only [aT]at h ⊢;rw [kO,if_pos (by omega),aGA p left (by omega),aEd a _ (by omega)];omega
end
theorem zV (p:Pat)(left:Int) :0≤mT p left↔ (cB p:Int) ≤left:=by
 constructor
 ·intro h;have:=aGz p left h;omega
 ·intro h;rw [aGA p left h];omega
theorem yO (f n:Int)(s:cA)(ps:List Pat)(hl:ps.length<1000000)(j:∀p∈ps,aJ PP 70 [Pat.av p] (.bool (sK p))) :
  ∀ (t:List Pat) (i:Nat),ps.drop i=t→Ends PP 0 (pK f n s ps (i:Int)).as (.ret (.bool (vG t&&decide (s.length≤30)))) (aA [] 0)
 | [],i,h=>by
  have:=bJ h;have e:decide (((length s:Nat) :Int) ≤ (30:Int)) =decide (s.length≤30) :=by congr 1;simp;omega
  rw [vG,mY,←e];exact aIg f n s ps i sd
 | .mk g d c b::t,i,h=>by
  obtain⟨k,l,m⟩ :=bE h;have a:=j _ (iO k);rw [vG];cases hb:sK (.mk g d c b)
  case false=>
   rw [hb]at a;exact aIe f n s ps i g d c b false sd sd sd a rfl
  rw [hb]at a;refine(aIf f n s ps i g d c b true sd sd sd a rfl sd).ends ?_;rw [mY];exact yO f n s ps hl j t (i+1) l
mutual
theorem yP :∀ (p:Pat),cB p<1000000→aJ PP 70 [Pat.av p] (.bool (sK p))
 | .mk f n s a,h=>by
  refine aO aC (by simp [keylessL,mF]) rfl ?_;simp only [cB]at h;have:=eT a;refine(aId f n s a).ends ?_;rw [sK];exact yO f n s a (by omega) (aAL a (by omega)) a 0 rfl
theorem aAL :∀ (b:List Pat),aT b<1000000→∀p∈b,aJ PP 70 [Pat.av p] (.bool (sK p))
 | [],_,p,a=>by cases a
 | q::b,h,p,a=>by
  simp only [aT]at h;rcases zq7.1 a with e|a
  ·rw [e];exact yP q (by omega)
  ·exact aAL b (by omega) p a
end
def vH (p:Pat) :Bool:=decide (cB p≤16) &&sK p
theorem aKq (p:Pat) :aJ PP 31 [Pat.av p] (.bool (vH p)) :=by
 refine aO aC (by simp [keylessL,mF]) rfl ?_;obtain⟨f,n,s,a⟩ :=p;have b:=yN (.mk f n s a) 16 (by omega) (by omega);by_cases h:cB (.mk f n s a) ≤16
 · have e:vH (.mk f n s a) =sK (.mk f n s a) :=by simp [vH,h]
   rw [e];have c:0≤mT (.mk f n s a) 16:= (zV (.mk f n s a) 16).2 (by omega);exact aMP f n s a _ _ b (decide_eq_true c) (yP (.mk f n s a) (by omega))
 · have e:vH (.mk f n s a) =false:=by simp [vH,h]
   rw [e];refine aMQ f n s a _ b (decide_eq_false fun g=>h ?_);have:= (zV (.mk f n s a) 16).1 g;omega
def hX (l:List Con) :Bool:=l.all fun c=>decide (c.name.length≤40)
def fU (l:List Pat) :Bool:=l.all vH
def bB (x:Node) :Bool:=decide (x.kids.length≤10) &&decide (x.pats.length≤10) &&fU x.pats
def aK (p:Prog) :Bool:=decide (p.nodes.length≤320) &&decide (p.funs.length≤320) &&decide (p.cons.length≤25) &&hX p.cons&&p.nodes.all bB
mutual
theorem bHN (p:Prog)(n:p.nodes.length≤320) :∀ (t:List Node) (i:Nat),p.nodes.drop i=t→Ends PP 0 (oG p (i:Int)).as (.ret (.bool (t.all bB))) (aA [] 0)
 | [],i,h=>by
  have:=bJ h;exact aGn p i sd
 | x :: t,i,h=>by
  obtain⟨o,m,v⟩ :=bE h;by_cases l:x.kids.length≤10
  · by_cases j:x.pats.length≤10
    · have e: (x::t).all bB= (fU (x.pats.drop 0) &&t.all bB) :=by simp [bB,l,j]
      rw [e];refine(aGm p i x sd sd sd sd sd).ends ?_;have r:=bHN p n t (i+1) m;clear e o m h
      suffices ∀ (u:List Pat) (k:Nat),x.pats.drop k=u→Ends PP 0 (oH p x.op x.n x.kids x.pats (k:Int) (i:Int)).as (.ret (.bool (fU u&&t.all bB))) (aA [] 0)from this _ 0 rfl
      intro u
      induction u with
      | nil=>
       intro k hk;have:=bJ hk;refine(aGq p x.op x.n x.kids x.pats k i sd sd).ends ?_;simp only [fU,all_nil,mY];exact r
      | cons q u g=>
       intro k hk;obtain⟨w,s,y⟩ :=bE hk;obtain⟨c,b,d,a⟩ :=q;have f:=aKq (.mk c b d a);cases hb:vH (.mk c b d a)
       case false=>
        rw [hb]at f;have e: (fU (.mk c b d a::u) &&t.all bB) =false:=by simp [fU,hb]
        rw [e];exact aGo p x.op x.n x.kids x.pats k i c b d a false sd sd sd f rfl
       rw [hb]at f;have e: (fU (.mk c b d a::u) &&t.all bB) = (fU u&&t.all bB) :=by simp [fU,hb]
       rw [e];refine(aGp p x.op x.n x.kids x.pats k i c b d a true sd sd sd f rfl sd).ends ?_;exact g (k+1) s
    · have e: (x::t).all bB=false:=by simp [bB,j]
      rw [e];exact aGl p i x sd sd sd sd sd
  · have e: (x::t).all bB=false:=by simp [bB,l]
    rw [e];exact aGk p i x sd sd sd sd
end
theorem bHO (p:Prog)(hc:p.cons.length≤25)(a:p.nodes.length≤320) :∀ (t:List Con) (i:Nat),p.cons.drop i=t→Ends PP 0 (oD p (i:Int)).as (.ret (.bool (hX t&&p.nodes.all bB))) (aA [] 0)
 | [],i,h=>by
  have:=bJ h;refine(aGj p i sd).ends ?_;simp only [hX,all_nil,mY];exact bHN p a p.nodes 0 rfl
 | c ::t,i,h=>by
  obtain⟨f,b,d⟩ :=bE h;by_cases k:c.name.length≤40
  · have e: (hX (c::t) &&p.nodes.all bB) = (hX t&&p.nodes.all bB) :=by simp [hX,k]
    rw [e];refine(aGi p i c sd sd sd sd sd).ends ?_;exact bHO p hc a t (i+1) b
  · have e: (hX (c::t) &&p.nodes.all bB) =false:=by simp [hX,k]
    rw [e];exact aGh p i c sd sd sd sd
theorem lB (p:Prog) :aJ PP 10 [Prog.av p] (.bool (aK p)) :=by
 refine aO aC rfl rfl ?_;by_cases b:p.nodes.length≤320
 · by_cases c:p.funs.length≤320
   · by_cases a:p.cons.length≤25
     · have e:aK p= (hX p.cons&&p.nodes.all bB) :=by simp [aK,b,c,a]
       rw [e];exact(aGg p sd sd sd).ends (bHO p a b p.cons 0 rfl)
     · have e:aK p=false:=by simp [aK,a]
       rw [e];exact aGf p sd sd sd
   · have e:aK p=false:=by simp [aK,c]
     rw [e];exact aGe p sd sd
 · have e:aK p=false:=by simp [aK,b]
   rw [e];exact aGd p sd
def eA(b c:Int)(d:cA)(a:List Pat)(e:List Con)(f:Bool)(g:Int):TS:=⟨(tf 104 82 [(1,(iC e)),kp 2 0,(4,(bV false)),(5,(bV f)),(6,(nI (a.length:Int))),(7,(nI g))] [kc f104 1012,kl f104 1012,.inBlock 1,kc f104 127]),[],[oC 0 [(nI b),(nI c),(dP d),(iP a)]],1⟩
def vI(d b:Int)(a:cA)(c:List Pat)(e:List Con):=tT 0 (start PP 104 [(.agg [(nI d),(nI b),(dP a),(iP c)]),(iC e)])<|gm 13 aH c<|.b 15 13 (d==1) (.b 7 19 ((c.length:Int) ==0) (.b 11 61 (b==0) (.W 13 1 [0] (eA d b a c e (jL a.length (aF a) 0 0) 0))<|.W 13 1 [0] (eA d b a c e false 0))<|.W 24 1 [0] (eA d b a c e false 0))<|.b 6 13 (d==2) (.b 7 19 ((c.length:Int) ==0) (.b 11 61 (b==0) (.W 13 1 [0] (eA d b a c e (jL a.length (aF a) 0 0) 0))<|.W 13 1 [0] (eA d b a c e false 0))<|.W 24 1 [0] (eA d b a c e false 0))<|.b 5 13 (d==5) (.b 5 19 ((c.length:Int) ==0) (.b 11 61 (b==0) (.W 13 1 [0] (eA d b a c e (jL a.length (aF a) 0 0) 0))<|.W 13 1 [0] (eA d b a c e false 0))<|.W 24 1 [0] (eA d b a c e false 0))<|.b 6 24 (d==3) (.b 5 28 ((c.length:Int) ==0) (lW 2 62 [(nI b),(nI (-1000000000)),(nI 1000000000)]<|fun f=>.b 8 61 f (.W 13 1 [0] (eA d b a c e (jL a.length (aF a) 0 0) 0))<|.W 13 1 [0] (eA d b a c e false 0))<|.W 24 1 [0] (eA d b a c e false 0))<|.b 6 33 (d==4) (.b 5 37 ((c.length:Int) ==0) (lW 2 62 [(nI b),(nI 0),(nI 1)]<|fun f=>.b 8 61 f (.W 13 1 [0] (eA d b a c e (jL a.length (aF a) 0 0) 0))<|.W 13 1 [0] (eA d b a c e false 0))<|.W 24 1 [0] (eA d b a c e false 0))<|.b 6 42 (d==6) (gl 5 Con.av e<|gw 1 48 ((e.length:Int) -1)<|lW 0 62 [(nI b),(nI 0),(nI ((e.length:Int) -1))]<|fun f=>.b 1 50 f (gX Con.av 4 e b<|fun g=>.b 11 61 ((c.length:Int) ==g.args) (.W 13 1 [0] (eA d b a c e (jL a.length (aF a) 0 0) 0))<|.W 13 1 [0] (eA d b a c e false 0))<|.W 29 1 [0] (eA d b a c e false 0))<|.W 20 1 [0] (eA d b a c e false 0)
def aWQ:=fun a b c d e f g i=>vI a b c d e|>.t f|>.t g|>.t i tv
def aWR:=fun a b c d e f g i=>vI a b c d e|>.t f|>.t g|>.f i tv
def aWS:=fun a b c d e f g=>vI a b c d e|>.t f|>.f g tv
def aWT:=fun a b c d e f g i j=>vI a b c d e|>.f f|>.t g|>.t i|>.t j tv
def aWU:=fun a b c d e f g i j=>vI a b c d e|>.f f|>.t g|>.t i|>.f j tv
def aWV:=fun a b c d e f g i=>vI a b c d e|>.f f|>.t g|>.f i tv
def aWW:=fun a b c d e f g i j k=>vI a b c d e|>.f f|>.f g|>.t i|>.t j|>.t k tv
def aWX:=fun a b c d e f g i j k=>vI a b c d e|>.f f|>.f g|>.t i|>.t j|>.f k tv
def aWY:=fun a b c d e f g i j=>vI a b c d e|>.f f|>.f g|>.t i|>.f j tv
def aWZ:=fun a b c d e f g i j k l m n=>vI a b c d e|>.f g|>.f i|>.f j|>.t k|>.t l f m|>.t n tv
def aUd:=fun a b c d e f g i j k l m n=>vI a b c d e|>.f g|>.f i|>.f j|>.t k|>.t l f m|>.f n tv
def aUe:=fun a b c d e f g i j k=>vI a b c d e|>.f f|>.f g|>.f i|>.t j|>.f k tv
def aUf:=fun a b c d e f g i j k l m n o=>vI a b c d e|>.f g|>.f i|>.f j|>.f k|>.t l|>.t m f n|>.t o tv
def aUg:=fun a b c d e f g i j k l m n o=>vI a b c d e|>.f g|>.f i|>.f j|>.f k|>.t l|>.t m f n|>.f o tv
def aUh:=fun a b c d e f g i j k l=>vI a b c d e|>.f f|>.f g|>.f i|>.f j|>.t k|>.f l tv
def aUi:=fun a b c d e f g i j k l m n o p q r s t=>vI a b c d e|>.f i|>.f j|>.f k|>.f l|>.f m|>.t n o f p|>.t q g r s|>.t t tv
def aUj:=fun a b c d e f g i j k l m n o p q r s t=>vI a b c d e|>.f i|>.f j|>.f k|>.f l|>.f m|>.t n o f p|>.t q g r s|>.f t tv
def aUk:=fun a b c d e f g i j k l m n o p=>vI a b c d e|>.f g|>.f i|>.f j|>.f k|>.f l|>.t m n f o|>.f p tv
def aUl:=fun a b c d e f g i j k l=>vI a b c d e|>.f f|>.f g|>.f i|>.f j|>.f k|>.f l tv
def bGk(e f:Int)(g:cA)(b:List Pat)(d:List Con)(c:Bool)(a:Int):=tT 0 (eA e f g b d c a)<|gd 7 69 (a< (b.length:Int)) (.b 3 71 c (vA 8 b a<|fun i j k l=>lW 2 104 [(.agg [(nI i),(nI j),(dP k),(iP l)]),(iC d)]<|fun m=>gw 6 73 (a+1)<|.W 3 1 [0] (eA e f g b d m (a+1)))<|gE 8 1 (bV c))<|gE 11 1 (bV c)
def aW0:=fun a b c d e f g i j k l m n o p q r s=>bGk a b c d e f g|>.t n|>.t o i j k l p q m r s tv
def aW1:=fun a b c d e f g i j=>bGk a b c d e f g|>.t i|>.f j tv
def aW2:=fun a b c d e f g i=>bGk a b c d e f g|>.f i tv
def mH(a b c:Int):=tT 0 (start PP 105 [(nI a),(nI b),(nI c)])<|.b 16 8 (a==1) (gE 8 0 (nI 0))<|.b 6 8 (a==2) (gE 8 0 (nI 0))<|.b 6 8 (a==3) (gE 8 0 (nI 0))<|.b 6 8 (a==4) (gE 8 0 (nI 0))<|.b 6 8 (a==21) (gE 8 0 (nI 0))<|.b 6 8 (a==25) (gE 8 0 (nI 0))<|.b 5 8 (a==28) (gE 6 0 (nI 0))<|.b 7 16 (a==5) (gE 8 0 (nI 1))<|.b 6 16 (a==27) (gE 8 0 (nI 1))<|.b 6 16 (a==16) (gE 8 0 (nI 1))<|.b 6 16 (a==17) (gE 8 0 (nI 1))<|.b 6 16 (a==19) (gE 8 0 (nI 1))<|.b 6 16 (a==20) (gE 8 0 (nI 1))<|.b 6 16 (a==23) (gE 8 0 (nI 1))<|.b 6 16 (a==26) (gE 8 0 (nI 1))<|.b 5 16 (a==24) (gE 6 0 (nI 1))<|.b 7 26 (a==6) (gE 8 0 (nI 2))<|.b 6 26 (a==7) (gE 8 0 (nI 2))<|.b 6 26 (a==9) (gE 8 0 (nI 2))<|.b 6 26 (a==10) (gE 8 0 (nI 2))<|.b 6 26 (a==11) (gE 8 0 (nI 2))<|.b 6 26 (a==12) (gE 8 0 (nI 2))<|.b 6 26 (a==13) (gE 8 0 (nI 2))<|.b 6 26 (a==18) (gE 8 0 (nI 2))<|.b 5 26 (a==22) (gE 6 0 (nI 2))<|.b 6 36 (a==8) (gE 6 0 (nI 3))<|.b 6 38 (a==15) (gw 5 41 (1+b)<|gE 3 0 (nI (1+b)))<|.b 6 42 (a==14) (gE 7 0 (nI c))<|gE 8 0 (nI (-1))
def aUm:=fun a b c d=>mH a b c|>.t d tv
def aUn:=fun a b c d e=>mH a b c|>.f d|>.t e tv
def aUo:=fun a b c d e f=>mH a b c|>.f d|>.f e|>.t f tv
def aUp:=fun a b c d e f g=>mH a b c|>.f d|>.f e|>.f f|>.t g tv
def aUq:=fun a b c d e f g i=>mH a b c|>.f d|>.f e|>.f f|>.f g|>.t i tv
def aUr:=fun a b c d e f g i j=>mH a b c|>.f d|>.f e|>.f f|>.f g|>.f i|>.t j tv
def aUs:=fun a b c d e f g i j k=>mH a b c|>.f d|>.f e|>.f f|>.f g|>.f i|>.f j|>.t k tv
def aUt:=fun a b c d e f g i j k l=>mH a b c|>.f d|>.f e|>.f f|>.f g|>.f i|>.f j|>.f k|>.t l tv
def aUu:=fun a b c d e f g i j k l m=>mH a b c|>.f d|>.f e|>.f f|>.f g|>.f i|>.f j|>.f k|>.f l|>.t m tv
def aUv:=fun a b c d e f g i j k l m n=>mH a b c|>.f d|>.f e|>.f f|>.f g|>.f i|>.f j|>.f k|>.f l|>.f m|>.t n tv
def aP1:=fun a b c d e f g i j k l m n o=>mH a b c|>.f d|>.f e|>.f f|>.f g|>.f i|>.f j|>.f k|>.f l|>.f m|>.f n|>.t o tv
def aP2:=fun a b c d e f g i j k l m n o p=>mH a b c|>.f d|>.f e|>.f f|>.f g|>.f i|>.f j|>.f k|>.f l|>.f m|>.f n|>.f o|>.t p tv
def aP3:=fun a b c d e f g i j k l m n o p q=>mH a b c|>.f d|>.f e|>.f f|>.f g|>.f i|>.f j|>.f k|>.f l|>.f m|>.f n|>.f o|>.f p|>.t q tv
def aP4:=fun a b c d e f g i j k l m n o p q r=>mH a b c|>.f d|>.f e|>.f f|>.f g|>.f i|>.f j|>.f k|>.f l|>.f m|>.f n|>.f o|>.f p|>.f q|>.t r tv
def aP5:=fun a b c d e f g i j k l m n o p q r s=>mH a b c|>.f d|>.f e|>.f f|>.f g|>.f i|>.f j|>.f k|>.f l|>.f m|>.f n|>.f o|>.f p|>.f q|>.f r|>.t s tv
def aP6:=fun a b c d e f g i j k l m n o p q r s t=>mH a b c|>.f d|>.f e|>.f f|>.f g|>.f i|>.f j|>.f k|>.f l|>.f m|>.f n|>.f o|>.f p|>.f q|>.f r|>.f s|>.t t tv
def aP7:=fun a b c d e f g i j k l m n o p q r s t u=>mH a b c|>.f d|>.f e|>.f f|>.f g|>.f i|>.f j|>.f k|>.f l|>.f m|>.f n|>.f o|>.f p|>.f q|>.f r|>.f s|>.f t|>.t u tv
def aP8:=fun a b c d e f g i j k l m n o p q r s t u v=>mH a b c|>.f d|>.f e|>.f f|>.f g|>.f i|>.f j|>.f k|>.f l|>.f m|>.f n|>.f o|>.f p|>.f q|>.f r|>.f s|>.f t|>.f u|>.t v tv
def aP9:=fun a b c d e f g i j k l m n o p q r s t u v w=>mH a b c|>.f d|>.f e|>.f f|>.f g|>.f i|>.f j|>.f k|>.f l|>.f m|>.f n|>.f o|>.f p|>.f q|>.f r|>.f s|>.f t|>.f u|>.f v|>.t w tv
def aQa:=fun a b c d e f g i j k l m n o p q r s t u v w x=>mH a b c|>.f d|>.f e|>.f f|>.f g|>.f i|>.f j|>.f k|>.f l|>.f m|>.f n|>.f o|>.f p|>.f q|>.f r|>.f s|>.f t|>.f u|>.f v|>.f w|>.t x tv
def aQb:=fun a b c d e f g i j k l m n o p q r s t u v w x y=>mH a b c|>.f d|>.f e|>.f f|>.f g|>.f i|>.f j|>.f k|>.f l|>.f m|>.f n|>.f o|>.f p|>.f q|>.f r|>.f s|>.f t|>.f u|>.f v|>.f w|>.f x|>.t y tv
def aQc:=fun a b c d e f g i j k l m n o p q r s t u v w x y z=>mH a b c|>.f d|>.f e|>.f f|>.f g|>.f i|>.f j|>.f k|>.f l|>.f m|>.f n|>.f o|>.f p|>.f q|>.f r|>.f s|>.f t|>.f u|>.f v|>.f w|>.f x|>.f y|>.t z tv
def aQd:=fun a b c d e f g i j k l m n o p q r s t u v w x y z A=>mH a b c|>.f d|>.f e|>.f f|>.f g|>.f i|>.f j|>.f k|>.f l|>.f m|>.f n|>.f o|>.f p|>.f q|>.f r|>.f s|>.f t|>.f u|>.f v|>.f w|>.f x|>.f y|>.f z|>.t A tv
def aQe:=fun a b c d e f g i j k l m n o p q r s t u v w x y z A B=>mH a b c|>.f d|>.f e|>.f f|>.f g|>.f i|>.f j|>.f k|>.f l|>.f m|>.f n|>.f o|>.f p|>.f q|>.f r|>.f s|>.f t|>.f u|>.f v|>.f w|>.f x|>.f y|>.f z|>.f A|>.t B tv
def aQf:=fun a b c d e f g i j k l m n o p q r s t u v w x y z A B C=>mH a b c|>.f d|>.f e|>.f f|>.f g|>.f i|>.f j|>.f k|>.f l|>.f m|>.f n|>.f o|>.f p|>.f q|>.f r|>.f s|>.f t|>.f u|>.f v|>.f w|>.f x|>.f y|>.f z|>.f A|>.f B|>.t C tv
def aQg:=fun a b c d e f g i j k l m n o p q r s t u v w x y z A B C D=>mH a b c|>.f d|>.f e|>.f f|>.f g|>.f i|>.f j|>.f k|>.f l|>.f m|>.f n|>.f o|>.f p|>.f q|>.f r|>.f s|>.f t|>.f u|>.f v|>.f w|>.f x|>.f y|>.f z|>.f A|>.f B|>.f C|>.t D tv
def aQh:=fun a b c d e f g i j k l m n o p q r s t u v w x y z A B C D F G=>mH a b c|>.f d|>.f e|>.f f|>.f g|>.f i|>.f j|>.f k|>.f l|>.f m|>.f n|>.f o|>.f p|>.f q|>.f r|>.f s|>.f t|>.f u|>.f v|>.f w|>.f x|>.f y|>.f z|>.f A|>.f B|>.f C|>.f D|>.t F G tv
def aQi:=fun a b c d e f g i j k l m n o p q r s t u v w x y z A B C D F G=>mH a b c|>.f d|>.f e|>.f f|>.f g|>.f i|>.f j|>.f k|>.f l|>.f m|>.f n|>.f o|>.f p|>.f q|>.f r|>.f s|>.f t|>.f u|>.f v|>.f w|>.f x|>.f y|>.f z|>.f A|>.f B|>.f C|>.f D|>.f F|>.t G tv
def aQj:=fun a b c d e f g i j k l m n o p q r s t u v w x y z A B C D F G=>mH a b c|>.f d|>.f e|>.f f|>.f g|>.f i|>.f j|>.f k|>.f l|>.f m|>.f n|>.f o|>.f p|>.f q|>.f r|>.f s|>.f t|>.f u|>.f v|>.f w|>.f x|>.f y|>.f z|>.f A|>.f B|>.f C|>.f D|>.f F|>.f G tv
theorem Ends.eqv {P:Program}{m:Nat}{s:AS}{v v':AV}{h':Hp}(h:Ends P m s (.ret v) h')(e:v=v') :Ends P m s (.ret v') h':=e ▸ h
theorem inB_iff {n lo hi:Int}:dH n lo hi=true↔lo≤n∧n≤hi:=by simp [dH]
theorem inB_not {n lo a:Int}:dH n lo a=false↔¬ (lo≤n∧n≤a) :=by simp [dH]
theorem sdI {p:Prop}(h:p:=by first|assumption|rfl| (simp only [oM];assumption) | (simp only [decide_eq_true_eq,decide_eq_false_iff_not];omega) |omega| (apply wrap64<;>omega) | (simp_all;done) | (simp only [inB_iff,inB_not,beq_iff_eq,decide_eq_true_eq,decide_eq_false_iff_not]at *;omega)) :p:=h
theorem idT {p:Prop}(h:p:=by exact⟨_,kH (by simp only [inB_iff,inB_not,beq_iff_eq,decide_eq_true_eq,decide_eq_false_iff_not]at *;omega)⟩) :p:=h
def cL (op pats args:Int) :Int:=
 if op=1∨op=2∨op=3∨op=4∨op=21∨op=25∨op=28 then 0
 else if op=5∨op=27∨op=16∨op=17∨op=19∨op=20∨op=23∨op=26∨op=24 then 1
 else if op=6∨op=7∨op=9∨op=10∨op=11∨op=12∨op=13∨op=18∨op=22 then 2
 else if op=8 then 3 else if op=15 then 1+pats else if op=14 then args else -1
theorem bA9 (op pats a:Int)(hp:0≤pats)(D:pats≤1000) :Ends PP 0 (start PP 105 [.int .i64 op,.int .i64 pats,.int .i64 a]).as (.ret (.int .i64 (cL op pats a))) (aA [] 0) :=by
 cases d: (op== (1:Int))
 case true=>exact Ends.eqv (aUm op pats a   d) (by simp_all [cL])
 cases e: (op== (2:Int))
 case true=>exact Ends.eqv (aUn op pats a   d e) (by simp_all [cL])
 cases g: (op== (3:Int))
 case true=>exact Ends.eqv (aUo op pats a   d e g) (by simp_all [cL])
 cases i: (op== (4:Int))
 case true=>exact Ends.eqv (aUp op pats a   d e g i) (by simp_all [cL])
 cases j: (op== (21:Int))
 case true=>exact Ends.eqv (aUq op pats a   d e g i j) (by simp_all [cL])
 cases l: (op== (25:Int))
 case true=>exact Ends.eqv (aUr op pats a   d e g i j l) (by simp_all [cL])
 cases m: (op== (28:Int))
 case true=>exact Ends.eqv (aUs op pats a   d e g i j l m) (by simp_all [cL])
 cases o: (op== (5:Int))
 case true=>exact Ends.eqv (aUt op pats a   d e g i j l m o) (by simp_all [cL])
 cases q: (op== (27:Int))
 case true=>exact Ends.eqv (aUu op pats a   d e g i j l m o q) (by simp_all [cL])
 cases b: (op== (16:Int))
 case true=>exact Ends.eqv (aUv op pats a   d e g i j l m o q b) (by simp_all [cL])
 cases c: (op== (17:Int))
 case true=>exact Ends.eqv (aP1 op pats a   d e g i j l m o q b c) (by simp_all [cL])
 cases f: (op== (19:Int))
 case true=>exact Ends.eqv (aP2 op pats a   d e g i j l m o q b c f) (by simp_all [cL])
 cases h: (op== (20:Int))
 case true=>exact Ends.eqv (aP3 op pats a   d e g i j l m o q b c f h) (by simp_all [cL])
 cases k: (op== (23:Int))
 case true=>exact Ends.eqv (aP4 op pats a   d e g i j l m o q b c f h k) (by simp_all [cL])
 cases n: (op== (26:Int))
 case true=>exact Ends.eqv (aP5 op pats a   d e g i j l m o q b c f h k n) (by simp_all [cL])
 cases p: (op== (24:Int))
 case true=>exact Ends.eqv (aP6 op pats a   d e g i j l m o q b c f h k n p) (by simp_all [cL])
 cases r: (op== (6:Int))
 case true=>exact Ends.eqv (aP7 op pats a   d e g i j l m o q b c f h k n p r) (by simp_all [cL])
 cases s: (op== (7:Int))
 case true=>exact Ends.eqv (aP8 op pats a   d e g i j l m o q b c f h k n p r s) (by simp_all [cL])
 cases t: (op== (9:Int))
 case true=>exact Ends.eqv (aP9 op pats a   d e g i j l m o q b c f h k n p r s t) (by simp_all [cL])
 cases u: (op== (10:Int))
 case true=>exact Ends.eqv (aQa op pats a   d e g i j l m o q b c f h k n p r s t u) (by simp_all [cL])
 cases v: (op== (11:Int))
 case true=>exact Ends.eqv (aQb op pats a   d e g i j l m o q b c f h k n p r s t u v) (by simp_all [cL])
 cases w: (op== (12:Int))
 case true=>exact Ends.eqv (aQc op pats a   d e g i j l m o q b c f h k n p r s t u v w) (by simp_all [cL])
 cases x: (op== (13:Int))
 case true=>exact Ends.eqv (aQd op pats a   d e g i j l m o q b c f h k n p r s t u v w x) (by simp_all [cL])
 cases y: (op== (18:Int))
 case true=>exact Ends.eqv (aQe op pats a   d e g i j l m o q b c f h k n p r s t u v w x y) (by simp_all [cL])
 cases z: (op== (22:Int))
 case true=>exact Ends.eqv (aQf op pats a   d e g i j l m o q b c f h k n p r s t u v w x y z) (by simp_all [cL])
 cases A: (op== (8:Int))
 case true=>exact Ends.eqv (aQg op pats a   d e g i j l m o q b c f h k n p r s t u v w x y z A) (by simp_all [cL])
 cases B: (op== (15:Int))
 case true=>exact Ends.eqv (aQh op pats a   d e g i j l m o q b c f h k n p r s t u v w x y z A B sdI) (by simp_all [cL])
 cases C: (op== (14:Int))
 case true=>exact Ends.eqv (aQi op pats a   d e g i j l m o q b c f h k n p r s t u v w x y z A B C) (by simp_all [cL])
 exact Ends.eqv (aQj op pats a   d e g i j l m o q b c f h k n p r s t u v w x y z A B C) (by simp_all [cL])
theorem aQk (op pats a:Int)(hp:0≤pats)(b:pats≤1000) :aJ PP 105 [.int .i64 op,.int .i64 pats,.int .i64 a] (.int .i64 (cL op pats a)) :=
 aO aC rfl rfl (bA9 op pats a hp b)
def fA (cons:List Con)(n:Int) :Int:=match cons[n.toNat]? with
 |some c=>c.args
 |none=> -1
def dL (cons:List Con)(f n:Int)(s:cA)(k:Nat) :Bool:=
 (if f=1∨f=2∨f=5 then decide (k=0) &&decide (n=0)
 else if f=3 then decide (k=0) &&dH n (-1000000000) 1000000000
 else if f=4 then decide (k=0) &&dH n 0 1
 else if f=6 then dH n 0 ((cons.length:Int) -1) &&decide ((k:Int) =fA cons n)
 else false) &&decide (s= [])
mutual
def cJ (cons:List Con) :Pat→Bool
 | .mk f n s ps=>dL cons f n s ps.length&&bY cons ps
def bY (cons:List Con) :List Pat→Bool
 | [] =>true
 |p::ps=>cJ cons p&&bY cons ps
end
theorem ptT {p:Prop}(h:p:=by simp_all [dL,fA,dR]) :p:=h
theorem bGl (c e:Int)(d:cA)(a:List Pat)(cons:List Con)(hc:cons.length≤1000)(b:Bool)(hk:∀i:Bool,i=dL cons c e d a.length→Ends PP 0 (eA c e d a cons i 0).as (.ret (.bool b)) (aA [] 0)) :
  Ends PP 0 (start PP 104 [Pat.av (.mk c e d a),.ilst 2 (map Con.av cons) false]).as (.ret (.bool b)) (aA [] 0) :=by
 cases f: (c== (1:Int))
 case true=>
  cases t: (((length a:Nat) :Int) == (0:Int))
  case true=>
   cases w: (e== (0:Int))
   case true=>exact LeadsM.ends (aWQ c e d a cons   f t w) (hk _ (by clear hk;exact ptT))
   exact LeadsM.ends (aWR c e d a cons   f t w) (hk _ (by clear hk;exact ptT))
  exact LeadsM.ends (aWS c e d a cons   f t) (hk _ (by clear hk;exact ptT))
 cases g: (c== (2:Int))
 case true=>
  cases u: (((length a:Nat) :Int) == (0:Int))
  case true=>
   cases z: (e== (0:Int))
   case true=>exact LeadsM.ends (aWT c e d a cons   f g u z) (hk _ (by clear hk;exact ptT))
   exact LeadsM.ends (aWU c e d a cons   f g u z) (hk _ (by clear hk;exact ptT))
  exact LeadsM.ends (aWV c e d a cons   f g u) (hk _ (by clear hk;exact ptT))
 cases j: (c== (5:Int))
 case true=>
  cases v: (((length a:Nat) :Int) == (0:Int))
  case true=>
   cases x: (e== (0:Int))
   case true=>exact LeadsM.ends (aWW c e d a cons   f g j v x) (hk _ (by clear hk;exact ptT))
   exact LeadsM.ends (aWX c e d a cons   f g j v x) (hk _ (by clear hk;exact ptT))
  exact LeadsM.ends (aWY c e d a cons   f g j v) (hk _ (by clear hk;exact ptT))
 cases h: (c== (3:Int))
 case true=>
  cases m: (((length a:Nat) :Int) == (0:Int))
  case true=>
   cases r: (dH e (-1000000000) 1000000000)
   case true=>exact LeadsM.ends (aWZ c e d a cons  (dH e (-1000000000) 1000000000) f g j h m (aX e (-1000000000) 1000000000) r) (hk _ (by clear hk;exact ptT))
   exact LeadsM.ends (aUd c e d a cons  (dH e (-1000000000) 1000000000) f g j h m (aX e (-1000000000) 1000000000) r) (hk _ (by clear hk;exact ptT))
  exact LeadsM.ends (aUe c e d a cons   f g j h m) (hk _ (by clear hk;exact ptT))
 cases k: (c== (4:Int))
 case true=>
  cases o: (((length a:Nat) :Int) == (0:Int))
  case true=>
   cases s: (dH e 0 1)
   case true=>exact LeadsM.ends (aUf c e d a cons  (dH e 0 1) f g j h k o (aX e 0 1) s) (hk _ (by clear hk;exact ptT))
   exact LeadsM.ends (aUg c e d a cons  (dH e 0 1) f g j h k o (aX e 0 1) s) (hk _ (by clear hk;exact ptT))
  exact LeadsM.ends (aUh c e d a cons   f g j h k o) (hk _ (by clear hk;exact ptT))
 cases l: (c== (6:Int))
 case true=>
  cases n: (dH e 0 (((length cons:Nat) :Int) - (1:Int)))
  case true=>
   obtain⟨A,q⟩ :∃y,((cons)[e.toNat]?) =some y:=idT;cases p: (((length a:Nat) :Int) ==A.args)
   case true=>exact LeadsM.ends (aUi c e d a cons  (dH e 0 (((length cons:Nat) :Int) - (1:Int))) A f g j h k l sdI (aX e 0 (((length cons:Nat) :Int) - (1:Int))) n sdI q p) (hk _ (by clear hk;exact ptT))
   exact LeadsM.ends (aUj c e d a cons  (dH e 0 (((length cons:Nat) :Int) - (1:Int))) A f g j h k l sdI (aX e 0 (((length cons:Nat) :Int) - (1:Int))) n sdI q p) (hk _ (by clear hk;exact ptT))
  exact LeadsM.ends (aUk c e d a cons  (dH e 0 (((length cons:Nat) :Int) - (1:Int))) f g j h k l sdI (aX e 0 (((length cons:Nat) :Int) - (1:Int))) n) (hk _ (by clear hk;exact ptT))
 exact LeadsM.ends (aUl c e d a cons   f g j h k l) (hk _ (by clear hk;exact ptT))
theorem aIN (f n:Int)(s:cA)(ps:List Pat)(cons:List Con)(hl:ps.length<1000000)(e:∀p∈ps,aJ PP 104 [Pat.av p,.ilst 2 (map Con.av cons) false] (.bool (cJ cons p))) :
  ∀ (t:List Pat) (i:Nat) (b:Bool),ps.drop i=t→Ends PP 0 (eA f n s ps cons b (i:Int)).as (.ret (.bool (b&&bY cons t))) (aA [] 0)
 | [],i,b,h=>by
  have:=bJ h;exact Ends.eqv (aW2 f n s ps cons b i sd) (by simp [bY])
 | .mk g d c a::t,i,b,h=>by
  obtain⟨j,k,l⟩ :=bE h;cases b
  case false=>exact Ends.eqv (aW1 f n s ps cons false i sd rfl) (by simp)
  refine(aW0 f n s ps cons true i g d c a _ sd rfl sd sd (e (.mk g d c a) (iO j)) sd).ends ?_;exact Ends.eqv (aIN f n s ps cons hl e t (i+1) _ k) (by simp [bY])
mutual
theorem aIO (cons:List Con)(hc:cons.length≤1000) :∀ (p:Pat),cB p<1000000→aJ PP 104 [Pat.av p,.ilst 2 (map Con.av cons) false] (.bool (cJ cons p))
 | .mk f n s a,h=>by
  refine aO aC (by simp [keylessL,mF,keyless]) rfl ?_;simp only [cB]at h;have:=eT a;refine bGl f n s a cons hc _ (fun i b=>?_);subst b;rw [cJ];exact aIN f n s a cons (by omega) (aM4 cons hc a (by omega)) a 0 _ rfl
theorem aM4 (cons:List Con)(hc:cons.length≤1000) :∀ (b:List Pat),aT b<1000000→∀p∈b,aJ PP 104 [Pat.av p,.ilst 2 (map Con.av cons) false] (.bool (cJ cons p))
 | [],_,p,a=>by cases a
 | q::b,h,p,a=>by
  simp only [aT]at h;rcases zq7.1 a with e|a
  ·rw [e];exact aIO cons hc q (by omega)
  ·exact aM4 cons hc b (by omega) p a
end
def mAt (m:List (Int×Int))(n:Int) :Int:= (mR n m).getD 0
mutual
def aM5 (mc:List (Int×Int)) :Pat→Pat
 | .mk f n t ps=>.mk f (if f=6 then mAt mc n else n) t (oR mc ps)
def oR (mc:List (Int×Int)) :List Pat→List Pat
 | [] =>[]
 |p::ps=>aM5 mc p::oR mc ps
end
section
variable (mf mc:List (Int×Int))
end
def aUw (to:List Int)(k:Int) :Int:=to.getD k.toNat 0
def bZ(a:Prog)(b:Node)(c:Bool)(d e:Int):TS:=⟨(tf 64 112 [kp 2 0,kp 3 1,(4,(bV false)),(5,(nI d)),(6,(bV c)),(7,(nI e))] [kc f64 1012,kl f64 1012,.inBlock 1,kc f64 127]),[],[oC 0 [(iN a.nodes),(iI a.funs),(nI a.main),(iC a.cons)],oC 1 [(nI b.op),(nI b.n),(iI b.kids),(iP b.pats)]],2⟩
def aB6(b:List Con)(c:Int)(a:List cA):TS:=⟨(tf 63 42 [(0,(iC b)),(2,(bV false)),(3,(.gl 0 1 0 a.length false)),(4,(nI c))] [kc f63 116,kl f63 116,.inBlock 0,kc f63 15]),[],[oL 0 1 (map dP a)],1⟩
def vJ(a:Prog)(c:Int)(b:List Bool):TS:=⟨(tf 27 133 [kp 1 0,(2,(bV false)),(3,(nI (a.nodes.length:Int))),(4,(.gl 1 1 0 b.length true)),(5,(nI c))] [kc f27 500,kl f27 500,.inBlock 0,kc f27 63]),[],[oC 0 [(iN a.nodes),(iI a.funs),(nI a.main),(iC a.cons)],oL 1 1 (map kU b)],2⟩
def qI(a:Prog)(b:List Bool)(c:Int):TS:=⟨(tf 27 133 [kp 1 0,(2,(bV false)),(3,(nI (a.nodes.length:Int))),(4,(.gl 1 1 0 b.length true)),(6,(nI c))] [kc f27 1012,kl f27 1012,.inBlock 2,kc f27 127]),[],[oC 0 [(iN a.nodes),(iI a.funs),(nI a.main),(iC a.cons)],oL 1 1 (map kU b)],2⟩
def vK(a:Prog)(b:List Bool)(c d:Int):TS:=⟨(tf 27 133 [kp 1 0,(2,(bV false)),(3,(nI (a.nodes.length:Int))),(4,(.gl 1 1 0 b.length true)),(6,(nI d)),(7,(nI c))] [kc f27 129612,kl f27 129612,.inBlock 4,.inBlock 3,kc f27 4051,kl f27 1012,.inBlock 2,kc f27 127]),[],[oC 0 [(iN a.nodes),(iI a.funs),(nI a.main),(iC a.cons)],oL 1 1 (map kU b)],2⟩
def vL(b:Prog)(a:List Bool)(c:Int):TS:=⟨(tf 27 133 [(2,(bV false)),(3,(nI (b.nodes.length:Int))),(4,(.gl 0 1 0 a.length true)),(9,(nI c))] [kc f27 2036,kl f27 2036,.inBlock 6,kc f27 255]),[],[oL 0 1 (map kU a)],1⟩
def pM(b:Prog)(a:Node):=tT 0 (start PP 64 [(Prog.av b),(Node.av a)])<|.b 29 13 (a.op==1) (lW 4 62 [(nI a.n),(nI (-1000000000)),(nI 1000000000)]<|fun c=>.b 10 56 (a.op==15) (.b 4 58 c (gm 2 aH a.pats<|lW 0 62 [(nI (a.pats.length:Int)),(nI 1),(nI 5)]<|fun d=>.W 10 2 [0,1] (bZ b a d 0 0))<|.W 14 2 [0,1] (bZ b a false 0 0))<|.b 4 65 c (gm 2 aH a.pats<|.W 11 2 [0,1] (bZ b a ((a.pats.length:Int) ==0) 0 0))<|.W 14 2 [0,1] (bZ b a false 0 0))<|.b 6 18 (a.op==2) (lW 4 62 [(nI a.n),(nI 0),(nI 1)]<|fun c=>.b 10 56 (a.op==15) (.b 4 58 c (gm 2 aH a.pats<|lW 0 62 [(nI (a.pats.length:Int)),(nI 1),(nI 5)]<|fun d=>.W 10 2 [0,1] (bZ b a d 0 0))<|.W 14 2 [0,1] (bZ b a false 0 0))<|.b 4 65 c (gm 2 aH a.pats<|.W 11 2 [0,1] (bZ b a ((a.pats.length:Int) ==0) 0 0))<|.W 14 2 [0,1] (bZ b a false 0 0))<|.b 6 23 (a.op==4) (gl 6 bU b.funs<|gw 1 30 (0- (b.funs.length:Int))<|lW 0 62 [(nI a.n),(nI (0- (b.funs.length:Int))),(nI 29)]<|fun c=>.b 10 56 (a.op==15) (.b 4 58 c (gm 2 aH a.pats<|lW 0 62 [(nI (a.pats.length:Int)),(nI 1),(nI 5)]<|fun d=>.W 10 2 [0,1] (bZ b a d 0 0))<|.W 14 2 [0,1] (bZ b a false 0 0))<|.b 4 65 c (gm 2 aH a.pats<|.W 11 2 [0,1] (bZ b a ((a.pats.length:Int) ==0) 0 0))<|.W 14 2 [0,1] (bZ b a false 0 0))<|.b 6 32 (a.op==24) (lW 4 62 [(nI a.n),(nI 0),(nI 3)]<|fun c=>.b 10 56 (a.op==15) (.b 4 58 c (gm 2 aH a.pats<|lW 0 62 [(nI (a.pats.length:Int)),(nI 1),(nI 5)]<|fun d=>.W 10 2 [0,1] (bZ b a d 0 0))<|.W 14 2 [0,1] (bZ b a false 0 0))<|.b 4 65 c (gm 2 aH a.pats<|.W 11 2 [0,1] (bZ b a ((a.pats.length:Int) ==0) 0 0))<|.W 14 2 [0,1] (bZ b a false 0 0))<|.b 6 37 (a.op==14) (gl 7 Con.av b.cons<|gw 1 44 ((b.cons.length:Int) -1)<|lW 0 62 [(nI a.n),(nI 0),(nI ((b.cons.length:Int) -1))]<|fun c=>.b 6 46 c (gX Con.av 6 b.cons a.n<|fun d=>.b 12 56 (a.op==15) (.b 4 58 c (gm 2 aH a.pats<|lW 0 62 [(nI (a.pats.length:Int)),(nI 1),(nI 5)]<|fun e=>.W 10 2 [0,1] (bZ b a e d.args 0)) .x)<|.b 4 65 c (gm 2 aH a.pats<|.W 11 2 [0,1] (bZ b a ((a.pats.length:Int) ==0) d.args 0)) .x)<|.b 10 56 (a.op==15) (.b 4 58 c .x<|.W 14 2 [0,1] (bZ b a false 0 0))<|.b 4 65 c .x<|.W 14 2 [0,1] (bZ b a false 0 0))<|.b 10 56 (a.op==15) (.b 4 58 (a.n==0) (gm 2 aH a.pats<|lW 0 62 [(nI (a.pats.length:Int)),(nI 1),(nI 5)]<|fun c=>.W 10 2 [0,1] (bZ b a c 0 0))<|.W 14 2 [0,1] (bZ b a false 0 0))<|.b 4 65 (a.n==0) (gm 2 aH a.pats<|.W 11 2 [0,1] (bZ b a ((a.pats.length:Int) ==0) 0 0))<|.W 14 2 [0,1] (bZ b a false 0 0)
def aUx:=fun a b c d e f g i j=>pM a b|>.t e c f|>.t g|>.t i d j tv
def aUy:=fun a b c d e f g=>pM a b|>.t d c e|>.t f|>.f g tv
def aUz:=fun a b c d e f g=>pM a b|>.t d c e|>.f f|>.t g tv
def aUA:=fun a b c d e f g=>pM a b|>.t d c e|>.f f|>.f g tv
def aUB:=fun a b c d e f g i j k=>pM a b|>.f e|>.t f c g|>.t i|>.t j d k tv
def aUC:=fun a b c d e f g i=>pM a b|>.f d|>.t e c f|>.t g|>.f i tv
def aUD:=fun a b c d e f g i=>pM a b|>.f d|>.t e c f|>.f g|>.t i tv
def aUE:=fun a b c d e f g i=>pM a b|>.f d|>.t e c f|>.f g|>.f i tv
def aUF:=fun a b c d e f g i j k l m=>pM a b|>.f e|>.f f|>.t g i c j|>.t k|>.t l d m tv
def aUG:=fun a b c d e f g i j k=>pM a b|>.f d|>.f e|>.t f g c i|>.t j|>.f k tv
def aQl:=fun a b c d e f g i j k=>pM a b|>.f d|>.f e|>.t f g c i|>.f j|>.t k tv
def aQm:=fun a b c d e f g i j k=>pM a b|>.f d|>.f e|>.t f g c i|>.f j|>.f k tv
def aQn:=fun a b c d e f g i j k l m=>pM a b|>.f e|>.f f|>.f g|>.t i c j|>.t k|>.t l d m tv
def aQo:=fun a b c d e f g i j k=>pM a b|>.f d|>.f e|>.f f|>.t g c i|>.t j|>.f k tv
def aQp:=fun a b c d e f g i j k=>pM a b|>.f d|>.f e|>.f f|>.t g c i|>.f j|>.t k tv
def aQq:=fun a b c d e f g i j k=>pM a b|>.f d|>.f e|>.f f|>.t g c i|>.f j|>.f k tv
def aQr:=fun b c d e f g i j k l m n a o p q r=>pM b c|>.f g|>.f i|>.f j|>.f k|>.t l m d n|>.t a e o p|>.t q|>.t a f r tv
def aQs:=fun b c d e f g i j k l m a n o p=>pM b c|>.f f|>.f g|>.f i|>.f j|>.t k l d m|>.t a e n o|>.f p|>.t a tv
def aQt:=fun b c d e f g i j k l a m=>pM b c|>.f e|>.f f|>.f g|>.f i|>.t j k d l|>.f a|>.t m|>.f a tv
def aQu:=fun b c d e f g i j k l a m=>pM b c|>.f e|>.f f|>.f g|>.f i|>.t j k d l|>.f a|>.f m|>.f a tv
def aQv:=fun a b c d e f g i j k l=>pM a b|>.f d|>.f e|>.f f|>.f g|>.f i|>.t j|>.t k c l tv
def aQw:=fun a b c d e f g i j=>pM a b|>.f c|>.f d|>.f e|>.f f|>.f g|>.t i|>.f j tv
def aQx:=fun a b c d e f g i j=>pM a b|>.f c|>.f d|>.f e|>.f f|>.f g|>.f i|>.t j tv
def aQy:=fun a b c d e f g i j=>pM a b|>.f c|>.f d|>.f e|>.f f|>.f g|>.f i|>.f j tv
def aW3(j:Prog)(a:Node)(i:Bool)(k b:Int):=tT 0 (bZ j a i k b)<|gm 6 aH a.pats<|gd 2 76 (b< (a.pats.length:Int)) (.b 3 78 i (.o (.y fun c:Int=>.y fun d:Int=>.y fun e:cA=>.y fun f:List Pat=>.y fun g:Int=>.y fun l:Bool=>.i [rn 4,.reg (rd 3 (.ans (.idx (Pat.av (Pat.mk c d e f)))::.d::.pure (nI g)::.d::.d::.b 88 true::rd 3 (.ans (.idx (Pat.av (Pat.mk c d e f)))::rd 3 [.pure (bV l),.d,.d])))] [hA (0≤b),.a (((a.pats)[b.toNat]?) =some (Pat.mk c d e f)) (iV aH),hA (aJ PP 69 [(.agg [(nI c),(nI d),(dP e),(iP f)]),(nI 12)] (nI g)),hA (decide (g≥0) =true),hA (0≤b),.a (((a.pats)[b.toNat]?) =some (Pat.mk c d e f)) (iV aH),hA (aJ PP 104 [(.agg [(nI c),(nI d),(dP e),(iP f)]),(iC j.cons)] (bV l))]<|gw 4 80 (b+1)<|.W 3 2 [0,1] (bZ j a l k (b+1)))<|.y fun c:Int=>.y fun d:Int=>.y fun e:cA=>.y fun f:List Pat=>.y fun g:Int=>.i [rn 4,.reg (rd 3 (.ans (.idx (Pat.av (Pat.mk c d e f)))::.d::.pure (nI g)::.d::.d::.b 88 false::rd 10 []))] [hA (0≤b),.a (((a.pats)[b.toNat]?) =some (Pat.mk c d e f)) (iV aH),hA (aJ PP 69 [(.agg [(nI c),(nI d),(dP e),(iP f)]),(nI 12)] (nI g)),hA (decide (g≥0) =false)]<|gw 4 80 (b+1)<|.W 3 2 [0,1] (bZ j a false k (b+1)))<|.i [rn 3,.reg (.d::.d::.b 99 false::rd 13 [])] [hA (i=false)]<|gE 1 2 (bV false))<|.o (.y fun m:Int=>.i [rn 6,.reg (.d::.d::.b 99 true::.d::.d::.ans (.len (a.kids.length:Int))::rd 4 (.ans (.len (a.pats.length:Int))::.d::.pure (nI m)::rd 3 []))] [hA (i=true),hl bU a.kids,hm aH a.pats,hA (aJ PP 105 [(nI a.op),(nI (a.pats.length:Int)),(nI k)] (nI m)),.q (p:=(nI ((jI a.kids).length:Int)) = (nI (a.kids.length:Int))) (congrArg (int .i64) (aMI _ _)),.q (p:=(nI ((jI a.kids).length:Int)) = (nI (a.kids.length:Int))) (congrArg (int .i64) (aMI _ _)),hr (ilst 1 (jI a.kids) false),hr (ilst 1 (jI a.kids) false)]<|gE 1 2 (bV ((a.kids.length:Int) ==m)))<|.i [rn 6,.reg (.d::.d::.b 99 false::rd 13 [])] [hA (i=false)]<|gE 1 2 (bV false)
def aUH:=fun c d e f g i j k l m n o p a b q r s t=>aW3 c d e f g|>.t o|>.t p|>.1 i j k l m n a b q r a b s t tv
def aUI:=fun a b c d e f g i j k l m n o p q r=>aW3 a b c d e|>.t l|>.t m|>.2 f g i j k n o p q r tv
def aUJ:=fun b c d e f g a=>aW3 b c d e f|>.t g|>.f a a tv
def aUK:=fun a b c d e f g i j=>aW3 a b c d e|>.f g|>.1 f i j tv
def aUL:=fun a b c d e f g=>aW3 a b c d e|>.f f|>.2 g tv
def aUM (a:List Con):=(tT 0 (start PP 63 [(iC a)])<|.i [rn 15,.nilL 3 1] []<|gu 0 0 (map dP ([] :List cA))<|gs 0 3 (.gl 0 1 0 ([] :List cA).length false)<|.W 0 1 [0] (aB6 a 0 ([] :List cA))) ⟨kk,trivial⟩
def aW4(a:List Con)(c:Int)(d:List cA):=tT 0 (aB6 a c d)<|gl 5 Con.av a<|gd 2 8 (c< (a.length:Int)) (gX Con.av 9 a c<|fun b=>lW 2 102 [(dP b.name)]<|fun e=>.b 2 18 (!e) (gE 15 1 (bV false))<|gi Con.av 2 a c b<|lW 2 62 [(nI b.args),(nI 0),(nI 3)]<|fun f=>.b 3 26 (!f) (gE 6 1 (bV false))<|gi Con.av 6 a c b<|ga 3 dP d [b.name]<|gw 6 10 (c+1)<|.W 3 3 [2] (aB6 a (c+1) (d++ [b.name])))<|gl 5 Con.av a<|gd 2 38 ((a.length:Int) ≤20) (gz 1 39 0 1 dP d false<|lW 0 103 [(iS d)]<|fun b=>gE 4 1 (bV b))<|gE 6 1 (bV false)
def aUN:=fun a b c d e f g i j k=>aW4 a b c|>.t f d g i e j|>.t k tv
def aUO:=fun c d e f g i j a b k l m n=>aW4 c d e|>.t j f a b g k|>.f l a b i m|>.t n tv
def aUP:=fun c d e f g i j a b k l m n o p=>aW4 c d e|>.t j f a b g k|>.f l a b i m|>.f n a b o p ⟨kk,trivial⟩
def aUQ:=fun a b c d e f g=>aW4 a b c|>.f e|>.t f d g tv
def aUR:=fun a b c d e=>aW4 a b c|>.f d|>.f e tv
def aW5(a:Prog):=tT 0 (start PP 27 [(Prog.av a)])<|gl 9 Node.av a.nodes<|gd 8 15 ((a.nodes.length:Int) >300) (gE 30 1 (bV false))<|gl 2 bU a.funs<|lW 1 62 [(nI (a.funs.length:Int)),(nI 1),(nI (a.nodes.length:Int))]<|fun b=>.b 3 23 (!b) (gE 22 1 (bV false))<|gl 4 bU a.funs<|gw 1 29 ((a.funs.length:Int) -1)<|lW 0 62 [(nI a.main),(nI 0),(nI ((a.funs.length:Int) -1))]<|fun c=>.b 3 33 (!c) (gE 12 1 (bV false))<|lW 2 63 [(iC a.cons)]<|fun d=>.b 3 38 (!d) (gE 6 1 (bV false))<|.i [rn 5,.mk a.nodes.length] [hr (a.nodes.length:Int),hr (a.nodes.length:Int),hA (a.nodes.length<100000)]<|.i [.lset 1 (map kU (replicate a.nodes.length false))] [.q (p:=replicate a.nodes.length (kU false) = (map kU (replicate a.nodes.length false))) (aEU _ _ _)]<|.i [.set 40 (.gl 1 1 0 (replicate a.nodes.length false).length true)] [.q (p:=(AV.gl 1 1 0 a.nodes.length true) = (.gl 1 1 0 (replicate a.nodes.length false).length true)) (bT (aAs ..).symm)]<|.W 9 2 [0,1] (vJ a 0 (replicate a.nodes.length false))
def aM6:=fun a b=>aW5 a|>.t b tv
def aM7:=fun a b c d e=>aW5 a|>.f c b d|>.t e tv
def aM8:=fun a b c d e f g i j=>aW5 a|>.f d b e|>.f f g c i|>.t j tv
def aM9:=fun a b c d e f g i j k l m=>aW5 a|>.f e b f|>.f g i c j|>.f k d l|>.t m tv
def aNa:=fun a b c d e f g i j k l m n=>aW5 a|>.f e b f|>.f g i c j|>.f k d l|>.f m n ⟨kk,trivial⟩
def bBa(c:Prog)(d:Int)(a:List Bool):=tT 0 (vJ c d a)<|gl 6 bU c.funs<|gd 2 45 (d< (c.funs.length:Int)) (gX bU 10 c.funs d<|fun b=>gw 3 54 ((c.nodes.length:Int) -1)<|lW 0 62 [(nI b),(nI 0),(nI ((c.nodes.length:Int) -1))]<|fun f=>.b 2 57 (!f) (gE 16 2 (bV false))<|gi bU 4 c.funs d b<|.i [rn 1,.ans (.ix)] [hA (0≤b),hA (b< (a.length:Int))]<|.y fun e:Bool=>gj kU 0 a b.toNat e<|.b 2 66 e (gE 6 2 (bV false))<|gi bU 7 c.funs d b<|.i [rn 1,.ans (.ix)] [hA (0≤b),hA (b< (a.length:Int))]<|.i [.st (kU e) (kU true)] [.a (((a)[b.toNat]?) =some e) (cU (f:=kU)),hr (some (kU true))]<|.i [.lset 1 (map kU (set a b.toNat true))] [.q (p:=(map kU a).set (0+b.toNat) (kU true) = (map kU (set a b.toNat true))) (mE _ _ _ _)]<|.i [.set 4 (.gl 1 1 0 (set a b.toNat true).length true)] [.q (p:=(AV.gl 1 1 0 a.length true) = (.gl 1 1 0 (set a b.toNat true).length true)) (bT (eG ..).symm)]<|.i [.set 58 (.gl 1 1 0 (set a b.toNat true).length true)] [.q (p:=(AV.gl 1 1 0 a.length true) = (.gl 1 1 0 (set a b.toNat true).length true)) (bT (eG ..).symm)]<|.i [.set 67 (.gl 1 1 0 (set a b.toNat true).length true)] [.q (p:=(AV.gl 1 1 0 a.length true) = (.gl 1 1 0 (set a b.toNat true).length true)) (bT (eG ..).symm)]<|gw 5 47 (d+1)<|.W 3 2 [0,1] (vJ c (d+1) (set a b.toNat true)))<|.W 9 2 [0,1] (qI c a 0)
def aNb:=fun a b c d e f g i j k l=>bBa a b c|>.t f d g i j e k|>.t l tv
def aNc:=fun c d e f g i j a b k l m n o p q=>bBa c d e|>.t j f a b k g l|>.f m a b n o i p|>.t q tv
def aNd:=fun f g i j k l m a b n o p c d e q r=>bBa f g i|>.t m j a b n k o|>.f p a b c d l e|>.f q a b c d e r ⟨kk,trivial⟩
def aNe:=fun a b c d=>bBa a b c|>.f d ⟨kk,trivial⟩
def bGm(a:Prog)(c:List Bool)(b:Int):=tT 0 (qI a c b)<|gd 7 76 (b< (a.nodes.length:Int)) (.y fun d:Node=>.y fun e:Bool=>.i [rn 6,.reg (rd 4 [.ans (.idx (Node.av d)),.d,.pure (bV e),.d])] [hA (0≤b),.a (((a.nodes)[b.toNat]?) =some d) (bP (f:=Node.av)),hA (aJ PP 64 [(Prog.av a),(Node.av d)] (bV e))]<|.b 0 86 (!e) (gE 6 2 (bV false))<|.W 8 2 [0,1] (vK a c 0 b))<|.W 9 2 [1] (vL a c 0)
def aNf:=fun a b c d e f g i j k=>bGm a b c|>.t f d e g i j|>.t k tv
def aNg:=fun a b c d e f g i j k=>bGm a b c|>.t f d e g i j|>.f k ⟨kk,trivial⟩
def aNh:=fun a b c d=>bGm a b c|>.f d ⟨kk,trivial⟩
def bBb(d:Prog)(a:List Bool)(e c:Int):=tT 0 (vK d a e c)<|gX Node.av 7 d.nodes c<|fun f=>gl 2 bU f.kids<|gd 2 95 (e< (f.kids.length:Int)) (gi Node.av 9 d.nodes c f<|gX bU 3 f.kids e<|fun b=>gw 9 109 (c+1)<|gw 2 111 ((d.nodes.length:Int) -1)<|lW 0 62 [(nI b),(nI (c+1)),(nI ((d.nodes.length:Int) -1))]<|fun i=>.b 2 114 (!i) (gE 12 2 (bV false))<|.i [rn 2,.ans (.ix)] [hA (0≤b),hA (b< (a.length:Int))]<|.y fun g:Bool=>gj kU 0 a b.toNat g<|.b 2 119 g (gE 6 2 (bV false))<|.i [rn 5,.ans (.ix)] [hA (0≤b),hA (b< (a.length:Int))]<|.i [.st (kU g) (kU true)] [.a (((a)[b.toNat]?) =some g) (cU (f:=kU)),hr (some (kU true))]<|.i [.lset 1 (map kU (set a b.toNat true))] [.q (p:=(map kU a).set (0+b.toNat) (kU true) = (map kU (set a b.toNat true))) (mE _ _ _ _)]<|.i [.set 4 (.gl 1 1 0 (set a b.toNat true).length true)] [.q (p:=(AV.gl 1 1 0 a.length true) = (.gl 1 1 0 (set a b.toNat true).length true)) (bT (eG ..).symm)]<|.i [.set 115 (.gl 1 1 0 (set a b.toNat true).length true)] [.q (p:=(AV.gl 1 1 0 a.length true) = (.gl 1 1 0 (set a b.toNat true).length true)) (bT (eG ..).symm)]<|.i [.set 120 (.gl 1 1 0 (set a b.toNat true).length true)] [.q (p:=(AV.gl 1 1 0 a.length true) = (.gl 1 1 0 (set a b.toNat true).length true)) (bT (eG ..).symm)]<|gw 5 97 (e+1)<|.W 3 2 [0,1] (vK d (set a b.toNat true) (e+1) c))<|gw 6 78 (c+1)<|.W 3 2 [0,1] (qI d a (c+1))
def aNi:=fun c d e f g i j a b k l m n o p q=>bBb c d e f g a b|>.t k a b i l m n o j p|>.t q tv
def aNj:=fun c d e f g i j k a b l m n o p q r s t u v=>bBb c d e f g a b|>.t l a b i m n o p j q|>.f r s t k u|>.t v tv
def aNk:=fun f g i j k l m n a b o p q r s t u c d e v w=>bBb f g i j k a b|>.t o a b l p q r s m t|>.f u c d n e|>.f v c d e w ⟨kk,trivial⟩
def aNl:=fun a b c d e f g i j=>bBb a b c d e f g|>.f i j ⟨kk,trivial⟩
def bGn(c:Prog)(b:List Bool)(a:Int):=tT 0 (vL c b a)<|gd 7 125 (a< (c.nodes.length:Int)) (.i [rn 8,.ans (.ix)] [hA (0≤a),hA (a< (b.length:Int))]<|.y fun d:Bool=>gj kU 0 b a.toNat d<|.b 2 132 (!d) (gE 6 1 (bV false))<|gw 6 127 (a+1)<|.W 3 1 [0] (vL c b (a+1)))<|gE 7 1 (bV true)
def aNm:=fun a b c d e f g i j=>bGn a b c|>.t e f g d i|>.t j tv
def aNn:=fun a b c d e f g i j k=>bGn a b c|>.t e f g d i|>.f j k ⟨kk,trivial⟩
def aNo:=fun a b c d=>bGn a b c|>.f d tv
def fC (c:Con) :Bool:=jU c.name&&dH c.args 0 3
def bC (l:List Con) :List cA:=l.map Con.name
def yQ (l:List Con) :Bool:=l.all fC&&decide (l.length≤20) &&pL (bC l)
def bO (p:Prog)(op n:Int) :Bool:=
 if op=1 then dH n (-1000000000) 1000000000
 else if op=2 then dH n 0 1
 else if op=4 then dH n (0- (p.funs.length:Int)) 29
 else if op=24 then dH n 0 3
 else if op=14 then dH n 0 ((p.cons.length:Int) -1)
 else decide (n=0)
def dC (p:Prog)(x:Node) :Bool:=
 bO p x.op x.n&& (if x.op=15 then dH (x.pats.length:Int) 1 5 else decide (x.pats.length=0))
def eZ (p:Prog)(x:Node) :Int:=if x.op=14∧dH x.n 0 ((p.cons.length:Int) -1) =true then fA p.cons x.n else 0
def eQ (cons:List Con)(q:Pat) :Bool:=decide (cB q≤12) &&cJ cons q
def aM (p:Prog)(x:Node) :Bool:=
 dC p x&&x.pats.all (eQ p.cons) &&decide ((x.kids.length:Int) =cL x.op x.pats.length (eZ p x))
theorem hO {a:Type}(l:List a) : ((l.length:Int) ==0) =decide (l= []) :=by cases l<;>simp;omega
theorem pU {p:Prop}(h:p:=by simp_all [dC,bO,eZ,fA,hO]) :p:=h
theorem bBc (p:Prog)(x:Node)(hc:p.cons.length≤1000)(G:p.funs.length≤1000)(b:Bool)(hk:∀ (i:Bool) (a:Int),i=dC p x→a=eZ p x→Ends PP 0 (bZ p x i a 0).as (.ret (.bool b)) (aA [] 0)) :
  Ends PP 0 (start PP 64 [Prog.av p,Node.av x]).as (.ret (.bool b)) (aA [] 0) :=by
 cases c: (x.op== (1:Int))
 case true=>
  cases m: (x.op== (15:Int))
  case true=>
   cases A: (dH (x.n) (-1000000000) 1000000000)
   case true=>exact LeadsM.ends (aUx p x  (dH (x.n) (-1000000000) 1000000000) (dH ((length x.pats:Nat) :Int) 1 5) c (aX (x.n) (-1000000000) 1000000000) m A (aX ((length x.pats:Nat) :Int) 1 5)) (hk _ _ (by clear hk;exact pU) (by clear hk;exact pU))
   exact LeadsM.ends (aUy p x  (dH (x.n) (-1000000000) 1000000000) c (aX (x.n) (-1000000000) 1000000000) m A) (hk _ _ (by clear hk;exact pU) (by clear hk;exact pU))
  cases C: (dH (x.n) (-1000000000) 1000000000)
  case true=>exact LeadsM.ends (aUz p x  (dH (x.n) (-1000000000) 1000000000) c (aX (x.n) (-1000000000) 1000000000) m C) (hk _ _ (by clear hk;exact pU) (by clear hk;exact pU))
  exact LeadsM.ends (aUA p x  (dH (x.n) (-1000000000) 1000000000) c (aX (x.n) (-1000000000) 1000000000) m C) (hk _ _ (by clear hk;exact pU) (by clear hk;exact pU))
 cases d: (x.op== (2:Int))
 case true=>
  cases n: (x.op== (15:Int))
  case true=>
   cases B: (dH (x.n) 0 1)
   case true=>exact LeadsM.ends (aUB p x  (dH (x.n) 0 1) (dH ((length x.pats:Nat) :Int) 1 5) c d (aX (x.n) 0 1) n B (aX ((length x.pats:Nat) :Int) 1 5)) (hk _ _ (by clear hk;exact pU) (by clear hk;exact pU))
   exact LeadsM.ends (aUC p x  (dH (x.n) 0 1) c d (aX (x.n) 0 1) n B) (hk _ _ (by clear hk;exact pU) (by clear hk;exact pU))
  cases D: (dH (x.n) 0 1)
  case true=>exact LeadsM.ends (aUD p x  (dH (x.n) 0 1) c d (aX (x.n) 0 1) n D) (hk _ _ (by clear hk;exact pU) (by clear hk;exact pU))
  exact LeadsM.ends (aUE p x  (dH (x.n) 0 1) c d (aX (x.n) 0 1) n D) (hk _ _ (by clear hk;exact pU) (by clear hk;exact pU))
 cases f: (x.op== (4:Int))
 case true=>
  cases j: (x.op== (15:Int))
  case true=>
   cases t: (dH (x.n) (0- ((length p.funs:Nat) :Int)) 29)
   case true=>exact LeadsM.ends (aUF p x  (dH (x.n) (0- ((length p.funs:Nat) :Int)) 29) (dH ((length x.pats:Nat) :Int) 1 5) c d f sdI (aX (x.n) (0- ((length p.funs:Nat) :Int)) 29) j t (aX ((length x.pats:Nat) :Int) 1 5)) (hk _ _ (by clear hk;exact pU) (by clear hk;exact pU))
   exact LeadsM.ends (aUG p x  (dH (x.n) (0- ((length p.funs:Nat) :Int)) 29) c d f sdI (aX (x.n) (0- ((length p.funs:Nat) :Int)) 29) j t) (hk _ _ (by clear hk;exact pU) (by clear hk;exact pU))
  cases r: (dH (x.n) (0- ((length p.funs:Nat) :Int)) 29)
  case true=>exact LeadsM.ends (aQl p x  (dH (x.n) (0- ((length p.funs:Nat) :Int)) 29) c d f sdI (aX (x.n) (0- ((length p.funs:Nat) :Int)) 29) j r) (hk _ _ (by clear hk;exact pU) (by clear hk;exact pU))
  exact LeadsM.ends (aQm p x  (dH (x.n) (0- ((length p.funs:Nat) :Int)) 29) c d f sdI (aX (x.n) (0- ((length p.funs:Nat) :Int)) 29) j r) (hk _ _ (by clear hk;exact pU) (by clear hk;exact pU))
 cases e: (x.op== (24:Int))
 case true=>
  cases l: (x.op== (15:Int))
  case true=>
   cases z: (dH (x.n) 0 3)
   case true=>exact LeadsM.ends (aQn p x  (dH (x.n) 0 3) (dH ((length x.pats:Nat) :Int) 1 5) c d f e (aX (x.n) 0 3) l z (aX ((length x.pats:Nat) :Int) 1 5)) (hk _ _ (by clear hk;exact pU) (by clear hk;exact pU))
   exact LeadsM.ends (aQo p x  (dH (x.n) 0 3) c d f e (aX (x.n) 0 3) l z) (hk _ _ (by clear hk;exact pU) (by clear hk;exact pU))
  cases u: (dH (x.n) 0 3)
  case true=>exact LeadsM.ends (aQp p x  (dH (x.n) 0 3) c d f e (aX (x.n) 0 3) l u) (hk _ _ (by clear hk;exact pU) (by clear hk;exact pU))
  exact LeadsM.ends (aQq p x  (dH (x.n) 0 3) c d f e (aX (x.n) 0 3) l u) (hk _ _ (by clear hk;exact pU) (by clear hk;exact pU))
 cases g: (x.op== (14:Int))
 case true=>
  cases k: (dH (x.n) 0 (((length p.cons:Nat) :Int) - (1:Int)))
  case true=>
   obtain⟨F,s⟩ :∃y,((p.cons)[x.n.toNat]?) =some y:=idT;cases v: (x.op== (15:Int))
   case true=>exact LeadsM.ends (aQr p x  (dH (x.n) 0 (((length p.cons:Nat) :Int) - (1:Int))) F (dH ((length x.pats:Nat) :Int) 1 5) c d f e g sdI (aX (x.n) 0 (((length p.cons:Nat) :Int) - (1:Int))) k sdI s v (aX ((length x.pats:Nat) :Int) 1 5)) (hk _ _ (by clear hk;exact pU) (by clear hk;exact pU))
   exact LeadsM.ends (aQs p x  (dH (x.n) 0 (((length p.cons:Nat) :Int) - (1:Int))) F c d f e g sdI (aX (x.n) 0 (((length p.cons:Nat) :Int) - (1:Int))) k sdI s v) (hk _ _ (by clear hk;exact pU) (by clear hk;exact pU))
  cases q: (x.op== (15:Int))
  case true=>exact LeadsM.ends (aQt p x  (dH (x.n) 0 (((length p.cons:Nat) :Int) - (1:Int))) c d f e g sdI (aX (x.n) 0 (((length p.cons:Nat) :Int) - (1:Int))) k q) (hk _ _ (by clear hk;exact pU) (by clear hk;exact pU))
  exact LeadsM.ends (aQu p x  (dH (x.n) 0 (((length p.cons:Nat) :Int) - (1:Int))) c d f e g sdI (aX (x.n) 0 (((length p.cons:Nat) :Int) - (1:Int))) k q) (hk _ _ (by clear hk;exact pU) (by clear hk;exact pU))
 cases h: (x.op== (15:Int))
 case true=>
  cases o: (x.n== (0:Int))
  case true=>exact LeadsM.ends (aQv p x  (dH ((length x.pats:Nat) :Int) 1 5) c d f e g h o (aX ((length x.pats:Nat) :Int) 1 5)) (hk _ _ (by clear hk;exact pU) (by clear hk;exact pU))
  exact LeadsM.ends (aQw p x   c d f e g h o) (hk _ _ (by clear hk;exact pU) (by clear hk;exact pU))
 cases w: (x.n== (0:Int))
 case true=>exact LeadsM.ends (aQx p x   c d f e g h w) (hk _ _ (by clear hk;exact pU) (by clear hk;exact pU))
 exact LeadsM.ends (aQy p x   c d f e g h w) (hk _ _ (by clear hk;exact pU) (by clear hk;exact pU))
theorem aA2 (p:Prog)(x:Node)(hc:p.cons.length≤1000)(hl:x.pats.length≤10)(a:Int) :
  ∀ (t:List Pat) (i:Nat) (b:Bool),x.pats.drop i=t→Ends PP 0 (bZ p x b a (i:Int)).as (.ret (.bool (b&&t.all (eQ p.cons) &&decide ((x.kids.length:Int) =cL x.op x.pats.length a)))) (aA [] 0)
 | [],i,b,h=>by
  have:=bJ h;cases b
  case false=>exact Ends.eqv (aUL p x false a i sd rfl) (by simp)
  refine Ends.eqv (aUK p x true a i _ sd rfl (aQk x.op x.pats.length a (by omega) (by omega))) ?_;simp only [all_nil,mY,AV.bool.injEq];rfl
 | .mk f e d c::t,i,b,h=>by
  obtain⟨o,m,n⟩ :=bE h;cases b
  case false=>exact Ends.eqv (aUJ p x false a i sd rfl) (by simp)
  have l:=yN (.mk f e d c) 12 (by omega) (by omega);by_cases k:cB (.mk f e d c) ≤12
  · have j:0≤mT (.mk f e d c) 12:= (zV (.mk f e d c) 12).2 (by omega);refine(aUH p x true a i f e d c _ _ sd rfl sd sd l (decide_eq_true j) (aIO p.cons hc (.mk f e d c) (by omega)) sd).ends ?_;exact Ends.eqv (aA2 p x hc hl a t (i+1) _ m) (by simp [eQ,k])
  · have j:¬mT (.mk f e d c) 12≥0:=fun g=>k (by have:= (zV (.mk f e d c) 12).1 g;omega);refine(aUI p x true a i f e d c _ sd rfl sd sd l (decide_eq_false j) sd).ends ?_;exact Ends.eqv (aA2 p x hc hl a t (i+1) _ m) (by simp [eQ,k])
theorem aQz (p:Prog)(x:Node)(hc:p.cons.length≤1000)(d:p.funs.length≤1000)(hl:x.pats.length≤10) :aJ PP 64 [Prog.av p,Node.av x] (.bool (aM p x)) :=by
 refine aO aC rfl rfl (bBc p x hc d _ fun i a c b=>?_);subst c b;exact aA2 p x hc hl _ x.pats 0 _ rfl
theorem aGB (l:List Con)(hl:l.length≤1000) :∀ (t:List Con) (i:Nat),l.drop i=t→Ends PP 0 (aB6 l (i:Int) (bC (l.take i))).as (.ret (.bool (t.all fC&&decide (l.length≤20) &&pL (bC l)))) (aA [] 0)
 | [],i,h=>by
  have a:=bJ h;have e:bC (l.take i) =bC l:=by rw [aHY a]
  rw [e];by_cases k:l.length≤20
  ·exact Ends.eqv (aUQ l i _ _ sd sd (aKh (bC l) (by simp [bC];omega))) (by simp [k])
  ·exact Ends.eqv (aUR l i _ sd sd) (by simp [k])
 | c::t,i,h=>by
  obtain⟨j,g,m⟩ :=bE h;have b:=aMS c.name;cases d:jU c.name
  case false=>
   rw [d]at b;exact Ends.eqv (aUN l i _ c false sd sd sd b rfl) (by simp [fC,d])
  rw [d]at b;have a:=aX c.args 0 3;cases f:dH c.args 0 3
  case false=>
   rw [f]at a;exact Ends.eqv (aUO l i _ c true false sd sd sd b rfl a rfl) (by simp [fC,d,f])
  rw [f]at a;have e:bC (l.take i) ++ [c.name] =bC (l.take (i+1)) :=by
   rw [List.take_add_one,j];simp [bC]
  refine(aUP l i (bC (l.take i)) c true true sd sd sd b rfl a rfl (by simp [bC];omega) sd).ends ?_;rw [e];exact Ends.eqv (aGB l hl t (i+1) g) (by simp [fC,d,f])
theorem aQA (l:List Con)(hl:l.length≤1000) :aJ PP 63 [.ilst 2 (map Con.av l) false] (.bool (yQ l)) :=
 aO aC rfl rfl ((aUM l).ends (aGB l hl l 0 rfl))
def marks (lo n:Int) :List Int→List Bool→Option (List Bool)
 | [],u=>some u
 |k::ks,u=>if dH k lo (n-1) =true∧u[k.toNat]?=some false then marks lo n ks (u.set k.toNat true)else none
theorem hY {lo n:Int}:∀ {a:List Int} {u v:List Bool},marks lo n a u=some v→v.length=u.length
 | [],u,v,h=>by simp only [marks,Option.some.injEq]at h;rw [h]
 | k::a,u,v,h=>by
  simp only [marks]at h;split at h
  ·have:=hY h;simpa using this
  ·cases h
def bS (p:Prog) :Nat→List Node→List Bool→Option (List Bool)
 |_,[],u=>some u
 | i,x::t,u=>if aM p x=true then match marks ((i:Int) +1) (p.nodes.length:Int) x.kids u with
   |some v=>bS p (i+1) t v
   |none=>none
  else none
def allT :Option (List Bool) →Bool
 |some u=>u.all fun b=>b
 |none=>false
def eB (p:Prog) :Bool:=decide (p.nodes.length≤300) &&dH (p.funs.length:Int) 1 (p.nodes.length:Int) &&dH p.main 0 ((p.funs.length:Int) -1)
def aN (p:Prog) :Bool:=
 eB p&&yQ p.cons&& (match marks 0 (p.nodes.length:Int) p.funs (replicate p.nodes.length false)with
  |some u=>allT (bS p 0 p.nodes u)
  |none=>false)
theorem rF3 (p:Prog)(u:List Bool)(a:p.nodes.length≤1000)(c:u.length=p.nodes.length) :∀ (t:List Bool) (i:Nat),u.drop i=t→Ends PP 0 (vL p u (i:Int)).as (.ret (.bool (t.all fun b=>b))) (aA [] 0)
 | [],i,h=>by
  have:=bJ h;exact aNo p u i sd
 | b::t,i,h=>by
  obtain⟨f,d,e⟩ :=bE h;cases b
  case false=>exact Ends.eqv (aNm p u i false sd sd sd sd rfl) (by simp)
  refine(aNn p u i true sd sd sd sd rfl sd).ends ?_;exact Ends.eqv (rF3 p u a c t (i+1) d) (by simp)
theorem bHP (p:Prog)(x:Node)(i:Nat)(d:p.nodes[i]?=some x)(f:p.nodes.length≤1000)(hk:x.kids.length≤1000)(K:List Bool→Bool)
  (hb:∀v:List Bool,v.length=p.nodes.length→Ends PP 0 (qI p v ((i:Int) +1)).as (.ret (.bool (K v))) (aA [] 0)) :
  ∀ (t:List Int) (k:Nat) (u:List Bool),u.length=p.nodes.length→x.kids.drop k=t→Ends PP 0 (vK p u (k:Int) (i:Int)).as (.ret (.bool (match marks ((i:Int) +1) p.nodes.length t u with|some v=>K v|none=>false))) (aA [] 0)
 | [],k,u,c,h=>by
  have:=bJ h;have e:= (zq0.1 d).1;refine(aNl p u k i x sd sd sd sd).ends ?_;exact hb u c
 | y::t,k,u,c,h=>by
  obtain⟨l,g,j⟩ :=bE h;have e:= (zq0.1 d).1;have a:=aX y ((i:Int) +1) ((p.nodes.length:Int) -1);cases b:dH y ((i:Int) +1) ((p.nodes.length:Int) -1)
  case false=>
   rw [b]at a;exact Ends.eqv (aNi p u k i x y false sd sd sd sd sd sd sd a rfl) (by simp [marks,b])
  rw [b]at a;have m:=inB_iff.1 b;obtain⟨z,hz⟩ :∃z,u[y.toNat]?=some z:= ⟨_,kH (by omega)⟩;cases z
  case true=>exact Ends.eqv (aNj p u k i x y true true sd sd sd sd sd sd sd a rfl (by omega) (by omega) hz rfl) (by simp [marks,hz])
  refine(aNk p u k i x y true false sd sd sd sd sd sd sd a rfl (by omega) (by omega) hz rfl sd).ends ?_;exact Ends.eqv (bHP p x i d f hk K hb t (k+1) (u.set y.toNat true) (by simpa using c) g) (by simp [marks,b,hz])
theorem rF1 (p:Prog)(hp:aK p=true)(b:p.nodes.length≤1000)(hc:p.cons.length≤1000)(d:p.funs.length≤1000) :∀ (t:List Node) (i:Nat) (u:List Bool),u.length=p.nodes.length→p.nodes.drop i=t →
  Ends PP 0 (qI p u (i:Int)).as (.ret (.bool (allT (bS p i t u)))) (aA [] 0)
 | [],i,u,c,h=>by
  have:=bJ h;refine(aNh p u i sd).ends ?_;exact rF3 p u b c u 0 rfl
 | x::t,i,u,c,h=>by
  obtain⟨e,j,l⟩ :=bE h;have f:bB x=true:=by
   simp only [aK,cF]at hp;exact zq27.1 hp.2 x (iO e)
  simp only [bB,cF,decide_eq_true_eq]at f;have a:=aQz p x hc d f.1.2;cases k:aM p x
  case false=>
   rw [k]at a;exact Ends.eqv (aNf p u i x false sd sd sd a rfl) (by simp [bS,k,allT])
  rw [k]at a;refine(aNg p u i x true sd sd sd a rfl).ends ?_;refine Ends.eqv (bHP p x i e b (by omega) (fun v=>allT (bS p (i+1) t v)) (fun v g=>rF1 p hp b hc d t (i+1) v g j) x.kids 0 u c rfl) ?_;simp only [bS,k,if_true];cases marks ((i:Int) +1) (p.nodes.length:Int) x.kids u<;>rfl
theorem rF0 (p:Prog)(hp:aK p=true)(e:p.nodes.length≤1000)(hc:p.cons.length≤1000)(d:p.funs.length≤1000) :∀ (t:List Int) (i:Nat) (u:List Bool),u.length=p.nodes.length→p.funs.drop i=t →
  Ends PP 0 (vJ p (i:Int) u).as (.ret (.bool (match marks 0 p.nodes.length t u with|some v=>allT (bS p 0 p.nodes v) |none=>false))) (aA [] 0)
 | [],i,u,c,h=>by
  have:=bJ h;refine(aNe p i u sd).ends ?_;exact rF1 p hp e hc d p.nodes 0 u c rfl
 | y::t,i,u,c,h=>by
  obtain⟨j,f,g⟩ :=bE h;have a:=aX y 0 ((p.nodes.length:Int) -1);cases b:dH y 0 ((p.nodes.length:Int) -1)
  case false=>
   rw [b]at a;exact Ends.eqv (aNb p i u y false sd sd sd sd a rfl) (by simp [marks,b])
  rw [b]at a;have k:=inB_iff.1 b;obtain⟨z,hz⟩ :∃z,u[y.toNat]?=some z:= ⟨_,kH (by omega)⟩;cases z
  case true=>exact Ends.eqv (aNc p i u y true true sd sd sd sd a rfl (by omega) (by omega) hz rfl) (by simp [marks,hz])
  refine(aNd p i u y true false sd sd sd sd a rfl (by omega) (by omega) hz rfl sd).ends ?_;exact Ends.eqv (rF0 p hp e hc d t (i+1) (u.set y.toNat true) (by simpa using c) f) (by simp [marks,b,hz])
theorem vM (p:Prog)(hp:aK p=true) :aJ PP 27 [Prog.av p] (.bool (aN p)) :=by
 refine aO aC rfl rfl ?_;have h:=hp;simp only [aK,cF,decide_eq_true_eq]at h;obtain⟨⟨⟨⟨k,l⟩,j⟩,_⟩,_⟩ :=h;by_cases i:p.nodes.length≤300
 · have a:=aX (p.funs.length:Int) 1 (p.nodes.length:Int);cases g:dH (p.funs.length:Int) 1 (p.nodes.length:Int)
   case false=>
    rw [g]at a;exact Ends.eqv (aM7 p false sd a rfl) (by simp [aN,eB,g])
   rw [g]at a;have b:=aX p.main 0 ((p.funs.length:Int) -1);cases f:dH p.main 0 ((p.funs.length:Int) -1)
   case false=>
    rw [f]at b;exact Ends.eqv (aM8 p true false sd a rfl sd b rfl) (by simp [aN,eB,f])
   rw [f]at b;have c:=aQA p.cons (by omega);cases d:yQ p.cons
   case false=>
    rw [d]at c;exact Ends.eqv (aM9 p true true false sd a rfl sd b rfl c rfl) (by simp [aN,d])
   rw [d]at c;refine(aNa p true true true sd a rfl sd b rfl c rfl (by omega)).ends ?_;refine Ends.eqv (rF0 p hp (by omega) (by omega) (by omega) p.funs 0 _ (by simp) rfl) ?_;have e:eB p=true:=by simp [eB,i,g,f]
   simp only [aN,e,d,mY]
 ·exact Ends.eqv (aM6 p sd) (by simp [aN,eB,i])
def checkN (b:Bool) :Int:=if b=true then 0 else 2
end
end Go.Hb
