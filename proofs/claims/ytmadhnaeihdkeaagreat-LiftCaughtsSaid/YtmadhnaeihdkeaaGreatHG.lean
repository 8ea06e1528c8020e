/- A machine on abstract values, its soundness, ways, plain laws. -/
import Derived.Test.YtmadhnaeihdkeaaGreatHF
set_option linter.defProp false
set_option linter.unusedVariables false
set_option linter.unusedSimpArgs false
set_option linter.unusedSectionVars false
set_option maxRecDepth 100000
set_option maxHeartbeats 2000000
namespace Go.Hb
open AV (ilst int keyless keylessL ptr renL)
open List (all_nil length length_nil map map_nil replicate set set_cons_succ)
open Nat (le_of_lt le_refl lt_irrefl)
open Go.Proofs Tryz
noncomputable section
inductive XT where
 |mk (op n:Int) (kids:List XT) (pats:List Pat)
mutual
def XT.av :XT→AV
 | .mk o n ks ps=>.iptr [.int .i64 o,.int .i64 n,.ilst 1 (XTs.av ks) false,.ilst 4 (Pats.av ps) false]
def XTs.av :List XT→List AV
 | [] =>[]
 |p::ps=>XT.av p::XTs.av ps
end
theorem dY :∀l,XTs.av l=map XT.av l
 | [] =>rfl
 |p::a=>by rw [XTs.av,dY a];rfl
mutual
theorem aQo :∀p,keyless (XT.av p) =true
 | .mk o n b a=>by simp [XT.av,keyless]
theorem aUo :∀l,keylessL (XTs.av l) =true
 | [] =>rfl
 |p::a=>by rw [XTs.av,keylessL,aQo p,aUo a];rfl
end
abbrev Imm :=Nat→Option (Array Value)
def Imm.le (a b:Imm) :Prop:=∀k C,a k=some C→b k=some C
def emI (imm:Imm) :Emb:= ⟨fun _=>none,imm⟩
theorem aGg {a b:Imm}(h:Imm.le a b) : (emI a).le (emI b) := ⟨fun _ _ e=>e,h⟩
def adr (a:Nat×Nat) :Value:=.pointer (some ⟨a.1,a.2,none⟩)
mutual
def TAt (imm:Imm)(H:Array Obj) :Nat×Nat→XT→List Nat→Prop
 | a,.mk o n ks ps,F=>∃ (C:Array Value) (e:TypeId) (kv pv:Value) (Fk:List Nat),H[a.1]?=some (.cells C e (0,0)) ∧C[a.2]?=some (.int .i64 o) ∧C[a.2+1]?=some (.int .i64 n) ∧C[a.2+2]?=some kv∧C[a.2+3]?=some pv∧VR (emI imm) (.ilst 4 (Pats.av ps) false) pv∧F=a.1::Fk ∧
   ((ks= [] ∧Fk= [] ∧ ((∃b,kv= .slice b 0 0) ∨∃ (b:Nat×Nat) (cap:Nat),kv= .slice (some ⟨b.1,b.2,none⟩) 0 cap)) ∨∃ (b:Nat×Nat) (cap:Nat) (Ck:Array Value) (ek:TypeId) (ad:List (Nat×Nat)) (Fr:List Nat),kv= .slice (some ⟨b.1,b.2,none⟩) ks.length cap∧ks≠ [] ∧ks.length≤cap∧b.2+cap≤Ck.size∧H[b.1]?=some (.cells Ck ek (0,0)) ∧ad.length=ks.length∧ (∀j,j<ks.length→Ck[b.2+j]?= (ad.map adr)[j]?) ∧Fk=b.1::Fr∧TsAt imm H ad ks Fr)
def TsAt (imm:Imm)(H:Array Obj) :List (Nat×Nat) →List XT→List Nat→Prop
 |ad,[],F=>ad= [] ∧F= []
 |ad,t::ts,F=>∃a ad' F1 F2,ad=a::ad'∧F=F1++F2∧TAt imm H a t F1∧TsAt imm H ad' ts F2
end
mutual
theorem TAt.go {d c:Imm}{H l:Array Obj}(f:Imm.le d c) :∀ (t:XT) (a:Nat×Nat) (F:List Nat),TAt d H a t F→ (∀i∈F,l[i]?=H[i]?) →TAt c l a t F
 | .mk o n L T,a,F,h,j=>by
  simp only [TAt]at h ⊢;obtain⟨C,e,A,y,G,v,D,u,N,s,Q,z,O⟩ :=h;subst z;refine⟨C,e,A,y,G,by rw [j _ (dJ ..)];exact v,D,u,N,s,Q.mono (aGg f),rfl,?_⟩;rcases O with g| ⟨b,k,B,x,p,m,K,S,R,J,r,M,I,q,w⟩
  ·exact .inl g
  · subst q;exact .inr ⟨b,k,B,x,p,m,K,S,R,J,by rw [j _ (by simp)];exact r,M,I,rfl,TsAt.go f L p m w (fun i f=>j i (by simp [f]))⟩
theorem TsAt.go {d b:Imm}{H k:Array Obj}(c:Imm.le d b) :∀ (f:List XT) (g:List (Nat×Nat)) (F:List Nat),TsAt d H g f F→ (∀i∈F,k[i]?=H[i]?) →TsAt b k g f F
 | [],g,F,h,_=>by simpa only [TsAt]using h
 | t::f,g,F,h,j=>by
  simp only [TsAt]at h ⊢;obtain⟨a,e,m,l,rfl,rfl,n,o⟩ :=h;exact⟨a,e,m,l,rfl,rfl,TAt.go c t a m n (fun i c=>j i (by simp [c])),TsAt.go c f e l o (fun i c=>j i (by simp [c]))⟩
end
mutual
theorem TAt.blk {d:Imm}{H:Array Obj}:∀ (t:XT) (a:Nat×Nat) (F:List Nat),TAt d H a t F→∀i∈F,∃C e,H[i]?=some (.cells C e (0,0))
 | .mk o n p G,a,F,h,i,c=>by
  simp only [TAt]at h;obtain⟨C,e,x,w,z,g,y,v,J,u,K,rfl,q⟩ :=h;rcases zq7.1 c with rfl|c
  ·exact⟨C,e,g⟩
  · rcases q with⟨_,rfl,_⟩ | ⟨b,m,l,k,s,r,D,M,L,B,f,I,A,rfl,j⟩
    ·cases c
    · rcases zq7.1 c with rfl|c
      ·exact⟨l,k,f⟩
      ·exact TsAt.blk p s r j i c
theorem TsAt.blk {c:Imm}{H:Array Obj}:∀ (f:List XT) (g:List (Nat×Nat)) (F:List Nat),TsAt c H g f F→∀i∈F,∃C e,H[i]?=some (.cells C e (0,0))
 | [],g,F,h,i,b=>by simp only [TsAt]at h;rw [h.2]at b;cases b
 | t::f,g,F,h,i,b=>by
  simp only [TsAt]at h;obtain⟨a,d,m,l,rfl,rfl,j,k⟩ :=h;rcases zq28.1 b with b|b
  ·exact TAt.blk t a m j i b
  ·exact TsAt.blk f d l k i b
end
theorem TsAt.len {c:Imm}{H:Array Obj}:∀ {d:List XT} {b:List (Nat×Nat)} {F:List Nat},TsAt c H b d F→b.length=d.length
 | [],b,F,h=>by simp only [TsAt]at h;rw [h.1];rfl
 | t::d,b,F,h=>by
  simp only [TsAt]at h;obtain⟨a,f,i,g,rfl,rfl,_,e⟩ :=h;simp [e.len]
def OsAt (imm:Imm)(H:Array Obj) :List (Nat×Nat) →List (Option XT) →List Nat→Prop
 |ad,[],F=>ad= [] ∧F= []
 |ad,some t::ts,F=>∃a ad' F1 F2,ad=a::ad'∧F=F1++F2∧TAt imm H a t F1∧OsAt imm H ad' ts F2
 |ad,none::ts,F=>∃a ad',ad=a::ad'∧OsAt imm H ad' ts F
theorem os_ts {c:Imm}{H:Array Obj}:∀ {i:List XT} {d:List (Nat×Nat)} {F:List Nat},OsAt c H d (i.map some) F↔TsAt c H d i F
 | [],d,F=>by simp [OsAt,TsAt]
 | t::i,d,F=>by
  simp only [dS,OsAt,TsAt];constructor
  ·rintro⟨a,b,k,j,h,e,f,g⟩;exact⟨a,b,k,j,h,e,f,os_ts.1 g⟩
  ·rintro⟨a,b,k,j,h,e,f,g⟩;exact⟨a,b,k,j,h,e,f,os_ts.2 g⟩
theorem OsAt.go {f c:Imm}{H l:Array Obj}(d:Imm.le f c) :∀ (e:List (Option XT)) (g:List (Nat×Nat)) (F:List Nat),OsAt f H g e F→ (∀i∈F,l[i]?=H[i]?) →OsAt c l g e F
 | [],g,F,h,_=>by simpa only [OsAt]using h
 | some t::e,g,F,h,j=>by
  simp only [OsAt]at h ⊢;obtain⟨a,b,n,m,rfl,rfl,o,k⟩ :=h;exact⟨a,b,n,m,rfl,rfl,TAt.go d t a n o (fun i d=>j i (by simp [d])),OsAt.go d e b m k (fun i d=>j i (by simp [d]))⟩
 | none::e,g,F,h,j=>by
  simp only [OsAt]at h ⊢;obtain⟨a,b,rfl,k⟩ :=h;exact⟨a,b,rfl,OsAt.go d e b F k j⟩
theorem OsAt.blk {g:Imm}{H:Array Obj}:∀ (d:List (Option XT)) (f:List (Nat×Nat)) (F:List Nat),OsAt g H f d F→∀i∈F,∃C e,H[i]?=some (.cells C e (0,0))
 | [],f,F,h,i,b=>by simp only [OsAt]at h;rw [h.2]at b;cases b
 | some t::d,f,F,h,i,b=>by
  simp only [OsAt]at h;obtain⟨a,c,m,l,rfl,rfl,k,j⟩ :=h;rcases zq28.1 b with b|b
  ·exact TAt.blk t a m k i b
  ·exact OsAt.blk d c l j i b
 | none::d,f,F,h,i,b=>by
  simp only [OsAt]at h;obtain⟨a,c,rfl,j⟩ :=h;exact OsAt.blk d c F j i b
theorem OsAt.len {d:Imm}{H:Array Obj}:∀ {c:List (Option XT)} {b:List (Nat×Nat)} {F:List Nat},OsAt d H b c F→b.length=c.length
 | [],b,F,h=>by simp only [OsAt]at h;rw [h.1];rfl
 | some t::c,b,F,h=>by
  simp only [OsAt]at h;obtain⟨a,f,i,g,rfl,rfl,_,e⟩ :=h;simp [e.len]
 | none::c,b,F,h=>by
  simp only [OsAt]at h;obtain⟨a,f,rfl,e⟩ :=h;simp [e.len]
theorem OsAt.out {f:Imm}{H:Array Obj}:∀ {g:List (Option XT)} {d:List (Nat×Nat)} {F:List Nat} {i:Nat} {t:XT},OsAt f H d g F→g[i]?=some (some t) →∃a c m,d[i]?=some a∧TAt f H a t c∧OsAt f H d (g.set i none) m∧ (c++m).Perm F
 | [],d,F,i,t,_,e=>by simp at e
 | some u::g,d,F,0,t,h,e=>by
  simp only [OsAt]at h;obtain⟨a,b,c,m,rfl,rfl,r,k⟩ :=h;simp only [aKb,Option.some.injEq]at e;subst e;exact⟨a,c,m,rfl,r,by simp only [List.set_cons_zero,OsAt];exact⟨a,b,rfl,k⟩,List.Perm.refl _⟩
 |none::g,d,F,0,t,h,e=>by simp at e
 | some u::g,d,F,i+1,t,h,e=>by
  simp only [OsAt]at h;obtain⟨a,b,c,m,rfl,rfl,r,k⟩ :=h;obtain⟨n,l,j,p,s,o,q⟩ :=OsAt.out k (by simpa using e);refine⟨n,l,c++j,by simpa using p,s,by simp only [set_cons_succ,OsAt];exact⟨a,b,c,j,rfl,rfl,r,o⟩,?_⟩;have: (l++ (c++j)).Perm (c++ (l++j)) :=by
   rw [←zq9,←zq9];exact List.Perm.append_right _ List.perm_append_comm
  exact this.trans (List.Perm.append_left _ q)
 | none::g,d,F,i+1,t,h,e=>by
  simp only [OsAt]at h;obtain⟨a,b,rfl,k⟩ :=h;obtain⟨n,l,j,p,s,o,q⟩ :=OsAt.out k (by simpa using e);exact⟨n,l,j,by simpa using p,s,by simp only [set_cons_succ,OsAt];exact⟨a,b,rfl,o⟩,q⟩
theorem OsAt.put {d:Imm}{H:Array Obj}:∀ {f:List (Option XT)} {g:List (Nat×Nat)} {F c:List Nat} {i:Nat} {t:XT} {a:Nat×Nat},OsAt d H g f F→f[i]?=some none→TAt d H a t c→∃j,OsAt d H (g.set i a) (f.set i (some t)) j∧j.Perm (c++F)
 | [],g,F,c,i,t,a,_,e,_=>by simp at e
 |some q::f,g,F,c,0,t,a,h,e,_=>by simp at e
 | none::f,g,F,c,0,t,a,h,e,k=>by
  simp only [OsAt]at h;obtain⟨m,b,rfl,l⟩ :=h;exact⟨c++F,by simp only [List.set_cons_zero,OsAt];exact⟨a,b,c,F,rfl,rfl,k,l⟩,List.Perm.refl _⟩
 | some q::f,g,F,c,i+1,t,a,h,e,k=>by
  simp only [OsAt]at h;obtain⟨m,b,p,s,rfl,rfl,r,l⟩ :=h;obtain⟨j,n,o⟩ :=OsAt.put l (by simpa using e) k;refine⟨p++j,by simp only [set_cons_succ,OsAt];exact⟨m,b.set i a,p,j,rfl,rfl,r,n⟩,?_⟩;refine(List.Perm.append_left _ o).trans ?_;rw [←zq9,←zq9];exact List.Perm.append_right _ List.perm_append_comm
 | none::f,g,F,c,i+1,t,a,h,e,k=>by
  simp only [OsAt]at h;obtain⟨m,b,rfl,l⟩ :=h;obtain⟨j,n,o⟩ :=OsAt.put l (by simpa using e) k;exact⟨j,by simp only [set_cons_succ,OsAt];exact⟨m,b.set i a,rfl,n⟩,o⟩
section
variable {P :Program}
abbrev ZP :=List Nat→List (Nat×Nat×Nat) →Imm→Array Obj→Prop
def gh :AObj:=.zone false [] (fun _ _ _ _=>True)
def aEa (ts:List XT) :ZP:=fun F Ks imm H=>F.Nodup∧∃K:Nat×Nat×Nat,Ks= [K] ∧ ((ts= [] ∧F= []) ∨∃ (C:Array Value) (e:TypeId) (ad:List (Nat×Nat)) (Fr:List Nat),ts≠ [] ∧F=K.1::Fr∧H[K.1]?=some (.cells C e (0,0)) ∧C.size=K.2.2∧ (∀j,j<ts.length→C[K.2.1+j]?= (ad.map adr)[j]?) ∧TsAt imm H ad ts Fr)
def ZV (us:List (Nat×Nat))(ts:List (Option XT)) :ZP:=fun F _ imm H=>F.Nodup∧OsAt imm H us ts F
def Z1 (t:XT) :ZP:=fun F Ks imm H=>F.Nodup∧∃K:Nat×Nat×Nat,Ks= [K] ∧TAt imm H (K.1,K.2.1) t F
theorem aGi {E:Emb}{H:Array Obj}{F:List Nat}{b sz:Nat}{rs:List Nat}{Ls:List Loc}{Z:ZP}(f:map E.loc rs=map some Ls)(hb:∀i∈F,∃C e,H[i]?=some (.cells C e (0,0)))
  (hz:∀ (a:Imm) (c:Array Obj),Imm.le E.imm a→ (∀i∈F,c[i]?=H[i]?) →Z F (map (fun K=> (K.blk,K.sh,K.sz)) Ls) a c) :OR E H ⟨mH F,b,sz⟩ (.zone true rs Z) :=by
 have d:fpz true ⟨mH F,b,sz⟩ =F:=aEq F;show(∀i∈fpz true ⟨mH F,b,sz⟩,_) ∧_;rw [d];exact⟨hb,Ls,f,hz⟩
theorem zone_own {F:List Nat}{a sz:Nat}{rs:List Nat}{Z:ZP}{i:Nat}:Own (.zone true rs Z) ⟨mH F,a,sz⟩ i↔i∈F:=by
 show i∈fpz true ⟨mH F,a,sz⟩ ↔_;rw [show fpz true ⟨mH F,a,sz⟩ =F from aEq F]
theorem aQp {E:Emb}{H:Array Obj}{L:Loc}:OR E H L gh:= ⟨fun i a=> (by cases a),[],rfl,fun _ _ _ _=>trivial⟩
theorem oR {L:Loc}{i:Nat}:¬Own gh L i:=fun h=>by cases h
theorem pP {E:Emb}{H:Array Obj}{L:Loc}{rs:List Nat}{Z:ZP}(r:OR E H L (.zone true rs Z)) :∃a:List Loc,map E.loc rs=map some a∧Z (oK L.blk) (map (fun K=> (K.blk,K.sh,K.sz)) a) E.imm H:=by
 obtain⟨_,a,c,b⟩ :=r;exact⟨a,c,b E.imm H (fun _ _ e=>e) (fun _ _=>rfl)⟩
def zE (h h':Hp) :Prop:=∀ (E:Emb) (w:World),Rel E h w.heap→∃E',E.le E'∧Rel E' h' w.heap∧∀m,m≤h.nb→ExtM m E h w E' h' w
theorem aH8 {m:Nat}{fr:AFrame}{cs:List AFrame}{h h':Hp}(z:zE h h') :LeadsM P m ⟨fr,cs,h⟩ ⟨fr,cs,h'⟩ :=fun hm E g a w c f fs r=>by
 obtain⟨e,b,d,i⟩ :=z E w r;exact⟨e,g,a,w,Steps.refl _ _,f.mono b,fs.mono b,d,i m hm⟩
def aKV {α:Type}(h:Hp)(ok:α→Prop)(h':α→Hp) :Prop:=∀ (E:Emb) (w:World),Rel E h w.heap→∃x E',ok x∧E.le E'∧Rel E' (h' x) w.heap∧∀m,m≤h.nb→ExtM m E h w E' (h' x) w
theorem aH9 {g:Type}{m:Nat}{fr:AFrame}{cs:List AFrame}{h:Hp}{ok:g→Prop}{h':g→Hp}{b:Res}{hf:Hp}(z:aKV h ok h')(k:∀x,ok x→Ends P m ⟨fr,cs,h' x⟩ b hf) :Ends P m ⟨fr,cs,h⟩ b hf:=fun hm E p c w f fs r t a=>by
 obtain⟨x,n,v,e,j,s⟩ :=z E w r;have i:=s m hm;obtain⟨d,q,A,l,u,o,y⟩ :=k x v i.nb n p c w (f.mono e) (fs.mono e) j t a;exact⟨d,q,A,l,u,o,i.trans y⟩
theorem Rel.noMeet {E:Emb}{h:Hp}{H:Array Obj}(r:Rel E h H){b a:Nat}{o o':AObj}{L L':Loc}(e:h.look b=some o)(i:h.look a=some o')(k:E b=some L)(f:E a=some L')(c:b≠a)(d:bK o= [] :=by rfl)(h2:bK o'= [] :=by rfl) :¬Meet o o' L L':=fun hm=>by
 rcases r.kin b a o o' L L' e i k f hm c with⟨g,_⟩ | ⟨g,_⟩
 ·rw [d]at g;cases g
 ·rw [h2]at g;cases g
def vls (us:List (Nat×Nat)) :List AV:=map (fun a=>AV.val (adr a)) us
theorem vls_vrs {E:Emb}:∀ {b:List (Nat×Nat)} {a:List Value},VRs E (vls b) a↔a=b.map adr
 | [],a=>by simp [vls,VRs]
 | u::b,a=>by
  simp only [vls,dS,VRs,VR];constructor
  ·rintro⟨v,c,rfl,rfl,h⟩;rw [vls_vrs.1 h]
  ·intro h;exact⟨_,_,h,rfl,vls_vrs.2 rfl⟩
theorem aKW (a:Nat×Nat) :vM 1 (adr a) := ⟨rfl,fun c hc=>by simp [adr,Value.cells]at hc;subst hc;rfl⟩
theorem mT :∀a:List (Nat×Nat),flat (a.map adr) =a.map adr
 | [] =>rfl
 | u::a=>by
  have:=mT a;unfold flat at this ⊢;simp only [dS,List.flatMap_cons,this];rfl
theorem aNO {h h':Hp}{k g:Nat}{us:List (Nat×Nat)}{ts:List XT}(hk:h.look k=some (.lst 1 (vls us)))(m:h.look g=some (.zone true [] (ZV us (ts.map some))))(t:ts≠ [])(K:h.nb<h'.nb)
  (hl:∀b o,h'.look b=some o→ (b=k∧o=gh) ∨ (b=h.nb∧o= .zone true [k] (aEa ts)) ∨ (b≠k∧b≠g∧h.look b=some o)) :zE h h':=fun E w r=>by
 have F:k≠g:=fun e=>by subst e;rw [hk]at m;cases m
 obtain⟨v,M,g2⟩ :=r.obj g _ m;obtain⟨Ls,_,G,D⟩ :=pP g2;have n:=os_ts.1 D;have q:us.length=ts.length:=n.len;have R:lM (.lst 1 (vls us)) =false:=by
  cases us with
  |nil=>exact absurd (zq35.1 q.symm) t
  |cons u us=>rfl
 obtain⟨p,y,C,H,vs,I,U,B,c4,c5⟩ :=r.obj k _ hk R;have B:=vls_vrs.1 B;subst B;have A:p.blk∉oK v.blk:=fun d=>r.noMeet hk m y M F rfl rfl ⟨_,rfl,d⟩
 let E':=E.put h.nb ⟨mH (p.blk::oK v.blk),0,0⟩
 have W:=r.keys k _ hk;have T:=r.keys g _ m;have x:∀ {b},b≠h.nb→E' b=E b:=fun hb=>Emb.put_ne _ _ hb;have hle:E.le E':=Emb.le_put (r.fresh _ (le_refl _));have l:OR E' w.heap ⟨mH (p.blk::oK v.blk),0,0⟩ (.zone true [k] (aEa ts)) :=by
  refine aGi (Ls:=[p]) (by simp only [dS,map_nil,List.cons.injEq,and_true];rw [show E'.loc k=E.loc k from x (by omega)];exact y) (fun i a=>?_) (fun N H' a J=> ⟨List.nodup_cons.2 ⟨A,G⟩,_,rfl,.inr ⟨C,H,us,_,t,rfl,by rw [J _ (dJ ..)];exact I,U,fun j hj=>?_,TsAt.go a ts us _ n (fun i a=>J i (dR _ a))⟩⟩)
  · rcases zq7.1 a with rfl|a
    ·exact⟨C,H,I⟩
    ·exact TsAt.blk ts us _ n i a
  · have:=c5 j (by rw [lP];omega);rw [this,mT]
 obtain⟨V,q2,q3⟩ :=r.swap (E':=E') (h':=h') (fun b=>b≠k∧b≠g) (le_of_lt K) (fun b hb=>x (by omega)) rfl (fun b hb=>by rw [x (by omega)];exact r.fresh b (by omega))
  (fun b o e hb=>by
   by_cases f:b=k
   ·subst f;rw [hk]at e;cases e;exact⟨rfl,rfl⟩
   · have c:b=g:=Classical.not_not.1 (fun c=>hb ⟨f,c⟩);subst c;rw [m]at e;cases e;exact⟨rfl,rfl⟩)
  (fun b o e=>by
   rcases hl b o e with⟨rfl,rfl⟩ | ⟨rfl,rfl⟩ | ⟨f,c,s⟩
   ·exact .inr ⟨by omega,rfl,rfl,fun _=> ⟨fun d=>d.1 rfl,_,hk⟩,p,by rw [x (by omega)];exact y,aQp,fun i a=>absurd a oR⟩
   · refine .inr ⟨K,rfl,rfl,fun d=>absurd d (lt_irrefl _),_,Emb.put_same _ _ _,l,fun i a=>?_⟩;rw [zone_own]at a;rcases zq7.1 a with rfl|a
     ·exact⟨k,_,p,fun d=>d.1 rfl,hk,y,rfl⟩
     ·exact⟨g,_,v,fun d=>d.2 rfl,m,M,a⟩
   ·exact .inl ⟨⟨f,c⟩,s⟩)
  (fun b b' o Z L L' O Y e X k k' z hm=>by
   obtain⟨i,S,Q⟩ :=hm;rcases hl b o e with⟨rfl,rfl⟩ | ⟨rfl,rfl⟩ | ⟨f,c,s⟩
   ·exact oR S
   · rcases hl b' Z X with⟨rfl,rfl⟩ | ⟨rfl,rfl⟩ | ⟨f,c,s⟩
     ·exact oR Q
     ·exact z rfl
     ·exact Y ⟨⟨f,c⟩,s⟩
   ·exact O ⟨⟨f,c⟩,s⟩)
 exact⟨E',V,q2,q3⟩
def ndC (op n:Int)(kv:AV)(pv:AV) :AObj:=.cells (putCells .leaf 0 [.int .i64 op,.int .i64 n,kv,pv]) 4 [] false
theorem aMY {E:Emb}{H:Array Obj}{L:Loc}{op n:Int}{kv pv:AV}(r:OR E H L (ndC op n kv pv)) :∃C e k p,H[L.blk]?=some (.cells C e (0,0)) ∧C.size=L.sz∧C[L.sh]?=some (.int .i64 op) ∧C[L.sh+1]?=some (.int .i64 n) ∧C[L.sh+2]?=some k∧VR E kv k∧C[L.sh+3]?=some p∧VR E pv p:=by
 obtain⟨C,e,l,d,a⟩ :=r;obtain⟨_,s,g,b⟩ :=a 0 (.int .i64 op) (by rw [aX];rfl);obtain⟨_,t,j,c⟩ :=a 1 (.int .i64 n) (by rw [aX];rfl);obtain⟨_,q,h,m⟩ :=a 2 kv (by rw [aX];rfl);obtain⟨_,f,o,i⟩ :=a 3 pv (by rw [aX];rfl);simp only [VR]at b c;subst b c;exact⟨C,e,q,f,l,d,g,j,h,m,o,i⟩
theorem VR.emI {E:Emb}{a:AV}{v:Value}(hk:keyless a=true)(h:VR E a v) :VR (Hb.emI E.imm) a v:=eC hk h
theorem VR.of_emI {E:Emb}{a:AV}{v:Value}(h:VR (Hb.emI E.imm) a v) :VR E a v:=VR.of_p h
theorem aUp {E:Emb}{H:Array Obj}{f c:Loc}{op n:Int}{k:Nat}{len:Nat}{ex:Bool}{pv:AV}{ps:List Pat}{ks:List XT}{F:List Nat}(hk:E k=some c)(r:OR E H f (ndC op n (.gl k 1 0 len ex) pv))(b:len=ks.length)(S:∀E v,VR E pv v→VR E (.ilst 4 (Pats.av ps) false) v)
  (hz:aEa ks F [(c.blk,c.sh,c.sz)] E.imm H) :TAt E.imm H (f.blk,f.sh) (.mk op n ks ps) (f.blk::F) :=by
 obtain⟨C,e,A,p,u,V,J,s,U,i,B,D⟩ :=aMY r;obtain⟨_,K,hK,hz⟩ :=hz;cases hK;simp only [TAt];refine⟨C,e,A,p,F,u,J,s,U,B,VR.emI (by simp [keyless]) (S E p D),rfl,?_⟩;simp only [VR]at i;rcases hz with⟨rfl,rfl⟩ | ⟨G,x,R,O,q,Q,I,t,M,o⟩
 · refine .inl ⟨rfl,rfl,?_⟩;simp only [length_nil]at b;rcases i with⟨_,a,m⟩ | ⟨L,a,d,h,g,w,N,l⟩
   ·exact .inl ⟨a,m⟩
   ·rw [b]at g;exact .inr ⟨(L.blk,a),d,g⟩
 · have z:0<ks.length:=List.length_pos_iff.2 q;rcases i with⟨W,a,m⟩ | ⟨L,a,d,h,g,w,N,l⟩
   ·omega
   · rw [hk]at h;cases h;obtain⟨y,X⟩ :=l (by omega);refine .inr ⟨(c.blk,a),d,G,x,R,O,by rw [←b];exact g,q,by omega,?_,I,o.len,fun j T=>?_,Q,o⟩
     ·simp only at t ⊢;omega
     · have:=M j T;simp only at this ⊢;rw [y,show c.sh+0*1+j=c.sh+j by omega];exact this
theorem aC0 {E:Emb}{h h':Hp}{w:World}(r:Rel E h w.heap)(G:List Nat){rs:List Nat}{Z:ZP}{F:List Nat}{Ls:List Loc}(A:h.nb<h'.nb)
  (hl:∀b o,h'.look b=some o→ (b=h.nb∧o= .zone true rs Z) ∨ (b∈G∧o=gh∧∃L,E b=some L) ∨ (b∉G∧h.look b=some o))
  (u:∀b∈G,∃o,h.look b=some o∧bK o= [] ∧fS o=false) (v:map E.loc rs=map some Ls)
  (y:∀i∈F,(∃b∈G,∃o L,h.look b=some o∧E b=some L∧Own o L i) ∧∃C e,w.heap[i]?=some (.cells C e (0,0)))
  (hz:∀ (a:Imm) (z:Array Obj),Imm.le E.imm a→ (∀i∈F,z[i]?=w.heap[i]?) →Z F (map (fun K=> (K.blk,K.sh,K.sz)) Ls) a z) :
  ∃E',E.le E'∧Rel E' h' w.heap∧∀m,m≤h.nb→ExtM m E h w E' h' w:=by
 let E':=E.put h.nb ⟨mH F,0,0⟩
 have s:∀ {b},b≠h.nb→E' b=E b:=fun hb=>Emb.put_ne _ _ hb;have x:E.le E':=Emb.le_put (r.fresh _ (le_refl _));have t:∀b∈G,b<h.nb:=fun b hb=>by obtain⟨o,e,_⟩ :=u b hb;exact r.keys b o e
 have c:OR E' w.heap ⟨mH F,0,0⟩ (.zone true rs Z) :=aGi (pZ x.1 v) (fun i j=> (y i j).2) hz
 obtain⟨J,R,S⟩ :=r.swap (E':=E') (h':=h') (fun b=>b∉G) (le_of_lt A) (fun b hb=>s (by omega)) rfl (fun b hb=>by rw [s (by omega)];exact r.fresh b (by omega))
  (fun b o e hb=>by
   have hb:=Classical.not_not.1 hb;obtain⟨n,f,d,g⟩ :=u b hb;rw [e]at f;cases f;exact⟨d,g⟩)
  (fun b o e=>by
   rcases hl b o e with⟨rfl,rfl⟩ | ⟨d,rfl,L,g⟩ | ⟨d,g⟩
   · refine .inr ⟨A,rfl,rfl,fun l=>absurd l (lt_irrefl _),_,Emb.put_same _ _ _,c,fun i j=>?_⟩;obtain⟨⟨I,Q,U,N,W,V,M⟩,_⟩ :=y i (zone_own.1 j);exact⟨I,U,N,fun l=>l Q,W,V,M⟩
   · have:=t b d;refine .inr ⟨by omega,rfl,rfl,fun _=> ⟨fun l=>l d,?_⟩,L,by rw [s (by omega)];exact g,aQp,fun i j=>absurd j oR⟩;obtain⟨n,f,_⟩ :=u b d;exact⟨n,f⟩
   ·exact .inl ⟨d,g⟩)
  (fun b T o n L Y B O e f k X p hm=>by
   obtain⟨i,H,D⟩ :=hm;rcases hl b o e with⟨rfl,rfl⟩ | ⟨_,rfl,_⟩ |q
   · rcases hl T n f with⟨rfl,rfl⟩ | ⟨_,rfl,_⟩ |q
     ·exact p rfl
     ·exact oR D
     ·exact O q
   ·exact oR H
   ·exact B q)
 exact⟨E',J,R,S⟩
theorem aQq {h h':Hp}{b k g:Nat}{us:List (Nat×Nat)}{op n:Int}{ts:List XT}{ps:List Pat}{len:Nat}{ex:Bool}{pv:AV}(hb:h.look b=some (ndC op n (.gl k 1 0 len ex) pv))(f:len=ts.length)(hp:∀E v,VR E pv v→VR E (.ilst 4 (Pats.av ps) false) v)
  (hk:h.look k=some (.lst 1 (vls us))) (m:h.look g=some (.zone true [] (ZV us (ts.map some)))) (hn:h.nb<h'.nb)
  (hl:∀x o,h'.look x=some o→ (x=h.nb∧o= .zone true [b] (Z1 (.mk op n ts ps))) ∨ (x=b∧o=gh) ∨ (x∉ [b,k,g] ∧h.look x=some o)) :zE h h':=fun E w r=>by
 obtain⟨l,y,X⟩ :=r.obj b _ hb;obtain⟨B,O,g2⟩ :=r.obj g _ m;obtain⟨Gs,n2,A,M⟩ :=pP g2;have t:=os_ts.1 M;have V:=t.len;have S:b≠g:=fun e=>by subst e;rw [hb]at m;cases m
 have T:b≠k:=fun e=>by subst e;rw [hb]at hk;cases hk
 have N:k≠g:=fun e=>by subst e;rw [hk]at m;cases m
 have d2:l.blk∉oK B.blk:=fun G=>r.noMeet hb m y O S rfl rfl ⟨_,rfl,G⟩
 have Y:∀x∈ [b,k,g],∃o,h.look x=some o∧bK o= [] ∧fS o=false:=fun x c=>by
  rcases zq7.1 c with rfl|c
  ·exact⟨_,hb,rfl,rfl⟩
  · rcases zq7.1 c with rfl|c
    ·exact⟨_,hk,rfl,rfl⟩
    ·rw [zq32.1 c];exact⟨_,m,rfl,rfl⟩
 have z:∀x o,h'.look x=some o→ (x=h.nb∧o= .zone true [b] (Z1 (.mk op n ts ps))) ∨ (x∈ [b,k,g] ∧o=gh∧∃L,E x=some L) ∨ (x∉ [b,k,g] ∧h.look x=some o) :=fun x o e=>by
  rcases hl x o e with g| ⟨rfl,rfl⟩ |g
  ·exact .inl g
  ·exact .inr (.inl ⟨by simp,rfl,l,y⟩)
  ·exact .inr (.inr g)
 obtain⟨C,e,kv,p,W,c2,c3,c4,c5,c6,c7,c8⟩ :=aMY X;simp only [VR]at c6;by_cases s:ts= []
 · subst s;simp only [length_nil]at f;subst f
   have J:∀ (d:Imm) (H':Array Obj),Imm.le E.imm d→ (∀i∈ [l.blk],H'[i]?=w.heap[i]?) →Z1 (.mk op n [] ps) [l.blk] (map (fun K=> (K.blk,K.sh,K.sz)) [l]) d H':=fun d H' U R=>by
    refine⟨List.nodup_cons.2 ⟨by simp,List.nodup_nil⟩,_,rfl,?_⟩;simp only [TAt];refine⟨C,e,kv,p,[],by rw [R _ (by simp)];exact W,c3,c4,c5,c7,(VR.emI (by simp [keyless]) (hp E p c8)).mono (aGg U),rfl,.inl ⟨trivial,rfl,?_⟩⟩;rcases c6 with⟨_,a,ha⟩ | ⟨L,a,Q,_,h2,_⟩
    ·exact .inl ⟨a,ha⟩
    ·exact .inr ⟨(L.blk,a),Q,h2⟩
   exact aC0 r [b,k,g] (Ls:=[l]) hn z Y (by simp only [dS,map_nil,List.cons.injEq,and_true];exact y) (fun x c=>by
    rw [zq32]at c;subst c;exact⟨⟨b,by simp,_,l,hb,y,rfl⟩,C,e,W⟩) J
 · have hu:lM (.lst 1 (vls us)) =false:=by
    cases us with
    |nil=>exact absurd (zq35.1 V.symm) s
    |cons u us=>rfl
   obtain⟨q,H,Z,el,vs,x1,x2,I,x4,x5⟩ :=r.obj k _ hk hu;have I:=vls_vrs.1 I;subst I;have d1:q.blk∉oK B.blk:=fun G=>r.noMeet hk m H O N rfl rfl ⟨_,rfl,G⟩;have d3:l.blk≠q.blk:=fun G=>r.noMeet hb hk y H T rfl rfl ⟨_,G,rfl⟩
   have D:aEa ts (q.blk::oK B.blk) [(q.blk,q.sh,q.sz)] E.imm w.heap:= ⟨List.nodup_cons.2 ⟨d1,A⟩,_,rfl,.inr ⟨Z,el,us,_,s,rfl,x1,x2,fun j hj=>by
    have:=x5 j (by rw [lP];omega);rw [this,mT],t⟩⟩
   have J:=aUp H X f hp D;refine aC0 r [b,k,g] (Ls:=[l]) (F:=l.blk:: (q.blk::oK B.blk)) hn z Y (by simp only [dS,map_nil,List.cons.injEq,and_true];exact y) (fun x c=>?_) (fun d H' U R=> ⟨List.nodup_cons.2 ⟨?_,List.nodup_cons.2 ⟨d1,A⟩⟩,_,rfl,TAt.go U _ _ _ J R⟩)
   · rcases zq7.1 c with rfl|c
     ·exact⟨⟨b,by simp,_,l,hb,y,rfl⟩,C,e,W⟩
     · rcases zq7.1 c with rfl|c
       ·exact⟨⟨k,by simp,_,q,hk,H,rfl⟩,Z,el,x1⟩
       ·exact⟨⟨g,by simp,_,B,m,O,c⟩,TsAt.blk ts us _ t x c⟩
   · intro c;rcases zq7.1 c with c|c
     ·exact d3 c
     ·exact d2 c
theorem aNP {E:Emb}{h h':Hp}{w:World}(r:Rel E h w.heap)(G:List Nat){rs:List Nat}{Z:ZP}{F:List Nat}{Ls:List Loc}{kk:Nat}{ok:AObj}{Lk:Loc}(V:h.nb<h'.nb)
  (hl:∀b o,h'.look b=some o→ (b=h.nb∧o= .zone true rs Z) ∨ (b=kk∧o=ok) ∨ (b∈G∧o=gh∧∃L,E b=some L) ∨ (b∉G∧h.look b=some o))
  (N:∀b∈G,∃o,h.look b=some o∧bK o= [] ∧fS o=false) (O:map E.loc rs=map some Ls)
  (t:kk∈G) (A:E kk=some Lk) (u:bK ok= [] ∧fS ok=false) (D:OR E w.heap Lk ok) (l:∀i,Own ok Lk i→i∉F∧∃b∈G,∃o L,h.look b=some o∧E b=some L∧Own o L i)
  (S:∀i∈F,(∃b∈G,∃o L,h.look b=some o∧E b=some L∧Own o L i) ∧∃C e,w.heap[i]?=some (.cells C e (0,0)))
  (hz:∀ (d:Imm) (T:Array Obj),Imm.le E.imm d→ (∀i∈F,T[i]?=w.heap[i]?) →Z F (map (fun K=> (K.blk,K.sh,K.sz)) Ls) d T) :
  ∃E',E.le E'∧Rel E' h' w.heap∧∀m,m≤h.nb→ExtM m E h w E' h' w:=by
 let E':=E.put h.nb ⟨mH F,0,0⟩
 have v:∀ {b},b≠h.nb→E' b=E b:=fun hb=>Emb.put_ne _ _ hb;have B:E.le E':=Emb.le_put (r.fresh _ (le_refl _));have x:∀b∈G,b<h.nb:=fun b hb=>by obtain⟨o,e,_⟩ :=N b hb;exact r.keys b o e
 have hkb:=x kk t;have f:OR E' w.heap ⟨mH F,0,0⟩ (.zone true rs Z) :=aGi (pZ B.1 O) (fun i j=> (S i j).2) hz
 obtain ⟨q1,q2,q3⟩ :=r.swap (E':=E') (h':=h') (fun b=>b∉G) (le_of_lt V) (fun b hb=>v (by omega)) rfl (fun b hb=>by rw [v (by omega)];exact r.fresh b (by omega))
  (fun b o e hb=>by
   have hb:=Classical.not_not.1 hb;obtain⟨y,g,c,z⟩ :=N b hb;rw [e]at g;cases g;exact⟨c,z⟩)
  (fun b o e=>by
   have old:∀ {b},b∈G→b<h.nb→¬ (fun b=>b∉G) b∧∃o0,h.look b=some o0:=fun {b} c _=> ⟨fun a=>a c,by obtain⟨y,g,_⟩ :=N b c;exact⟨y,g⟩⟩;rcases hl b o e with⟨rfl,rfl⟩ | ⟨rfl,rfl⟩ | ⟨c,rfl,L,z⟩ | ⟨c,z⟩
   · refine .inr ⟨V,rfl,rfl,fun a=>absurd a (lt_irrefl _),_,Emb.put_same _ _ _,f,fun i j=>?_⟩;obtain⟨⟨H,M,o0,J,R,Q,I⟩,_⟩ :=S i (zone_own.1 j);exact⟨H,o0,J,fun a=>a M,R,Q,I⟩
   · refine .inr ⟨by omega,u.1,u.2,old t,Lk,by rw [v (by omega)];exact A,D.mono B,fun i j=>?_⟩;obtain⟨_,H,M,o0,J,R,Q,I⟩ :=l i j;exact⟨H,o0,J,fun a=>a M,R,Q,I⟩
   · have:=x b c;exact .inr ⟨by omega,rfl,rfl,old c,L,by rw [v (by omega)];exact z,aQp,fun i j=>absurd j oR⟩
   ·exact .inl ⟨c,z⟩)
  (fun b Y o y L L' n1 W e g k U p hm=>by
   obtain⟨i,q,n⟩ :=hm;have X:∀ {L:Loc},E' h.nb=some L→L= ⟨mH F,0,0⟩ :=fun a=>by rw [Emb.put_same]at a;cases a;rfl
   have lk:∀ {L:Loc},E' kk=some L→L=Lk:=fun a=>by rw [v (by omega),A]at a;cases a;rfl
   rcases hl b o e with⟨rfl,rfl⟩ | ⟨rfl,rfl⟩ | ⟨_,rfl,_⟩ |s
   · rcases hl Y y g with⟨rfl,rfl⟩ | ⟨rfl,rfl⟩ | ⟨_,rfl,_⟩ |s
     ·exact p rfl
     · rw [X k]at q;rw [lk U]at n;exact(l i n).1 (zone_own.1 q)
     ·exact oR n
     ·exact W s
   · rcases hl Y y g with⟨rfl,rfl⟩ | ⟨rfl,rfl⟩ | ⟨_,rfl,_⟩ |s
     · rw [lk k]at q;rw [X U]at n;exact(l i q).1 (zone_own.1 n)
     ·exact p rfl
     ·exact oR n
     ·exact W s
   ·exact oR q
   ·exact n1 s)
 exact⟨E',q1,q2,q3⟩
theorem aUq {E:Emb}{H:Array Obj}{L:Loc}{C:Array Value}{b:TypeId}{us:List (Nat×Nat)}(f:H[L.blk]?=some (.cells C b (0,0)))(h2:C.size=L.sz)(d:∀j,j<us.length→C[L.sh+j]?= (us.map adr)[j]?) :OR E H L (.lst 1 (vls us)) :=
 ⟨C,b,us.map adr,f,h2,vls_vrs.2 rfl,fun u c=>by obtain⟨a,_,rfl⟩ :=zq24.1 c;exact aKW a,fun j e=>by rw [mT];exact d j (by rw [lP]at e;omega)⟩
theorem OsAt.add {b:Imm}{H:Array Obj}{a:Nat×Nat}{t:XT}{f:List Nat}(g:TAt b H a t f) :∀ {e:List (Option XT)} {d:List (Nat×Nat)} {F:List Nat},OsAt b H d e F→OsAt b H (d++ [a]) (e++ [some t]) (F++f)
 | [],d,F,h=>by
  simp only [OsAt]at h;obtain⟨rfl,rfl⟩ :=h;simp only [List.nil_append,OsAt];exact⟨a,[],f,[],rfl,by simp,g,rfl,rfl⟩
 | some n::e,d,F,h=>by
  simp only [OsAt]at h;obtain⟨j,c,m,k,rfl,rfl,l,i⟩ :=h;simp only [aDS,OsAt];exact⟨j,c++ [a],m,k++f,rfl,by simp,l,OsAt.add g i⟩
 | none::e,d,F,h=>by
  simp only [OsAt]at h;obtain⟨j,c,rfl,i⟩ :=h;simp only [aDS,OsAt];exact⟨j,c++ [a],rfl,OsAt.add g i⟩
theorem aMZ {h:Hp}{h':Nat×Nat→Hp}{k g gz z:Nat}{us:List (Nat×Nat)}{ts:List (Option XT)}{t:XT}(hk:h.look k=some (.lst 1 (vls us++ [.ptr z 0])))(f:h.look g=some (.zone true [] (ZV us ts)))(hz:h.look gz=some (.zone true [z] (Z1 t)))(D:g≠gz)(hn:∀u,h.nb< (h' u).nb)
  (hl:∀u b o,(h' u).look b=some o→ (b=h.nb∧o= .zone true [] (ZV (us++ [u]) (ts++ [some t]))) ∨ (b=k∧o= .lst 1 (vls (us++ [u]))) ∨ (b∉ [k,g,gz] ∧h.look b=some o)) :aKV h (fun _=>True) h':=fun E w r=>by
 obtain⟨m,G,g2⟩ :=r.obj g _ f;obtain⟨Ls,_,H,A⟩ :=pP g2;obtain⟨l,J,z2⟩ :=r.obj gz _ hz;obtain⟨R,S,zd,K,hK,W⟩ :=pP z2;obtain⟨c,rfl⟩ :∃c,R= [c] :=by
  match R,hK with
  | [x],_=>exact⟨x,rfl⟩
 simp only [dS,map_nil,List.cons.injEq,and_true]at S hK;subst hK;have hu:lM (.lst 1 (vls us++ [.ptr z 0])) =false:=by cases us<;>rfl
 obtain⟨Lk,q,C,el,Q,Y,x2,N,x4,x5⟩ :=r.obj k _ hk hu;have I:Q= (us++ [(c.blk,c.sh)]).map adr:=by
  have d:= (N.take us.length);have i:= (N.drop us.length);have hl: (vls us).length=us.length:=by simp [vls]
  rw [←hl,List.take_left]at d;rw [←hl,List.drop_left]at i;rw [hl]at d i;have d:=vls_vrs.1 d;obtain⟨v,vs',e,p,s⟩ :=i.cons_inv;have:=s.nil_inv;subst this;simp only [VR]at p;obtain⟨L,O,l2⟩ :=p;rw [S]at O;cases O;rw [←List.take_append_drop us.length Q,d,e,l2];simp [adr]
 subst I;have B:k≠g:=fun e=>by subst e;rw [hk]at f;cases f
 have M:k≠gz:=fun e=>by subst e;rw [hk]at hz;cases hz
 have d1:Lk.blk∉oK m.blk:=fun a=>r.noMeet hk f q G B rfl rfl ⟨_,rfl,a⟩;have d2:Lk.blk∉oK l.blk:=fun a=>r.noMeet hk hz q J M rfl rfl ⟨_,rfl,a⟩;have d3:∀x∈oK l.blk,x∉oK m.blk:=fun x d i=>r.noMeet f hz G J D rfl rfl ⟨x,i,d⟩;have T:=A.add W;have nd: (oK m.blk++oK l.blk).Nodup:=List.nodup_append.2 ⟨H,zd,fun x V y hy e=>by subst e;exact d3 x hy V⟩
 obtain ⟨E',p,s,X⟩ :=aNP (h':=h' (c.blk,c.sh)) r [k,g,gz] (rs:=[]) (Z:=ZV (us++ [(c.blk,c.sh)]) (ts++ [some t])) (F:=oK m.blk++oK l.blk) (Ls:=[]) (kk:=k) (ok:=.lst 1 (vls (us++ [(c.blk,c.sh)]))) (Lk:=Lk) (hn _) (fun b o e=>by
   rcases hl _ b o e with g|g|g
   ·exact .inl g
   ·exact .inr (.inl g)
   · exact .inr (.inr (.inr g))) (fun b hb=>by
     rcases zq7.1 hb with rfl|hb
     ·exact⟨_,hk,rfl,rfl⟩
     · rcases zq7.1 hb with rfl|hb
       ·exact⟨_,f,rfl,rfl⟩
       ·rw [zq32.1 hb];exact⟨_,hz,rfl,rfl⟩) rfl (by simp) q ⟨rfl,rfl⟩ (aUq Y x2 (fun j n=>by have:=x5 j (by rw [lP];omega);rw [this,mT])) (fun j n=>by
     obtain rfl:Lk.blk=j:=n;refine⟨fun a=>?_,k,by simp,_,Lk,hk,q,rfl⟩;rcases zq28.1 a with a|a
     ·exact d1 a
     ·exact d2 a) (fun j n=>by
     refine⟨?_,OsAt.blk _ _ _ T j n⟩;rcases zq28.1 n with a|a
     ·exact⟨g,by simp,_,m,f,G,a⟩
     ·exact⟨gz,by simp,_,l,hz,J,a⟩)
     (fun U H' hi hH=> ⟨nd,OsAt.go hi _ _ _ T hH⟩)
 exact⟨_,E',trivial,p,s,X⟩
def snap (H:Array Obj) :Imm:=fun k=>match H[k]? with
 |some (.cells C _ _) =>some C
 |_=>none
theorem aEN {H:Array Obj}{k:Nat}{C:Array Value}{e:TypeId}{f:Nat×Nat}(h:H[k]?=some (.cells C e f)) :snap H k=some C:=by
 unfold snap;rw [h]
theorem aQr {H:Array Obj}{k:Nat}{C:Array Value}(h:snap H k=some C) :∃e f,H[k]?=some (.cells C e f) :=by
 unfold snap at h;split at h
 ·rename_i a e f he;cases h;exact⟨e,f,he⟩
 ·cases h
theorem Rel.snap {E:Emb}{h:Hp}{H:Array Obj}(r:Rel E h H) :Imm.le E.imm (snap H) :=fun k C e=>by
 obtain⟨a,f,g⟩ :=r.imm k C e;exact aEN g
def rW (a:Nat×Nat) :AV:=.val (adr a)
theorem aIa (b:Nat→Nat) :∀a:List (Nat×Nat),renL b (map rW a) =map rW a
 | [] =>rfl
 |u::a=>by rw [dS,renL,aIa b a];rfl
theorem aUr {a:Nat→Nat}{z b:Nat}(us:List (Nat×Nat))(hz:a b=z) :renL a (map rW us++ [.ptr b 0]) =map rW us++ [.ptr z 0] :=by
 rw [aAV,aIa,←hz];rfl
theorem wc {c:Type}{a b:c}{l k:List c}(h:a=b)(g:l=k) :a::l=b::k:=by rw [h,g]
theorem wn {a:Type}: ([] :List a) = [] :=rfl
theorem aIb {a:Nat→Nat}{z b:Nat}{us:List (Nat×Nat)}(hz:a b=z) :some (bif false then AObj.lst 1 (map rW us++ [.ptr b 0])else(AObj.lst 1 (map rW us++ [.ptr b 0])).ren a) =some (AObj.lst 1 (map rW us++ [.ptr z 0])) :=by
 show some (AObj.lst 1 (renL a _)) =_;rw [aUr us hz]
theorem aC1 {m:Nat}{is:List Ins}{s t:TS}{ks:List Nat}{n1:Nat}{ps:List Prop}{W:List (Option AObj)}(hW:fW (eU m t.nb n1 ks) t.hp=W)(c:way P m is s t ks=some (n1,⟨aCC (eU m t.nb n1 ks) t.fr,t.cs.length,t.cs.map (aCC (eU m t.nb n1 ks)),W⟩,ps))(a:dE m t ks=true)(b:eG t.hp)(d:AllP ps) :LeadsM P m s.as t.as:=
 aNE (n1:=n1) (ks:=ks) (by rw [c,←hW];rfl) a b d
theorem aQs {us:List (Nat×Nat)}:0+length us≤length (map rW us) :=by simp
theorem aQt {us:List (Nat×Nat)}{z:Nat}:List.take (length us) (List.drop 0 (map rW us)) ++ [ptr z 0] =map rW us++ [.ptr z 0] :=by
 rw [List.drop_zero,aBg (by simp)]
theorem aQu {us:List (Nat×Nat)}{z:Nat}:length us+length [ptr z 0] =length us+1:=rfl
theorem aEO {h h':Hp}{Z:ZP}(hz:∀b H,Z [] [] b H)(g:h.nb<h'.nb)
  (hl:∀x o,h'.look x=some o→ (x=h.nb∧o= .zone true [] Z) ∨h.look x=some o) :zE h h':=fun E w r=>
 aC0 r [] (rs:=[]) (Ls:=[]) (F:=[]) g (fun x o e=> (hl x o e).imp id (fun h=>.inr ⟨by simp,h⟩)) (fun x f=> (by cases f)) rfl (fun i c=> (by cases c)) (fun a d _ _=>hz a d)
end
abbrev RT :=XT
abbrev RT.mk (o n:Int)(ps:List Pat)(ks:List XT) :XT:=.mk o n ks ps
mutual
def RT.av :XT→AV
 | .mk o n ks ps=>.agg [.int .i64 o,.int .i64 n,.ilst 4 (Pats.av ps) false,.ilst 4 (RTs.av ks) false]
def RTs.av :List XT→List AV
 | [] =>[]
 |p::ps=>RT.av p::RTs.av ps
end
theorem bR :∀l,RTs.av l=map RT.av l
 | [] =>rfl
 |p::a=>by rw [RTs.av,bR a];rfl
mutual
theorem aC2 :∀p,keyless (RT.av p) =true
 | .mk o n a b=>by simp [RT.av,keyless,keylessL]
theorem aBB :∀l,keylessL (RTs.av l) =true
 | [] =>rfl
 |p::a=>by rw [RTs.av,keylessL,aC2 p,aBB a];rfl
end
theorem fY {l:List RT}:keylessL (RTs.av l) =true:=aBB l
def XT.op :XT→Int| .mk o _ _ _=>o
def XT.n :XT→Int| .mk _ n _ _=>n
def XT.kids :XT→List XT| .mk _ _ ks _=>ks
def XT.pats :XT→List Pat| .mk _ _ _ ps=>ps
structure Flow where
 binds:List XT
 last:XT
noncomputable def Flow.av (f:Flow) :AV:=.agg ([.ilst 4 (RTs.av f.binds) false] ++ (RT.av f.last).cells)
section
variable {P :Program}
mutual
theorem aUs {g J:Imm}{H:Array Obj}(k:Imm.le g J) :∀ (t:XT) (a:Nat×Nat) (F:List Nat),TAt g H a t F→ (∀i∈F,∀C e f,H[i]?=some (.cells C e f) →J i=some C) →VR (emI J) (XT.av t) (adr a)
 | .mk o n p U,a,F,h,q=>by
  simp only [TAt]at h;obtain⟨C,e,kv,A,S,y,D,w,L,v,O,rfl,M⟩ :=h;have m:VR (emI J) (.ilst 1 (XTs.av p) false) kv:=by
   rcases M with⟨rfl,rfl,x⟩ | ⟨b,c,B,R,r,N,I,V,Q,T,s,K,G,rfl,z⟩
   · simp only [VR];refine⟨[],VRs.nil _,fun _ l=>by(cases l),.inl ⟨rfl,?_⟩⟩;rcases x with⟨b,rfl⟩ | ⟨b,c,rfl⟩
     ·exact⟨b,0,rfl,fun _=>rfl,fun h=>by(cases h)⟩
     ·exact⟨_,c,rfl,fun h=>by(cases h),fun h=>by(cases h)⟩
   · simp only [VR];have hl: (r.map adr).length=p.length:=by rw [lP,K]
     refine⟨r.map adr,aC3 k p r N z (fun i k=>q i (dR _ (dR _ k))),fun u l=>by obtain⟨x,_,rfl⟩ :=zq24.1 l;exact aKW x,.inr ⟨b.1,b.2,c,B,by rw [hl];exact I,q _ (by simp) _ _ _ s,by rw [hl];exact Q,fun h=>by(cases h),fun j d=>?_⟩⟩;rw [hl,Nat.mul_one]at d;rw [mT];exact G j d
  simp only [XT.av,VR];refine⟨[.int .i64 o,.int .i64 n,kv,A],VRs.cons (by simp only [VR]) (VRs.cons (by simp only [VR]) (VRs.cons m (VRs.cons (O.mono (aGg k)) (VRs.nil _)))),a.1,a.2,C,rfl,q _ (dJ ..) _ _ _ y,fun j d=>?_⟩
  match j,d with
  |0,_=>exact D
  |1,_=>exact w
  |2,_=>exact L
  |3,_=>exact v
  |j+4,d=>simp at d;omega
theorem aC3 {c J:Imm}{H:Array Obj}(b:Imm.le c J) :∀ (d:List XT) (g:List (Nat×Nat)) (F:List Nat),TsAt c H g d F→ (∀i∈F,∀C e f,H[i]?=some (.cells C e f) →J i=some C) →VRs (emI J) (XTs.av d) (g.map adr)
 | [],g,F,h,_=>by simp only [TsAt]at h;rw [h.1];exact VRs.nil _
 | t::d,g,F,h,k=>by
  simp only [TsAt]at h;obtain⟨a,j,o,n,rfl,rfl,l,m⟩ :=h;exact VRs.cons (aUs b t a o l (fun i b=>k i (zq28.2 (.inl b)))) (aC3 b d j n m (fun i b=>k i (zq28.2 (.inr b))))
end
def fhC (r n:Nat)(mn:Int)(cs:List Con) :AObj:=.cells (putCells .leaf 0 [.gl r 1 0 n false,.int .i64 mn,.ilst 2 (map Con.av cs) false]) 3 [] false
def fvA (ts:List XT)(mn:Int)(cs:List Con) :AV:=.iptr [.ilst 1 (XTs.av ts) false,.int .i64 mn,.ilst 2 (map Con.av cs) false]
theorem aKX {E:Emb}{H:Array Obj}{J:Imm}{k r n:Nat}{mn:Int}{cs:List Con}{ts:List XT}{Lk w:Loc}{cv:Value}(m:Imm.le E.imm J)(hk:E k=some Lk)(ok:OR E H Lk (fhC r n mn cs))(oz:OR E H w (.zone true [r] (aEa ts)))(q:n=ts.length)
  (t:∀i,i=Lk.blk∨i∈oK w.blk→∀C e f,H[i]?=some (.cells C e f) →J i=some C) (A:VR E (.ptr k 0) cv) :VR (emI J) (fvA ts mn cs) cv:=by
 obtain⟨C,e,F,c2,s⟩ :=ok;obtain⟨_,v0,U,p⟩ :=s 0 (.gl r 1 0 n false) (by rw [aX];rfl);obtain⟨_,S,Y,b1⟩ :=s 1 (.int .i64 mn) (by rw [aX];rfl);obtain⟨_,v2,X,I⟩ :=s 2 (.ilst 2 (map Con.av cs) false) (by rw [aX];rfl);obtain⟨z,y,z1⟩ :=pP oz;obtain⟨hnd,K,hK,hz⟩ :=z1;obtain⟨d,rfl⟩ :∃d,z= [d] :=by
  match z,hK with
  | [x],_=>exact⟨x,rfl⟩
 simp only [dS,map_nil,List.cons.injEq,and_true]at y hK;subst hK;have g:VR (emI J) (.ilst 1 (XTs.av ts) false) v0:=by
  simp only [VR]at p;rcases hz with⟨rfl,hF⟩ | ⟨T,ek,v,Fr,W,D,V,g4,Z,B⟩
  · simp only [length_nil]at q;simp only [VR];refine⟨[],VRs.nil _,fun _ o=>by(cases o),.inl ⟨rfl,?_⟩⟩;rcases p with⟨_,a,M⟩ | ⟨L,a,b,_,l,_⟩
    ·exact⟨a,0,M,fun _=>rfl,fun h=>by(cases h)⟩
    ·rw [q]at l;exact⟨_,b,l,fun h=>by(cases h),fun h=>by(cases h)⟩
  · have R:0<ts.length:=List.length_pos_iff.2 W;rcases p with⟨h0,_⟩ | ⟨L,a,b,O,l,h3,h4,G⟩
    ·omega
    · have:E.loc r=some L:=O;rw [y]at this;cases this;obtain⟨N,q2⟩ :=G (by omega);have hl: (v.map adr).length=ts.length:=by rw [lP,B.len]
      simp only [VR];refine⟨v.map adr,aC3 m ts v Fr B (fun i m=>t i (.inr (by rw [D];exact dR _ m))),fun u o=>by obtain⟨x,_,rfl⟩ :=zq24.1 o;exact aKW x,.inr ⟨d.blk,a,b,T,by rw [hl,←q];exact l,t _ (.inr (by rw [D];exact dJ ..)) _ _ _ V,by rw [hl];omega,fun h=>by(cases h),fun j c=>?_⟩⟩;rw [hl,Nat.mul_one]at c;rw [mT,N,show d.sh+0*1+j=d.sh+j by omega];exact Z j c
 simp only [VR]at A;obtain⟨L,Q,rfl⟩ :=A;have:E.loc k=some L:=Q;rw [show E.loc k=E k from rfl,hk]at this;cases this;simp only [fvA,VR];refine⟨[v0,S,v2],VRs.cons g (VRs.cons (by simpa only [VR]using b1) (VRs.cons ((VR.emI (by simp [keyless]) I).mono (aGg m)) (VRs.nil _))),Lk.blk,Lk.sh+0,C,rfl,t _ (.inl rfl) _ _ _ F,fun j c=>?_⟩
 match j,c with
 |0,_=>exact U
 |1,_=>exact Y
 |2,_=>exact X
 |j+3,c=>simp at c;omega
theorem aGj {h h':Hp}{k q z n:Nat}{mn:Int}{cs:List Con}{ts:List XT}(hk:h.look k=some (fhC q n mn cs))(hz:h.look z=some (.zone true [q] (aEa ts)))(M:n=ts.length)(hb:h'.nb=h.nb)
  (hl:∀b o,h'.look b=some o→b∉ [k,z] ∧h.look b=some o) {m:Nat} (hm:m≤h.nb) :mP m h h' (.ptr k 0) (fvA ts mn cs) :=fun E w r=>by
 obtain⟨A,D,J⟩ :=r.obj k _ hk;obtain⟨B,Z,z2⟩ :=r.obj z _ hz
 let own:Nat→Prop:=fun i=>i=A.blk∨i∈oK B.blk
 have c:∀ {i},own i→∃b∈ [k,z],∃o L,h.look b=some o∧E b=some L∧Own o L i∧bK o= [] ∧fS o=false:=fun {i} a=>by
  rcases a with rfl|a
  ·exact⟨k,by simp,_,A,hk,D,rfl,rfl,rfl⟩
  ·exact⟨z,by simp,_,B,hz,Z,a,rfl,rfl⟩
 have s:∀ {i},own i→E.imm i=none:=fun {i} a=>by
  obtain⟨b,_,o,L,p,t,l,_⟩ :=c a;exact r.apart b o L p t i l
 classical
 let E':Emb:= ⟨E.loc,fun i=>if own i then snap w.heap i else E.imm i⟩
 have d:E.le E':= ⟨fun _ _ e=>e,fun i C e=>by
  show(if own i then snap w.heap i else E.imm i) =some C;rw [if_neg (fun y=>by rw [s y]at e;cases e)];exact e⟩
 have j:∀ {b o L i},h'.look b=some o→E b=some L→Own o L i→¬own i:=fun {b o L i} e g a v=>by
  obtain⟨H,Q,U,N,K,S,V,u1,W⟩ :=c v;obtain⟨X,R⟩ :=hl b o e;rcases r.kin H b U o N L K R S g ⟨i,V,a⟩ (fun e=>X (e ▸ Q))with⟨x,_⟩ | ⟨_,x,_⟩
  ·rw [u1]at x;cases x
  ·rw [W]at x;cases x
 refine⟨E',d,⟨fun b o e=>?_,fun b G o F L L' e O=>r.kin b G o F L L' (hl b o e).2 (hl G F O).2,fun b Y=>r.fresh b (by omega),fun i C e=>?_,fun b o L e g i a=>?_,fun b o e=>by rw [hb];exact r.keys b o (hl b o e).2⟩,
  ⟨fun _ _=>rfl,d.2,le_refl _,fun _ _ _=>rfl,fun b o L e g i a _=> ⟨b,o,L,(hl b o e).2,g,a⟩,by omega,rfl,rfl,rfl,fun _ _=>rfl,fun i C e _=>?_,fun b o e _=> ⟨o,(hl b o e).2⟩⟩,fun cv I=>VR.of_emI (E:=E') (aKX d.2 D J z2 M (fun i a C e f y=>?_) I)⟩
 · rcases r.obj0 b o (hl b o e).2 with u| ⟨L,T,g2⟩
   ·exact .inl u
   ·exact .inr ⟨L,T,g2.mono d⟩
 · simp only [E']at e;split at e
   ·exact aQr e
   ·exact r.imm i C e
 · show(if own i then snap w.heap i else E.imm i) =none;rw [if_neg (j e g a)];exact r.apart b o L (hl b o e).2 g i a
 · simp only [E']at e;split at e
   · rename_i v;obtain⟨b,_,o,L,p,t,l,_⟩ :=c v;exact .inr ⟨b,o,L,p,t,l⟩
   ·exact .inl e
 · show(if own i then snap w.heap i else E.imm i) =some C;rw [if_pos a];exact aEN y
end
mutual
def jQ :Pat→Int→Int
 | .mk _ _ _ ps,left=>if left<1 then -1 else hO ps (left-1)
def hO :List Pat→Int→Int
 | [],left=>left
 |p::ps,left=>if 0≤left then hO ps (jQ p left)else left
end
mutual
theorem aIc :∀ (p:Pat) (left:Int),0≤left→ -1≤jQ p left∧jQ p left≤left-1
 | .mk _ _ _ a,left,h=>by
  rw [jQ];split
  ·omega
  ·have:=aEP a (left-1) (by omega);omega
theorem aEP :∀ (b:List Pat) (left:Int),-1≤left→ -1≤hO b left∧hO b left≤left
 | [],left,h=>by rw [hO];omega
 | p ::b,left,h=>by
  rw [hO];split
  · rename_i c;have a:=aIc p left c;have:=aEP b (jQ p left) a.1;omega
  ·omega
end
theorem aA1 (f n:Int)(s:bS)(ps:List Pat)(a:Int)(e:∀p∈ps,∀left:Int,0≤left→left≤1000→aK PP 52 [Pat.av p,.int .i64 left] (.int .i64 (jQ p left))) :
  ∀ (t:List Pat) (i:Nat) (left:Int),ps.drop i=t→ -1≤left→ (i:Int) +left≤1000→Ends PP 0 (vA f n s ps a left (i:Int)).as (.ret (.int .i64 (hO t left))) (aA [] 0)
 | [],i,left,h,m,k=>by
  have:=bJ h;rw [hO];exact aKU f n s ps a left i sd
 | .mk d j c b::t,i,left,h,m,k=>by
  obtain⟨l,o,q⟩ :=bH h;rw [hO];split
  · rename_i g;have w:=aIc (.mk d j c b) left g;refine(aKS f n s ps a left i d j c b _ sd sd sd sd (e _ (oG l) left g (by omega)) sd).ends ?_;exact aA1 f n s ps a e t (i+1) _ o w.1 (by omega)
  ·exact aKT f n s ps a left i sd sd
mutual
theorem tV :∀ (p:Pat) (left:Int),-1≤left→left≤1000→aK PP 52 [Pat.av p,.int .i64 left] (.int .i64 (jQ p left))
 | .mk f n s a,left,b,c=>by
  refine aH kR0 (by simp [keylessL,lK,keyless]) rfl ?_;rw [jQ];split
  ·exact aKQ f n s a left sd
  · refine(aKR f n s a left sd sd).ends ?_;exact aA1 f n s a left (fun p d left b c=>aC4 a p d left b c) a 0 _ rfl (by omega) (by omega)
theorem aC4 :∀ (b:List Pat),∀p∈b,∀left:Int,0≤left→left≤1000→aK PP 52 [Pat.av p,.int .i64 left] (.int .i64 (jQ p left))
 | [],p,a,_,_,_=>by cases a
 | q::b,p,a,left,d,c=>by
  rcases zq7.1 a with e|a
  ·rw [e];exact tV q left (by omega) c
  ·exact aC4 b p a left d c
end
mutual
def tW :Pat→Bool
 | .mk _ _ s ps=>zF ps&&decide (s.length≤30)
def zF :List Pat→Bool
 | [] =>true
 |p::ps=>tW p&&zF ps
end
mutual
def bU :Pat→Nat
 | .mk _ _ _ ps=>bE ps+1
def bE :List Pat→Nat
 | [] =>0
 |p::ps=>bU p+bE ps
end
theorem eV :∀a:List Pat,a.length≤bE a
 | [] =>by simp [bE]
 | .mk _ _ _ qs::a=>by have:=eV a;simp only [bE,bU,rY];omega
mutual
theorem aC5 :∀ (p:Pat) (left:Int),0≤jQ p left→jQ p left=left-bU p
 | .mk _ _ _ a,left,h=>by
  rw [jQ]at h ⊢;split at h
  ·omega
  · rename_i b;rw [if_neg b];have:=aA2 a (left-1) h;simp only [bU];omega
theorem aA2 :∀ (c:List Pat) (left:Int),0≤hO c left→hO c left=left-bE c
 | [],left,h=>by simp [hO,bE]
 | p ::c,left,h=>by
  rw [hO]at h ⊢;split at h
  · rename_i d;rw [if_pos d];have a:=aA2 c _ h;have b:=aC5 p left (by omega);simp only [bE];omega
  ·omega
end
mutual
theorem aC6 :∀ (p:Pat) (left:Int),(bU p:Int) ≤left→jQ p left=left-bU p
 | .mk _ _ _ a,left,h=>by
  simp only [bU]at h ⊢;rw [jQ,if_neg (by omega),aA3 a (left-1) (by omega)];omega
theorem aA3 :∀ (a:List Pat) (left:Int),(bE a:Int) ≤left→hO a left=left-bE a
 | [],left,h=>by simp [hO,bE]
 | p::a,left,h=>by
  simp only [bE]at h ⊢;rw [hO,if_pos (by omega),aC6 p left (by omega),aA3 a _ (by omega)];omega
end
theorem vB (p:Pat)(left:Int) :0≤jQ p left↔ (bU p:Int) ≤left:=by
 constructor
 ·intro h;have:=aC5 p left h;omega
 ·intro h;rw [aC6 p left h];omega
theorem tX (f n:Int)(s:bS)(ps:List Pat)(hl:ps.length<1000000)(j:∀p∈ps,aK PP 53 [Pat.av p] (.bool (tW p))) :
  ∀ (t:List Pat) (i:Nat),ps.drop i=t→Ends PP 0 (lU f n s ps (i:Int)).as (.ret (.bool (zF t&&decide (s.length≤30)))) (aA [] 0)
 | [],i,h=>by
  have:=bJ h;have e:decide (((length s:Nat) :Int) ≤ (30:Int)) =decide (s.length≤30) :=by congr 1;simp;omega
  rw [zF,lE,←e];exact aD9 f n s ps i sd
 | .mk d g c b::t,i,h=>by
  obtain⟨k,l,m⟩ :=bH h;have a:=j _ (oG k);rw [zF];cases hb:tW (.mk d g c b)
  case false=>
   rw [hb]at a;exact aD7 f n s ps i d g c b false sd sd sd a rfl
  rw [hb]at a;refine(aD8 f n s ps i d g c b true sd sd sd a rfl sd).ends ?_;rw [lE];exact tX f n s ps hl j t (i+1) l
mutual
theorem tY :∀ (p:Pat),bU p<1000000→aK PP 53 [Pat.av p] (.bool (tW p))
 | .mk f n s a,h=>by
  refine aH kR0 (by simp [keylessL,lK]) rfl ?_;simp only [bU]at h;have:=eV a;refine(aD6 f n s a).ends ?_;rw [tW];exact tX f n s a (by omega) (wK a (by omega)) a 0 rfl
theorem wK :∀ (b:List Pat),bE b<1000000→∀p∈b,aK PP 53 [Pat.av p] (.bool (tW p))
 | [],_,p,a=>by cases a
 | q::b,h,p,a=>by
  simp only [bE]at h;rcases zq7.1 a with e|a
  ·rw [e];exact tY q (by omega)
  ·exact wK b (by omega) p a
end
def tZ (p:Pat) :Bool:=decide (bU p≤16) &&tW p
theorem aGk (p:Pat) :aK PP 26 [Pat.av p] (.bool (tZ p)) :=by
 refine aH kR0 (by simp [keylessL,lK]) rfl ?_;obtain⟨f,n,s,a⟩ :=p;have b:=tV (.mk f n s a) 16 (by omega) (by omega);by_cases h:bU (.mk f n s a) ≤16
 · have e:tZ (.mk f n s a) =tW (.mk f n s a) :=by simp [tZ,h]
   rw [e];have c:0≤jQ (.mk f n s a) 16:= (vB (.mk f n s a) 16).2 (by omega);exact aH3 f n s a _ _ b (decide_eq_true c) (tY (.mk f n s a) (by omega))
 · have e:tZ (.mk f n s a) =false:=by simp [tZ,h]
   rw [e];refine aH4 f n s a _ b (decide_eq_false fun g=>h ?_);have:= (vB (.mk f n s a) 16).1 g;omega
def gR (l:List Con) :Bool:=l.all fun c=>decide (c.name.length≤40)
def eM (l:List Pat) :Bool:=l.all tZ
def bA (x:Node) :Bool:=decide (x.kids.length≤10) &&decide (x.pats.length≤10) &&eM x.pats
def aE (p:Prog) :Bool:=decide (p.nodes.length≤320) &&decide (p.funs.length≤320) &&decide (p.cons.length≤25) &&gR p.cons&&p.nodes.all bA
mutual
theorem aXx (p:Prog)(o:p.nodes.length≤320) :∀ (t:List Node) (i:Nat),p.nodes.drop i=t→Ends PP 0 (kO p (i:Int)).as (.ret (.bool (t.all bA))) (aA [] 0)
 | [],i,h=>by
  have:=bJ h;exact aCW p i sd
 | x :: t,i,h=>by
  obtain⟨s,m,w⟩ :=bH h;by_cases l:x.kids.length≤10
  · by_cases j:x.pats.length≤10
    · have e: (x::t).all bA= (eM (x.pats.drop 0) &&t.all bA) :=by simp [bA,l,j]
      rw [e];refine(aCV p i x sd sd sd sd sd).ends ?_;have n:=aXx p o t (i+1) m;clear e s m h
      suffices ∀ (u:List Pat) (k:Nat),x.pats.drop k=u→Ends PP 0 (kP p x.op x.n x.kids x.pats (k:Int) (i:Int)).as (.ret (.bool (eM u&&t.all bA))) (aA [] 0)from this _ 0 rfl
      intro u
      induction u with
      | nil=>
       intro k hk;have:=bJ hk;refine(aCZ p x.op x.n x.kids x.pats k i sd sd).ends ?_;simp only [eM,all_nil,lE];exact n
      | cons q u g=>
       intro k hk;obtain⟨v,r,y⟩ :=bH hk;obtain⟨d,b,c,a⟩ :=q;have f:=aGk (.mk d b c a);cases hb:tZ (.mk d b c a)
       case false=>
        rw [hb]at f;have e: (eM (.mk d b c a::u) &&t.all bA) =false:=by simp [eM,hb]
        rw [e];exact aCX p x.op x.n x.kids x.pats k i d b c a false sd sd sd f rfl
       rw [hb]at f;have e: (eM (.mk d b c a::u) &&t.all bA) = (eM u&&t.all bA) :=by simp [eM,hb]
       rw [e];refine(aCY p x.op x.n x.kids x.pats k i d b c a true sd sd sd f rfl sd).ends ?_;exact g (k+1) r
    · have e: (x::t).all bA=false:=by simp [bA,j]
      rw [e];exact aCU p i x sd sd sd sd sd
  · have e: (x::t).all bA=false:=by simp [bA,l]
    rw [e];exact aCT p i x sd sd sd sd
end
theorem aXy (p:Prog)(hc:p.cons.length≤25)(a:p.nodes.length≤320) :∀ (t:List Con) (i:Nat),p.cons.drop i=t→Ends PP 0 (kN p (i:Int)).as (.ret (.bool (gR t&&p.nodes.all bA))) (aA [] 0)
 | [],i,h=>by
  have:=bJ h;refine(aCS p i sd).ends ?_;simp only [gR,all_nil,lE];exact aXx p a p.nodes 0 rfl
 | c ::t,i,h=>by
  obtain⟨f,b,d⟩ :=bH h;by_cases k:c.name.length≤40
  · have e: (gR (c::t) &&p.nodes.all bA) = (gR t&&p.nodes.all bA) :=by simp [gR,k]
    rw [e];refine(aCR p i c sd sd sd sd sd).ends ?_;exact aXy p hc a t (i+1) b
  · have e: (gR (c::t) &&p.nodes.all bA) =false:=by simp [gR,k]
    rw [e];exact aCQ p i c sd sd sd sd
theorem aBl (p:Prog) :aK PP 8 [Prog.av p] (.bool (aE p)) :=by
 refine aH kR0 rfl rfl ?_;by_cases b:p.nodes.length≤320
 · by_cases c:p.funs.length≤320
   · by_cases a:p.cons.length≤25
     · have e:aE p= (gR p.cons&&p.nodes.all bA) :=by simp [aE,b,c,a]
       rw [e];exact(aCP p sd sd sd).ends (aXy p a b p.cons 0 rfl)
     · have e:aE p=false:=by simp [aE,a]
       rw [e];exact aCO p sd sd sd
   · have e:aE p=false:=by simp [aE,c]
     rw [e];exact aCN p sd sd
 · have e:aE p=false:=by simp [aE,b]
   rw [e];exact aCM p sd
def cQ(b c:Int)(d:bS)(a:List Pat)(e:List Con)(f:Bool)(g:Int):TS:=⟨(tf 80 82 [(1,(iC e)),kp 2 0,(4,(bV false)),(5,(bV f)),(6,(nI (a.length:Int))),(7,(nI g))] [kc f80 1012,kl f80 1012,.inBlock 1,kc f80 127]),[],[oC 0 [(nI b),(nI c),(cU d),(iP a)]],1⟩
def rB(d b:Int)(a:bS)(c:List Pat)(e:List Con):=tT 0 (start PP 80 [(.agg [(nI d),(nI b),(cU a),(iP c)]),(iC e)])<|gm 13 aF c<|.b 15 13 (d==1) (.b 7 19 ((c.length:Int) ==0) (.b 11 61 (b==0) (.W 13 1 [0] (cQ d b a c e (jA a.length (aD a) 0 0) 0))<|.W 13 1 [0] (cQ d b a c e false 0))<|.W 24 1 [0] (cQ d b a c e false 0))<|.b 6 13 (d==2) (.b 7 19 ((c.length:Int) ==0) (.b 11 61 (b==0) (.W 13 1 [0] (cQ d b a c e (jA a.length (aD a) 0 0) 0))<|.W 13 1 [0] (cQ d b a c e false 0))<|.W 24 1 [0] (cQ d b a c e false 0))<|.b 5 13 (d==5) (.b 5 19 ((c.length:Int) ==0) (.b 11 61 (b==0) (.W 13 1 [0] (cQ d b a c e (jA a.length (aD a) 0 0) 0))<|.W 13 1 [0] (cQ d b a c e false 0))<|.W 24 1 [0] (cQ d b a c e false 0))<|.b 6 24 (d==3) (.b 5 28 ((c.length:Int) ==0) (iE 2 46 [(nI b),(nI (-1000000000)),(nI 1000000000)]<|fun f=>.b 8 61 f (.W 13 1 [0] (cQ d b a c e (jA a.length (aD a) 0 0) 0))<|.W 13 1 [0] (cQ d b a c e false 0))<|.W 24 1 [0] (cQ d b a c e false 0))<|.b 6 33 (d==4) (.b 5 37 ((c.length:Int) ==0) (iE 2 46 [(nI b),(nI 0),(nI 1)]<|fun f=>.b 8 61 f (.W 13 1 [0] (cQ d b a c e (jA a.length (aD a) 0 0) 0))<|.W 13 1 [0] (cQ d b a c e false 0))<|.W 24 1 [0] (cQ d b a c e false 0))<|.b 6 42 (d==6) (gl 5 Con.av e<|gw 1 48 ((e.length:Int) -1)<|iE 0 46 [(nI b),(nI 0),(nI ((e.length:Int) -1))]<|fun f=>.b 1 50 f (gX Con.av 4 e b<|fun g=>.b 11 61 ((c.length:Int) ==g.args) (.W 13 1 [0] (cQ d b a c e (jA a.length (aD a) 0 0) 0))<|.W 13 1 [0] (cQ d b a c e false 0))<|.W 29 1 [0] (cQ d b a c e false 0))<|.W 20 1 [0] (cQ d b a c e false 0)
def aQv:=fun a b c d e f g i=>rB a b c d e|>.t f|>.t g|>.t i tv
def aQw:=fun a b c d e f g i=>rB a b c d e|>.t f|>.t g|>.f i tv
def aQx:=fun a b c d e f g=>rB a b c d e|>.t f|>.f g tv
def aQy:=fun a b c d e f g i j=>rB a b c d e|>.f f|>.t g|>.t i|>.t j tv
def aQz:=fun a b c d e f g i j=>rB a b c d e|>.f f|>.t g|>.t i|>.f j tv
def aQA:=fun a b c d e f g i=>rB a b c d e|>.f f|>.t g|>.f i tv
def aQB:=fun a b c d e f g i j k=>rB a b c d e|>.f f|>.f g|>.t i|>.t j|>.t k tv
def aQC:=fun a b c d e f g i j k=>rB a b c d e|>.f f|>.f g|>.t i|>.t j|>.f k tv
def aQD:=fun a b c d e f g i j=>rB a b c d e|>.f f|>.f g|>.t i|>.f j tv
def aQE:=fun a b c d e f g i j k l m n=>rB a b c d e|>.f g|>.f i|>.f j|>.t k|>.t l f m|>.t n tv
def aNQ:=fun a b c d e f g i j k l m n=>rB a b c d e|>.f g|>.f i|>.f j|>.t k|>.t l f m|>.f n tv
def aNR:=fun a b c d e f g i j k=>rB a b c d e|>.f f|>.f g|>.f i|>.t j|>.f k tv
def aNS:=fun a b c d e f g i j k l m n o=>rB a b c d e|>.f g|>.f i|>.f j|>.f k|>.t l|>.t m f n|>.t o tv
def aNT:=fun a b c d e f g i j k l m n o=>rB a b c d e|>.f g|>.f i|>.f j|>.f k|>.t l|>.t m f n|>.f o tv
def aNU:=fun a b c d e f g i j k l=>rB a b c d e|>.f f|>.f g|>.f i|>.f j|>.t k|>.f l tv
def aNV:=fun a b c d e f g i j k l m n o p q r s t=>rB a b c d e|>.f i|>.f j|>.f k|>.f l|>.f m|>.t n o f p|>.t q g r s|>.t t tv
def aNW:=fun a b c d e f g i j k l m n o p q r s t=>rB a b c d e|>.f i|>.f j|>.f k|>.f l|>.f m|>.t n o f p|>.t q g r s|>.f t tv
def aNX:=fun a b c d e f g i j k l m n o p=>rB a b c d e|>.f g|>.f i|>.f j|>.f k|>.f l|>.t m n f o|>.f p tv
def aNY:=fun a b c d e f g i j k l=>rB a b c d e|>.f f|>.f g|>.f i|>.f j|>.f k|>.f l tv
def aWp(e f:Int)(g:bS)(b:List Pat)(d:List Con)(c:Bool)(a:Int):=tT 0 (cQ e f g b d c a)<|gd 7 69 (a< (b.length:Int)) (.b 3 71 c (tU 8 b a<|fun i j k l=>iE 2 80 [(.agg [(nI i),(nI j),(cU k),(iP l)]),(iC d)]<|fun m=>gw 6 73 (a+1)<|.W 3 1 [0] (cQ e f g b d m (a+1)))<|gE 8 1 (bV c))<|gE 11 1 (bV c)
def aQF:=fun a b c d e f g i j k l m n o p q r s=>aWp a b c d e f g|>.t n|>.t o i j k l p q m r s tv
def aQG:=fun a b c d e f g i j=>aWp a b c d e f g|>.t i|>.f j tv
def aQH:=fun a b c d e f g i=>aWp a b c d e f g|>.f i tv
def jJ(a b c:Int):=tT 0 (start PP 81 [(nI a),(nI b),(nI c)])<|.b 16 8 (a==1) (gE 8 0 (nI 0))<|.b 6 8 (a==2) (gE 8 0 (nI 0))<|.b 6 8 (a==3) (gE 8 0 (nI 0))<|.b 6 8 (a==4) (gE 8 0 (nI 0))<|.b 6 8 (a==21) (gE 8 0 (nI 0))<|.b 6 8 (a==25) (gE 8 0 (nI 0))<|.b 5 8 (a==28) (gE 6 0 (nI 0))<|.b 7 16 (a==5) (gE 8 0 (nI 1))<|.b 6 16 (a==27) (gE 8 0 (nI 1))<|.b 6 16 (a==16) (gE 8 0 (nI 1))<|.b 6 16 (a==17) (gE 8 0 (nI 1))<|.b 6 16 (a==19) (gE 8 0 (nI 1))<|.b 6 16 (a==20) (gE 8 0 (nI 1))<|.b 6 16 (a==23) (gE 8 0 (nI 1))<|.b 6 16 (a==26) (gE 8 0 (nI 1))<|.b 5 16 (a==24) (gE 6 0 (nI 1))<|.b 7 26 (a==6) (gE 8 0 (nI 2))<|.b 6 26 (a==7) (gE 8 0 (nI 2))<|.b 6 26 (a==9) (gE 8 0 (nI 2))<|.b 6 26 (a==10) (gE 8 0 (nI 2))<|.b 6 26 (a==11) (gE 8 0 (nI 2))<|.b 6 26 (a==12) (gE 8 0 (nI 2))<|.b 6 26 (a==13) (gE 8 0 (nI 2))<|.b 6 26 (a==18) (gE 8 0 (nI 2))<|.b 5 26 (a==22) (gE 6 0 (nI 2))<|.b 6 36 (a==8) (gE 6 0 (nI 3))<|.b 6 38 (a==15) (gw 5 41 (1+b)<|gE 3 0 (nI (1+b)))<|.b 6 42 (a==14) (gE 7 0 (nI c))<|gE 8 0 (nI (-1))
def aNZ:=fun a b c d=>jJ a b c|>.t d tv
def aN0:=fun a b c d e=>jJ a b c|>.f d|>.t e tv
def aN1:=fun a b c d e f=>jJ a b c|>.f d|>.f e|>.t f tv
def aN2:=fun a b c d e f g=>jJ a b c|>.f d|>.f e|>.f f|>.t g tv
def aN3:=fun a b c d e f g i=>jJ a b c|>.f d|>.f e|>.f f|>.f g|>.t i tv
def aN4:=fun a b c d e f g i j=>jJ a b c|>.f d|>.f e|>.f f|>.f g|>.f i|>.t j tv
def aN5:=fun a b c d e f g i j k=>jJ a b c|>.f d|>.f e|>.f f|>.f g|>.f i|>.f j|>.t k tv
def aN6:=fun a b c d e f g i j k l=>jJ a b c|>.f d|>.f e|>.f f|>.f g|>.f i|>.f j|>.f k|>.t l tv
def aN7:=fun a b c d e f g i j k l m=>jJ a b c|>.f d|>.f e|>.f f|>.f g|>.f i|>.f j|>.f k|>.f l|>.t m tv
def aN8:=fun a b c d e f g i j k l m n=>jJ a b c|>.f d|>.f e|>.f f|>.f g|>.f i|>.f j|>.f k|>.f l|>.f m|>.t n tv
def aKY:=fun a b c d e f g i j k l m n o=>jJ a b c|>.f d|>.f e|>.f f|>.f g|>.f i|>.f j|>.f k|>.f l|>.f m|>.f n|>.t o tv
def aKZ:=fun a b c d e f g i j k l m n o p=>jJ a b c|>.f d|>.f e|>.f f|>.f g|>.f i|>.f j|>.f k|>.f l|>.f m|>.f n|>.f o|>.t p tv
def aK0:=fun a b c d e f g i j k l m n o p q=>jJ a b c|>.f d|>.f e|>.f f|>.f g|>.f i|>.f j|>.f k|>.f l|>.f m|>.f n|>.f o|>.f p|>.t q tv
def aK1:=fun a b c d e f g i j k l m n o p q r=>jJ a b c|>.f d|>.f e|>.f f|>.f g|>.f i|>.f j|>.f k|>.f l|>.f m|>.f n|>.f o|>.f p|>.f q|>.t r tv
def aK2:=fun a b c d e f g i j k l m n o p q r s=>jJ a b c|>.f d|>.f e|>.f f|>.f g|>.f i|>.f j|>.f k|>.f l|>.f m|>.f n|>.f o|>.f p|>.f q|>.f r|>.t s tv
def aK3:=fun a b c d e f g i j k l m n o p q r s t=>jJ a b c|>.f d|>.f e|>.f f|>.f g|>.f i|>.f j|>.f k|>.f l|>.f m|>.f n|>.f o|>.f p|>.f q|>.f r|>.f s|>.t t tv
def aK4:=fun a b c d e f g i j k l m n o p q r s t u=>jJ a b c|>.f d|>.f e|>.f f|>.f g|>.f i|>.f j|>.f k|>.f l|>.f m|>.f n|>.f o|>.f p|>.f q|>.f r|>.f s|>.f t|>.t u tv
def aK5:=fun a b c d e f g i j k l m n o p q r s t u v=>jJ a b c|>.f d|>.f e|>.f f|>.f g|>.f i|>.f j|>.f k|>.f l|>.f m|>.f n|>.f o|>.f p|>.f q|>.f r|>.f s|>.f t|>.f u|>.t v tv
def aK6:=fun a b c d e f g i j k l m n o p q r s t u v w=>jJ a b c|>.f d|>.f e|>.f f|>.f g|>.f i|>.f j|>.f k|>.f l|>.f m|>.f n|>.f o|>.f p|>.f q|>.f r|>.f s|>.f t|>.f u|>.f v|>.t w tv
def aK7:=fun a b c d e f g i j k l m n o p q r s t u v w x=>jJ a b c|>.f d|>.f e|>.f f|>.f g|>.f i|>.f j|>.f k|>.f l|>.f m|>.f n|>.f o|>.f p|>.f q|>.f r|>.f s|>.f t|>.f u|>.f v|>.f w|>.t x tv
def aK8:=fun a b c d e f g i j k l m n o p q r s t u v w x y=>jJ a b c|>.f d|>.f e|>.f f|>.f g|>.f i|>.f j|>.f k|>.f l|>.f m|>.f n|>.f o|>.f p|>.f q|>.f r|>.f s|>.f t|>.f u|>.f v|>.f w|>.f x|>.t y tv
def aK9:=fun a b c d e f g i j k l m n o p q r s t u v w x y z=>jJ a b c|>.f d|>.f e|>.f f|>.f g|>.f i|>.f j|>.f k|>.f l|>.f m|>.f n|>.f o|>.f p|>.f q|>.f r|>.f s|>.f t|>.f u|>.f v|>.f w|>.f x|>.f y|>.t z tv
def aLa:=fun a b c d e f g i j k l m n o p q r s t u v w x y z A=>jJ a b c|>.f d|>.f e|>.f f|>.f g|>.f i|>.f j|>.f k|>.f l|>.f m|>.f n|>.f o|>.f p|>.f q|>.f r|>.f s|>.f t|>.f u|>.f v|>.f w|>.f x|>.f y|>.f z|>.t A tv
def aLb:=fun a b c d e f g i j k l m n o p q r s t u v w x y z A B=>jJ a b c|>.f d|>.f e|>.f f|>.f g|>.f i|>.f j|>.f k|>.f l|>.f m|>.f n|>.f o|>.f p|>.f q|>.f r|>.f s|>.f t|>.f u|>.f v|>.f w|>.f x|>.f y|>.f z|>.f A|>.t B tv
def aLc:=fun a b c d e f g i j k l m n o p q r s t u v w x y z A B C=>jJ a b c|>.f d|>.f e|>.f f|>.f g|>.f i|>.f j|>.f k|>.f l|>.f m|>.f n|>.f o|>.f p|>.f q|>.f r|>.f s|>.f t|>.f u|>.f v|>.f w|>.f x|>.f y|>.f z|>.f A|>.f B|>.t C tv
def aLd:=fun a b c d e f g i j k l m n o p q r s t u v w x y z A B C D=>jJ a b c|>.f d|>.f e|>.f f|>.f g|>.f i|>.f j|>.f k|>.f l|>.f m|>.f n|>.f o|>.f p|>.f q|>.f r|>.f s|>.f t|>.f u|>.f v|>.f w|>.f x|>.f y|>.f z|>.f A|>.f B|>.f C|>.t D tv
def aLe:=fun a b c d e f g i j k l m n o p q r s t u v w x y z A B C D F G=>jJ a b c|>.f d|>.f e|>.f f|>.f g|>.f i|>.f j|>.f k|>.f l|>.f m|>.f n|>.f o|>.f p|>.f q|>.f r|>.f s|>.f t|>.f u|>.f v|>.f w|>.f x|>.f y|>.f z|>.f A|>.f B|>.f C|>.f D|>.t F G tv
def aLf:=fun a b c d e f g i j k l m n o p q r s t u v w x y z A B C D F G=>jJ a b c|>.f d|>.f e|>.f f|>.f g|>.f i|>.f j|>.f k|>.f l|>.f m|>.f n|>.f o|>.f p|>.f q|>.f r|>.f s|>.f t|>.f u|>.f v|>.f w|>.f x|>.f y|>.f z|>.f A|>.f B|>.f C|>.f D|>.f F|>.t G tv
def aLg:=fun a b c d e f g i j k l m n o p q r s t u v w x y z A B C D F G=>jJ a b c|>.f d|>.f e|>.f f|>.f g|>.f i|>.f j|>.f k|>.f l|>.f m|>.f n|>.f o|>.f p|>.f q|>.f r|>.f s|>.f t|>.f u|>.f v|>.f w|>.f x|>.f y|>.f z|>.f A|>.f B|>.f C|>.f D|>.f F|>.f G tv
theorem Ends.eqv {P:Program}{m:Nat}{s:AS}{v v':AV}{h':Hp}(h:Ends P m s (.ret v) h')(e:v=v') :Ends P m s (.ret v') h':=e ▸ h
theorem inB_iff {n lo hi:Int}:cZ n lo hi=true↔lo≤n∧n≤hi:=by simp [cZ]
theorem inB_not {n lo a:Int}:cZ n lo a=false↔¬ (lo≤n∧n≤a) :=by simp [cZ]
theorem sdI {p:Prop}(h:p:=by first|assumption|rfl| (simp only [xW];assumption) | (simp only [decide_eq_true_eq,decide_eq_false_iff_not];omega) |omega| (apply wrap64<;>omega) | (simp_all;done) | (simp only [inB_iff,inB_not,beq_iff_eq,decide_eq_true_eq,decide_eq_false_iff_not]at *;omega)) :p:=h
theorem idT {p:Prop}(h:p:=by exact⟨_,lZ (by simp only [inB_iff,inB_not,beq_iff_eq,decide_eq_true_eq,decide_eq_false_iff_not]at *;omega)⟩) :p:=h
def bY (op pats args:Int) :Int:=
 if op=1∨op=2∨op=3∨op=4∨op=21∨op=25∨op=28 then 0
 else if op=5∨op=27∨op=16∨op=17∨op=19∨op=20∨op=23∨op=26∨op=24 then 1
 else if op=6∨op=7∨op=9∨op=10∨op=11∨op=12∨op=13∨op=18∨op=22 then 2
 else if op=8 then 3 else if op=15 then 1+pats else if op=14 then args else -1
theorem aUt (op pats a:Int)(F:0≤pats)(D:pats≤1000) :Ends PP 0 (start PP 81 [.int .i64 op,.int .i64 pats,.int .i64 a]).as (.ret (.int .i64 (bY op pats a))) (aA [] 0) :=by
 cases c: (op== (1:Int))
 case true=>exact Ends.eqv (aNZ op pats a   c) (by simp_all [bY])
 cases e: (op== (2:Int))
 case true=>exact Ends.eqv (aN0 op pats a   c e) (by simp_all [bY])
 cases g: (op== (3:Int))
 case true=>exact Ends.eqv (aN1 op pats a   c e g) (by simp_all [bY])
 cases h: (op== (4:Int))
 case true=>exact Ends.eqv (aN2 op pats a   c e g h) (by simp_all [bY])
 cases j: (op== (21:Int))
 case true=>exact Ends.eqv (aN3 op pats a   c e g h j) (by simp_all [bY])
 cases l: (op== (25:Int))
 case true=>exact Ends.eqv (aN4 op pats a   c e g h j l) (by simp_all [bY])
 cases n: (op== (28:Int))
 case true=>exact Ends.eqv (aN5 op pats a   c e g h j l n) (by simp_all [bY])
 cases o: (op== (5:Int))
 case true=>exact Ends.eqv (aN6 op pats a   c e g h j l n o) (by simp_all [bY])
 cases q: (op== (27:Int))
 case true=>exact Ends.eqv (aN7 op pats a   c e g h j l n o q) (by simp_all [bY])
 cases b: (op== (16:Int))
 case true=>exact Ends.eqv (aN8 op pats a   c e g h j l n o q b) (by simp_all [bY])
 cases d: (op== (17:Int))
 case true=>exact Ends.eqv (aKY op pats a   c e g h j l n o q b d) (by simp_all [bY])
 cases f: (op== (19:Int))
 case true=>exact Ends.eqv (aKZ op pats a   c e g h j l n o q b d f) (by simp_all [bY])
 cases i: (op== (20:Int))
 case true=>exact Ends.eqv (aK0 op pats a   c e g h j l n o q b d f i) (by simp_all [bY])
 cases k: (op== (23:Int))
 case true=>exact Ends.eqv (aK1 op pats a   c e g h j l n o q b d f i k) (by simp_all [bY])
 cases m: (op== (26:Int))
 case true=>exact Ends.eqv (aK2 op pats a   c e g h j l n o q b d f i k m) (by simp_all [bY])
 cases p: (op== (24:Int))
 case true=>exact Ends.eqv (aK3 op pats a   c e g h j l n o q b d f i k m p) (by simp_all [bY])
 cases r: (op== (6:Int))
 case true=>exact Ends.eqv (aK4 op pats a   c e g h j l n o q b d f i k m p r) (by simp_all [bY])
 cases s: (op== (7:Int))
 case true=>exact Ends.eqv (aK5 op pats a   c e g h j l n o q b d f i k m p r s) (by simp_all [bY])
 cases t: (op== (9:Int))
 case true=>exact Ends.eqv (aK6 op pats a   c e g h j l n o q b d f i k m p r s t) (by simp_all [bY])
 cases u: (op== (10:Int))
 case true=>exact Ends.eqv (aK7 op pats a   c e g h j l n o q b d f i k m p r s t u) (by simp_all [bY])
 cases v: (op== (11:Int))
 case true=>exact Ends.eqv (aK8 op pats a   c e g h j l n o q b d f i k m p r s t u v) (by simp_all [bY])
 cases w: (op== (12:Int))
 case true=>exact Ends.eqv (aK9 op pats a   c e g h j l n o q b d f i k m p r s t u v w) (by simp_all [bY])
 cases x: (op== (13:Int))
 case true=>exact Ends.eqv (aLa op pats a   c e g h j l n o q b d f i k m p r s t u v w x) (by simp_all [bY])
 cases y: (op== (18:Int))
 case true=>exact Ends.eqv (aLb op pats a   c e g h j l n o q b d f i k m p r s t u v w x y) (by simp_all [bY])
 cases z: (op== (22:Int))
 case true=>exact Ends.eqv (aLc op pats a   c e g h j l n o q b d f i k m p r s t u v w x y z) (by simp_all [bY])
 cases A: (op== (8:Int))
 case true=>exact Ends.eqv (aLd op pats a   c e g h j l n o q b d f i k m p r s t u v w x y z A) (by simp_all [bY])
 cases B: (op== (15:Int))
 case true=>exact Ends.eqv (aLe op pats a   c e g h j l n o q b d f i k m p r s t u v w x y z A B sdI) (by simp_all [bY])
 cases C: (op== (14:Int))
 case true=>exact Ends.eqv (aLf op pats a   c e g h j l n o q b d f i k m p r s t u v w x y z A B C) (by simp_all [bY])
 exact Ends.eqv (aLg op pats a   c e g h j l n o q b d f i k m p r s t u v w x y z A B C) (by simp_all [bY])
theorem aLh (op pats a:Int)(c:0≤pats)(b:pats≤1000) :aK PP 81 [.int .i64 op,.int .i64 pats,.int .i64 a] (.int .i64 (bY op pats a)) :=
 aH kR0 rfl rfl (aUt op pats a c b)
def eN (cons:List Con)(n:Int) :Int:=match cons[n.toNat]? with
 |some c=>c.args
 |none=> -1
def dK (cons:List Con)(f n:Int)(s:bS)(k:Nat) :Bool:=
 (if f=1∨f=2∨f=5 then decide (k=0) &&decide (n=0)
 else if f=3 then decide (k=0) &&cZ n (-1000000000) 1000000000
 else if f=4 then decide (k=0) &&cZ n 0 1
 else if f=6 then cZ n 0 ((cons.length:Int) -1) &&decide ((k:Int) =eN cons n)
 else false) &&decide (s= [])
mutual
def dP (cons:List Con) :Pat→Bool
 | .mk f n s ps=>dK cons f n s ps.length&&cT cons ps
def cT (cons:List Con) :List Pat→Bool
 | [] =>true
 |p::ps=>dP cons p&&cT cons ps
end
theorem ptT {p:Prop}(h:p:=by simp_all [dK,eN,cI]) :p:=h
theorem aWq (c e:Int)(d:bS)(a:List Pat)(cons:List Con)(hc:cons.length≤1000)(b:Bool)(hk:∀i:Bool,i=dK cons c e d a.length→Ends PP 0 (cQ c e d a cons i 0).as (.ret (.bool b)) (aA [] 0)) :
  Ends PP 0 (start PP 80 [Pat.av (.mk c e d a),.ilst 2 (map Con.av cons) false]).as (.ret (.bool b)) (aA [] 0) :=by
 cases f: (c== (1:Int))
 case true=>
  cases t: (((length a:Nat) :Int) == (0:Int))
  case true=>
   cases x: (e== (0:Int))
   case true=>exact LeadsM.ends (aQv c e d a cons   f t x) (hk _ (by clear hk;exact ptT))
   exact LeadsM.ends (aQw c e d a cons   f t x) (hk _ (by clear hk;exact ptT))
  exact LeadsM.ends (aQx c e d a cons   f t) (hk _ (by clear hk;exact ptT))
 cases g: (c== (2:Int))
 case true=>
  cases v: (((length a:Nat) :Int) == (0:Int))
  case true=>
   cases z: (e== (0:Int))
   case true=>exact LeadsM.ends (aQy c e d a cons   f g v z) (hk _ (by clear hk;exact ptT))
   exact LeadsM.ends (aQz c e d a cons   f g v z) (hk _ (by clear hk;exact ptT))
  exact LeadsM.ends (aQA c e d a cons   f g v) (hk _ (by clear hk;exact ptT))
 cases j: (c== (5:Int))
 case true=>
  cases u: (((length a:Nat) :Int) == (0:Int))
  case true=>
   cases w: (e== (0:Int))
   case true=>exact LeadsM.ends (aQB c e d a cons   f g j u w) (hk _ (by clear hk;exact ptT))
   exact LeadsM.ends (aQC c e d a cons   f g j u w) (hk _ (by clear hk;exact ptT))
  exact LeadsM.ends (aQD c e d a cons   f g j u) (hk _ (by clear hk;exact ptT))
 cases h: (c== (3:Int))
 case true=>
  cases o: (((length a:Nat) :Int) == (0:Int))
  case true=>
   cases q: (cZ e (-1000000000) 1000000000)
   case true=>exact LeadsM.ends (aQE c e d a cons  (cZ e (-1000000000) 1000000000) f g j h o (aQ e (-1000000000) 1000000000) q) (hk _ (by clear hk;exact ptT))
   exact LeadsM.ends (aNQ c e d a cons  (cZ e (-1000000000) 1000000000) f g j h o (aQ e (-1000000000) 1000000000) q) (hk _ (by clear hk;exact ptT))
  exact LeadsM.ends (aNR c e d a cons   f g j h o) (hk _ (by clear hk;exact ptT))
 cases k: (c== (4:Int))
 case true=>
  cases m: (((length a:Nat) :Int) == (0:Int))
  case true=>
   cases s: (cZ e 0 1)
   case true=>exact LeadsM.ends (aNS c e d a cons  (cZ e 0 1) f g j h k m (aQ e 0 1) s) (hk _ (by clear hk;exact ptT))
   exact LeadsM.ends (aNT c e d a cons  (cZ e 0 1) f g j h k m (aQ e 0 1) s) (hk _ (by clear hk;exact ptT))
  exact LeadsM.ends (aNU c e d a cons   f g j h k m) (hk _ (by clear hk;exact ptT))
 cases l: (c== (6:Int))
 case true=>
  cases n: (cZ e 0 (((length cons:Nat) :Int) - (1:Int)))
  case true=>
   obtain⟨A,r⟩ :∃y,((cons)[e.toNat]?) =some y:=idT;cases p: (((length a:Nat) :Int) ==A.args)
   case true=>exact LeadsM.ends (aNV c e d a cons  (cZ e 0 (((length cons:Nat) :Int) - (1:Int))) A f g j h k l sdI (aQ e 0 (((length cons:Nat) :Int) - (1:Int))) n sdI r p) (hk _ (by clear hk;exact ptT))
   exact LeadsM.ends (aNW c e d a cons  (cZ e 0 (((length cons:Nat) :Int) - (1:Int))) A f g j h k l sdI (aQ e 0 (((length cons:Nat) :Int) - (1:Int))) n sdI r p) (hk _ (by clear hk;exact ptT))
  exact LeadsM.ends (aNX c e d a cons  (cZ e 0 (((length cons:Nat) :Int) - (1:Int))) f g j h k l sdI (aQ e 0 (((length cons:Nat) :Int) - (1:Int))) n) (hk _ (by clear hk;exact ptT))
 exact LeadsM.ends (aNY c e d a cons   f g j h k l) (hk _ (by clear hk;exact ptT))
theorem aEQ (f n:Int)(s:bS)(ps:List Pat)(cons:List Con)(hl:ps.length<1000000)(e:∀p∈ps,aK PP 80 [Pat.av p,.ilst 2 (map Con.av cons) false] (.bool (dP cons p))) :
  ∀ (t:List Pat) (i:Nat) (b:Bool),ps.drop i=t→Ends PP 0 (cQ f n s ps cons b (i:Int)).as (.ret (.bool (b&&cT cons t))) (aA [] 0)
 | [],i,b,h=>by
  have:=bJ h;exact Ends.eqv (aQH f n s ps cons b i sd) (by simp [cT])
 | .mk d g c a::t,i,b,h=>by
  obtain⟨j,k,l⟩ :=bH h;cases b
  case false=>exact Ends.eqv (aQG f n s ps cons false i sd rfl) (by simp)
  refine(aQF f n s ps cons true i d g c a _ sd rfl sd sd (e (.mk d g c a) (oG j)) sd).ends ?_;exact Ends.eqv (aEQ f n s ps cons hl e t (i+1) _ k) (by simp [cT])
mutual
theorem aER (cons:List Con)(hc:cons.length≤1000) :∀ (p:Pat),bU p<1000000→aK PP 80 [Pat.av p,.ilst 2 (map Con.av cons) false] (.bool (dP cons p))
 | .mk f n s a,h=>by
  refine aH kR0 (by simp [keylessL,lK,keyless]) rfl ?_;simp only [bU]at h;have:=eV a;refine aWq f n s a cons hc _ (fun i b=>?_);subst b;rw [dP];exact aEQ f n s a cons (by omega) (aIe cons hc a (by omega)) a 0 _ rfl
theorem aIe (cons:List Con)(hc:cons.length≤1000) :∀ (b:List Pat),bE b<1000000→∀p∈b,aK PP 80 [Pat.av p,.ilst 2 (map Con.av cons) false] (.bool (dP cons p))
 | [],_,p,a=>by cases a
 | q::b,h,p,a=>by
  simp only [bE]at h;rcases zq7.1 a with e|a
  ·rw [e];exact aER cons hc q (by omega)
  ·exact aIe cons hc b (by omega) p a
end
section
variable (mf mc:List (Int×Int))
end
def bF(a:Prog)(b:Node)(c:Bool)(d e:Int):TS:=⟨(tf 48 112 [kp 2 0,kp 3 1,(4,(bV false)),(5,(nI d)),(6,(bV c)),(7,(nI e))] [kc f48 1012,kl f48 1012,.inBlock 1,kc f48 127]),[],[oC 0 [(iN a.nodes),(iI a.funs),(nI a.main),(iC a.cons)],oC 1 [(nI b.op),(nI b.n),(iI b.kids),(iP b.pats)]],2⟩
def zG(b:List Con)(c:Int)(a:List bS):TS:=⟨(tf 47 42 [(0,(iC b)),(2,(bV false)),(3,(.gl 0 1 0 a.length false)),(4,(nI c))] [kc f47 116,kl f47 116,.inBlock 0,kc f47 15]),[],[oL 0 1 (map cU a)],1⟩
def rC(a:Prog)(c:Int)(b:List Bool):TS:=⟨(tf 22 133 [kp 1 0,(2,(bV false)),(3,(nI (a.nodes.length:Int))),(4,(.gl 1 1 0 b.length true)),(5,(nI c))] [kc f22 500,kl f22 500,.inBlock 0,kc f22 63]),[],[oC 0 [(iN a.nodes),(iI a.funs),(nI a.main),(iC a.cons)],oL 1 1 (map kZ b)],2⟩
def mU(a:Prog)(b:List Bool)(c:Int):TS:=⟨(tf 22 133 [kp 1 0,(2,(bV false)),(3,(nI (a.nodes.length:Int))),(4,(.gl 1 1 0 b.length true)),(6,(nI c))] [kc f22 1012,kl f22 1012,.inBlock 2,kc f22 127]),[],[oC 0 [(iN a.nodes),(iI a.funs),(nI a.main),(iC a.cons)],oL 1 1 (map kZ b)],2⟩
def rD(a:Prog)(b:List Bool)(c d:Int):TS:=⟨(tf 22 133 [kp 1 0,(2,(bV false)),(3,(nI (a.nodes.length:Int))),(4,(.gl 1 1 0 b.length true)),(6,(nI d)),(7,(nI c))] [kc f22 129612,kl f22 129612,.inBlock 4,.inBlock 3,kc f22 4051,kl f22 1012,.inBlock 2,kc f22 127]),[],[oC 0 [(iN a.nodes),(iI a.funs),(nI a.main),(iC a.cons)],oL 1 1 (map kZ b)],2⟩
def rE(b:Prog)(a:List Bool)(c:Int):TS:=⟨(tf 22 133 [(2,(bV false)),(3,(nI (b.nodes.length:Int))),(4,(.gl 0 1 0 a.length true)),(9,(nI c))] [kc f22 2036,kl f22 2036,.inBlock 6,kc f22 255]),[],[oL 0 1 (map kZ a)],1⟩
def lW(b:Prog)(a:Node):=tT 0 (start PP 48 [(Prog.av b),(Node.av a)])<|.b 29 13 (a.op==1) (iE 4 46 [(nI a.n),(nI (-1000000000)),(nI 1000000000)]<|fun c=>.b 10 56 (a.op==15) (.b 4 58 c (gm 2 aF a.pats<|iE 0 46 [(nI (a.pats.length:Int)),(nI 1),(nI 5)]<|fun d=>.W 10 2 [0,1] (bF b a d 0 0))<|.W 14 2 [0,1] (bF b a false 0 0))<|.b 4 65 c (gm 2 aF a.pats<|.W 11 2 [0,1] (bF b a ((a.pats.length:Int) ==0) 0 0))<|.W 14 2 [0,1] (bF b a false 0 0))<|.b 6 18 (a.op==2) (iE 4 46 [(nI a.n),(nI 0),(nI 1)]<|fun c=>.b 10 56 (a.op==15) (.b 4 58 c (gm 2 aF a.pats<|iE 0 46 [(nI (a.pats.length:Int)),(nI 1),(nI 5)]<|fun d=>.W 10 2 [0,1] (bF b a d 0 0))<|.W 14 2 [0,1] (bF b a false 0 0))<|.b 4 65 c (gm 2 aF a.pats<|.W 11 2 [0,1] (bF b a ((a.pats.length:Int) ==0) 0 0))<|.W 14 2 [0,1] (bF b a false 0 0))<|.b 6 23 (a.op==4) (gl 6 aY b.funs<|gw 1 30 (0- (b.funs.length:Int))<|iE 0 46 [(nI a.n),(nI (0- (b.funs.length:Int))),(nI 29)]<|fun c=>.b 10 56 (a.op==15) (.b 4 58 c (gm 2 aF a.pats<|iE 0 46 [(nI (a.pats.length:Int)),(nI 1),(nI 5)]<|fun d=>.W 10 2 [0,1] (bF b a d 0 0))<|.W 14 2 [0,1] (bF b a false 0 0))<|.b 4 65 c (gm 2 aF a.pats<|.W 11 2 [0,1] (bF b a ((a.pats.length:Int) ==0) 0 0))<|.W 14 2 [0,1] (bF b a false 0 0))<|.b 6 32 (a.op==24) (iE 4 46 [(nI a.n),(nI 0),(nI 3)]<|fun c=>.b 10 56 (a.op==15) (.b 4 58 c (gm 2 aF a.pats<|iE 0 46 [(nI (a.pats.length:Int)),(nI 1),(nI 5)]<|fun d=>.W 10 2 [0,1] (bF b a d 0 0))<|.W 14 2 [0,1] (bF b a false 0 0))<|.b 4 65 c (gm 2 aF a.pats<|.W 11 2 [0,1] (bF b a ((a.pats.length:Int) ==0) 0 0))<|.W 14 2 [0,1] (bF b a false 0 0))<|.b 6 37 (a.op==14) (gl 7 Con.av b.cons<|gw 1 44 ((b.cons.length:Int) -1)<|iE 0 46 [(nI a.n),(nI 0),(nI ((b.cons.length:Int) -1))]<|fun c=>.b 6 46 c (gX Con.av 6 b.cons a.n<|fun d=>.b 12 56 (a.op==15) (.b 4 58 c (gm 2 aF a.pats<|iE 0 46 [(nI (a.pats.length:Int)),(nI 1),(nI 5)]<|fun e=>.W 10 2 [0,1] (bF b a e d.args 0)) .x)<|.b 4 65 c (gm 2 aF a.pats<|.W 11 2 [0,1] (bF b a ((a.pats.length:Int) ==0) d.args 0)) .x)<|.b 10 56 (a.op==15) (.b 4 58 c .x<|.W 14 2 [0,1] (bF b a false 0 0))<|.b 4 65 c .x<|.W 14 2 [0,1] (bF b a false 0 0))<|.b 10 56 (a.op==15) (.b 4 58 (a.n==0) (gm 2 aF a.pats<|iE 0 46 [(nI (a.pats.length:Int)),(nI 1),(nI 5)]<|fun c=>.W 10 2 [0,1] (bF b a c 0 0))<|.W 14 2 [0,1] (bF b a false 0 0))<|.b 4 65 (a.n==0) (gm 2 aF a.pats<|.W 11 2 [0,1] (bF b a ((a.pats.length:Int) ==0) 0 0))<|.W 14 2 [0,1] (bF b a false 0 0)
def aN9:=fun a b c d e f g i j=>lW a b|>.t e c f|>.t g|>.t i d j tv
def aOa:=fun a b c d e f g=>lW a b|>.t d c e|>.t f|>.f g tv
def aOb:=fun a b c d e f g=>lW a b|>.t d c e|>.f f|>.t g tv
def aOc:=fun a b c d e f g=>lW a b|>.t d c e|>.f f|>.f g tv
def aOd:=fun a b c d e f g i j k=>lW a b|>.f e|>.t f c g|>.t i|>.t j d k tv
def aOe:=fun a b c d e f g i=>lW a b|>.f d|>.t e c f|>.t g|>.f i tv
def aOf:=fun a b c d e f g i=>lW a b|>.f d|>.t e c f|>.f g|>.t i tv
def aOg:=fun a b c d e f g i=>lW a b|>.f d|>.t e c f|>.f g|>.f i tv
def aOh:=fun a b c d e f g i j k l m=>lW a b|>.f e|>.f f|>.t g i c j|>.t k|>.t l d m tv
def aOi:=fun a b c d e f g i j k=>lW a b|>.f d|>.f e|>.t f g c i|>.t j|>.f k tv
def aLi:=fun a b c d e f g i j k=>lW a b|>.f d|>.f e|>.t f g c i|>.f j|>.t k tv
def aLj:=fun a b c d e f g i j k=>lW a b|>.f d|>.f e|>.t f g c i|>.f j|>.f k tv
def aLk:=fun a b c d e f g i j k l m=>lW a b|>.f e|>.f f|>.f g|>.t i c j|>.t k|>.t l d m tv
def aLl:=fun a b c d e f g i j k=>lW a b|>.f d|>.f e|>.f f|>.t g c i|>.t j|>.f k tv
def aLm:=fun a b c d e f g i j k=>lW a b|>.f d|>.f e|>.f f|>.t g c i|>.f j|>.t k tv
def aLn:=fun a b c d e f g i j k=>lW a b|>.f d|>.f e|>.f f|>.t g c i|>.f j|>.f k tv
def aLo:=fun b c d e f g i j k l m n a o p q r=>lW b c|>.f g|>.f i|>.f j|>.f k|>.t l m d n|>.t a e o p|>.t q|>.t a f r tv
def aLp:=fun b c d e f g i j k l m a n o p=>lW b c|>.f f|>.f g|>.f i|>.f j|>.t k l d m|>.t a e n o|>.f p|>.t a tv
def aLq:=fun b c d e f g i j k l a m=>lW b c|>.f e|>.f f|>.f g|>.f i|>.t j k d l|>.f a|>.t m|>.f a tv
def aLr:=fun b c d e f g i j k l a m=>lW b c|>.f e|>.f f|>.f g|>.f i|>.t j k d l|>.f a|>.f m|>.f a tv
def aLs:=fun a b c d e f g i j k l=>lW a b|>.f d|>.f e|>.f f|>.f g|>.f i|>.t j|>.t k c l tv
def aLt:=fun a b c d e f g i j=>lW a b|>.f c|>.f d|>.f e|>.f f|>.f g|>.t i|>.f j tv
def aLu:=fun a b c d e f g i j=>lW a b|>.f c|>.f d|>.f e|>.f f|>.f g|>.f i|>.t j tv
def aLv:=fun a b c d e f g i j=>lW a b|>.f c|>.f d|>.f e|>.f f|>.f g|>.f i|>.f j tv
def aQI(j:Prog)(a:Node)(i:Bool)(k b:Int):=tT 0 (bF j a i k b)<|gm 6 aF a.pats<|gd 2 76 (b< (a.pats.length:Int)) (.b 3 78 i (.o (.y fun c:Int=>.y fun d:Int=>.y fun e:bS=>.y fun f:List Pat=>.y fun g:Int=>.y fun l:Bool=>.i [rn 4,.reg (rd 3 (.ans (.idx (Pat.av (Pat.mk c d e f)))::.d::.pure (nI g)::.d::.d::.b 88 true::rd 3 (.ans (.idx (Pat.av (Pat.mk c d e f)))::rd 3 [.pure (bV l),.d,.d])))] [hA (0≤b),.a (((a.pats)[b.toNat]?) =some (Pat.mk c d e f)) (hU aF),hA (aK PP 52 [(.agg [(nI c),(nI d),(cU e),(iP f)]),(nI 12)] (nI g)),hA (decide (g≥0) =true),hA (0≤b),.a (((a.pats)[b.toNat]?) =some (Pat.mk c d e f)) (hU aF),hA (aK PP 80 [(.agg [(nI c),(nI d),(cU e),(iP f)]),(iC j.cons)] (bV l))]<|gw 4 80 (b+1)<|.W 3 2 [0,1] (bF j a l k (b+1)))<|.y fun c:Int=>.y fun d:Int=>.y fun e:bS=>.y fun f:List Pat=>.y fun g:Int=>.i [rn 4,.reg (rd 3 (.ans (.idx (Pat.av (Pat.mk c d e f)))::.d::.pure (nI g)::.d::.d::.b 88 false::rd 10 []))] [hA (0≤b),.a (((a.pats)[b.toNat]?) =some (Pat.mk c d e f)) (hU aF),hA (aK PP 52 [(.agg [(nI c),(nI d),(cU e),(iP f)]),(nI 12)] (nI g)),hA (decide (g≥0) =false)]<|gw 4 80 (b+1)<|.W 3 2 [0,1] (bF j a false k (b+1)))<|.i [rn 3,.reg (.d::.d::.b 99 false::rd 13 [])] [hA (i=false)]<|gE 1 2 (bV false))<|.o (.y fun m:Int=>.i [rn 6,.reg (.d::.d::.b 99 true::.d::.d::.ans (.len (a.kids.length:Int))::rd 4 (.ans (.len (a.pats.length:Int))::.d::.pure (nI m)::rd 3 []))] [hA (i=true),hl aY a.kids,hm aF a.pats,hA (aK PP 81 [(nI a.op),(nI (a.pats.length:Int)),(nI k)] (nI m)),.q (p:=(nI ((jI a.kids).length:Int)) = (nI (a.kids.length:Int))) (congrArg (int .i64) (aQa _ _)),.q (p:=(nI ((jI a.kids).length:Int)) = (nI (a.kids.length:Int))) (congrArg (int .i64) (aQa _ _)),hr (ilst 1 (jI a.kids) false),hr (ilst 1 (jI a.kids) false)]<|gE 1 2 (bV ((a.kids.length:Int) ==m)))<|.i [rn 6,.reg (.d::.d::.b 99 false::rd 13 [])] [hA (i=false)]<|gE 1 2 (bV false)
def aOj:=fun c d e f g i j k l m n o p a b q r s t=>aQI c d e f g|>.t o|>.t p|>.1 i j k l m n a b q r a b s t tv
def aOk:=fun a b c d e f g i j k l m n o p q r=>aQI a b c d e|>.t l|>.t m|>.2 f g i j k n o p q r tv
def aOl:=fun b c d e f g a=>aQI b c d e f|>.t g|>.f a a tv
def aOm:=fun a b c d e f g i j=>aQI a b c d e|>.f g|>.1 f i j tv
def aOn:=fun a b c d e f g=>aQI a b c d e|>.f f|>.2 g tv
def aOo (a:List Con):=(tT 0 (start PP 47 [(iC a)])<|.i [rn 15,.nilL 3 1] []<|gu 0 0 (map cU ([] :List bS))<|gs 0 3 (.gl 0 1 0 ([] :List bS).length false)<|.W 0 1 [0] (zG a 0 ([] :List bS))) ⟨kk,trivial⟩
def aQJ(a:List Con)(c:Int)(d:List bS):=tT 0 (zG a c d)<|gl 5 Con.av a<|gd 2 8 (c< (a.length:Int)) (gX Con.av 9 a c<|fun b=>iE 2 78 [(cU b.name)]<|fun e=>.b 2 18 (!e) (gE 15 1 (bV false))<|gi Con.av 2 a c b<|iE 2 46 [(nI b.args),(nI 0),(nI 3)]<|fun f=>.b 3 26 (!f) (gE 6 1 (bV false))<|gi Con.av 6 a c b<|ga 3 cU d [b.name]<|gw 6 10 (c+1)<|.W 3 3 [2] (zG a (c+1) (d++ [b.name])))<|gl 5 Con.av a<|gd 2 38 ((a.length:Int) ≤20) (gz 1 39 0 1 cU d false<|iE 0 79 [(iS d)]<|fun b=>gE 4 1 (bV b))<|gE 6 1 (bV false)
def aOp:=fun a b c d e f g i j k=>aQJ a b c|>.t f d g i e j|>.t k tv
def aOq:=fun c d e f g i j a b k l m n=>aQJ c d e|>.t j f a b g k|>.f l a b i m|>.t n tv
def aOr:=fun c d e f g i j a b k l m n o p=>aQJ c d e|>.t j f a b g k|>.f l a b i m|>.f n a b o p ⟨kk,trivial⟩
def aOs:=fun a b c d e f g=>aQJ a b c|>.f e|>.t f d g tv
def aOt:=fun a b c d e=>aQJ a b c|>.f d|>.f e tv
def aQK(a:Prog):=tT 0 (start PP 22 [(Prog.av a)])<|gl 9 Node.av a.nodes<|gd 8 15 ((a.nodes.length:Int) >300) (gE 30 1 (bV false))<|gl 2 aY a.funs<|iE 1 46 [(nI (a.funs.length:Int)),(nI 1),(nI (a.nodes.length:Int))]<|fun b=>.b 3 23 (!b) (gE 22 1 (bV false))<|gl 4 aY a.funs<|gw 1 29 ((a.funs.length:Int) -1)<|iE 0 46 [(nI a.main),(nI 0),(nI ((a.funs.length:Int) -1))]<|fun c=>.b 3 33 (!c) (gE 12 1 (bV false))<|iE 2 47 [(iC a.cons)]<|fun d=>.b 3 38 (!d) (gE 6 1 (bV false))<|.i [rn 5,.mk a.nodes.length] [hr (a.nodes.length:Int),hr (a.nodes.length:Int),hA (a.nodes.length<100000)]<|.i [.lset 1 (map kZ (replicate a.nodes.length false))] [.q (p:=replicate a.nodes.length (kZ false) = (map kZ (replicate a.nodes.length false))) (aGb _ _ _)]<|.i [.set 40 (.gl 1 1 0 (replicate a.nodes.length false).length true)] [.q (p:=(AV.gl 1 1 0 a.nodes.length true) = (.gl 1 1 0 (replicate a.nodes.length false).length true)) (cE (aKc ..).symm)]<|.W 9 2 [0,1] (rC a 0 (replicate a.nodes.length false))
def aIf:=fun a b=>aQK a|>.t b tv
def aIg:=fun a b c d e=>aQK a|>.f c b d|>.t e tv
def aIh:=fun a b c d e f g i j=>aQK a|>.f d b e|>.f f g c i|>.t j tv
def aIi:=fun a b c d e f g i j k l m=>aQK a|>.f e b f|>.f g i c j|>.f k d l|>.t m tv
def aIj:=fun a b c d e f g i j k l m n=>aQK a|>.f e b f|>.f g i c j|>.f k d l|>.f m n ⟨kk,trivial⟩
def aUu(c:Prog)(d:Int)(a:List Bool):=tT 0 (rC c d a)<|gl 6 aY c.funs<|gd 2 45 (d< (c.funs.length:Int)) (gX aY 10 c.funs d<|fun b=>gw 3 54 ((c.nodes.length:Int) -1)<|iE 0 46 [(nI b),(nI 0),(nI ((c.nodes.length:Int) -1))]<|fun f=>.b 2 57 (!f) (gE 16 2 (bV false))<|gi aY 4 c.funs d b<|.i [rn 1,.ans (.ix)] [hA (0≤b),hA (b< (a.length:Int))]<|.y fun e:Bool=>gj kZ 0 a b.toNat e<|.b 2 66 e (gE 6 2 (bV false))<|gi aY 7 c.funs d b<|.i [rn 1,.ans (.ix)] [hA (0≤b),hA (b< (a.length:Int))]<|.i [.st (kZ e) (kZ true)] [.a (((a)[b.toNat]?) =some e) (eZ (f:=kZ)),hr (some (kZ true))]<|.i [.lset 1 (map kZ (set a b.toNat true))] [.q (p:=(map kZ a).set (0+b.toNat) (kZ true) = (map kZ (set a b.toNat true))) (lB _ _ _ _)]<|.i [.set 4 (.gl 1 1 0 (set a b.toNat true).length true)] [.q (p:=(AV.gl 1 1 0 a.length true) = (.gl 1 1 0 (set a b.toNat true).length true)) (cE (jP ..).symm)]<|.i [.set 58 (.gl 1 1 0 (set a b.toNat true).length true)] [.q (p:=(AV.gl 1 1 0 a.length true) = (.gl 1 1 0 (set a b.toNat true).length true)) (cE (jP ..).symm)]<|.i [.set 67 (.gl 1 1 0 (set a b.toNat true).length true)] [.q (p:=(AV.gl 1 1 0 a.length true) = (.gl 1 1 0 (set a b.toNat true).length true)) (cE (jP ..).symm)]<|gw 5 47 (d+1)<|.W 3 2 [0,1] (rC c (d+1) (set a b.toNat true)))<|.W 9 2 [0,1] (mU c a 0)
def aIk:=fun a b c d e f g i j k l=>aUu a b c|>.t f d g i j e k|>.t l tv
def aIl:=fun c d e f g i j a b k l m n o p q=>aUu c d e|>.t j f a b k g l|>.f m a b n o i p|>.t q tv
def aIm:=fun f g i j k l m a b n o p c d e q r=>aUu f g i|>.t m j a b n k o|>.f p a b c d l e|>.f q a b c d e r ⟨kk,trivial⟩
def aIn:=fun a b c d=>aUu a b c|>.f d ⟨kk,trivial⟩
def aWr(a:Prog)(c:List Bool)(b:Int):=tT 0 (mU a c b)<|gd 7 76 (b< (a.nodes.length:Int)) (.y fun d:Node=>.y fun e:Bool=>.i [rn 6,.reg (rd 4 [.ans (.idx (Node.av d)),.d,.pure (bV e),.d])] [hA (0≤b),.a (((a.nodes)[b.toNat]?) =some d) (bW (f:=Node.av)),hA (aK PP 48 [(Prog.av a),(Node.av d)] (bV e))]<|.b 0 86 (!e) (gE 6 2 (bV false))<|.W 8 2 [0,1] (rD a c 0 b))<|.W 9 2 [1] (rE a c 0)
def aIo:=fun a b c d e f g i j k=>aWr a b c|>.t f d e g i j|>.t k tv
def aIp:=fun a b c d e f g i j k=>aWr a b c|>.t f d e g i j|>.f k ⟨kk,trivial⟩
def aIq:=fun a b c d=>aWr a b c|>.f d ⟨kk,trivial⟩
def aUv(d:Prog)(a:List Bool)(e c:Int):=tT 0 (rD d a e c)<|gX Node.av 7 d.nodes c<|fun f=>gl 2 aY f.kids<|gd 2 95 (e< (f.kids.length:Int)) (gi Node.av 9 d.nodes c f<|gX aY 3 f.kids e<|fun b=>gw 9 109 (c+1)<|gw 2 111 ((d.nodes.length:Int) -1)<|iE 0 46 [(nI b),(nI (c+1)),(nI ((d.nodes.length:Int) -1))]<|fun i=>.b 2 114 (!i) (gE 12 2 (bV false))<|.i [rn 2,.ans (.ix)] [hA (0≤b),hA (b< (a.length:Int))]<|.y fun g:Bool=>gj kZ 0 a b.toNat g<|.b 2 119 g (gE 6 2 (bV false))<|.i [rn 5,.ans (.ix)] [hA (0≤b),hA (b< (a.length:Int))]<|.i [.st (kZ g) (kZ true)] [.a (((a)[b.toNat]?) =some g) (eZ (f:=kZ)),hr (some (kZ true))]<|.i [.lset 1 (map kZ (set a b.toNat true))] [.q (p:=(map kZ a).set (0+b.toNat) (kZ true) = (map kZ (set a b.toNat true))) (lB _ _ _ _)]<|.i [.set 4 (.gl 1 1 0 (set a b.toNat true).length true)] [.q (p:=(AV.gl 1 1 0 a.length true) = (.gl 1 1 0 (set a b.toNat true).length true)) (cE (jP ..).symm)]<|.i [.set 115 (.gl 1 1 0 (set a b.toNat true).length true)] [.q (p:=(AV.gl 1 1 0 a.length true) = (.gl 1 1 0 (set a b.toNat true).length true)) (cE (jP ..).symm)]<|.i [.set 120 (.gl 1 1 0 (set a b.toNat true).length true)] [.q (p:=(AV.gl 1 1 0 a.length true) = (.gl 1 1 0 (set a b.toNat true).length true)) (cE (jP ..).symm)]<|gw 5 97 (e+1)<|.W 3 2 [0,1] (rD d (set a b.toNat true) (e+1) c))<|gw 6 78 (c+1)<|.W 3 2 [0,1] (mU d a (c+1))
def aIr:=fun c d e f g i j a b k l m n o p q=>aUv c d e f g a b|>.t k a b i l m n o j p|>.t q tv
def aIs:=fun c d e f g i j k a b l m n o p q r s t u v=>aUv c d e f g a b|>.t l a b i m n o p j q|>.f r s t k u|>.t v tv
def aIt:=fun f g i j k l m n a b o p q r s t u c d e v w=>aUv f g i j k a b|>.t o a b l p q r s m t|>.f u c d n e|>.f v c d e w ⟨kk,trivial⟩
def aIu:=fun a b c d e f g i j=>aUv a b c d e f g|>.f i j ⟨kk,trivial⟩
def aWs(c:Prog)(b:List Bool)(a:Int):=tT 0 (rE c b a)<|gd 7 125 (a< (c.nodes.length:Int)) (.i [rn 8,.ans (.ix)] [hA (0≤a),hA (a< (b.length:Int))]<|.y fun d:Bool=>gj kZ 0 b a.toNat d<|.b 2 132 (!d) (gE 6 1 (bV false))<|gw 6 127 (a+1)<|.W 3 1 [0] (rE c b (a+1)))<|gE 7 1 (bV true)
def aIv:=fun a b c d e f g i j=>aWs a b c|>.t e f g d i|>.t j tv
def aIw:=fun a b c d e f g i j k=>aWs a b c|>.t e f g d i|>.f j k ⟨kk,trivial⟩
def aIx:=fun a b c d=>aWs a b c|>.f d tv
def fN (c:Con) :Bool:=fX c.name&&cZ c.args 0 3
def aT (l:List Con) :List bS:=l.map Con.name
def aC7 (l:List Con) :Bool:=l.all fN&&decide (l.length≤20) &&lV (aT l)
def dL (p:Prog)(op n:Int) :Bool:=
 if op=1 then cZ n (-1000000000) 1000000000
 else if op=2 then cZ n 0 1
 else if op=4 then cZ n (0- (p.funs.length:Int)) 29
 else if op=24 then cZ n 0 3
 else if op=14 then cZ n 0 ((p.cons.length:Int) -1)
 else decide (n=0)
def fZ (p:Prog)(x:Node) :Bool:=
 dL p x.op x.n&& (if x.op=15 then cZ (x.pats.length:Int) 1 5 else decide (x.pats.length=0))
def fA (p:Prog)(x:Node) :Int:=if x.op=14∧cZ x.n 0 ((p.cons.length:Int) -1) =true then eN p.cons x.n else 0
def gU (cons:List Con)(q:Pat) :Bool:=decide (bU q≤12) &&dP cons q
def aW (p:Prog)(x:Node) :Bool:=
 fZ p x&&x.pats.all (gU p.cons) &&decide ((x.kids.length:Int) =bY x.op x.pats.length (fA p x))
theorem eI {a:Type}(l:List a) : ((l.length:Int) ==0) =decide (l= []) :=by cases l<;>simp;omega
theorem mC {p:Prop}(h:p:=by simp_all [fZ,dL,fA,eN,eI]) :p:=h
theorem aUw (p:Prog)(x:Node)(hc:p.cons.length≤1000)(G:p.funs.length≤1000)(b:Bool)(hk:∀ (i:Bool) (a:Int),i=fZ p x→a=fA p x→Ends PP 0 (bF p x i a 0).as (.ret (.bool b)) (aA [] 0)) :
  Ends PP 0 (start PP 48 [Prog.av p,Node.av x]).as (.ret (.bool b)) (aA [] 0) :=by
 cases c: (x.op== (1:Int))
 case true=>
  cases m: (x.op== (15:Int))
  case true=>
   cases C: (cZ (x.n) (-1000000000) 1000000000)
   case true=>exact LeadsM.ends (aN9 p x  (cZ (x.n) (-1000000000) 1000000000) (cZ ((length x.pats:Nat) :Int) 1 5) c (aQ (x.n) (-1000000000) 1000000000) m C (aQ ((length x.pats:Nat) :Int) 1 5)) (hk _ _ (by clear hk;exact mC) (by clear hk;exact mC))
   exact LeadsM.ends (aOa p x  (cZ (x.n) (-1000000000) 1000000000) c (aQ (x.n) (-1000000000) 1000000000) m C) (hk _ _ (by clear hk;exact mC) (by clear hk;exact mC))
  cases B: (cZ (x.n) (-1000000000) 1000000000)
  case true=>exact LeadsM.ends (aOb p x  (cZ (x.n) (-1000000000) 1000000000) c (aQ (x.n) (-1000000000) 1000000000) m B) (hk _ _ (by clear hk;exact mC) (by clear hk;exact mC))
  exact LeadsM.ends (aOc p x  (cZ (x.n) (-1000000000) 1000000000) c (aQ (x.n) (-1000000000) 1000000000) m B) (hk _ _ (by clear hk;exact mC) (by clear hk;exact mC))
 cases d: (x.op== (2:Int))
 case true=>
  cases n: (x.op== (15:Int))
  case true=>
   cases D: (cZ (x.n) 0 1)
   case true=>exact LeadsM.ends (aOd p x  (cZ (x.n) 0 1) (cZ ((length x.pats:Nat) :Int) 1 5) c d (aQ (x.n) 0 1) n D (aQ ((length x.pats:Nat) :Int) 1 5)) (hk _ _ (by clear hk;exact mC) (by clear hk;exact mC))
   exact LeadsM.ends (aOe p x  (cZ (x.n) 0 1) c d (aQ (x.n) 0 1) n D) (hk _ _ (by clear hk;exact mC) (by clear hk;exact mC))
  cases A: (cZ (x.n) 0 1)
  case true=>exact LeadsM.ends (aOf p x  (cZ (x.n) 0 1) c d (aQ (x.n) 0 1) n A) (hk _ _ (by clear hk;exact mC) (by clear hk;exact mC))
  exact LeadsM.ends (aOg p x  (cZ (x.n) 0 1) c d (aQ (x.n) 0 1) n A) (hk _ _ (by clear hk;exact mC) (by clear hk;exact mC))
 cases f: (x.op== (4:Int))
 case true=>
  cases k: (x.op== (15:Int))
  case true=>
   cases w: (cZ (x.n) (0- ((length p.funs:Nat) :Int)) 29)
   case true=>exact LeadsM.ends (aOh p x  (cZ (x.n) (0- ((length p.funs:Nat) :Int)) 29) (cZ ((length x.pats:Nat) :Int) 1 5) c d f sdI (aQ (x.n) (0- ((length p.funs:Nat) :Int)) 29) k w (aQ ((length x.pats:Nat) :Int) 1 5)) (hk _ _ (by clear hk;exact mC) (by clear hk;exact mC))
   exact LeadsM.ends (aOi p x  (cZ (x.n) (0- ((length p.funs:Nat) :Int)) 29) c d f sdI (aQ (x.n) (0- ((length p.funs:Nat) :Int)) 29) k w) (hk _ _ (by clear hk;exact mC) (by clear hk;exact mC))
  cases s: (cZ (x.n) (0- ((length p.funs:Nat) :Int)) 29)
  case true=>exact LeadsM.ends (aLi p x  (cZ (x.n) (0- ((length p.funs:Nat) :Int)) 29) c d f sdI (aQ (x.n) (0- ((length p.funs:Nat) :Int)) 29) k s) (hk _ _ (by clear hk;exact mC) (by clear hk;exact mC))
  exact LeadsM.ends (aLj p x  (cZ (x.n) (0- ((length p.funs:Nat) :Int)) 29) c d f sdI (aQ (x.n) (0- ((length p.funs:Nat) :Int)) 29) k s) (hk _ _ (by clear hk;exact mC) (by clear hk;exact mC))
 cases e: (x.op== (24:Int))
 case true=>
  cases h: (x.op== (15:Int))
  case true=>
   cases u: (cZ (x.n) 0 3)
   case true=>exact LeadsM.ends (aLk p x  (cZ (x.n) 0 3) (cZ ((length x.pats:Nat) :Int) 1 5) c d f e (aQ (x.n) 0 3) h u (aQ ((length x.pats:Nat) :Int) 1 5)) (hk _ _ (by clear hk;exact mC) (by clear hk;exact mC))
   exact LeadsM.ends (aLl p x  (cZ (x.n) 0 3) c d f e (aQ (x.n) 0 3) h u) (hk _ _ (by clear hk;exact mC) (by clear hk;exact mC))
  cases r: (cZ (x.n) 0 3)
  case true=>exact LeadsM.ends (aLm p x  (cZ (x.n) 0 3) c d f e (aQ (x.n) 0 3) h r) (hk _ _ (by clear hk;exact mC) (by clear hk;exact mC))
  exact LeadsM.ends (aLn p x  (cZ (x.n) 0 3) c d f e (aQ (x.n) 0 3) h r) (hk _ _ (by clear hk;exact mC) (by clear hk;exact mC))
 cases g: (x.op== (14:Int))
 case true=>
  cases l: (cZ (x.n) 0 (((length p.cons:Nat) :Int) - (1:Int)))
  case true=>
   obtain⟨F,z⟩ :∃y,((p.cons)[x.n.toNat]?) =some y:=idT;cases q: (x.op== (15:Int))
   case true=>exact LeadsM.ends (aLo p x  (cZ (x.n) 0 (((length p.cons:Nat) :Int) - (1:Int))) F (cZ ((length x.pats:Nat) :Int) 1 5) c d f e g sdI (aQ (x.n) 0 (((length p.cons:Nat) :Int) - (1:Int))) l sdI z q (aQ ((length x.pats:Nat) :Int) 1 5)) (hk _ _ (by clear hk;exact mC) (by clear hk;exact mC))
   exact LeadsM.ends (aLp p x  (cZ (x.n) 0 (((length p.cons:Nat) :Int) - (1:Int))) F c d f e g sdI (aQ (x.n) 0 (((length p.cons:Nat) :Int) - (1:Int))) l sdI z q) (hk _ _ (by clear hk;exact mC) (by clear hk;exact mC))
  cases t: (x.op== (15:Int))
  case true=>exact LeadsM.ends (aLq p x  (cZ (x.n) 0 (((length p.cons:Nat) :Int) - (1:Int))) c d f e g sdI (aQ (x.n) 0 (((length p.cons:Nat) :Int) - (1:Int))) l t) (hk _ _ (by clear hk;exact mC) (by clear hk;exact mC))
  exact LeadsM.ends (aLr p x  (cZ (x.n) 0 (((length p.cons:Nat) :Int) - (1:Int))) c d f e g sdI (aQ (x.n) 0 (((length p.cons:Nat) :Int) - (1:Int))) l t) (hk _ _ (by clear hk;exact mC) (by clear hk;exact mC))
 cases j: (x.op== (15:Int))
 case true=>
  cases o: (x.n== (0:Int))
  case true=>exact LeadsM.ends (aLs p x  (cZ ((length x.pats:Nat) :Int) 1 5) c d f e g j o (aQ ((length x.pats:Nat) :Int) 1 5)) (hk _ _ (by clear hk;exact mC) (by clear hk;exact mC))
  exact LeadsM.ends (aLt p x   c d f e g j o) (hk _ _ (by clear hk;exact mC) (by clear hk;exact mC))
 cases v: (x.n== (0:Int))
 case true=>exact LeadsM.ends (aLu p x   c d f e g j v) (hk _ _ (by clear hk;exact mC) (by clear hk;exact mC))
 exact LeadsM.ends (aLv p x   c d f e g j v) (hk _ _ (by clear hk;exact mC) (by clear hk;exact mC))
theorem wZ (p:Prog)(x:Node)(hc:p.cons.length≤1000)(hl:x.pats.length≤10)(a:Int) :
  ∀ (t:List Pat) (i:Nat) (b:Bool),x.pats.drop i=t→Ends PP 0 (bF p x b a (i:Int)).as (.ret (.bool (b&&t.all (gU p.cons) &&decide ((x.kids.length:Int) =bY x.op x.pats.length a)))) (aA [] 0)
 | [],i,b,h=>by
  have:=bJ h;cases b
  case false=>exact Ends.eqv (aOn p x false a i sd rfl) (by simp)
  refine Ends.eqv (aOm p x true a i _ sd rfl (aLh x.op x.pats.length a (by omega) (by omega))) ?_;simp only [all_nil,lE,AV.bool.injEq];rfl
 | .mk e f d c::t,i,b,h=>by
  obtain⟨o,m,n⟩ :=bH h;cases b
  case false=>exact Ends.eqv (aOl p x false a i sd rfl) (by simp)
  have l:=tV (.mk e f d c) 12 (by omega) (by omega);by_cases k:bU (.mk e f d c) ≤12
  · have j:0≤jQ (.mk e f d c) 12:= (vB (.mk e f d c) 12).2 (by omega);refine(aOj p x true a i e f d c _ _ sd rfl sd sd l (decide_eq_true j) (aER p.cons hc (.mk e f d c) (by omega)) sd).ends ?_;exact Ends.eqv (wZ p x hc hl a t (i+1) _ m) (by simp [gU,k])
  · have j:¬jQ (.mk e f d c) 12≥0:=fun g=>k (by have:= (vB (.mk e f d c) 12).1 g;omega);refine(aOk p x true a i e f d c _ sd rfl sd sd l (decide_eq_false j) sd).ends ?_;exact Ends.eqv (wZ p x hc hl a t (i+1) _ m) (by simp [gU,k])
theorem aLw (p:Prog)(x:Node)(hc:p.cons.length≤1000)(c:p.funs.length≤1000)(hl:x.pats.length≤10) :aK PP 48 [Prog.av p,Node.av x] (.bool (aW p x)) :=by
 refine aH kR0 rfl rfl (aUw p x hc c _ fun i a d b=>?_);subst d b;exact wZ p x hc hl _ x.pats 0 _ rfl
theorem aC8 (l:List Con)(hl:l.length≤1000) :∀ (t:List Con) (i:Nat),l.drop i=t→Ends PP 0 (zG l (i:Int) (aT (l.take i))).as (.ret (.bool (t.all fN&&decide (l.length≤20) &&lV (aT l)))) (aA [] 0)
 | [],i,h=>by
  have a:=bJ h;have e:aT (l.take i) =aT l:=by rw [aBg a]
  rw [e];by_cases k:l.length≤20
  ·exact Ends.eqv (aOs l i _ _ sd sd (aGe (aT l) (by simp [aT];omega))) (by simp [k])
  ·exact Ends.eqv (aOt l i _ sd sd) (by simp [k])
 | c::t,i,h=>by
  obtain⟨g,j,m⟩ :=bH h;have b:=aH6 c.name;cases d:fX c.name
  case false=>
   rw [d]at b;exact Ends.eqv (aOp l i _ c false sd sd sd b rfl) (by simp [fN,d])
  rw [d]at b;have a:=aQ c.args 0 3;cases f:cZ c.args 0 3
  case false=>
   rw [f]at a;exact Ends.eqv (aOq l i _ c true false sd sd sd b rfl a rfl) (by simp [fN,d,f])
  rw [f]at a;have e:aT (l.take i) ++ [c.name] =aT (l.take (i+1)) :=by
   rw [List.take_add_one,g];simp [aT]
  refine(aOr l i (aT (l.take i)) c true true sd sd sd b rfl a rfl (by simp [aT];omega) sd).ends ?_;rw [e];exact Ends.eqv (aC8 l hl t (i+1) j) (by simp [fN,d,f])
theorem aLx (l:List Con)(hl:l.length≤1000) :aK PP 47 [.ilst 2 (map Con.av l) false] (.bool (aC7 l)) :=
 aH kR0 rfl rfl ((aOo l).ends (aC8 l hl l 0 rfl))
def marks (lo n:Int) :List Int→List Bool→Option (List Bool)
 | [],u=>some u
 |k::ks,u=>if cZ k lo (n-1) =true∧u[k.toNat]?=some false then marks lo n ks (u.set k.toNat true)else none
theorem kA {lo n:Int}:∀ {a:List Int} {u v:List Bool},marks lo n a u=some v→v.length=u.length
 | [],u,v,h=>by simp only [marks,Option.some.injEq]at h;rw [h]
 | k::a,u,v,h=>by
  simp only [marks]at h;split at h
  ·have:=kA h;simpa using this
  ·cases h
def bN (p:Prog) :Nat→List Node→List Bool→Option (List Bool)
 |_,[],u=>some u
 | i,x::t,u=>if aW p x=true then match marks ((i:Int) +1) (p.nodes.length:Int) x.kids u with
   |some v=>bN p (i+1) t v
   |none=>none
  else none
def allT :Option (List Bool) →Bool
 |some u=>u.all fun b=>b
 |none=>false
def dI (p:Prog) :Bool:=decide (p.nodes.length≤300) &&cZ (p.funs.length:Int) 1 (p.nodes.length:Int) &&cZ p.main 0 ((p.funs.length:Int) -1)
def aM (p:Prog) :Bool:=
 dI p&&aC7 p.cons&& (match marks 0 (p.nodes.length:Int) p.funs (replicate p.nodes.length false)with
  |some u=>allT (bN p 0 p.nodes u)
  |none=>false)
theorem rF3 (p:Prog)(u:List Bool)(d:p.nodes.length≤1000)(a:u.length=p.nodes.length) :∀ (t:List Bool) (i:Nat),u.drop i=t→Ends PP 0 (rE p u (i:Int)).as (.ret (.bool (t.all fun b=>b))) (aA [] 0)
 | [],i,h=>by
  have:=bJ h;exact aIx p u i sd
 | b::t,i,h=>by
  obtain⟨f,c,e⟩ :=bH h;cases b
  case false=>exact Ends.eqv (aIv p u i false sd sd sd sd rfl) (by simp)
  refine(aIw p u i true sd sd sd sd rfl sd).ends ?_;exact Ends.eqv (rF3 p u d a t (i+1) c) (by simp)
theorem aXz (p:Prog)(x:Node)(i:Nat)(d:p.nodes[i]?=some x)(e:p.nodes.length≤1000)(hk:x.kids.length≤1000)(K:List Bool→Bool)
  (hb:∀v:List Bool,v.length=p.nodes.length→Ends PP 0 (mU p v ((i:Int) +1)).as (.ret (.bool (K v))) (aA [] 0)) :
  ∀ (t:List Int) (k:Nat) (u:List Bool),u.length=p.nodes.length→x.kids.drop k=t→Ends PP 0 (rD p u (k:Int) (i:Int)).as (.ret (.bool (match marks ((i:Int) +1) p.nodes.length t u with|some v=>K v|none=>false))) (aA [] 0)
 | [],k,u,c,h=>by
  have:=bJ h;have f:= (zq0.1 d).1;refine(aIu p u k i x sd sd sd sd).ends ?_;exact hb u c
 | y::t,k,u,c,h=>by
  obtain⟨l,g,j⟩ :=bH h;have f:= (zq0.1 d).1;have a:=aQ y ((i:Int) +1) ((p.nodes.length:Int) -1);cases b:cZ y ((i:Int) +1) ((p.nodes.length:Int) -1)
  case false=>
   rw [b]at a;exact Ends.eqv (aIr p u k i x y false sd sd sd sd sd sd sd a rfl) (by simp [marks,b])
  rw [b]at a;have m:=inB_iff.1 b;obtain⟨z,hz⟩ :∃z,u[y.toNat]?=some z:= ⟨_,lZ (by omega)⟩;cases z
  case true=>exact Ends.eqv (aIs p u k i x y true true sd sd sd sd sd sd sd a rfl (by omega) (by omega) hz rfl) (by simp [marks,hz])
  refine(aIt p u k i x y true false sd sd sd sd sd sd sd a rfl (by omega) (by omega) hz rfl sd).ends ?_;exact Ends.eqv (aXz p x i d e hk K hb t (k+1) (u.set y.toNat true) (by simpa using c) g) (by simp [marks,b,hz])
theorem rF1 (p:Prog)(d:aE p=true)(c:p.nodes.length≤1000)(hc:p.cons.length≤1000)(g:p.funs.length≤1000) :∀ (t:List Node) (i:Nat) (u:List Bool),u.length=p.nodes.length→p.nodes.drop i=t →
  Ends PP 0 (mU p u (i:Int)).as (.ret (.bool (allT (bN p i t u)))) (aA [] 0)
 | [],i,u,b,h=>by
  have:=bJ h;refine(aIq p u i sd).ends ?_;exact rF3 p u c b u 0 rfl
 | x::t,i,u,b,h=>by
  obtain⟨e,l,m⟩ :=bH h;have f:bA x=true:=by
   simp only [aE,dC]at d;exact zq27.1 d.2 x (oG e)
  simp only [bA,dC,decide_eq_true_eq]at f;have a:=aLw p x hc g f.1.2;cases k:aW p x
  case false=>
   rw [k]at a;exact Ends.eqv (aIo p u i x false sd sd sd a rfl) (by simp [bN,k,allT])
  rw [k]at a;refine(aIp p u i x true sd sd sd a rfl).ends ?_;refine Ends.eqv (aXz p x i e c (by omega) (fun v=>allT (bN p (i+1) t v)) (fun v j=>rF1 p d c hc g t (i+1) v j l) x.kids 0 u b rfl) ?_;simp only [bN,k,if_true];cases marks ((i:Int) +1) (p.nodes.length:Int) x.kids u<;>rfl
theorem rF0 (p:Prog)(f:aE p=true)(e:p.nodes.length≤1000)(hc:p.cons.length≤1000)(d:p.funs.length≤1000) :∀ (t:List Int) (i:Nat) (u:List Bool),u.length=p.nodes.length→p.funs.drop i=t →
  Ends PP 0 (rC p (i:Int) u).as (.ret (.bool (match marks 0 p.nodes.length t u with|some v=>allT (bN p 0 p.nodes v) |none=>false))) (aA [] 0)
 | [],i,u,c,h=>by
  have:=bJ h;refine(aIn p i u sd).ends ?_;exact rF1 p f e hc d p.nodes 0 u c rfl
 | y::t,i,u,c,h=>by
  obtain⟨k,g,j⟩ :=bH h;have a:=aQ y 0 ((p.nodes.length:Int) -1);cases b:cZ y 0 ((p.nodes.length:Int) -1)
  case false=>
   rw [b]at a;exact Ends.eqv (aIk p i u y false sd sd sd sd a rfl) (by simp [marks,b])
  rw [b]at a;have l:=inB_iff.1 b;obtain⟨z,hz⟩ :∃z,u[y.toNat]?=some z:= ⟨_,lZ (by omega)⟩;cases z
  case true=>exact Ends.eqv (aIl p i u y true true sd sd sd sd a rfl (by omega) (by omega) hz rfl) (by simp [marks,hz])
  refine(aIm p i u y true false sd sd sd sd a rfl (by omega) (by omega) hz rfl sd).ends ?_;exact Ends.eqv (rF0 p f e hc d t (i+1) (u.set y.toNat true) (by simpa using c) g) (by simp [marks,b,hz])
theorem aGm (p:Prog)(j:aE p=true) :aK PP 22 [Prog.av p] (.bool (aM p)) :=by
 refine aH kR0 rfl rfl ?_;have i:=j;simp only [aE,dC,decide_eq_true_eq]at i;obtain⟨⟨⟨⟨k,l⟩,m⟩,_⟩,_⟩ :=i;by_cases h:p.nodes.length≤300
 · have a:=aQ (p.funs.length:Int) 1 (p.nodes.length:Int);cases g:cZ (p.funs.length:Int) 1 (p.nodes.length:Int)
   case false=>
    rw [g]at a;exact Ends.eqv (aIg p false sd a rfl) (by simp [aM,dI,g])
   rw [g]at a;have b:=aQ p.main 0 ((p.funs.length:Int) -1);cases d:cZ p.main 0 ((p.funs.length:Int) -1)
   case false=>
    rw [d]at b;exact Ends.eqv (aIh p true false sd a rfl sd b rfl) (by simp [aM,dI,d])
   rw [d]at b;have c:=aLx p.cons (by omega);cases f:aC7 p.cons
   case false=>
    rw [f]at c;exact Ends.eqv (aIi p true true false sd a rfl sd b rfl c rfl) (by simp [aM,f])
   rw [f]at c;refine(aIj p true true true sd a rfl sd b rfl c rfl (by omega)).ends ?_;refine Ends.eqv (rF0 p j (by omega) (by omega) (by omega) p.funs 0 _ (by simp) rfl) ?_;have e:dI p=true:=by simp [dI,h,g,d]
   simp only [aM,e,f,lE]
 ·exact Ends.eqv (aIf p sd) (by simp [aM,dI,h])
def checkN (b:Bool) :Int:=if b=true then 0 else 2
end
end Go.Hb
