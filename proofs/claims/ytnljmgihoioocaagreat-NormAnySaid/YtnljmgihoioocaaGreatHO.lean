/- A machine on abstract values, its soundness, ways, plain laws. -/
import Derived.Test.YtnljmgihoioocaaGreatHF
import Derived.Test.YtnljmgihoioocaaGreatHG
import Derived.Test.YtnljmgihoioocaaGreatHH
import Derived.Test.YtnljmgihoioocaaGreatHJ
import Derived.Test.YtnljmgihoioocaaGreatHK
import Derived.Test.YtnljmgihoioocaaGreatHL
import Derived.Test.YtnljmgihoioocaaGreatHM
import Derived.Test.YtnljmgihoioocaaGreatHN
set_option linter.defProp false
set_option linter.unusedVariables false
set_option linter.unusedSimpArgs false
set_option linter.unusedSectionVars false
set_option maxRecDepth 100000
set_option maxHeartbeats 2000000
namespace Go.Hb
open AV (ilst int keylessL)
open Int (add_zero natCast_zero toNat)
open List (count_append getElem?_set range range' replicate)
open Go.Proofs Tryz
noncomputable section
theorem aGV {p:Prog}{Z:List Int}(c:Sprop p Z){i:Nat}{x:Node}(n:p.nodes[i]?=some x) :∀ (t:List Int) (j:Nat) (l:List Int) (P:Nat→Prop),x.kids.drop j=t→l.length=p.nodes.length→P i→ (∀m,P m→l[m]?=Z[m]?) →∀m,(P m∨∃k∈t,k.toNat=m) → (jM x i j t l)[m]?=Z[m]?
 | [],j,l,P,h,hl,d,a,m,hm=>by
  rcases hm with hm| ⟨k,hk,_⟩
  ·exact a m hm
  ·cases hk
 | k ::t,j,l,P,h,hl,d,a,m,hm=>by
  obtain⟨q,u,_⟩ :=bI h;obtain⟨s,v,f⟩ :=c.kid i x j k n q;have r:l.getD i 0=s:=by rw [nW,a i d,v];rfl
  have b:k.toNat<l.length:=by have:= (zq0.1 f).1;rw [hl,←c.len];exact this
  rw [jM,r];refine aGV c n t (j+1) (l.set k.toNat (s+dI x j)) (fun m=>P m∨k.toNat=m) u (by simpa using hl) (.inl d) (fun m hm=>?_) m ?_
  · rw [getElem?_set];by_cases g:k.toNat=m
    ·rw [if_pos g,if_pos b,←g,f]
    · rw [if_neg g];rcases hm with hm|hm
      ·exact a m hm
      ·exact absurd hm g
  · rcases hm with hm| ⟨o,hk,e⟩
    ·exact .inl (.inl hm)
    · rcases zq7.1 hk with rfl|hk
      ·exact .inl (.inr e)
      ·exact .inr ⟨o,hk,e⟩
theorem aDY {p:Prog}{Z:List Int}(r:Sprop p Z)(hc:zU p) :∀ (t:List Node) (i:Nat) (l:List Int),p.nodes.drop i=t→l.length=p.nodes.length →
  (∀m,((∃f∈p.funs,f.toNat=m) ∨∃ (a:Nat) (x:Node) (k:Int),p.nodes[a]?=some x∧k∈x.kids∧k.toNat=m∧a<i) →l[m]?=Z[m]?) →∀m,m<p.nodes.length→ (iG i t l)[m]?=Z[m]?
 | [],i,l,h,hl,j,m,hm=>by
  have:=bL h;rcases hc m hm with b| ⟨a,x,k,b,d,c,n⟩
  ·exact j m (.inl b)
  ·exact j m (.inr ⟨a,x,k,b,d,c,by omega⟩)
 | x :: t,i,l,h,hl,j,m,hm=>by
  obtain⟨o,s,w⟩ :=bI h;rw [iG];have v:i<p.nodes.length:= (zq0.1 o).1;refine aDY r hc t (i+1) _ s (by rw [qI,hl]) (fun u q=>?_) m hm;refine aGV r o x.kids 0 l (fun m=> (∃f∈p.funs,f.toNat=m) ∨∃ (a:Nat) (x:Node) (k:Int),p.nodes[a]?=some x∧k∈x.kids∧k.toNat=m∧a<i) rfl hl ?_ j u ?_
  · rcases hc i v with b| ⟨a,y,k,b,d,c,n⟩
    ·exact .inl b
    ·exact .inr ⟨a,y,k,b,d,c,n⟩
  · rcases q with b| ⟨a,y,k,b,d,c,n⟩
    ·exact .inl (.inl b)
    · by_cases g:a<i
      ·exact .inl (.inr ⟨a,y,k,b,d,c,g⟩)
      · have e:a=i:=by omega
        subst e;rw [o]at b;cases b;exact .inr ⟨k,d,c⟩
theorem aGW :∀ (t:List Int) (l:List Int),(∀f∈t,f.toNat<l.length) →∀m,((∃f∈t,f.toNat=m) ∨l[m]?=some 1) → (nD t l)[m]?=some 1
 | [],l,_,m,hm=>by
  rcases hm with⟨f,b,_⟩ |hm
  ·cases b
  ·exact hm
 | a ::t,l,hb,m,hm=>by
  rw [nD];have c:=hb a (cN ..);refine aGW t _ (fun f b=>by rw [fK];exact hb f (cJ _ b)) m ?_;by_cases g:a.toNat=m
  ·exact .inr (by rw [getElem?_set,if_pos g,if_pos c])
  · rcases hm with⟨f,b,e⟩ |hm
    · rcases zq7.1 b with rfl|b
      ·exact absurd e g
      ·exact .inl ⟨f,b,e⟩
    ·exact .inr (by rw [getElem?_set,if_neg g];exact hm)
theorem aUQ {p:Prog}(hp:FineP p){Z:List Int}(b:Sprop p Z)(hc:zU p) :kC p=Z:=by
 have hl: (nD p.funs (replicate p.nodes.length 0)).length=p.nodes.length:=by rw [vH];simp
 apply List.ext_getElem?;intro m;by_cases hm:m<p.nodes.length
 · refine aDY b hc p.nodes 0 _ rfl hl (fun d c=>?_) m hm;rcases c with⟨f,a,e⟩ | ⟨g,_,_,_,_,_,h⟩
   · have:=hp.funs f a;rw [aGW p.funs _ (fun f a=>by have:=hp.funs f a;simp;omega) d (.inl ⟨f,a,e⟩),←e,b.root f a]
   ·omega
 ·rw [aEP (by rw [aA6];omega),aEP (by rw [b.len];omega)]
section
variable (p q:Prog) (mn:Int) (zn:List Node) (zu:List Int)
end
theorem hasS_mem {l:List cC}{s:cC}:uS l s=true↔s∈l:=by
 simp [uS]
theorem aCz :∀ (l pre:List cC),dM pre l=true→l.Nodup∧∀x∈l,x∉pre
 | [],pre,_=> ⟨List.nodup_nil,fun x b=>by cases b⟩
 | x::t,pre,h=>by
  simp only [dM,cM,Bool.not_eq_true']at h;obtain⟨d,c⟩ :=aCz t (pre++ [x]) h.2
  have b:x∉pre:=fun hm=>by
   have:=hasS_mem.2 hm;rw [h.1]at this;cases this
  refine⟨List.nodup_cons.2 ⟨fun hm=>c x hm (by simp),d⟩,fun y a=>?_⟩;rcases zq7.1 a with rfl|a
  ·exact b
  ·exact fun hm=>c y a (aEO _ hm)
structure Fm (p:Prog) :Prop where
 fine:FineP p
 cons:p.cons.length≤25
 dup: ((p.funs.map (pre p p.nodes.length)).flatten).Nodup
 len: ((p.funs.map (pre p p.nodes.length)).flatten).length=p.nodes.length
 into:∀x∈ (p.funs.map (pre p p.nodes.length)).flatten,0≤x∧x<p.nodes.length
 node:∀ (i:Nat) (x:Node),p.nodes[i]?=some x→aO p x=true∧x.pats.length≤10
 names: (p.cons.map Con.name).Nodup
theorem aQ1 {p:Prog}(g:aF p=true)(f:aJ p=true) :Fm p:=by
 have e:=g;simp only [aF,cM,decide_eq_true_eq]at e;obtain⟨⟨⟨⟨m,n⟩,k⟩,_⟩,l⟩ :=e;obtain⟨a,b,c,d⟩ :=aGv g f;refine⟨aDV g f,k,a,b,c,fun i x j=> ⟨d i x j,?_⟩,?_⟩
 · have h:=zq27.1 l x (kN j);simp only [bA,cM,decide_eq_true_eq]at h;omega
 · simp only [aJ,cM,xR]at f;exact(aCz _ _ f.1.2.2).1
def nodeAt (p:Prog)(k:Int) :Node:= (p.nodes[k.toNat]?).getD ⟨0,0,[],[]⟩
theorem aUR {p:Prog}{k:Int}{x:Node}(h:p.nodes[k.toNat]?=some x) :nodeAt p k=x:=by unfold nodeAt;rw [h];rfl
def yH (p:Prog) :List Int:= (p.funs.map (pre p p.nodes.length)).flatten
def KidsAfter (p:Prog)(l:List Int) :Prop:=∀ (i:Nat) (k c:Int),l[i]?=some k→c∈eQ p k→∃j,i<j∧l[j]?=some c
theorem KidsAfter.append {p:Prog}{l m:List Int}(h1:KidsAfter p l)(h2:KidsAfter p m) :KidsAfter p (l++m) :=fun i k c a hc=>by
 by_cases h:i<l.length
 · rw [hQ h]at a;obtain⟨j,b,e⟩ :=h1 i k c a hc;exact⟨j,b,by rw [hQ (zq0.1 e).1];exact e⟩
 · rw [jA (by omega)]at a;obtain⟨j,b,e⟩ :=h2 _ k c a hc;exact⟨l.length+j,by omega,by rw [jA (by omega),show l.length+j-l.length=j by omega];exact e⟩
theorem KidsAfter.flatten {p:Prog}:∀ {L:List (List Int)},(∀l∈L,KidsAfter p l) →KidsAfter p L.flatten
 | [],_=>fun i k c a _=>by simp at a
 | l::L,h=>by
  rw [aDZ];exact(h l (cN ..)).append (KidsAfter.flatten fun m hm=>h m (cJ _ hm))
theorem aZh {p:Prog}(h:Fm p){k:Int}(l:0≤k)(h1:k<p.nodes.length) :∃i:Nat,(yH p)[i]?=some k:=by
 refine zq38.1 ?_;have c: ((yH p).map toNat).Nodup:=by
  have c:=h.dup;rw [List.nodup_iff_pairwise_ne]at c ⊢;refine List.pairwise_map.2 (c.imp_of_mem (fun {a b} ha hb hne e=>?_));have:=h.into a ha;have:=h.into b hb;exact hne (by omega)
 by_cases hm:k∈yH p
 ·exact hm
 · have j:=zW (p.nodes.length) (k.toNat:: (yH p).map toNat) (List.nodup_cons.2 ⟨fun f=>by
    obtain⟨y,d,e⟩ :=zq24.1 f;have:=h.into y d;exact hm ((show y=k by omega) ▸ d),c⟩) (fun x g=>by
    rcases zq7.1 g with rfl|g
    ·omega
    · obtain⟨y,d,rfl⟩ :=zq24.1 g;have:=h.into y d;omega)
   rw [oI,lN]at j;have:=h.len;unfold yH at j;omega
structure Laid (a:Prog) (off:Nat) (p:Prog) (mf mc:List (Int×Int)) (to:List Int) :Prop where
 node:∀ (i:Nat) (k:Int),(yH p)[i]?=some k→a.nodes[off+i]?=some (aWO mf mc to (nodeAt p k))
 to:∀ (i:Nat) (k:Int),(yH p)[i]?=some k→aTf to k= ((off+i:Nat) :Int)
section
variable {a p:Prog} {off:Nat} {mf mc:List (Int×Int)} {to:List Int}
theorem Laid.at (h:Laid a off p mf mc to)(hp:Fm p){k:Int}(c:0≤k)(h1:k<p.nodes.length) :0≤aTf to k∧a.nodes[(aTf to k).toNat]?=some (aWO mf mc to (nodeAt p k)) :=by
 obtain⟨i,b⟩ :=aZh hp c h1;have e:=h.to i k b;rw [e,oY];exact⟨by omega,h.node i k b⟩
theorem Laid.pre (h:Laid a off p mf mc to)(hp:Fm p) :∀ (f:Nat) (k:Int),0≤k→k<p.nodes.length→p.nodes.length-k.toNat≤f→pre a f (aTf to k) = (pre p f k).map (aTf to)
 |0,k,e,g,i=>by omega
 | f+1,k,e,g,i=>by
  obtain⟨x,b⟩ :∃x,p.nodes[k.toNat]?=some x:= ⟨_,kF (by omega)⟩;obtain⟨j,d⟩ :=h.at hp e g;rw [aUR b]at d;rw [Go.Hb.pre,Go.Hb.pre,b,d];simp only [eK,List.map_flatten,List.map_map,aWO];congr 2
  exact bHL (fun c hc=>by
   have:= (hp.fine.node _ _ b).2.2 c hc;exact h.pre hp f c (by omega) (by omega) (by omega))
end
structure MapsOk (p a:Prog) (mf mc:List (Int×Int)) :Prop where
 funs:∀i:Int,0≤i→i<p.funs.length→0≤mAt mf i∧mAt mf i<a.funs.length
 cons:∀ (i:Nat) (d:Con),p.cons[i]?=some d→0≤mAt mc (i:Int) ∧a.cons[(mAt mc (i:Int)).toNat]?=some d
section
variable {p a:Prog} {mf mc:List (Int×Int)}
theorem MapsOk.at (h:MapsOk p a mf mc){n:Int}(d:0≤n)(h1:n<p.cons.length) :0≤mAt mc n∧mAt mc n<a.cons.length∧eT a.cons (mAt mc n) =eT p.cons n∧a.cons[(mAt mc n).toNat]?=p.cons[n.toNat]?:=by
 have e:p.cons[n.toNat]?=some p.cons[n.toNat] :=kF (by omega);obtain⟨c,b⟩ :=h.cons n.toNat _ e;rw [show((n.toNat:Nat) :Int) =n by omega]at c b;have:= (zq0.1 b).1;refine⟨c,by omega,?_,by rw [b,e]⟩;unfold eT;rw [b,e]
end
theorem aBb {lo n:Int}(c:0≤lo) :∀ (a:List Int) (u:List Bool),(u.length:Int) =n→ (∀k∈a,lo≤k∧k<n) → (∀m:Int,0≤m→m<n→a.count m+lM u m≤1) →∃v,marks lo n a u=some v
 | [],u,_,_,_=> ⟨u,rfl⟩
 | k ::a,u,hl,hr,hc=>by
  have hk:=hr k (cN ..);have i:=hc k (by omega) hk.2;rw [show k::a= [k] ++a from rfl,count_append,List.count_singleton_self]at i;have j:u[k.toNat]?=some false:=by
   have b:k.toNat<u.length:=by omega
   cases hb:u[k.toNat]
   case false=>rw [kF b,hb]
   have:lM u k=1:=by unfold lM;rw [kF b,hb];rfl
   omega
  obtain⟨v,h⟩ :=aBb c a (u.set k.toNat true) (by rw [fK];exact hl) (fun x f=>hr x (cJ _ f)) (fun m g l=>by
   have d:=hc m g l;rw [show k::a= [k] ++a from rfl,count_append]at d;by_cases e:m=k
   · subst e;have:lM (u.set m.toNat true) m≤1:=by unfold lM;split<;>omega
     rw [List.count_singleton_self]at d;omega
   · have:lM (u.set k.toNat true) m=lM u m:=by unfold lM;rw [List.getElem?_set_ne (by omega)]
     omega)
  exact⟨v,by rw [marks,if_pos ⟨by simp [dY];omega,j⟩];exact h⟩
theorem aAA {a:Prog}:∀ (t:List Node) (i:Nat) (u:List Bool),u.length=a.nodes.length→ (∀x∈t,aO a x=true) → (∀ (j:Nat) (x:Node),t[j]?=some x→∀k∈x.kids,((i+j:Nat) :Int) <k∧k<a.nodes.length) →
  (∀m:Int,0≤m→m<a.nodes.length→ ((t.map Node.kids).flatten).count m+lM u m≤1) →∃v,bW a i t u=some v
 | [],i,u,_,_,_,_=> ⟨u,rfl⟩
 | x::t,i,u,hl,c,hk,hc=>by
  obtain⟨w,e⟩ :=aBb (lo:= (i:Int) +1) (n:= (a.nodes.length:Int)) (by omega) x.kids u (by omega) (fun k b=>by
   have:=hk 0 x rfl k b;omega) (fun m d f=>by
   have:=hc m d f;rw [eK,aDZ,count_append]at this;omega)
  obtain⟨v,h⟩ :=aAA t (i+1) w (by rw [jV e,hl]) (fun y g=>c y (cJ _ g)) (fun j y g k b=>by
   have:=hk (j+1) y (by simpa using g) k b;omega) (fun m d f=>by
   have l:=hc m d f;have o:=jO (m:=m) (by omega) d e;rw [eK,aDZ,count_append]at l;omega)
  exact⟨v,by rw [bW,if_pos (c x (cN ..)),e];exact h⟩
def toL (p:Prog)(off:Nat) :List Int:=aYu (replicate p.nodes.length 0) off (yH p)
section
variable {p :Prog}
end
theorem aCA :∀ (l pre:List cC),l.Nodup→ (∀x∈l,x∉pre) →dM pre l=true
 | [],_,_,_=>rfl
 | x ::t,pre,a,h=>by
  have a:=List.nodup_cons.1 a;simp only [dM,cM,Bool.not_eq_true'];refine⟨?_,aCA t (pre++ [x]) a.2 (fun y b=>?_)⟩
  · cases e:uS pre x
    case false=>rfl
    exact absurd (hasS_mem.1 e) (h x (cN ..))
  · rw [zq28,not_or,zq32];exact⟨h y (cJ _ b),fun e=>a.1 (e ▸ b)⟩
structure Fs (p:Prog) :Prop extends Fm p where
 sm:aF p=true
 fo:aJ p=true
theorem Fs.of {p:Prog}(a:aF p=true)(b:aJ p=true) :Fs p:={aQ1 a b with sm:=a,fo:=b}
theorem Fs.head {p:Prog}(h:Fs p) :p.nodes.length≤300∧1≤p.funs.length∧p.funs.length≤p.nodes.length∧0≤p.main∧p.main<p.funs.length∧p.cons.length≤20∧ (∀c∈p.cons,fJ c=true) :=by
 have:=h.fo;simp only [aJ,cM,dX,xR,decide_eq_true_eq]at this;obtain⟨⟨⟨⟨a,f⟩,b⟩,⟨e,d⟩,_⟩,_⟩ :=this;simp [dY]at f b;exact⟨a,by omega,by omega,by omega,by omega,d,fun c hc=>zq27.1 e c hc⟩
theorem Fs.scons {p:Prog}(h:Fs p){c:Con}(hc:c∈p.cons) :c.name.length≤40:=by
 have:=h.sm;simp only [aF,cM,hM]at this;simpa using zq27.1 this.1.2 c hc
section
variable {a :Prog} {N:Nat}
theorem aK9 (hN:a.nodes.length=N)(M:N≤300)(U:1≤a.funs.length)(V:a.funs.length≤N)(S:0≤a.main)(Y:a.main<a.funs.length)(C:a.cons.length≤20)(hc:∀c∈a.cons,fJ c=true∧c.name.length≤40)(H: (a.cons.map Con.name).Nodup)
  (d:∀ (i:Nat) (x:Node),a.nodes[i]?=some x→aO a x=true∧bA x=true∧∀k∈x.kids,(i:Int) <k∧k<N) (t:∀f∈a.funs,0≤f∧f<N) (J:yH a= (range N).map fun(i:Nat) => (i:Int)) :Fs a:=by
 have I:aF a=true:=by
  simp only [aF,cM,decide_eq_true_eq,hM];refine⟨⟨⟨⟨by omega,by omega⟩,by omega⟩,zq27.2 fun c h=>by simpa using(hc c h).2⟩,zq27.2 fun x w=>?_⟩;obtain⟨i,s⟩ :=zq38.1 w;exact(d i x s).2.1
 have r:FineP a:= ⟨by omega,by omega,fun i x w=>by
  obtain⟨y,z,O⟩ :=d i x w;simp only [bA,cM,decide_eq_true_eq]at z;exact⟨aJ0 y,z.1.1,fun k hk=>by have:=O k hk;omega⟩,fun f Q=>by have:=t f Q;omega⟩
 refine Fs.of I ?_;have K: (yH a).Nodup:=by
  rw [J,List.nodup_iff_pairwise_ne];refine List.pairwise_map.2 ((List.nodup_iff_pairwise_ne.1 List.nodup_range).imp fun h e=>h (by omega))
 have o:∀m:Int,0≤m→m<a.nodes.length→a.funs.count m+ ((a.nodes.map Node.kids).flatten).count m=1:=fun m A y=>by
  have L:=vI (p:=a) (q:=pre a a.nodes.length) m a.funs (fun k hk=>by
   have:=r.funs k hk;exact aC9 r m _ k this.1 this.2 (by omega))
  have T: (yH a).map (eQ a) =a.nodes.map Node.kids:=by
   refine List.ext_getElem? (fun i=>?_);rw [J,pT,pT,pT];by_cases s:i<N
   · rw [List.getElem?_range s];have:a.nodes[i]?=some a.nodes[i] :=kF (by omega);simp only [Option.map_some,this];unfold eQ;rw [oY,this]
   ·rw [aEP (by simp;omega),aEP (by omega)];rfl
  have Z: (yH a).count m=1:=by
   have a1:=List.nodup_iff_count.1 K m;have W:m∈yH a:=by rw [J];exact zq24.2 ⟨m.toNat,List.mem_range.2 (by omega),by omega⟩
   have:=List.count_pos_iff.2 W;omega
  change (yH a).count m=a.funs.count m+ (((yH a).map (eQ a)).flatten).count m at L
  rw [T,Z]at L;omega
 have l:∀m:Int,lM (replicate a.nodes.length false) m=0:=fun m=>by
  unfold lM;rw [List.getElem?_replicate];by_cases g:m.toNat<a.nodes.length
  ·rw [if_pos g];rfl
  ·rw [if_neg g];rfl
 obtain⟨u,D⟩ :=aBb (lo:=0) (n:= (a.nodes.length:Int)) (Int.le_refl _) a.funs (replicate a.nodes.length false) (by rw [aIA]) (fun k hk=>by have:=t k hk;omega) (fun m A y=>by
  have:=o m A y;rw [l];omega)
 have B:=jV D;rw [aIA]at B
 obtain⟨v,G⟩ :=aAA (a:=a) a.nodes 0 u B (fun x w=>by
  obtain⟨i,s⟩ :=zq38.1 w;exact(d i x s).1) (fun j x w k hk=>by have:= (d j x w).2.2 k hk;omega) (fun m A y=>by
  have z:=jO (m:=m) (by omega) A D;have:=o m A y;rw [l]at z;omega)
 simp only [aJ,cM];refine⟨⟨?_,?_⟩,?_⟩
 ·simp [dX,dY];omega
 · simp only [xR,cM,decide_eq_true_eq];exact⟨⟨zq27.2 fun c h=> (hc c h).1,C⟩,aCA _ [] H (fun x _=>by simp)⟩
 · rw [D];simp only;rw [G];unfold allT;refine zq27.2 (fun b hb=>?_);obtain⟨i,s⟩ :=zq38.1 hb;have X:=mE G;have R:= (zq0.1 s).1;have z:=jO (m:= (i:Int)) (by omega) (by omega) D;have O:=mI (m:= (i:Int)) (by omega) G;have:=o (i:Int) (by omega) (by omega);rw [l]at z;have F:lM v (i:Int) =1:=by omega
   unfold lM at F;rw [oY,s]at F;cases b
   case true=>rfl
   simp at F
end
section
variable {p a:Prog} {off:Nat} {mf mc:List (Int×Int)} {to:List Int}
end
section
variable {p q:Prog}
end
theorem aGX (a m n:Nat) : (range' a (m+n)).map (fun i=> ((i:Nat) :Int)) = (range' a m).map (fun i=> ((i:Nat) :Int)) ++ (range' (a+m) n).map (fun i=> ((i:Nat) :Int)) :=by
 rw [←aG4,←List.range'_append_1]
section
variable {P :Prog}
mutual
theorem bDk :∀ (t:XT) (a f:Nat),(∀ (j:Nat) (x:Node),(eB t a)[j]?=some x→P.nodes[a+j]?=some x) →cB t≤f→pre P f ((a:Nat) :Int) = (range' a (cB t)).map (fun i=> ((i:Nat) :Int))
 | .mk o n b d,a,0,_,h=>by simp only [cB]at h;omega
 | .mk o n b d,a,f+1,hl,h=>by
  simp only [cB]at h;have c:=hl 0 ⟨o,n,(bE b (a+1)).1,d⟩ (by rw [eB];rfl)
  have hk:=aGY b (a+1) f (fun j x e=>by
   have:=hl (j+1) x (by rw [eB,mM];exact e);rw [show a+1+j=a+ (j+1)by omega];exact this) (by omega)
  rw [Nat.add_zero]at c;simp only [pre,oY,c];rw [hk,cB,Nat.add_comm (aD b) 1,aGX];rfl
theorem aGY :∀ (b:List XT) (a f:Nat),(∀ (j:Nat) (x:Node),(bE b a).2[j]?=some x→P.nodes[a+j]?=some x) →aD b≤f→ (((bE b a).1.map (pre P f)).flatten) = (range' a (aD b)).map (fun i=> ((i:Nat) :Int))
 | [],a,f,_,_=>by simp [bE,aD]
 | t::b,a,f,hl,h=>by
  simp only [aD]at h;simp only [bE]at hl;rw [bR]at hl;have e:=bDk t a f (fun j x c=>hl j x (by rw [hQ (zq0.1 c).1];exact c)) (by omega)
  have d:=aGY b (a+cB t) f (fun j x c=>by
   have:=hl (cB t+j) x (by rw [jA (by rw [bR];omega),bR,show cB t+j-cB t=j by omega];exact c);rw [show a+cB t+j=a+ (cB t+j)by omega];exact this) (by omega)
  simp only [bE,aD,eK,aDZ];rw [bR,e,d,aGX]
end
mutual
theorem aZi :∀ (t:XT) (a:Nat),(∀ (j:Nat) (x:Node),(eB t a)[j]?=some x→P.nodes[a+j]?=some x) →IsTree P t ((a:Nat) :Int)
 | .mk o n b c,a,hl=>by
  have d:=hl 0 ⟨o,n,(bE b (a+1)).1,c⟩ (by rw [eB];rfl);simp only [IsTree];refine⟨by omega,⟨o,n,(bE b (a+1)).1,c⟩,by rw [oY];exact d,rfl,rfl,rfl,?_⟩
  exact aDh b (a+1) (fun j x e=>by
   have:=hl (j+1) x (by rw [eB,mM];exact e);rw [show a+1+j=a+ (j+1)by omega];exact this)
theorem aDh :∀ (b:List XT) (a:Nat),(∀ (j:Nat) (x:Node),(bE b a).2[j]?=some x→P.nodes[a+j]?=some x) →aQ P b (bE b a).1
 | [],a,_=>by simp only [bE,aQ]
 | t::b,a,hl=>by
  simp only [bE]at hl ⊢;rw [bR]at hl ⊢;simp only [aQ];refine⟨_,_,rfl,aZi t a (fun j x c=>hl j x (by rw [hQ (zq0.1 c).1];exact c)),aDh b (a+cB t) (fun j x c=>?_)⟩;have:=hl (cB t+j) x (by rw [jA (by rw [bR];omega),bR,show cB t+j-cB t=j by omega];exact c);rw [show a+cB t+j=a+ (cB t+j)by omega];exact this
end
end
theorem yI (ts:List XT)(mn:Int)(cs:List Con) :aQ (bK ts mn cs) ts (bK ts mn cs).funs:=
 aDh ts 0 (fun j x a=>by rw [eS];exact a)
theorem lK (ts:List XT)(mn:Int)(cs:List Con) : (bK ts mn cs).nodes.length=aD ts:=by simp only [bK,aQO];rw [pO]
theorem aQ2 (ts:List XT)(mn:Int)(cs:List Con) : (bK ts mn cs).funs.length=ts.length:= (eU (yI ts mn cs)).symm
theorem aQ3 (ts:List XT)(mn:Int)(cs:List Con) :yH (bK ts mn cs) = (range (aD ts)).map fun(i:Nat) => (i:Int) :=by
 have h:=aGY (P:=bK ts mn cs) ts 0 (aD ts) (fun j x a=>by rw [eS];exact a) (Nat.le_refl _);rw [List.range_eq_range',←h];unfold yH;rw [lK];rfl
theorem aNQ {p q:Prog}(a:p.funs.length=q.funs.length)(hc:p.cons=q.cons)(x:Node) :aO p x=aO q x:=by
 simp only [aO,eR,dQ,fD,a,hc];try rfl
mutual
theorem aIw {cons:List Con}:∀ (q:Pat),dZ cons q=true→rX q=true
 | .mk f n s b,h=>by
  simp only [dZ,eG,cM,decide_eq_true_eq]at h;obtain⟨⟨_,rfl⟩,a⟩ :=h;simp [rX,aGZ b a]
theorem aGZ {cons:List Con}:∀ (a:List Pat),cZ cons a=true→uU a=true
 | [],_=>rfl
 | p::a,h=>by
  simp only [cZ,cM]at h;simp [uU,aIw p h.1,aGZ a h.2]
end
mutual
theorem aZj {p:Prog}{Q:Node→Int→Prop}(g:∀ (o n:Int) (k:List Int) (d:List Pat) (z:Int),NdX p o n k.length d→ (o=4→n<z) →z≤30→Q ⟨o,n,k,d⟩ z) :∀ (t:XT) (a:Nat) (z:Int),WX p t→vX t z→zOk 30 t z=true→∀ (j:Nat) (x:Node) (s:Int),(eB t a)[j]?=some x→ (zT t z)[j]?=some s→Q x s
 | .mk o n h d,a,z,f,e,hz,j,x,s,c,b=>by
  simp only [WX]at f;simp only [vX]at e;simp only [zOk,cM,decide_eq_true_eq]at hz;rw [eB]at c;rw [zT]at b;cases j with
  | zero=>
   simp only [jP,Option.some.injEq]at c b;subst c b;exact g _ _ _ _ _ (by rw [(nG h (a+1)).1];exact f.1) e.1 hz.1
  | succ j=>
   simp only [mM]at c b;exact aSs g o d h (a+1) 0 z f.2 e.2 hz.2 j x s c b
theorem aSs {p:Prog}{Q:Node→Int→Prop}(g:∀ (o n:Int) (k:List Int) (ps:List Pat) (z:Int),NdX p o n k.length ps→ (o=4→n<z) →z≤30→Q ⟨o,n,k,ps⟩ z)(o:Int)(ps:List Pat) :∀ (c:List XT) (a i:Nat) (z:Int),mJ p c→yE o ps c i z→aCm 30 o ps c i z=true→∀ (j:Nat) (x:Node) (s:Int),(bE c a).2[j]?=some x→ (zTs o ps c i z)[j]?=some s→Q x s
 | [],a,i,z,_,_,_,j,x,s,d,_=>by simp [bE]at d
 | t ::c,a,i,z,f,e,hz,j,x,s,d,b=>by
  simp only [mJ]at f;simp only [yE]at e;simp only [aCm,cM]at hz;simp only [bE]at d;rw [zTs]at b;by_cases h:j<cB t
  · rw [hQ (by rw [bR];exact h)]at d;rw [hQ (by rw [oS];exact h)]at b;exact aZj g t a _ f.1 e.1 hz.1 j x s d b
  · rw [jA (by rw [bR];omega),bR]at d;rw [jA (by rw [oS];omega),oS]at b;exact aSs g o ps c _ (i+1) z f.2 e.2 hz.2 _ x s d b
end
theorem aSt {p:Prog}{Q:Node→Int→Prop}(i:∀ (o n:Int) (k:List Int) (g:List Pat) (z:Int),NdX p o n k.length g→ (o=4→n<z) →z≤30→Q ⟨o,n,k,g⟩ z) :∀ (d:List XT) (a:Nat),mJ p d→ (∀t∈d,vX t 1) → (d.all fun t=>zOk 30 t 1) =true→∀ (j:Nat) (x:Node) (s:Int),(bE d a).2[j]?=some x→ (zF d)[j]?=some s→Q x s
 | [],a,_,_,_,j,x,s,c,_=>by simp [bE]at c
 | t ::d,a,e,f,hz,j,x,s,c,b=>by
  simp only [mJ]at e;simp only [List.all_cons,cM]at hz;simp only [bE]at c;rw [zF]at b;by_cases h:j<cB t
  · rw [hQ (by rw [bR];exact h)]at c;rw [hQ (by rw [oS];exact h)]at b;exact aZj i t a _ e.1 (f t (cN ..)) hz.1 j x s c b
  · rw [jA (by rw [bR];omega),bR]at c;rw [jA (by rw [oS];omega),oS]at b;exact aSt i d _ e.2 (fun x c=>f x (cJ _ c)) hz.2 _ x s c b
theorem NdX.ok {p:Prog}{o n:Int}{k:List Int}{ps:List Pat}{z:Int}(b:NdX p o n k.length ps)(hz:o=4→n<z)(d:z≤30) :aO p ⟨o,n,k,ps⟩ =true:=by
 by_cases a:o=4
 · obtain⟨f,c,e⟩ :=b.1 a;have:=hz a;subst e a;have hk:k= [] :=zq35.1 c;subst hk;simp [aO,eR,dQ,cK,dY];omega
 · have:=b.2 a;rw [←aGT];exact this
theorem aUS {p:Prog}{x:Node}(hc:∀c∈p.cons,fJ c=true)(h:aO p x=true) :x.kids.length≤10∧x.pats.length≤10:=by
 have e:=h;simp only [aO,eR,cM,decide_eq_true_eq]at h;obtain⟨⟨⟨_,b⟩,_⟩,a⟩ :=h;have f:fD p x≤3:=by
  unfold fD;split
  · unfold eT;split
    · rename_i c d;have:=hc c (kN d);simp only [fJ,cM,dY,decide_eq_true_eq]at this;omega
    ·omega
  ·omega
 have g:x.pats.length≤5:=by
  split at b
  ·simp [dY]at b;omega
  ·simp at b;simp [b]
 refine⟨?_,by omega⟩;unfold cK at a;split at a
 ·omega
 · split at a
   ·omega
   · split at a
     ·omega
     · split at a
       ·omega
       · split at a
         ·omega
         ·split at a<;>omega
mutual
theorem bDl :∀ (t:XT) (a i:Nat) (x:Node) (k:Int),(eB t a)[i]?=some x→k∈x.kids→ ((a+i:Nat) :Int) <k∧k< ((a+cB t:Nat) :Int)
 | .mk o n b c,a,i,x,k,h,hk=>by
  rw [eB]at h;simp only [cB];cases i with
  | zero=>
   simp only [jP,Option.some.injEq]at h;subst h;have:= (nG b (a+1)).2 k hk;omega
  | succ i=>
   have:=aQ4 b (a+1) i x k (by simpa using h) hk;omega
theorem aQ4 :∀ (b:List XT) (a i:Nat) (x:Node) (k:Int),(bE b a).2[i]?=some x→k∈x.kids→ ((a+i:Nat) :Int) <k∧k< ((a+aD b:Nat) :Int)
 | [],a,i,x,k,h,_=>by simp [bE]at h
 | t ::b,a,i,x,k,h,hk=>by
  simp only [bE]at h;rw [bR]at h;simp only [aD];by_cases c:i<cB t
  · rw [hQ (by rw [bR];exact c)]at h;have:=bDl t a i x k h hk;omega
  · rw [jA (by rw [bR];omega),bR]at h;have:=aQ4 b (a+cB t) (i-cB t) x k h hk;omega
end
theorem aLa {p:Prog}(hp:Fs p){ts:List XT}(hl:ts.length=p.funs.length)(J:mJ p ts)(B:∀t∈ts,vX t 1)(hz:oD 30 p.cons ts=true) :
  Fs (bK ts p.main p.cons) ∧ (cV (bK ts p.main p.cons)).1=true:=by
 simp only [oD,cM,aC8,decide_eq_true_eq]at hz;obtain⟨⟨I,S⟩,U⟩ :=hz;obtain⟨X,Y,V,K,F,M,A⟩ :=hp.head;have h:=aQ2 ts p.main p.cons;have m:=lK ts p.main p.cons;have r:=bC5 (ts:=ts) (mn:=p.main) (cons:=p.cons);have b:∀ (i:Nat) (x:Node) (s:Int),(bK ts p.main p.cons).nodes[i]?=some x→ (zF ts)[i]?=some s→aO p x=true∧ (x.op=4→x.n<s) :=fun i x s d a=>
  aSt (p:=p) (Q:=fun x s=>aO p x=true∧ (x.op=4→x.n<s)) (fun o n k D z L y H=> ⟨L.ok y H,y⟩) ts 0 J B I i x s d a
 have u:∀ (i:Nat) (x:Node),(bK ts p.main p.cons).nodes[i]?=some x→∃s,(zF ts)[i]?=some s:=fun i x d=>by
  have:= (zq0.1 d).1;exact⟨_,kF (by rw [r.len];exact this)⟩
 have O:ts.length≤aD ts:=by
  have:∀l:List XT,l.length≤aD l:=fun l=>by
   induction l with
   |nil=>simp
   |cons t l W=>obtain⟨o,n,T,D⟩ :=t;simp only [oI,aD,cB];omega
  exact this ts
 have g:=nG ts 0;have e:Fs (bK ts p.main p.cons) :=by
  refine aK9 (N:=aD ts) m (by omega) (by omega) (by omega) K (by show p.main<_;rw [h,hl];exact F) M (fun c hc=> ⟨A c hc,hp.scons hc⟩) hp.names (fun i x d=>?_) (fun f C=>?_) (aQ3 ..)
  · obtain⟨s,a⟩ :=u i x d;have ok:= (b i x s d a).1;have hk:=aUS (p:=p) A ok;refine⟨by rw [aNQ (p:=bK ts p.main p.cons) (q:=p) (by rw [h,hl]) rfl];exact ok,?_,?_⟩
    · simp only [bA,fS,cM,decide_eq_true_eq];refine⟨⟨hk.1,hk.2⟩,zq27.2 fun q G=>?_⟩;simp only [aO,cM]at ok;have:=zq27.1 ok.1.2 q G;simp only [iE,cM,decide_eq_true_eq]at this;simp only [uV,cM,decide_eq_true_eq];exact⟨by omega,aIw q this.2⟩
    · intro k hk;have R:=aQ4 ts 0 i x k d hk;omega
  · have:=g.2 f C;omega
 refine⟨e,?_⟩;unfold cV;rw [if_pos e.fo];have hZ:=aUQ e.fine r aUO;simp only;rw [hZ];refine(pI _ _ _ 0).2 fun j w=>?_;rw [eS];obtain⟨s,a⟩ :∃s,(zF ts)[j]?=some s:= ⟨_,kF w⟩;obtain⟨x,d⟩ :∃x,(bK ts p.main p.cons).nodes[j]?=some x:= ⟨_,kF (by rw [←r.len];exact w)⟩;have:= (b j x s d a).2;simp only [nE,d,a,Bool.not_eq_true',Bool.and_eq_false_iff,decide_eq_false_iff_not];by_cases v:x.op=4
 ·exact .inr (by have:=this v;omega)
 ·exact .inl v
abbrev aZk (a:Prog)(b:List Node)(c:List Int)(d:Int)(e:List Con)(f:List Node):=aA [oC 0 [(iN a.nodes),(iI a.funs),(nI a.main),(iC a.cons)],oC 1 [.nils,.nils,(nI 0),.nils],oC 2 [(.gl 3 4 0 b.length false),(.gl 4 1 0 c.length false),(nI d),(iC e)],oL 4 1 (jI c),oL 5 4 (jN (b++f))] 6
abbrev aQ5 (a:Nat)(b:List Node)(c:List Int)(d:Int)(e:List Con):=oC a [(.gl 3 4 0 b.length false),(.gl 4 1 0 c.length false),(nI d),(iC e)]
abbrev aQ6 (a:Nat)(b:Prog):=oC a [(iN b.nodes),(iI b.funs),(nI b.main),(iC b.cons)]
abbrev aQ7 (a:Nat):=oC a [.nils,.nils,(nI 0),.nils]
def bEi(a:Prog):TS:=cH PP 26 [(Prog.av a)] [] 0
def aG0(a:Prog)(d:Int)(e:List Con)(f:Int)(b:List Node)(c:List Int):TS:=⟨(tf 26 41 [kp 1 0,kp 2 1,kp 3 2,(4,(nI f))] [kc f26 116,kl f26 116,.inBlock 0,kc f26 15]),[],[aQ6 0 a,aQ7 1,aQ5 2 b c d e,oL 3 4 (jN b),oL 4 1 (jI c)],5⟩
def aZl(a:Prog)(d:Int)(e:List Con)(f:Int)(b:List Node)(c:List Int):TS:=⟨(tf 26 41 [kp 1 0,kp 2 1,kp 3 2,(4,(nI f))] [kc f26 1865,.inBlock 1,kc f26 467,kl f26 116,.inBlock 0,kc f26 15]),[],[aQ6 0 a,aQ7 1,aQ5 2 b c d e,oL 3 4 (jN b),oL 4 1 (jI c)],5⟩
def bDm (c:Prog):=fun a b d=>(tT 0 (bEi c)<|.y fun a:Int=>.y fun b:List Con=>gp 8 59 [(Prog.av c)] (.agg [.nils,.nils,(nI a),(iC b)])<|.i [rn 10,.cnil 2 0 4] []<|gu 0 3 (jN ([] :List Node))<|gv 0 2 0 (.gl 3 4 0 ([] :List Node).length false)<|.i [.cnil 2 1 1] []<|gu 0 4 (jI ([] :List Int))<|gv 0 2 1 (.gl 4 1 0 ([] :List Int).length false)<|.W 0 5 [0,1,2,3,4] (aG0 c a b 0 ([] :List Node) ([] :List Int))) a b d ⟨kk,⟨kk,trivial⟩⟩
def aZm(c:Prog)(d:Int)(e:List Con)(f:Int)(a:List Node)(b:List Int):=tT 0 (aG0 c d e f a b)<|gl 6 cA c.funs<|gd 2 11 (f< (c.funs.length:Int)) (ga 12 cA b [(a.length:Int)]<|.W 3 7 [0,1,2,3,6] (aZl c d e f a (b++ [(a.length:Int)])))<|gy 3 2 0 3 4 Node.av a false<|gy 0 2 1 4 1 cA b false<|gE 5 5 (.agg [(iN a),(iI b),(nI d),(iC e)])
def bDn:=fun a b c d e f g i=>aZm a b c d e f|>.t g i ⟨kk,⟨kk,trivial⟩⟩
def bDo:=fun a b c d e f g=>aZm a b c d e f|>.f g tv
def bDp (a:Prog)(f:Int)(g:List Con)(i:Int)(b:List Node)(c:List Int):=fun d j k e l m n o p q=>(tT 0 (aZl a f g i b c)<|.y fun d:Int=>.y fun j:List Int=>.y fun k:List Int=>.y fun e:List Node=>.i [.reg (rd 6 (.ans (.idx (cA d))::rd 3 [.ans (.len (a.funs.length:Int)),.pure (iI j),.d,.d,.ans (.len (a.cons.length:Int)),.pure (iI k),.call (.gl 5 4 0 (b++e).length false) (aZk a b c f g e),.d,.d]))] [hA (0≤i),.a (((a.funs)[i.toNat]?) =some d) (aZ (f:=cA)),hl cA a.funs,hA (aM PP 61 [(nI 0),(nI (a.funs.length:Int))] (iI j)),hl Con.av a.cons,hA (aM PP 61 [(nI 0),(nI (a.cons.length:Int))] (iI k)),hA (Spec PP (.enter 60 [(.gl 3 4 0 b.length false),(Prog.av a),(nI d),(iI j),(iI k)]) (aA [aQ6 0 a,aQ7 1,aQ5 2 b c f g,oL 3 4 (jN b),oL 4 1 (jI c)] 5) (.ret (.gl 5 4 0 (b++e).length false)) (aZk a b c f g e)),.q (p:=(nI ((jC a.cons).length:Int)) = (nI (a.cons.length:Int))) (congrArg (int .i64) (aHS _ _)),.q (p:=(nI ((jC a.cons).length:Int)) = (nI (a.cons.length:Int))) (congrArg (int .i64) (aHS _ _)),hr (ilst 2 (jC a.cons) false),hr (ilst 2 (jC a.cons) false),hr (nI d),hr (nI d),hr (nI d),hr (ilst 1 (jI a.funs) false),hr (ilst 1 (jI a.funs) false),hr (ilst 1 (jI a.funs) false),hr (Prog.av a),hr (Prog.av a),hr (Prog.av a),hr (AV.gl 3 4 0 b.length false),hr (AV.gl 3 4 0 b.length false),hr (AV.gl 3 4 0 b.length false)]<|gw 4 13 (i+1)<|.W 3 6 [0,1,2,5,4] (aG0 a f g (i+1) (b++e) c)) d j k e l m n o p q ⟨kk,⟨kk,trivial⟩⟩
theorem aNR (p:Prog)(k:Nat)(mn:Int)(cs:List Con)(j:p.funs.length<1000000)(hc:p.cons.length<1000000) :∀ (t:List Int) (i:Nat) (l:List Node) (fs b:List Int) (r:List Node),p.funs.drop i=t→fs.length=i→i≤p.funs.length →
  yA (mG p (numsL 0 p.funs.length) (numsL 0 p.cons.length) k) l.length t=some (b,r) →
  LeadsM PP 0 (aG0 p mn cs (i:Int) l fs).as (aG0 p mn cs ((p.funs.length:Nat) :Int) (l++r) (fs++b)).as
 | [],i,l,fs,b,r,h,hl,u,hm=>by
  have:=bL h;obtain rfl:i=p.funs.length:=by omega
  cases hm;rw [tK,tK];exact LeadsM.refl _
 | c ::t,i,l,fs,b,r,h,hl,u,hm=>by
  obtain⟨m,o,v⟩ :=bI h;simp only [yA]at hm;split at hm
  · rename_i f e;split at hm
    · rename_i a g d;cases hm;have q:=bDn p mn cs i l fs sd (by simp;omega);have s:=bDp p mn cs i l (fs++ [((l.length:Nat) :Int)]) c _ _ f sd (by simpa using m) (aIm 0 p.funs.length j (by omega) (by omega)) (aIm 0 p.cons.length hc (by omega) (by omega)) (aX5 e mn cs _) sd;have n:=aNR p k mn cs j hc t (i+1) (l++f) (fs++ [((l.length:Nat) :Int)]) a g o (by simp [hl]) (by omega) (by rw [tI];exact d);rw [show fs++ ((l.length:Nat) :Int) ::a= (fs++ [((l.length:Nat) :Int)]) ++a by simp,←zq9 l f g];exact q.trans (s.trans n)
    ·cases hm
  ·cases hm
theorem aQ8 {p q:Prog}{k:Nat}(a:p.funs.length<1000000)(hc:p.cons.length<1000000)(h:aEG p k=some q) :aM PP 26 [PA p] (PA q) :=by
 unfold aEG at h;split at h
 · rename_i b r hm;cases h;refine tH (s:=bEi p) aC aC (by simp [keylessL,AV.keyless]) (by simp [keylessL,AV.keyless]) ?_;exact((bDm p p.main p.cons (aX4 (by omega))).trans (aNR p k p.main p.cons a hc p.funs 0 [] [] b r rfl rfl (Nat.zero_le _) hm)).ends (bDo p p.main p.cons _ _ _ (by simp))
 ·cases h
mutual
theorem bDq {cons:List Con}:∀ (q:Pat),dZ cons q=true→aQy (numsL 0 cons.length) q=some q
 | .mk f n s b,h=>by
  simp only [dZ,cM]at h;have e:aRR (numsL 0 cons.length) f n=some n:=by
   unfold aRR;by_cases a:f=6
   · have c:=h.1;simp [eG,a,dY]at c;rw [if_pos a,if_pos (by omega),zV 0 (by omega)];simp;omega
   ·rw [if_neg a]
  simp only [aQy,e,aG1 b h.2]
theorem aG1 {cons:List Con}:∀ (a:List Pat),cZ cons a=true→aCh (numsL 0 cons.length) a=some a
 | [],_=>rfl
 | p::a,h=>by
  simp only [cZ,cM]at h;simp only [aCh,bDq p h.1,aG1 a h.2]
end
theorem aIx {cons:List Con}:∀ {a:List Pat},(∀q∈a,dZ cons q=true) →cZ cons a=true
 | [],_=>rfl
 |p::a,h=>by simp only [cZ,cM];exact⟨h p (cN ..),aIx fun q b=>h q (cJ _ b)⟩
theorem bGZ {p:Prog}{x:Node}(h:aO p x=true)(e:p.funs.length<1000000) :mN (numsL 0 p.funs.length) (numsL 0 p.cons.length) x.op x.n=some x.n:=by
 simp only [aO,eR,dQ,cM]at h;have c:=h.1.1.1;unfold mN;by_cases b:x.op=4
 · by_cases d:x.n<0
   · simp [b,dY]at c;rw [if_pos ⟨b,d⟩,zV 0 (by omega)];simp only;rw [if_pos (by omega)];congr 1;omega
   ·rw [if_neg (by omega),if_neg (by omega)]
 · rw [if_neg (by omega)];by_cases a:x.op=14
   · simp [a,dY]at c;rw [if_pos a,if_pos (by omega),zV 0 (by omega)];simp;omega
   ·rw [if_neg a]
section
variable {p :Prog} (hfs:Fs p)
include hfs
mutual
theorem aQ9 :∀ (t:XT) (a:Int) (k len:Nat),IsTree p t a→cB t≤k→len+cB t≤1000→mG p (numsL 0 p.funs.length) (numsL 0 p.cons.length) k len a=some (eB t len)
 | .mk o n j m,a,0,len,_,h,_=>by simp only [cB]at h;omega
 | .mk o n j m,a,k+1,len,i,h,hl=>by
  simp only [cB]at h hl;simp only [IsTree]at i;obtain⟨l,nd,e,rfl,rfl,rfl,r⟩ :=i;have c:= (hfs.node _ nd e).1;have f:= (hfs.fine.node _ nd e);obtain⟨_,_,_,_,_,u,_⟩ :=hfs.head
  have b:∀q∈nd.pats,bX q≤12∧dZ p.cons q=true:=fun q d=>by
   have:=c;simp only [aO,cM]at this;have:=zq27.1 this.1.2 q d;simpa only [iE,cM,decide_eq_true_eq]using this
  have s:=vN nd.pats (fun q d=>by have:= (b q d).1;omega);have g:= (hfs.node _ nd e).2;have hk:=aDi j nd.kids k (len+1) r (by omega) (by omega);rw [mG,if_pos ⟨l,by omega⟩,e];simp only;rw [if_pos ⟨by omega,by omega⟩,bGZ c (by have:=hfs.fine.fsmall;omega)];simp only;rw [aG1 nd.pats (aIx fun q d=> (b q d).2)];simp only;rw [hk,eB]
theorem aDi :∀ (a:List XT) (l:List Int) (k len:Nat),aQ p a l→aD a≤k→len+aD a≤1000→yA (mG p (numsL 0 p.funs.length) (numsL 0 p.cons.length) k) len l=some ((bE a len).1,(bE a len).2)
 | [],l,k,len,h,_,_=>by simp only [aQ]at h;subst h;rfl
 | t::a,l,k,len,h,hk,hl=>by
  simp only [aD]at hk hl;simp only [aQ]at h;obtain⟨c,e,rfl,f,b⟩ :=h;have g:=aQ9 t c k len f (by omega) (by omega);have d:=aDi a e k (len+cB t) b (by omega) (by omega);simp only [yA];rw [g];simp only;rw [bR,d];simp only [bE,bR]
end
theorem aNS {ts:List XT}(b:aQ p ts p.funs) :aM PP 26 [Prog.av p] (Prog.av (bK ts p.main p.cons)) :=by
 have d:=vO hfs.sm hfs.fo b;have a:=hfs.head.1;have e:=aDi hfs ts p.funs (aD ts) 0 b (Nat.le_refl _) (by omega);have c:aEG p (aD ts) =some (bK ts p.main p.cons) :=by
  unfold aEG;rw [e];rfl
 have f:=hfs.fine.fsmall;have hc:=hfs.head.2.2.2.2.2.1;exact aQ8 (by omega) (by omega) c
end
theorem bDr {mo:Int}:∀ {t:XT} {z:Int},zOk mo t z=true→z≤mo
 | .mk o n a b,z,h=>by simp only [zOk,cM,decide_eq_true_eq]at h;exact h.1
theorem zOk_cl {mo:Int}:∀ {bs:List XT} {t:XT} {z:Int},zOk mo (clB bs t) z=true↔ (∀ (j:Nat) (x:XT),bs[j]?=some x→zOk mo x (z+ (j:Int)) =true∧z+ (j:Int) ≤mo) ∧zOk mo t (z+ (bs.length:Int)) =true
 | [],t,z=>by simp [clB]
 | a ::bs,t,z=>by
  simp only [clB,zOk,aCm,cM,decide_eq_true_eq,Bool.and_true];rw [natCast_zero,show(((0+1:Nat)) :Int) =1 from rfl,(oW []).1,(oW []).2,add_zero,zOk_cl (bs:=bs)];constructor
  · rintro⟨d,c,h,g⟩
    refine⟨fun j x b=>?_,by rw [oI,show z+ ((bs.length+1:Nat) :Int) =z+1+ (bs.length:Int)by omega];exact g⟩;cases j with
    |zero=>simp only [jP,Option.some.injEq]at b;subst b;simp only [natCast_zero,add_zero];exact⟨c,d⟩
    | succ j=>
     have:=h j x (by simpa using b);rw [show z+ ((j+1:Nat) :Int) =z+1+ (j:Int)by omega];exact this
  · rintro⟨d,c⟩
    obtain⟨e,f⟩ :=d 0 a rfl;simp only [natCast_zero,add_zero]at e f;refine⟨f,e,fun j x b=>?_,by rw [oI,show z+ ((bs.length+1:Nat) :Int) =z+1+ (bs.length:Int)by omega]at c;exact c⟩;have:=d (j+1) x (by simpa using b);rw [show z+ ((j+1:Nat) :Int) =z+1+ (j:Int)by omega]at this;exact this
theorem zOks_iff {mo o:Int}{ps:List Pat}:∀ {ts:List XT} {i:Nat} {z:Int},aCm mo o ps ts i z=true↔∀ (j:Nat) (t:XT),ts[j]?=some t→zOk mo t (z+bJ o ps ((i+j:Nat) :Int)) =true
 | [],i,z=>by simp [aCm]
 | t ::ts,i,z=>by
  simp only [aCm,cM,zOks_iff (ts:=ts)];refine⟨fun h j x a=>?_,fun h=> ⟨h 0 t rfl,fun j x a=>?_⟩⟩
  · cases j with
    |zero=>simp only [jP,Option.some.injEq]at a;subst a;exact h.1
    |succ j=>rw [show i+ (j+1) =i+1+j by omega];exact h.2 j x (by simpa using a)
  · have:=h (j+1) x (by simpa using a);rw [show i+ (j+1) =i+1+j by omega]at this;exact this
theorem aSu (o:Int)(ps:List Pat) :∀ (b:List XT) (i:Nat) (a:List Int) (n:Int) (j:Nat) (x:XT),b[j]?=some x→ (flR o ps b i 0 a n)[j]?=some (clF (eI x (plc a n (bJ o ps ((i+j:Nat) :Int))) (n+bJ o ps ((i+j:Nat) :Int))))
 | [],_,_,_,_,_,h=>by simp at h
 | k::b,i,a,n,0,x,h=>by
  simp only [jP,Option.some.injEq]at h;subst h;simp only [flR,jP,Nat.add_zero]
 | k::b,i,a,n,j+1,x,h=>by
  simp only [flR,mM];rw [aSu o ps b (i+1) a n j x (by simpa using h),show i+ (j+1) =i+1+j by omega]
theorem aG2 :∀ (b:List XT) (m:Nat) (a:List Int) (z:Int),m≤b.length→ (pJ b m a z).2.length=m
 | [],m,a,z,h=>by simp at h;subst h;simp [pJ]
 |k::b,0,a,z,_=>by simp [pJ]
 | k::b,m+1,a,z,h=>by
  simp only [oI]at h;simp only [pJ];split
  ·simp only [oI,aG2 b m a z (by omega)]
  ·simp only [oI,aG2 b m a _ (by omega)]
theorem aZn {p:Prog}{mo e:Int}(l:e≤mo) :∀ (c:List XT) (m:Nat) (a:List Int) (z:Int),mJ p c→e≤z→ (∀x∈c,∀ (q:List Int) (t:Int),e≤t→zOk mo (clF (eI x q t)) t=true→zOk mo x e=true) →
  (∀ (j:Nat) (x:XT),(pJ c m a z).1[j]?=some x→zOk mo x (z+ (j:Int)) =true∧z+ (j:Int) ≤mo) →∀ (j:Nat) (x:XT),j<m→c[j]?=some x→zOk mo x e=true
 | [],_,_,_,_,_,_,_,j,x,_,h=>by simp at h
 |k::c,0,_,_,_,_,_,_,j,x,u,_=>by omega
 | k ::c,m+1,a,z,f,hz,s,d,j,x,u,b=>by
  simp only [mJ]at f;simp only [pJ]at d;by_cases r:bP k=true
  · rw [if_pos r]at d;cases j with
    | zero=>
     simp only [jP,Option.some.injEq]at b;subst b;obtain⟨o,n,kk,v⟩ :=k;have:=f.1.kids0 r;subst this;simp only [zOk,aCm,Bool.and_true,decide_eq_true_eq];exact l
    |succ j=>exact aZn l c m a z f.2 hz (fun x b=>s x (cJ _ b)) d j x (by omega) (by simpa using b)
  · rw [if_neg r]at d;have hA:zOk mo (clF (eI k a z)) z=true:=by
     refine zOk_cl.2 ⟨fun i y g=>?_,?_⟩
     ·exact d i y (by simp only;rw [hQ (zq0.1 g).1];exact g)
     ·exact(d (eI k a z).binds.length (eI k a z).last (by simp)).1
    cases j with
    | zero=>
     simp only [jP,Option.some.injEq]at b;subst b;exact s k (cN ..) a z hz hA
    | succ j=>
     refine aZn l c m a (z+ ((eI k a z).binds.length+1:Nat)) f.2 (by omega) (fun x b=>s x (cJ _ b)) (fun i y g=>?_) j x (by omega) (by simpa using b)
     have:=d ((eI k a z).binds.length+1+i) y (by
      simp only;rw [jA (by omega),show(eI k a z).binds.length+1+i- (eI k a z).binds.length=i+1 by omega,mM];exact g)
     rw [show z+ ((eI k a z).binds.length+1:Nat) + ((i:Nat) :Int) =z+ (((eI k a z).binds.length+1+i:Nat) :Int)by omega];exact this
theorem aG3 {p:Prog}{mo:Int}:∀ (k:Nat) (t:XT),cB t≤k→WX p t→∀ (d:List Int) (z f:Int),f≤z→zOk mo (clF (eI t d z)) z=true→zOk mo t f=true
 |0,.mk o n c ps,hk,_,_,_,_,_,_=>by simp only [cB]at hk;omega
 | k + 1, .mk o n c ps,hk,e,d,z,f,hz,h=>by
  simp only [cB]at hk;have B:=e;simp only [WX]at e;have I:=bDr h;have G:f≤mo:=by omega
  simp only [zOk,cM,decide_eq_true_eq];refine⟨G,?_⟩;rw [eI]at h;by_cases A:bP (.mk o n c ps) =true
  · have:=B.kids0 A;subst this;rfl
  · rw [if_neg A]at h;by_cases u:o=7
    · rw [if_pos u]at h;obtain⟨rfl,rfl,hl⟩ :=e.1.let7 u;subst u
      match c,hl with
      | [a, b],_=>
       simp only [mJ]at e;simp only [aD]at hk;simp only [flL,flB,clF]at h;obtain⟨r,l⟩ :=zOk_cl.1 h;have hA:zOk mo (clF (eI a d z)) z=true:=zOk_cl.2 ⟨fun i y g=>r i y (by rw [hQ (zq0.1 g).1];exact g),(r (eI a d z).binds.length (eI a d z).last (by simp)).1⟩;have ga:=aG3 k a (by omega) e.2.1 d z f hz hA;have hB:zOk mo (clF (eI b (d++ [z+ ((eI a d z).binds.length:Nat)]) (z+ ((eI a d z).binds.length+1:Nat)))) (z+ ((eI a d z).binds.length+1:Nat)) =true:=by
        refine zOk_cl.2 ⟨fun i y g=>?_,?_⟩
        · have:=r ((eI a d z).binds.length+1+i) y (by
           rw [jA (by omega),show(eI a d z).binds.length+1+i- (eI a d z).binds.length=i+1 by omega,mM];exact g)
          rw [show z+ ((eI a d z).binds.length+1:Nat) + ((i:Nat) :Int) =z+ (((eI a d z).binds.length+1+i:Nat) :Int)by omega];exact this
        · simp only [tI,oI]at l;rw [show z+ (((eI a d z).binds.length+1:Nat) :Int) + ((eI b (d++ [z+ ((eI a d z).binds.length:Nat)]) (z+ ((eI a d z).binds.length+1:Nat))).binds.length:Int) =z+ (((eI a d z).binds.length+ ((eI b (d++ [z+ ((eI a d z).binds.length:Nat)]) (z+ ((eI a d z).binds.length+1:Nat))).binds.length+1) :Nat) :Int)by omega];exact l
       have T:=aG3 k b (by omega) e.2.2.1 _ _ (f+1) (by omega) hB;simp only [aCm,cM,Bool.and_true];rw [natCast_zero,show(((0+1:Nat)) :Int) =1 from rfl,(oW []).1,(oW []).2,add_zero];exact⟨ga,T⟩
    · rw [if_neg u]at h;simp only [clF]at h;obtain⟨r,l⟩ :=zOk_cl.1 h;simp only [zOk,cM,decide_eq_true_eq]at l;have Q:=zOks_iff.1 l.2;have C:bF o c.length≤c.length:=by
       by_cases F:o=4
       ·exact absurd ((atomX_iff (t:=.mk o n c ps)).2 (.inr (.inr (.inr F)))) A
       · have:=aYa (e.1.2 F);simpa using this
      refine zOks_iff.2 fun j x s=>?_;have O:=rM s;have D:=wxs_iff.1 e.2 x (kN s);rw [eS];by_cases H:j<bF o c.length
      · rw [aEK H,add_zero]
        exact aZn G c (bF o c.length) d z e.2 hz (fun y g v K L S=>by
         obtain⟨i,N⟩ :=List.getElem?_of_mem g;have:=rM N;exact aG3 k y (by omega) (wxs_iff.1 e.2 y g) v K f L S) r j x H s
      · have J:=mD (o:=o) (ps:=ps) (fun q R=>by have:=e.1.pats q R;omega) (j:Int);have w:=aG2 c (bF o c.length) d z C;have M: (c.drop (bF o c.length))[j-bF o c.length]?=some x:=by
         rw [List.getElem?_drop,show bF o c.length+ (j-bF o c.length) =j by omega];exact s
        have hr:=aSu o ps (c.drop (bF o c.length)) (bF o c.length) d (z+ ((pJ c (bF o c.length) d z).1.length:Nat)) (j-bF o c.length) x M;rw [show bF o c.length+ (j-bF o c.length) =j by omega]at hr;have:=Q j _ (by rw [jA (by omega),w,flR_dropZ o ps c 0 (bF o c.length),eS];exact hr);rw [eS]at this;exact aG3 k x (by omega) D _ _ _ (by omega) this
where flR_dropZ (o:Int) (ps:List Pat) :∀ (c:List XT) (i m:Nat) {d:List Int} {n:Int},flR o ps c i m d n=flR o ps (c.drop m) (i+m) 0 d n
 | [],i,m,_,_=>by simp [flR]
 |k::c,i,0,_,_=>rfl
 | k::c,i,m+1,_,_=>by
  simp only [flR,List.drop_succ_cons];rw [flR_dropZ o ps c (i+1) m,show i+1+m=i+ (m+1)by omega]
theorem aSv {p:Prog}{ts:List XT}{cs:List Con}(a:mJ p ts)(h:oD 30 cs (ts.map zZ) =true) :oD 30 cs ts=true:=by
 simp only [oD,cM,aC8,decide_eq_true_eq]at h ⊢;obtain⟨⟨e,g⟩,d⟩ :=h;have f:= (aCy a).1;refine⟨⟨zq27.2 fun t b=>?_,by omega⟩,d⟩;have c:=zq27.1 e (zZ t) (List.mem_map_of_mem b);exact aG3 (cB t) t (Nat.le_refl _) (wxs_iff.1 a t b) [0] 1 1 (Int.le_refl _) c
structure FlOk (p:Prog) (t:XT) (to:List Int) (z:Int) :Prop where
 fine:FineX 1000000 t
 wx:WX p t
 sc:vX t (to.length:Nat)
 sz:cB t≤900
 tl:to.length+1000*cB t≤900100
 z0:0≤z
 z1:z+3000* (cB t:Nat) ≤100000000
section
variable {p :Prog} {o n:Int} {ks:List XT} {ps:List Pat} {to:List Int} {z:Int}
end
section
variable {P :Program}
def aUT (P:Program)(is:List Ins)(s:TS) :Option (AV×Nat×List Prop) :=
 match rD P is s.as with
 | some (s1,ps) =>match s1.cs,s1.fr.kind,s1.fr.mode,s1.fr.roundOf,s1.fr.defers with
  | [],.normal,.ret,none,[] =>match P.funcs[s1.fr.fn]? with
   | some fd=>match lS P s1.h s1.fr.tm fd.results.toList with
    |some [v] =>some (v,s1.fr.fn,ps)
    |_=>none
   |none=>none
  |_,_,_,_,_=>none
 |none=>none
theorem aLb {f : Nat} {args : List AV} {is : List Ins}{b:Bool}{ps:List Prop}{cargs:List Value}(hb:nR P f=true)(hk:keylessL args=true)(d:aUT P is (start P f args) =some (.bool b,f,ps))(F:AllP ps)(w:World)(O:VRs (embOf w) args cargs) :
  Calls P f ⟨cargs⟩ w fun e w'=>e= .returned (.bool b) ∧GrownO w w':=by
 intro k;unfold nR at hb;split at hb
 · rename_i fn G;split at hb
   · rename_i c hc;have S:dF P f args .normal=some ⟨f,dS .leaf 0 args,max fn.ntmps args.length,[.code c],[],.run,.normal,none⟩ :=by simp [dF,G,hc]
     have fr':FR (embOf w) _ (Frame.enter P f ⟨cargs⟩ .normal) :=gW S O;have J:FR (embOf w) (start P f args).as.fr (Frame.enter P f ⟨cargs⟩ .normal) :=by
      have Q: (start P f args).as.fr= ⟨f,cE ((range args.length).zip args),max fn.ntmps args.length,[.code c],[],.run,.normal,none⟩ :=by simp [start,G,hc,TS.as,TF.fr]
      rw [Q];refine⟨fr'.fn,⟨fr'.tm.1,fun t a e=>?_⟩,fr'.todo,fr'.defers,fr'.mode,fr'.kind,fr'.round⟩;have m:=aFq (aAP e);have r:= (zq0.1 m).1;have R: (dS .leaf 0 args).at t=some a:=by
       unfold dS;rw [bC,if_pos r];exact m
      exact fr'.tm.2 t a R
     have e2 : (start P f args).as.cs = [] := by unfold start;split; · split<;>rfl
                                                 ·rfl
     have e3 : (start P f args).as.h = ⟨.leaf, 0⟩ := by unfold start;split; · split<;>rfl
                                                        ·rfl
     unfold aUT at d;split at d
     · rename_i s1 qs m;split at d
       · rename_i n q C N z;split at d
         · rename_i U B;split at d
           · rename_i v s;simp only [Option.some.injEq,Prod.mk.injEq]at d;obtain⟨rfl,A,rfl⟩ :=d;have hl:LeadsM P 0 (start P f args).as s1:=fZ m (fun p y=>F.mem p y);obtain⟨Y,g,K,w',M,h,l,W,x⟩ :=hl (by rw [e3];exact Nat.le_refl _) (embOf w) _ [] w k J (by rw [e2];rfl) (by rw [e3];exact aHU w);rw [n]at l;have:=l.nil_inv;subst this;obtain⟨X,I,H⟩ :=qZ W h.tm s;simp only [aAH,VR]at H;subst H;have D:=h.mode;rw [C]at D;simp only [MR]at D;have j:=h.defers;rw [z]at j;rw [e3]at x;have u:∀ {b o},¬ (⟨.leaf,0⟩ :Hp).look b=some o:=fun {b o} e=>by simp [Hp.look,T.at_leaf]at e
             refine⟨.returned (.bool b),w',g,⟨rfl,⟨x.os,x.output,fun i V=>?_⟩,x.froz,x.size⟩,M,by rw [h.fn,A],D,j.nil_inv,by rw [h.kind,q],U,by rw [h.fn];exact B,I⟩;have:=x.keep i V (fun b o L e=>absurd e u);rw [this];cases w.heap[i]? with
             |none=>rfl
             |some ob=>cases ob<;>simp
           ·cases d
         ·cases d
       ·cases d
     ·cases d
   ·cases hb
 ·cases hb
theorem aD5 {f : Nat} {args : List AV} {is : List Ins}{b:Bool}{ps:List Prop}{cargs:List Value}{t:TS}(hb:nR P f=true)(hk:keylessL args=true)(z:LeadsM P 0 (start P f args).as t.as)(d:aUT P is t=some (.bool b,f,ps))(G:AllP ps)(w:World)(Q:VRs (embOf w) args cargs) :
  Calls P f ⟨cargs⟩ w fun e w'=>e= .returned (.bool b) ∧GrownO w w':=by
 intro k;unfold nR at hb;split at hb
 · rename_i fn H;split at hb
   · rename_i c hc;have U:dF P f args .normal=some ⟨f,dS .leaf 0 args,max fn.ntmps args.length,[.code c],[],.run,.normal,none⟩ :=by simp [dF,H,hc]
     have fr':FR (embOf w) _ (Frame.enter P f ⟨cargs⟩ .normal) :=gW U Q;have K:FR (embOf w) (start P f args).as.fr (Frame.enter P f ⟨cargs⟩ .normal) :=by
      have R: (start P f args).as.fr= ⟨f,cE ((range args.length).zip args),max fn.ntmps args.length,[.code c],[],.run,.normal,none⟩ :=by simp [start,H,hc,TS.as,TF.fr]
      rw [R];refine⟨fr'.fn,⟨fr'.tm.1,fun t a e=>?_⟩,fr'.todo,fr'.defers,fr'.mode,fr'.kind,fr'.round⟩;have m:=aFq (aAP e);have r:= (zq0.1 m).1;have S: (dS .leaf 0 args).at t=some a:=by
       unfold dS;rw [bC,if_pos r];exact m
      exact fr'.tm.2 t a S
     have e2 : (start P f args).as.cs = [] := by unfold start;split; · split<;>rfl
                                                 ·rfl
     have e3 : (start P f args).as.h = ⟨.leaf, 0⟩ := by unfold start;split; · split<;>rfl
                                                        ·rfl
     unfold aUT at d;split at d
     · rename_i s1 qs m;split at d
       · rename_i n q D O A;split at d
         · rename_i V C;split at d
           · rename_i v s;simp only [Option.some.injEq,Prod.mk.injEq]at d;obtain⟨rfl,B,rfl⟩ :=d;have hl:LeadsM P 0 (start P f args).as s1:=z.trans (fZ m (fun p y=>G.mem p y));obtain⟨Z,g,M,w',N,h,l,X,x⟩ :=hl (by rw [e3];exact Nat.le_refl _) (embOf w) _ [] w k K (by rw [e2];rfl) (by rw [e3];exact aHU w);rw [n]at l;have:=l.nil_inv;subst this;obtain⟨Y,J,I⟩ :=qZ X h.tm s;simp only [aAH,VR]at I;subst I;have F:=h.mode;rw [D]at F;simp only [MR]at F;have j:=h.defers;rw [A]at j;rw [e3]at x;have u:∀ {b o},¬ (⟨.leaf,0⟩ :Hp).look b=some o:=fun {b o} e=>by simp [Hp.look,T.at_leaf]at e
             refine⟨.returned (.bool b),w',g,⟨rfl,⟨x.os,x.output,fun i W=>?_⟩,x.froz,x.size⟩,N,by rw [h.fn,B],F,j.nil_inv,by rw [h.kind,q],V,by rw [h.fn];exact C,J⟩;have:=x.keep i W (fun b o L e=>absurd e u);rw [this];cases w.heap[i]? with
             |none=>rfl
             |some ob=>cases ob<;>simp
           ·cases d
         ·cases d
       ·cases d
     ·cases d
   ·cases hb
 ·cases hb
theorem cW {f:Nat}{args:List AV}{b:Bool}{cargs:List Value}(L:List Pf)(is:List Ins)(w:World)(hv:VRs (embOf w) args cargs)(hb:nR P f=true:=by kernel_rfl)(hk:keylessL args=true:=by kernel_rfl)(h0:aUT P is (start P f args) =some (.bool b,f,L.map Pf.p) :=by kernel_rfl) :
    Calls P f ⟨cargs⟩ w fun e w'=>e= .returned (.bool b) ∧GrownO w w':=aLb hb hk h0 (aVB L) w hv
theorem cL {f:Nat}{args:List AV}{b:Bool}{cargs:List Value}{t:TS}(hl:LeadsM P 0 (start P f args).as t.as)(L:List Pf)(is:List Ins)(w:World)(hv:VRs (embOf w) args cargs)(hb:nR P f=true:=by kernel_rfl)(hk:keylessL args=true:=by kernel_rfl)(h0:aUT P is t=some (.bool b,f,L.map Pf.p) :=by kernel_rfl) :
    Calls P f ⟨cargs⟩ w fun e w'=>e= .returned (.bool b) ∧GrownO w w':=aD5 hb hk hl h0 (aVB L) w hv
end
theorem aUU {cons:List Con}{x:Node}(h:FineN cons x)(hk:x.kids.length≤10)(hl:x.pats.length≤900) :bFq x:=by
 refine⟨by omega,?_⟩;have:=vN x.pats (fun q a=>by have:= (h.pats q a).1;omega);omega
mutual
theorem aZo {B:Int}:∀ (t:XT) (a:Nat),FineX B t→∀x∈eB t a,x.pats.length≤900
 | .mk o n c d,a,b,x,h=>by
  simp only [FineX]at b;simp only [eB,zq7]at h;rcases h with rfl|h
  ·exact b.2.2.2.2.2.1.2.1
  ·exact aDj c (a+1) b.2.2.2.2.2.2 x h
theorem aDj {B:Int}:∀ (b:List XT) (a:Nat),FineXs B b→∀x∈ (bE b a).2,x.pats.length≤900
 | [],a,_,x,h=>by simp [bE]at h
 | t::b,a,c,x,h=>by
  simp only [FineXs]at c;simp only [bE,zq28]at h;rcases h with h|h
  ·exact aZo t a c.1 x h
  ·exact aDj b _ c.2 x h
end
theorem aUV {B:Int}{ts:List XT}{mn:Int}{cons:List Con}(a:FineXs B ts)(d:oG (zX cons) ts)(g:aD ts≤1000000)(hl:ts.length≤320)(hc:cons.length<1000000) :FitP (bK ts mn cons) :=by
 have hk:=nG ts 0;have h:=pO ts 0;refine⟨by simp only [bK,aQO];omega,by simp only [bK,aQO];omega,hc,fun x b=>?_⟩;obtain⟨i,e,rfl⟩ :=List.getElem_of_mem b;obtain⟨c,f,_⟩ :=aDg ts 0 a d i _ (kF e);exact aUU c f (aDj ts 0 a _ b)
end
end Go.Hb
