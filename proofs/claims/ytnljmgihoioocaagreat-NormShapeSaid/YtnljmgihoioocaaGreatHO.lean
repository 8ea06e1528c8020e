/- A machine on abstract values, its soundness, ways, plain laws. -/
import Derived.Test.YtnljmgihoioocaaGreatHF
import Derived.Test.YtnljmgihoioocaaGreatHG
import Derived.Test.YtnljmgihoioocaaGreatHH
import Derived.Test.YtnljmgihoioocaaGreatHJ
import Derived.Test.YtnljmgihoioocaaGreatHK
import Derived.Test.YtnljmgihoioocaaGreatHL
import Derived.Test.YtnljmgihoioocaaGreatHM
import Derived.Test.YtnljmgihoioocaaGreatHN
set_option linter.defProp false
set_option linter.unusedVariables false
set_option linter.unusedSimpArgs false
set_option linter.unusedSectionVars false
set_option maxRecDepth 100000
set_option maxHeartbeats 2000000
namespace Go.Hb
open AV (ilst int keylessL)
open Int (add_zero natCast_zero toNat)
open List (count_append getElem?_set range range' replicate)
open Go.Proofs Tryz
noncomputable section
theorem aGP {p:Prog}{Z:List Int}(c:Sprop p Z){i:Nat}{x:Node}(f:p.nodes[i]?=some x) :∀ (t:List Int) (j:Nat) (l:List Int) (P:Nat→Prop),x.kids.drop j=t→l.length=p.nodes.length→P i→ (∀m,P m→l[m]?=Z[m]?) →∀m,(P m∨∃k∈t,k.toNat=m) → (jU x i j t l)[m]?=Z[m]?
 | [],j,l,P,h,hl,d,a,m,hm=>by
  rcases hm with hm| ⟨k,hk,_⟩
  ·exact a m hm
  ·cases hk
 | k ::t,j,l,P,h,hl,d,a,m,hm=>by
  obtain⟨o,u,_⟩ :=bI h;obtain⟨s,v,n⟩ :=c.kid i x j k f o;have r:l.getD i 0=s:=by rw [nY,a i d,v];rfl
  have b:k.toNat<l.length:=by have:= (zq0.1 n).1;rw [hl,←c.len];exact this
  rw [jU,r];refine aGP c f t (j+1) (l.set k.toNat (s+dJ x j)) (fun m=>P m∨k.toNat=m) u (by simpa using hl) (.inl d) (fun m hm=>?_) m ?_
  · rw [getElem?_set];by_cases g:k.toNat=m
    ·rw [if_pos g,if_pos b,←g,n]
    · rw [if_neg g];rcases hm with hm|hm
      ·exact a m hm
      ·exact absurd hm g
  · rcases hm with hm| ⟨q,hk,e⟩
    ·exact .inl (.inl hm)
    · rcases zq7.1 hk with rfl|hk
      ·exact .inl (.inr e)
      ·exact .inr ⟨q,hk,e⟩
theorem aDU {p:Prog}{Z:List Int}(r:Sprop p Z)(hc:zS p) :∀ (t:List Node) (i:Nat) (l:List Int),p.nodes.drop i=t→l.length=p.nodes.length →
  (∀m,((∃f∈p.funs,f.toNat=m) ∨∃ (a:Nat) (x:Node) (k:Int),p.nodes[a]?=some x∧k∈x.kids∧k.toNat=m∧a<i) →l[m]?=Z[m]?) →∀m,m<p.nodes.length→ (iO i t l)[m]?=Z[m]?
 | [],i,l,h,hl,j,m,hm=>by
  have:=bL h;rcases hc m hm with b| ⟨a,x,k,b,d,c,o⟩
  ·exact j m (.inl b)
  ·exact j m (.inr ⟨a,x,k,b,d,c,by omega⟩)
 | x :: t,i,l,h,hl,j,m,hm=>by
  obtain⟨n,u,w⟩ :=bI h;rw [iO];have v:i<p.nodes.length:= (zq0.1 n).1;refine aDU r hc t (i+1) _ u (by rw [qF,hl]) (fun s q=>?_) m hm;refine aGP r n x.kids 0 l (fun m=> (∃f∈p.funs,f.toNat=m) ∨∃ (a:Nat) (x:Node) (k:Int),p.nodes[a]?=some x∧k∈x.kids∧k.toNat=m∧a<i) rfl hl ?_ j s ?_
  · rcases hc i v with b| ⟨a,y,k,b,d,c,o⟩
    ·exact .inl b
    ·exact .inr ⟨a,y,k,b,d,c,o⟩
  · rcases q with b| ⟨a,y,k,b,d,c,o⟩
    ·exact .inl (.inl b)
    · by_cases g:a<i
      ·exact .inl (.inr ⟨a,y,k,b,d,c,g⟩)
      · have e:a=i:=by omega
        subst e;rw [n]at b;cases b;exact .inr ⟨k,d,c⟩
theorem aGQ :∀ (t:List Int) (l:List Int),(∀f∈t,f.toNat<l.length) →∀m,((∃f∈t,f.toNat=m) ∨l[m]?=some 1) → (nF t l)[m]?=some 1
 | [],l,_,m,hm=>by
  rcases hm with⟨f,b,_⟩ |hm
  ·cases b
  ·exact hm
 | a ::t,l,hb,m,hm=>by
  rw [nF];have c:=hb a (cQ ..);refine aGQ t _ (fun f b=>by rw [fN];exact hb f (cH _ b)) m ?_;by_cases g:a.toNat=m
  ·exact .inr (by rw [getElem?_set,if_pos g,if_pos c])
  · rcases hm with⟨f,b,e⟩ |hm
    · rcases zq7.1 b with rfl|b
      ·exact absurd e g
      ·exact .inl ⟨f,b,e⟩
    ·exact .inr (by rw [getElem?_set,if_neg g];exact hm)
theorem aUP {p:Prog}(hp:FineP p){Z:List Int}(b:Sprop p Z)(hc:zS p) :kJ p=Z:=by
 have hl: (nF p.funs (replicate p.nodes.length 0)).length=p.nodes.length:=by rw [vG];simp
 apply List.ext_getElem?;intro m;by_cases hm:m<p.nodes.length
 · refine aDU b hc p.nodes 0 _ rfl hl (fun d c=>?_) m hm;rcases c with⟨f,a,e⟩ | ⟨g,_,_,_,_,_,h⟩
   · have:=hp.funs f a;rw [aGQ p.funs _ (fun f a=>by have:=hp.funs f a;simp;omega) d (.inl ⟨f,a,e⟩),←e,b.root f a]
   ·omega
 ·rw [aEQ (by rw [aA1];omega),aEQ (by rw [b.len];omega)]
section
variable (p q:Prog) (mn:Int) (zn:List Node) (zu:List Int)
end
theorem hasS_mem {l:List bX}{s:bX}:uQ l s=true↔s∈l:=by
 simp [uQ]
theorem aCs :∀ (l pre:List bX),dO pre l=true→l.Nodup∧∀x∈l,x∉pre
 | [],pre,_=> ⟨List.nodup_nil,fun x b=>by cases b⟩
 | x::t,pre,h=>by
  simp only [dO,cP,Bool.not_eq_true']at h;obtain⟨d,c⟩ :=aCs t (pre++ [x]) h.2
  have b:x∉pre:=fun hm=>by
   have:=hasS_mem.2 hm;rw [h.1]at this;cases this
  refine⟨List.nodup_cons.2 ⟨fun hm=>c x hm (by simp),d⟩,fun y a=>?_⟩;rcases zq7.1 a with rfl|a
  ·exact b
  ·exact fun hm=>c y a (aEP _ hm)
structure Fm (p:Prog) :Prop where
 fine:FineP p
 cons:p.cons.length≤25
 dup: ((p.funs.map (pre p p.nodes.length)).flatten).Nodup
 len: ((p.funs.map (pre p p.nodes.length)).flatten).length=p.nodes.length
 into:∀x∈ (p.funs.map (pre p p.nodes.length)).flatten,0≤x∧x<p.nodes.length
 node:∀ (i:Nat) (x:Node),p.nodes[i]?=some x→aP p x=true∧x.pats.length≤10
 names: (p.cons.map Con.name).Nodup
theorem aQQ {p:Prog}(g:aF p=true)(f:aK p=true) :Fm p:=by
 have e:=g;simp only [aF,cP,decide_eq_true_eq]at e;obtain⟨⟨⟨⟨m,n⟩,l⟩,_⟩,k⟩ :=e;obtain⟨a,b,c,d⟩ :=aA4 g f;refine⟨aDQ g f,l,a,b,c,fun i x j=> ⟨d i x j,?_⟩,?_⟩
 · have h:=zq27.1 k x (kS j);simp only [bD,cP,decide_eq_true_eq]at h;omega
 · simp only [aK,cP,xU]at f;exact(aCs _ _ f.1.2.2).1
def nodeAt (p:Prog)(k:Int) :Node:= (p.nodes[k.toNat]?).getD ⟨0,0,[],[]⟩
theorem aUQ {p:Prog}{k:Int}{x:Node}(h:p.nodes[k.toNat]?=some x) :nodeAt p k=x:=by unfold nodeAt;rw [h];rfl
def yJ (p:Prog) :List Int:= (p.funs.map (pre p p.nodes.length)).flatten
def KidsAfter (p:Prog)(l:List Int) :Prop:=∀ (i:Nat) (k c:Int),l[i]?=some k→c∈eU p k→∃j,i<j∧l[j]?=some c
theorem KidsAfter.append {p:Prog}{l m:List Int}(h1:KidsAfter p l)(h2:KidsAfter p m) :KidsAfter p (l++m) :=fun i k c a hc=>by
 by_cases h:i<l.length
 · rw [hP h]at a;obtain⟨j,b,e⟩ :=h1 i k c a hc;exact⟨j,b,by rw [hP (zq0.1 e).1];exact e⟩
 · rw [iQ (by omega)]at a;obtain⟨j,b,e⟩ :=h2 _ k c a hc;exact⟨l.length+j,by omega,by rw [iQ (by omega),show l.length+j-l.length=j by omega];exact e⟩
theorem KidsAfter.flatten {p:Prog}:∀ {L:List (List Int)},(∀l∈L,KidsAfter p l) →KidsAfter p L.flatten
 | [],_=>fun i k c a _=>by simp at a
 | l::L,h=>by
  rw [aCv];exact(h l (cQ ..)).append (KidsAfter.flatten fun m hm=>h m (cH _ hm))
theorem aZa {p:Prog}(h:Fm p){k:Int}(l:0≤k)(h1:k<p.nodes.length) :∃i:Nat,(yJ p)[i]?=some k:=by
 refine zq38.1 ?_;have d: ((yJ p).map toNat).Nodup:=by
  have d:=h.dup;rw [List.nodup_iff_pairwise_ne]at d ⊢;refine List.pairwise_map.2 (d.imp_of_mem (fun {a b} ha hb hne e=>?_));have:=h.into a ha;have:=h.into b hb;exact hne (by omega)
 by_cases hm:k∈yJ p
 ·exact hm
 · have j:=tC (p.nodes.length) (k.toNat:: (yJ p).map toNat) (List.nodup_cons.2 ⟨fun f=>by
    obtain⟨y,c,e⟩ :=zq24.1 f;have:=h.into y c;exact hm ((show y=k by omega) ▸ c),d⟩) (fun x g=>by
    rcases zq7.1 g with rfl|g
    ·omega
    · obtain⟨y,c,rfl⟩ :=zq24.1 g;have:=h.into y c;omega)
   rw [mO,lB]at j;have:=h.len;unfold yJ at j;omega
structure Laid (a:Prog) (off:Nat) (p:Prog) (mf mc:List (Int×Int)) (to:List Int) :Prop where
 node:∀ (i:Nat) (k:Int),(yJ p)[i]?=some k→a.nodes[off+i]?=some (aWM mf mc to (nodeAt p k))
 to:∀ (i:Nat) (k:Int),(yJ p)[i]?=some k→aS3 to k= ((off+i:Nat) :Int)
section
variable {a p:Prog} {off:Nat} {mf mc:List (Int×Int)} {to:List Int}
theorem Laid.at (h:Laid a off p mf mc to)(hp:Fm p){k:Int}(c:0≤k)(h1:k<p.nodes.length) :0≤aS3 to k∧a.nodes[(aS3 to k).toNat]?=some (aWM mf mc to (nodeAt p k)) :=by
 obtain⟨i,b⟩ :=aZa hp c h1;have e:=h.to i k b;rw [e,kZ];exact⟨by omega,h.node i k b⟩
theorem Laid.pre (h:Laid a off p mf mc to)(hp:Fm p) :∀ (f:Nat) (k:Int),0≤k→k<p.nodes.length→p.nodes.length-k.toNat≤f→pre a f (aS3 to k) = (pre p f k).map (aS3 to)
 |0,k,g,d,i=>by omega
 | f+1,k,g,d,i=>by
  obtain⟨x,b⟩ :∃x,p.nodes[k.toNat]?=some x:= ⟨_,kR (by omega)⟩;obtain⟨j,e⟩ :=h.at hp g d;rw [aUQ b]at e;rw [Go.Hb.pre,Go.Hb.pre,b,e];simp only [eI,List.map_flatten,List.map_map,aWM];congr 2
  exact bHM (fun c hc=>by
   have:= (hp.fine.node _ _ b).2.2 c hc;exact h.pre hp f c (by omega) (by omega) (by omega))
end
structure MapsOk (p a:Prog) (mf mc:List (Int×Int)) :Prop where
 funs:∀i:Int,0≤i→i<p.funs.length→0≤mAt mf i∧mAt mf i<a.funs.length
 cons:∀ (i:Nat) (d:Con),p.cons[i]?=some d→0≤mAt mc (i:Int) ∧a.cons[(mAt mc (i:Int)).toNat]?=some d
section
variable {p a:Prog} {mf mc:List (Int×Int)}
theorem MapsOk.at (h:MapsOk p a mf mc){n:Int}(d:0≤n)(h1:n<p.cons.length) :0≤mAt mc n∧mAt mc n<a.cons.length∧eX a.cons (mAt mc n) =eX p.cons n∧a.cons[(mAt mc n).toNat]?=p.cons[n.toNat]?:=by
 have e:p.cons[n.toNat]?=some p.cons[n.toNat] :=kR (by omega);obtain⟨c,b⟩ :=h.cons n.toNat _ e;rw [show((n.toNat:Nat) :Int) =n by omega]at c b;have:= (zq0.1 b).1;refine⟨c,by omega,?_,by rw [b,e]⟩;unfold eX;rw [b,e]
end
theorem aBb {lo n:Int}(c:0≤lo) :∀ (a:List Int) (u:List Bool),(u.length:Int) =n→ (∀k∈a,lo≤k∧k<n) → (∀m:Int,0≤m→m<n→a.count m+lQ u m≤1) →∃v,marks lo n a u=some v
 | [],u,_,_,_=> ⟨u,rfl⟩
 | k ::a,u,hl,hr,hc=>by
  have hk:=hr k (cQ ..);have g:=hc k (by omega) hk.2;rw [show k::a= [k] ++a from rfl,count_append,List.count_singleton_self]at g;have h:u[k.toNat]?=some false:=by
   have b:k.toNat<u.length:=by omega
   cases hb:u[k.toNat]
   case false=>rw [kR b,hb]
   have:lQ u k=1:=by unfold lQ;rw [kR b,hb];rfl
   omega
  obtain⟨v,l⟩ :=aBb c a (u.set k.toNat true) (by rw [fN];exact hl) (fun x i=>hr x (cH _ i)) (fun m f j=>by
   have d:=hc m f j;rw [show k::a= [k] ++a from rfl,count_append]at d;by_cases e:m=k
   · subst e;have:lQ (u.set m.toNat true) m≤1:=by unfold lQ;split<;>omega
     rw [List.count_singleton_self]at d;omega
   · have:lQ (u.set k.toNat true) m=lQ u m:=by unfold lQ;rw [List.getElem?_set_ne (by omega)]
     omega)
  exact⟨v,by rw [marks,if_pos ⟨by simp [eB];omega,h⟩];exact l⟩
theorem aAw {a:Prog}:∀ (t:List Node) (i:Nat) (u:List Bool),u.length=a.nodes.length→ (∀x∈t,aP a x=true) → (∀ (j:Nat) (x:Node),t[j]?=some x→∀k∈x.kids,((i+j:Nat) :Int) <k∧k<a.nodes.length) →
  (∀m:Int,0≤m→m<a.nodes.length→ ((t.map Node.kids).flatten).count m+lQ u m≤1) →∃v,bT a i t u=some v
 | [],i,u,_,_,_,_=> ⟨u,rfl⟩
 | x::t,i,u,hl,c,hk,hc=>by
  obtain⟨w,g⟩ :=aBb (lo:= (i:Int) +1) (n:= (a.nodes.length:Int)) (by omega) x.kids u (by omega) (fun k b=>by
   have:=hk 0 x rfl k b;omega) (fun m d f=>by
   have:=hc m d f;rw [eI,aCv,count_append]at this;omega)
  obtain⟨v,l⟩ :=aAw t (i+1) w (by rw [kB g,hl]) (fun y e=>c y (cH _ e)) (fun j y e k b=>by
   have:=hk (j+1) y (by simpa using e) k b;omega) (fun m d f=>by
   have h:=hc m d f;have o:=jV (m:=m) (by omega) d g;rw [eI,aCv,count_append]at h;omega)
  exact⟨v,by rw [bT,if_pos (c x (cQ ..)),g];exact l⟩
def toL (p:Prog)(off:Nat) :List Int:=aYp (replicate p.nodes.length 0) off (yJ p)
section
variable {p :Prog}
end
theorem aCt :∀ (l pre:List bX),l.Nodup→ (∀x∈l,x∉pre) →dO pre l=true
 | [],_,_,_=>rfl
 | x ::t,pre,a,h=>by
  have a:=List.nodup_cons.1 a;simp only [dO,cP,Bool.not_eq_true'];refine⟨?_,aCt t (pre++ [x]) a.2 (fun y b=>?_)⟩
  · cases e:uQ pre x
    case false=>rfl
    exact absurd (hasS_mem.1 e) (h x (cQ ..))
  · rw [zq28,not_or,zq32];exact⟨h y (cH _ b),fun e=>a.1 (e ▸ b)⟩
structure Fs (p:Prog) :Prop extends Fm p where
 sm:aF p=true
 fo:aK p=true
theorem Fs.of {p:Prog}(a:aF p=true)(b:aK p=true) :Fs p:={aQQ a b with sm:=a,fo:=b}
theorem Fs.head {p:Prog}(h:Fs p) :p.nodes.length≤300∧1≤p.funs.length∧p.funs.length≤p.nodes.length∧0≤p.main∧p.main<p.funs.length∧p.cons.length≤20∧ (∀c∈p.cons,fM c=true) :=by
 have:=h.fo;simp only [aK,cP,eA,xU,decide_eq_true_eq]at this;obtain⟨⟨⟨⟨d,e⟩,a⟩,⟨b,f⟩,_⟩,_⟩ :=this;simp [eB]at e a;exact⟨d,by omega,by omega,by omega,by omega,f,fun c hc=>zq27.1 b c hc⟩
theorem Fs.scons {p:Prog}(h:Fs p){c:Con}(hc:c∈p.cons) :c.name.length≤40:=by
 have:=h.sm;simp only [aF,cP,hY]at this;simpa using zq27.1 this.1.2 c hc
section
variable {a :Prog} {N:Nat}
theorem aK2 (hN:a.nodes.length=N)(L:N≤300)(S:1≤a.funs.length)(Q:a.funs.length≤N)(T:0≤a.main)(V:a.main<a.funs.length)(C:a.cons.length≤20)(hc:∀c∈a.cons,fM c=true∧c.name.length≤40)(G: (a.cons.map Con.name).Nodup)
  (d:∀ (i:Nat) (x:Node),a.nodes[i]?=some x→aP a x=true∧bD x=true∧∀k∈x.kids,(i:Int) <k∧k<N) (s:∀f∈a.funs,0≤f∧f<N) (H:yJ a= (range N).map fun(i:Nat) => (i:Int)) :Fs a:=by
 have J:aF a=true:=by
  simp only [aF,cP,decide_eq_true_eq,hY];refine⟨⟨⟨⟨by omega,by omega⟩,by omega⟩,zq27.2 fun c h=>by simpa using(hc c h).2⟩,zq27.2 fun x w=>?_⟩;obtain⟨i,t⟩ :=zq38.1 w;exact(d i x t).2.1
 have r:FineP a:= ⟨by omega,by omega,fun i x w=>by
  obtain⟨z,y,M⟩ :=d i x w;simp only [bD,cP,decide_eq_true_eq]at y;exact⟨aJZ z,y.1.1,fun k hk=>by have:=M k hk;omega⟩,fun f Z=>by have:=s f Z;omega⟩
 refine Fs.of J ?_;have I: (yJ a).Nodup:=by
  rw [H,List.nodup_iff_pairwise_ne];refine List.pairwise_map.2 ((List.nodup_iff_pairwise_ne.1 List.nodup_range).imp fun h e=>h (by omega))
 have o:∀m:Int,0≤m→m<a.nodes.length→a.funs.count m+ ((a.nodes.map Node.kids).flatten).count m=1:=fun m B z=>by
  have O:=vI (p:=a) (q:=pre a a.nodes.length) m a.funs (fun k hk=>by
   have:=r.funs k hk;exact aC5 r m _ k this.1 this.2 (by omega))
  have U: (yJ a).map (eU a) =a.nodes.map Node.kids:=by
   refine List.ext_getElem? (fun i=>?_);rw [H,rM,rM,rM];by_cases t:i<N
   · rw [List.getElem?_range t];have:a.nodes[i]?=some a.nodes[i] :=kR (by omega);simp only [Option.map_some,this];unfold eU;rw [kZ,this]
   ·rw [aEQ (by simp;omega),aEQ (by omega)];rfl
  have X: (yJ a).count m=1:=by
   have a1:=List.nodup_iff_count.1 I m;have Y:m∈yJ a:=by rw [H];exact zq24.2 ⟨m.toNat,List.mem_range.2 (by omega),by omega⟩
   have:=List.count_pos_iff.2 Y;omega
  change (yJ a).count m=a.funs.count m+ (((yJ a).map (eU a)).flatten).count m at O
  rw [U,X]at O;omega
 have l:∀m:Int,lQ (replicate a.nodes.length false) m=0:=fun m=>by
  unfold lQ;rw [List.getElem?_replicate];by_cases g:m.toNat<a.nodes.length
  ·rw [if_pos g];rfl
  ·rw [if_neg g];rfl
 obtain⟨u,D⟩ :=aBb (lo:=0) (n:= (a.nodes.length:Int)) (Int.le_refl _) a.funs (replicate a.nodes.length false) (by rw [aIz]) (fun k hk=>by have:=s k hk;omega) (fun m B z=>by
  have:=o m B z;rw [l];omega)
 have A:=kB D;rw [aIz]at A
 obtain⟨v,K⟩ :=aAw (a:=a) a.nodes 0 u A (fun x w=>by
  obtain⟨i,t⟩ :=zq38.1 w;exact(d i x t).1) (fun j x w k hk=>by have:= (d j x w).2.2 k hk;omega) (fun m B z=>by
  have y:=jV (m:=m) (by omega) B D;have:=o m B z;rw [l]at y;omega)
 simp only [aK,cP];refine⟨⟨?_,?_⟩,?_⟩
 ·simp [eA,eB];omega
 · simp only [xU,cP,decide_eq_true_eq];exact⟨⟨zq27.2 fun c h=> (hc c h).1,C⟩,aCt _ [] G (fun x _=>by simp)⟩
 · rw [D];simp only;rw [K];unfold allT;refine zq27.2 (fun b hb=>?_);obtain⟨i,t⟩ :=zq38.1 hb;have R:=mJ K;have W:= (zq0.1 t).1;have y:=jV (m:= (i:Int)) (by omega) (by omega) D;have M:=mM (m:= (i:Int)) (by omega) K;have:=o (i:Int) (by omega) (by omega);rw [l]at y;have F:lQ v (i:Int) =1:=by omega
   unfold lQ at F;rw [kZ,t]at F;cases b
   case true=>rfl
   simp at F
end
section
variable {p a:Prog} {off:Nat} {mf mc:List (Int×Int)} {to:List Int}
end
section
variable {p q:Prog}
end
theorem aGR (a m n:Nat) : (range' a (m+n)).map (fun i=> ((i:Nat) :Int)) = (range' a m).map (fun i=> ((i:Nat) :Int)) ++ (range' (a+m) n).map (fun i=> ((i:Nat) :Int)) :=by
 rw [←aG2,←List.range'_append_1]
section
variable {P :Prog}
mutual
theorem bDe :∀ (t:XT) (a f:Nat),(∀ (j:Nat) (x:Node),(dQ t a)[j]?=some x→P.nodes[a+j]?=some x) →cB t≤f→pre P f ((a:Nat) :Int) = (range' a (cB t)).map (fun i=> ((i:Nat) :Int))
 | .mk o n b d,a,0,_,h=>by simp only [cB]at h;omega
 | .mk o n b d,a,f+1,hl,h=>by
  simp only [cB]at h;have c:=hl 0 ⟨o,n,(aW b (a+1)).1,d⟩ (by rw [dQ];rfl)
  have hk:=aGS b (a+1) f (fun j x e=>by
   have:=hl (j+1) x (by rw [dQ,lS];exact e);rw [show a+1+j=a+ (j+1)by omega];exact this) (by omega)
  rw [Nat.add_zero]at c;simp only [pre,kZ,c];rw [hk,cB,Nat.add_comm (aD b) 1,aGR];rfl
theorem aGS :∀ (b:List XT) (a f:Nat),(∀ (j:Nat) (x:Node),(aW b a).2[j]?=some x→P.nodes[a+j]?=some x) →aD b≤f→ (((aW b a).1.map (pre P f)).flatten) = (range' a (aD b)).map (fun i=> ((i:Nat) :Int))
 | [],a,f,_,_=>by simp [aW,aD]
 | t::b,a,f,hl,h=>by
  simp only [aD]at h;simp only [aW]at hl;rw [bB]at hl;have d:=bDe t a f (fun j x c=>hl j x (by rw [hP (zq0.1 c).1];exact c)) (by omega)
  have e:=aGS b (a+cB t) f (fun j x c=>by
   have:=hl (cB t+j) x (by rw [iQ (by rw [bB];omega),bB,show cB t+j-cB t=j by omega];exact c);rw [show a+cB t+j=a+ (cB t+j)by omega];exact this) (by omega)
  simp only [aW,aD,eI,aCv];rw [bB,d,e,aGR]
end
mutual
theorem aZb :∀ (t:XT) (a:Nat),(∀ (j:Nat) (x:Node),(dQ t a)[j]?=some x→P.nodes[a+j]?=some x) →IsTree P t ((a:Nat) :Int)
 | .mk o n b c,a,hl=>by
  have e:=hl 0 ⟨o,n,(aW b (a+1)).1,c⟩ (by rw [dQ];rfl);simp only [IsTree];refine⟨by omega,⟨o,n,(aW b (a+1)).1,c⟩,by rw [kZ];exact e,rfl,rfl,rfl,?_⟩
  exact aDc b (a+1) (fun j x d=>by
   have:=hl (j+1) x (by rw [dQ,lS];exact d);rw [show a+1+j=a+ (j+1)by omega];exact this)
theorem aDc :∀ (b:List XT) (a:Nat),(∀ (j:Nat) (x:Node),(aW b a).2[j]?=some x→P.nodes[a+j]?=some x) →aN P b (aW b a).1
 | [],a,_=>by simp only [aW,aN]
 | t::b,a,hl=>by
  simp only [aW]at hl ⊢;rw [bB]at hl ⊢;simp only [aN];refine⟨_,_,rfl,aZb t a (fun j x c=>hl j x (by rw [hP (zq0.1 c).1];exact c)),aDc b (a+cB t) (fun j x c=>?_)⟩;have:=hl (cB t+j) x (by rw [iQ (by rw [bB];omega),bB,show cB t+j-cB t=j by omega];exact c);rw [show a+cB t+j=a+ (cB t+j)by omega];exact this
end
end
theorem yK (ts:List XT)(mn:Int)(cs:List Con) :aN (cO ts mn cs) ts (cO ts mn cs).funs:=
 aDc ts 0 (fun j x a=>by rw [eM];exact a)
theorem rK (ts:List XT)(mn:Int)(cs:List Con) : (cO ts mn cs).nodes.length=aD ts:=by simp only [cO,aQG];rw [pK]
theorem aGT (ts:List XT)(mn:Int)(cs:List Con) : (cO ts mn cs).funs.length=ts.length:= (eY (yK ts mn cs)).symm
theorem aQR (ts:List XT)(mn:Int)(cs:List Con) :yJ (cO ts mn cs) = (range (aD ts)).map fun(i:Nat) => (i:Int) :=by
 have h:=aGS (P:=cO ts mn cs) ts 0 (aD ts) (fun j x a=>by rw [eM];exact a) (Nat.le_refl _);rw [List.range_eq_range',←h];unfold yJ;rw [rK];rfl
theorem aNH {p q:Prog}(a:p.funs.length=q.funs.length)(hc:p.cons=q.cons)(x:Node) :aP p x=aP q x:=by
 simp only [aP,eW,dT,fH,a,hc];try rfl
mutual
theorem aIu {cons:List Con}:∀ (q:Pat),eC cons q=true→rY q=true
 | .mk f n s b,h=>by
  simp only [eC,eK,cP,decide_eq_true_eq]at h;obtain⟨⟨_,rfl⟩,a⟩ :=h;simp [rY,aGU b a]
theorem aGU {cons:List Con}:∀ (a:List Pat),dA cons a=true→uS a=true
 | [],_=>rfl
 | p::a,h=>by
  simp only [dA,cP]at h;simp [uS,aIu p h.1,aGU a h.2]
end
mutual
theorem aZc {p:Prog}{Q:Node→Int→Prop}(h:∀ (o n:Int) (k:List Int) (d:List Pat) (z:Int),NdX p o n k.length d→ (o=4→n<z) →z≤30→Q ⟨o,n,k,d⟩ z) :∀ (t:XT) (a:Nat) (z:Int),WX p t→vX t z→zOk 30 t z=true→∀ (j:Nat) (x:Node) (s:Int),(dQ t a)[j]?=some x→ (zT t z)[j]?=some s→Q x s
 | .mk o n g d,a,z,f,e,hz,j,x,s,c,b=>by
  simp only [WX]at f;simp only [vX]at e;simp only [zOk,cP,decide_eq_true_eq]at hz;rw [dQ]at c;rw [zT]at b;cases j with
  | zero=>
   simp only [jK,Option.some.injEq]at c b;subst c b;exact h _ _ _ _ _ (by rw [(nK g (a+1)).1];exact f.1) e.1 hz.1
  | succ j=>
   simp only [lS]at c b;exact aSj h o d g (a+1) 0 z f.2 e.2 hz.2 j x s c b
theorem aSj {p:Prog}{Q:Node→Int→Prop}(g:∀ (o n:Int) (k:List Int) (ps:List Pat) (z:Int),NdX p o n k.length ps→ (o=4→n<z) →z≤30→Q ⟨o,n,k,ps⟩ z)(o:Int)(ps:List Pat) :∀ (c:List XT) (a i:Nat) (z:Int),jJ p c→yI o ps c i z→aCj 30 o ps c i z=true→∀ (j:Nat) (x:Node) (s:Int),(aW c a).2[j]?=some x→ (zTs o ps c i z)[j]?=some s→Q x s
 | [],a,i,z,_,_,_,j,x,s,d,_=>by simp [aW]at d
 | t ::c,a,i,z,f,e,hz,j,x,s,d,b=>by
  simp only [jJ]at f;simp only [yI]at e;simp only [aCj,cP]at hz;simp only [aW]at d;rw [zTs]at b;by_cases h:j<cB t
  · rw [hP (by rw [bB];exact h)]at d;rw [hP (by rw [oQ];exact h)]at b;exact aZc g t a _ f.1 e.1 hz.1 j x s d b
  · rw [iQ (by rw [bB];omega),bB]at d;rw [iQ (by rw [oQ];omega),oQ]at b;exact aSj g o ps c _ (i+1) z f.2 e.2 hz.2 _ x s d b
end
theorem aSk {p:Prog}{Q:Node→Int→Prop}(i:∀ (o n:Int) (k:List Int) (f:List Pat) (z:Int),NdX p o n k.length f→ (o=4→n<z) →z≤30→Q ⟨o,n,k,f⟩ z) :∀ (d:List XT) (a:Nat),jJ p d→ (∀t∈d,vX t 1) → (d.all fun t=>zOk 30 t 1) =true→∀ (j:Nat) (x:Node) (s:Int),(aW d a).2[j]?=some x→ (zF d)[j]?=some s→Q x s
 | [],a,_,_,_,j,x,s,c,_=>by simp [aW]at c
 | t ::d,a,e,g,hz,j,x,s,c,b=>by
  simp only [jJ]at e;simp only [List.all_cons,cP]at hz;simp only [aW]at c;rw [zF]at b;by_cases h:j<cB t
  · rw [hP (by rw [bB];exact h)]at c;rw [hP (by rw [oQ];exact h)]at b;exact aZc i t a _ e.1 (g t (cQ ..)) hz.1 j x s c b
  · rw [iQ (by rw [bB];omega),bB]at c;rw [iQ (by rw [oQ];omega),oQ]at b;exact aSk i d _ e.2 (fun x c=>g x (cH _ c)) hz.2 _ x s c b
theorem NdX.ok {p:Prog}{o n:Int}{k:List Int}{ps:List Pat}{z:Int}(b:NdX p o n k.length ps)(hz:o=4→n<z)(e:z≤30) :aP p ⟨o,n,k,ps⟩ =true:=by
 by_cases a:o=4
 · obtain⟨f,d,c⟩ :=b.1 a;have:=hz a;subst c a;have hk:k= [] :=zq35.1 d;subst hk;simp [aP,eW,dT,cM,eB];omega
 · have:=b.2 a;rw [←aGN];exact this
theorem aUR {p:Prog}{x:Node}(hc:∀c∈p.cons,fM c=true)(h:aP p x=true) :x.kids.length≤10∧x.pats.length≤10:=by
 have g:=h;simp only [aP,eW,cP,decide_eq_true_eq]at h;obtain⟨⟨⟨_,b⟩,_⟩,a⟩ :=h;have e:fH p x≤3:=by
  unfold fH;split
  · unfold eX;split
    · rename_i c d;have:=hc c (kS d);simp only [fM,cP,eB,decide_eq_true_eq]at this;omega
    ·omega
  ·omega
 have f:x.pats.length≤5:=by
  split at b
  ·simp [eB]at b;omega
  ·simp at b;simp [b]
 refine⟨?_,by omega⟩;unfold cM at a;split at a
 ·omega
 · split at a
   ·omega
   · split at a
     ·omega
     · split at a
       ·omega
       · split at a
         ·omega
         ·split at a<;>omega
mutual
theorem bDf :∀ (t:XT) (a i:Nat) (x:Node) (k:Int),(dQ t a)[i]?=some x→k∈x.kids→ ((a+i:Nat) :Int) <k∧k< ((a+cB t:Nat) :Int)
 | .mk o n b c,a,i,x,k,h,hk=>by
  rw [dQ]at h;simp only [cB];cases i with
  | zero=>
   simp only [jK,Option.some.injEq]at h;subst h;have:= (nK b (a+1)).2 k hk;omega
  | succ i=>
   have:=aQS b (a+1) i x k (by simpa using h) hk;omega
theorem aQS :∀ (b:List XT) (a i:Nat) (x:Node) (k:Int),(aW b a).2[i]?=some x→k∈x.kids→ ((a+i:Nat) :Int) <k∧k< ((a+aD b:Nat) :Int)
 | [],a,i,x,k,h,_=>by simp [aW]at h
 | t ::b,a,i,x,k,h,hk=>by
  simp only [aW]at h;rw [bB]at h;simp only [aD];by_cases c:i<cB t
  · rw [hP (by rw [bB];exact c)]at h;have:=bDf t a i x k h hk;omega
  · rw [iQ (by rw [bB];omega),bB]at h;have:=aQS b (a+cB t) (i-cB t) x k h hk;omega
end
theorem aK3 {p:Prog}(hp:Fs p){ts:List XT}(hl:ts.length=p.funs.length)(I:jJ p ts)(K:∀t∈ts,vX t 1)(hz:vU 30 p.cons ts=true) :
  Fs (cO ts p.main p.cons) ∧ (dD (cO ts p.main p.cons)).1=true:=by
 simp only [vU,cP,aC4,decide_eq_true_eq]at hz;obtain⟨⟨F,S⟩,Y⟩ :=hz;obtain⟨U,X,T,H,D,B,w⟩ :=hp.head;have h:=aGT ts p.main p.cons;have r:=rK ts p.main p.cons;have m:=bCW (ts:=ts) (mn:=p.main) (cons:=p.cons);have b:∀ (i:Nat) (x:Node) (s:Int),(cO ts p.main p.cons).nodes[i]?=some x→ (zF ts)[i]?=some s→aP p x=true∧ (x.op=4→x.n<s) :=fun i x s d a=>
  aSk (p:=p) (Q:=fun x s=>aP p x=true∧ (x.op=4→x.n<s)) (fun o n k C z G A L=> ⟨G.ok A L,A⟩) ts 0 I K F i x s d a
 have u:∀ (i:Nat) (x:Node),(cO ts p.main p.cons).nodes[i]?=some x→∃s,(zF ts)[i]?=some s:=fun i x d=>by
  have:= (zq0.1 d).1;exact⟨_,kR (by rw [m.len];exact this)⟩
 have J:ts.length≤aD ts:=by
  have:∀l:List XT,l.length≤aD l:=fun l=>by
   induction l with
   |nil=>simp
   |cons t l V=>obtain⟨o,n,W,C⟩ :=t;simp only [mO,aD,cB];omega
  exact this ts
 have e:=nK ts 0;have g:Fs (cO ts p.main p.cons) :=by
  refine aK2 (N:=aD ts) r (by omega) (by omega) (by omega) H (by show p.main<_;rw [h,hl];exact D) B (fun c hc=> ⟨w c hc,hp.scons hc⟩) hp.names (fun i x d=>?_) (fun f O=>?_) (aQR ..)
  · obtain⟨s,a⟩ :=u i x d;have ok:= (b i x s d a).1;have hk:=aUR (p:=p) w ok;refine⟨by rw [aNH (p:=cO ts p.main p.cons) (q:=p) (by rw [h,hl]) rfl];exact ok,?_,?_⟩
    · simp only [bD,fV,cP,decide_eq_true_eq];refine⟨⟨hk.1,hk.2⟩,zq27.2 fun q M=>?_⟩;simp only [aP,cP]at ok;have:=zq27.1 ok.1.2 q M;simp only [iL,cP,decide_eq_true_eq]at this;simp only [uT,cP,decide_eq_true_eq];exact⟨by omega,aIu q this.2⟩
    · intro k hk;have R:=aQS ts 0 i x k d hk;omega
  · have:=e.2 f O;omega
 refine⟨g,?_⟩;unfold dD;rw [if_pos g.fo];have hZ:=aUP g.fine m aUO;simp only;rw [hZ];refine(pG _ _ _ 0).2 fun j y=>?_;rw [eM];obtain⟨s,a⟩ :∃s,(zF ts)[j]?=some s:= ⟨_,kR y⟩;obtain⟨x,d⟩ :∃x,(cO ts p.main p.cons).nodes[j]?=some x:= ⟨_,kR (by rw [←m.len];exact y)⟩;have:= (b j x s d a).2;simp only [nG,d,a,Bool.not_eq_true',Bool.and_eq_false_iff,decide_eq_false_iff_not];by_cases v:x.op=4
 ·exact .inr (by have:=this v;omega)
 ·exact .inl v
abbrev aZd (a:Prog)(b:List Node)(c:List Int)(d:Int)(e:List Con)(f:List Node):=aA [oC 0 [(iN a.nodes),(iI a.funs),(nI a.main),(iC a.cons)],oC 1 [.nils,.nils,(nI 0),.nils],oC 2 [(.gl 3 4 0 b.length false),(.gl 4 1 0 c.length false),(nI d),(iC e)],oL 4 1 (jI c),oL 5 4 (jN (b++f))] 6
abbrev aQT (a:Nat)(b:List Node)(c:List Int)(d:Int)(e:List Con):=oC a [(.gl 3 4 0 b.length false),(.gl 4 1 0 c.length false),(nI d),(iC e)]
abbrev aQU (a:Nat)(b:Prog):=oC a [(iN b.nodes),(iI b.funs),(nI b.main),(iC b.cons)]
abbrev aQV (a:Nat):=oC a [.nils,.nils,(nI 0),.nils]
def bEd(a:Prog):TS:=cA PP 26 [(Prog.av a)] [] 0
def aGV(a:Prog)(d:Int)(e:List Con)(f:Int)(b:List Node)(c:List Int):TS:=⟨(tf 26 41 [kp 1 0,kp 2 1,kp 3 2,(4,(nI f))] [kc f26 116,kl f26 116,.inBlock 0,kc f26 15]),[],[aQU 0 a,aQV 1,aQT 2 b c d e,oL 3 4 (jN b),oL 4 1 (jI c)],5⟩
def aZe(a:Prog)(d:Int)(e:List Con)(f:Int)(b:List Node)(c:List Int):TS:=⟨(tf 26 41 [kp 1 0,kp 2 1,kp 3 2,(4,(nI f))] [kc f26 1865,.inBlock 1,kc f26 467,kl f26 116,.inBlock 0,kc f26 15]),[],[aQU 0 a,aQV 1,aQT 2 b c d e,oL 3 4 (jN b),oL 4 1 (jI c)],5⟩
def bDg (c:Prog):=fun a b d=>(tT 0 (bEd c)<|.y fun a:Int=>.y fun b:List Con=>gp 8 59 [(Prog.av c)] (.agg [.nils,.nils,(nI a),(iC b)])<|.i [rn 10,.cnil 2 0 4] []<|gu 0 3 (jN ([] :List Node))<|gv 0 2 0 (.gl 3 4 0 ([] :List Node).length false)<|.i [.cnil 2 1 1] []<|gu 0 4 (jI ([] :List Int))<|gv 0 2 1 (.gl 4 1 0 ([] :List Int).length false)<|.W 0 5 [0,1,2,3,4] (aGV c a b 0 ([] :List Node) ([] :List Int))) a b d ⟨kk,⟨kk,trivial⟩⟩
def aZf(c:Prog)(d:Int)(e:List Con)(f:Int)(a:List Node)(b:List Int):=tT 0 (aGV c d e f a b)<|gl 6 cC c.funs<|gd 2 11 (f< (c.funs.length:Int)) (ga 12 cC b [(a.length:Int)]<|.W 3 7 [0,1,2,3,6] (aZe c d e f a (b++ [(a.length:Int)])))<|gy 3 2 0 3 4 Node.av a false<|gy 0 2 1 4 1 cC b false<|gE 5 5 (.agg [(iN a),(iI b),(nI d),(iC e)])
def bDh:=fun a b c d e f g i=>aZf a b c d e f|>.t g i ⟨kk,⟨kk,trivial⟩⟩
def bDi:=fun a b c d e f g=>aZf a b c d e f|>.f g tv
def bDj (a:Prog)(f:Int)(g:List Con)(i:Int)(b:List Node)(c:List Int):=fun d j k e l m n o p q=>(tT 0 (aZe a f g i b c)<|.y fun d:Int=>.y fun j:List Int=>.y fun k:List Int=>.y fun e:List Node=>.i [.reg (rd 6 (.ans (.idx (cC d))::rd 3 [.ans (.len (a.funs.length:Int)),.pure (iI j),.d,.d,.ans (.len (a.cons.length:Int)),.pure (iI k),.call (.gl 5 4 0 (b++e).length false) (aZd a b c f g e),.d,.d]))] [hA (0≤i),.a (((a.funs)[i.toNat]?) =some d) (bC (f:=cC)),hl cC a.funs,hA (aM PP 61 [(nI 0),(nI (a.funs.length:Int))] (iI j)),hl Con.av a.cons,hA (aM PP 61 [(nI 0),(nI (a.cons.length:Int))] (iI k)),hA (Spec PP (.enter 60 [(.gl 3 4 0 b.length false),(Prog.av a),(nI d),(iI j),(iI k)]) (aA [aQU 0 a,aQV 1,aQT 2 b c f g,oL 3 4 (jN b),oL 4 1 (jI c)] 5) (.ret (.gl 5 4 0 (b++e).length false)) (aZd a b c f g e)),.q (p:=(nI ((jC a.cons).length:Int)) = (nI (a.cons.length:Int))) (congrArg (int .i64) (aAt _ _)),.q (p:=(nI ((jC a.cons).length:Int)) = (nI (a.cons.length:Int))) (congrArg (int .i64) (aAt _ _)),hr (ilst 2 (jC a.cons) false),hr (ilst 2 (jC a.cons) false),hr (nI d),hr (nI d),hr (nI d),hr (ilst 1 (jI a.funs) false),hr (ilst 1 (jI a.funs) false),hr (ilst 1 (jI a.funs) false),hr (Prog.av a),hr (Prog.av a),hr (Prog.av a),hr (AV.gl 3 4 0 b.length false),hr (AV.gl 3 4 0 b.length false),hr (AV.gl 3 4 0 b.length false)]<|gw 4 13 (i+1)<|.W 3 6 [0,1,2,5,4] (aGV a f g (i+1) (b++e) c)) d j k e l m n o p q ⟨kk,⟨kk,trivial⟩⟩
theorem aNI (p:Prog)(k:Nat)(mn:Int)(cs:List Con)(g:p.funs.length<1000000)(hc:p.cons.length<1000000) :∀ (t:List Int) (i:Nat) (l:List Node) (fs b:List Int) (r:List Node),p.funs.drop i=t→fs.length=i→i≤p.funs.length →
  yE (mL p (numsL 0 p.funs.length) (numsL 0 p.cons.length) k) l.length t=some (b,r) →
  LeadsM PP 0 (aGV p mn cs (i:Int) l fs).as (aGV p mn cs ((p.funs.length:Nat) :Int) (l++r) (fs++b)).as
 | [],i,l,fs,b,r,h,hl,q,hm=>by
  have:=bL h;obtain rfl:i=p.funs.length:=by omega
  cases hm;rw [vZ,vZ];exact LeadsM.refl _
 | c ::t,i,l,fs,b,r,h,hl,q,hm=>by
  obtain⟨m,s,v⟩ :=bI h;simp only [yE]at hm;split at hm
  · rename_i f d;split at hm
    · rename_i a j e;cases hm;have o:=bDh p mn cs i l fs sd (by simp;omega);have u:=bDj p mn cs i l (fs++ [((l.length:Nat) :Int)]) c _ _ f sd (by simpa using m) (aIk 0 p.funs.length g (by omega) (by omega)) (aIk 0 p.cons.length hc (by omega) (by omega)) (aX4 d mn cs _) sd;have n:=aNI p k mn cs g hc t (i+1) (l++f) (fs++ [((l.length:Nat) :Int)]) a j s (by simp [hl]) (by omega) (by rw [vP];exact e);rw [show fs++ ((l.length:Nat) :Int) ::a= (fs++ [((l.length:Nat) :Int)]) ++a by simp,←zq9 l f j];exact o.trans (u.trans n)
    ·cases hm
  ·cases hm
theorem aQW {p q:Prog}{k:Nat}(b:p.funs.length<1000000)(hc:p.cons.length<1000000)(h:aED p k=some q) :aM PP 26 [PA p] (PA q) :=by
 unfold aED at h;split at h
 · rename_i a r hm;cases h;refine yF (s:=bEd p) aC aC (by simp [keylessL,AV.keyless]) (by simp [keylessL,AV.keyless]) ?_;exact((bDg p p.main p.cons (aX3 (by omega))).trans (aNI p k p.main p.cons b hc p.funs 0 [] [] a r rfl rfl (Nat.zero_le _) hm)).ends (bDi p p.main p.cons _ _ _ (by simp))
 ·cases h
mutual
theorem bDk {cons:List Con}:∀ (q:Pat),eC cons q=true→aQs (numsL 0 cons.length) q=some q
 | .mk f n s c,h=>by
  simp only [eC,cP]at h;have e:aRK (numsL 0 cons.length) f n=some n:=by
   unfold aRK;by_cases a:f=6
   · have b:=h.1;simp [eK,a,eB]at b;rw [if_pos a,if_pos (by omega),zU 0 (by omega)];simp;omega
   ·rw [if_neg a]
  simp only [aQs,e,aGW c h.2]
theorem aGW {cons:List Con}:∀ (a:List Pat),dA cons a=true→aCe (numsL 0 cons.length) a=some a
 | [],_=>rfl
 | p::a,h=>by
  simp only [dA,cP]at h;simp only [aCe,bDk p h.1,aGW a h.2]
end
theorem aIv {cons:List Con}:∀ {a:List Pat},(∀q∈a,eC cons q=true) →dA cons a=true
 | [],_=>rfl
 |p::a,h=>by simp only [dA,cP];exact⟨h p (cQ ..),aIv fun q b=>h q (cH _ b)⟩
theorem bG1 {p:Prog}{x:Node}(h:aP p x=true)(e:p.funs.length<1000000) :mN (numsL 0 p.funs.length) (numsL 0 p.cons.length) x.op x.n=some x.n:=by
 simp only [aP,eW,dT,cP]at h;have b:=h.1.1.1;unfold mN;by_cases c:x.op=4
 · by_cases d:x.n<0
   · simp [c,eB]at b;rw [if_pos ⟨c,d⟩,zU 0 (by omega)];simp only;rw [if_pos (by omega)];congr 1;omega
   ·rw [if_neg (by omega),if_neg (by omega)]
 · rw [if_neg (by omega)];by_cases a:x.op=14
   · simp [a,eB]at b;rw [if_pos a,if_pos (by omega),zU 0 (by omega)];simp;omega
   ·rw [if_neg a]
section
variable {p :Prog} (hfs:Fs p)
include hfs
mutual
theorem aQX :∀ (t:XT) (a:Int) (k len:Nat),IsTree p t a→cB t≤k→len+cB t≤1000→mL p (numsL 0 p.funs.length) (numsL 0 p.cons.length) k len a=some (dQ t len)
 | .mk o n g m,a,0,len,_,h,_=>by simp only [cB]at h;omega
 | .mk o n g m,a,k+1,len,j,h,hl=>by
  simp only [cB]at h hl;simp only [IsTree]at j;obtain⟨l,nd,e,rfl,rfl,rfl,s⟩ :=j;have d:= (hfs.node _ nd e).1;have f:= (hfs.fine.node _ nd e);obtain⟨_,_,_,_,_,u,_⟩ :=hfs.head
  have b:∀q∈nd.pats,bZ q≤12∧eC p.cons q=true:=fun q c=>by
   have:=d;simp only [aP,cP]at this;have:=zq27.1 this.1.2 q c;simpa only [iL,cP,decide_eq_true_eq]using this
  have r:=vN nd.pats (fun q c=>by have:= (b q c).1;omega);have i:= (hfs.node _ nd e).2;have hk:=aDd g nd.kids k (len+1) s (by omega) (by omega);rw [mL,if_pos ⟨l,by omega⟩,e];simp only;rw [if_pos ⟨by omega,by omega⟩,bG1 d (by have:=hfs.fine.fsmall;omega)];simp only;rw [aGW nd.pats (aIv fun q c=> (b q c).2)];simp only;rw [hk,dQ]
theorem aDd :∀ (a:List XT) (l:List Int) (k len:Nat),aN p a l→aD a≤k→len+aD a≤1000→yE (mL p (numsL 0 p.funs.length) (numsL 0 p.cons.length) k) len l=some ((aW a len).1,(aW a len).2)
 | [],l,k,len,h,_,_=>by simp only [aN]at h;subst h;rfl
 | t::a,l,k,len,h,hk,hl=>by
  simp only [aD]at hk hl;simp only [aN]at h;obtain⟨c,e,rfl,d,f⟩ :=h;have b:=aQX t c k len d (by omega) (by omega);have g:=aDd a e k (len+cB t) f (by omega) (by omega);simp only [yE];rw [b];simp only;rw [bB,g];simp only [aW,bB]
end
theorem aDV {ts:List XT}(b:aN p ts p.funs) :aM PP 26 [Prog.av p] (Prog.av (cO ts p.main p.cons)) :=by
 have f:=aA5 hfs.sm hfs.fo b;have a:=hfs.head.1;have e:=aDd hfs ts p.funs (aD ts) 0 b (Nat.le_refl _) (by omega);have c:aED p (aD ts) =some (cO ts p.main p.cons) :=by
  unfold aED;rw [e];rfl
 have d:=hfs.fine.fsmall;have hc:=hfs.head.2.2.2.2.2.1;exact aQW (by omega) (by omega) c
end
theorem bDl {mo:Int}:∀ {t:XT} {z:Int},zOk mo t z=true→z≤mo
 | .mk o n a b,z,h=>by simp only [zOk,cP,decide_eq_true_eq]at h;exact h.1
theorem zOk_cl {mo:Int}:∀ {bs:List XT} {t:XT} {z:Int},zOk mo (clB bs t) z=true↔ (∀ (j:Nat) (x:XT),bs[j]?=some x→zOk mo x (z+ (j:Int)) =true∧z+ (j:Int) ≤mo) ∧zOk mo t (z+ (bs.length:Int)) =true
 | [],t,z=>by simp [clB]
 | a ::bs,t,z=>by
  simp only [clB,zOk,aCj,cP,decide_eq_true_eq,Bool.and_true];rw [natCast_zero,show(((0+1:Nat)) :Int) =1 from rfl,(oV []).1,(oV []).2,add_zero,zOk_cl (bs:=bs)];constructor
  · rintro⟨c,d,h,g⟩
    refine⟨fun j x b=>?_,by rw [mO,show z+ ((bs.length+1:Nat) :Int) =z+1+ (bs.length:Int)by omega];exact g⟩;cases j with
    |zero=>simp only [jK,Option.some.injEq]at b;subst b;simp only [natCast_zero,add_zero];exact⟨d,c⟩
    | succ j=>
     have:=h j x (by simpa using b);rw [show z+ ((j+1:Nat) :Int) =z+1+ (j:Int)by omega];exact this
  · rintro⟨c,d⟩
    obtain⟨f,e⟩ :=c 0 a rfl;simp only [natCast_zero,add_zero]at f e;refine⟨e,f,fun j x b=>?_,by rw [mO,show z+ ((bs.length+1:Nat) :Int) =z+1+ (bs.length:Int)by omega]at d;exact d⟩;have:=c (j+1) x (by simpa using b);rw [show z+ ((j+1:Nat) :Int) =z+1+ (j:Int)by omega]at this;exact this
theorem zOks_iff {mo o:Int}{ps:List Pat}:∀ {ts:List XT} {i:Nat} {z:Int},aCj mo o ps ts i z=true↔∀ (j:Nat) (t:XT),ts[j]?=some t→zOk mo t (z+bK o ps ((i+j:Nat) :Int)) =true
 | [],i,z=>by simp [aCj]
 | t ::ts,i,z=>by
  simp only [aCj,cP,zOks_iff (ts:=ts)];refine⟨fun h j x a=>?_,fun h=> ⟨h 0 t rfl,fun j x a=>?_⟩⟩
  · cases j with
    |zero=>simp only [jK,Option.some.injEq]at a;subst a;exact h.1
    |succ j=>rw [show i+ (j+1) =i+1+j by omega];exact h.2 j x (by simpa using a)
  · have:=h (j+1) x (by simpa using a);rw [show i+ (j+1) =i+1+j by omega]at this;exact this
theorem aSl (o:Int)(ps:List Pat) :∀ (b:List XT) (i:Nat) (a:List Int) (n:Int) (j:Nat) (x:XT),b[j]?=some x→ (vW o ps b i 0 a n)[j]?=some (clF (eF x (plc a n (bK o ps ((i+j:Nat) :Int))) (n+bK o ps ((i+j:Nat) :Int))))
 | [],_,_,_,_,_,h=>by simp at h
 | k::b,i,a,n,0,x,h=>by
  simp only [jK,Option.some.injEq]at h;subst h;simp only [vW,jK,Nat.add_zero]
 | k::b,i,a,n,j+1,x,h=>by
  simp only [vW,lS];rw [aSl o ps b (i+1) a n j x (by simpa using h),show i+ (j+1) =i+1+j by omega]
theorem aGX :∀ (b:List XT) (m:Nat) (a:List Int) (z:Int),m≤b.length→ (mR b m a z).2.length=m
 | [],m,a,z,h=>by simp at h;subst h;simp [mR]
 |k::b,0,a,z,_=>by simp [mR]
 | k::b,m+1,a,z,h=>by
  simp only [mO]at h;simp only [mR];split
  ·simp only [mO,aGX b m a z (by omega)]
  ·simp only [mO,aGX b m a _ (by omega)]
theorem aZg {p:Prog}{mo e:Int}(l:e≤mo) :∀ (c:List XT) (m:Nat) (a:List Int) (z:Int),jJ p c→e≤z→ (∀x∈c,∀ (t:List Int) (s:Int),e≤s→zOk mo (clF (eF x t s)) s=true→zOk mo x e=true) →
  (∀ (j:Nat) (x:XT),(mR c m a z).1[j]?=some x→zOk mo x (z+ (j:Int)) =true∧z+ (j:Int) ≤mo) →∀ (j:Nat) (x:XT),j<m→c[j]?=some x→zOk mo x e=true
 | [],_,_,_,_,_,_,_,j,x,_,h=>by simp at h
 |k::c,0,_,_,_,_,_,_,j,x,u,_=>by omega
 | k ::c,m+1,a,z,g,hz,r,d,j,x,u,b=>by
  simp only [jJ]at g;simp only [mR]at d;by_cases q:bJ k=true
  · rw [if_pos q]at d;cases j with
    | zero=>
     simp only [jK,Option.some.injEq]at b;subst b;obtain⟨o,n,kk,v⟩ :=k;have:=g.1.kids0 q;subst this;simp only [zOk,aCj,Bool.and_true,decide_eq_true_eq];exact l
    |succ j=>exact aZg l c m a z g.2 hz (fun x b=>r x (cH _ b)) d j x (by omega) (by simpa using b)
  · rw [if_neg q]at d;have hA:zOk mo (clF (eF k a z)) z=true:=by
     refine zOk_cl.2 ⟨fun i y f=>?_,?_⟩
     ·exact d i y (by simp only;rw [hP (zq0.1 f).1];exact f)
     ·exact(d (eF k a z).binds.length (eF k a z).last (by simp)).1
    cases j with
    | zero=>
     simp only [jK,Option.some.injEq]at b;subst b;exact r k (cQ ..) a z hz hA
    | succ j=>
     refine aZg l c m a (z+ ((eF k a z).binds.length+1:Nat)) g.2 (by omega) (fun x b=>r x (cH _ b)) (fun i y f=>?_) j x (by omega) (by simpa using b)
     have:=d ((eF k a z).binds.length+1+i) y (by
      simp only;rw [iQ (by omega),show(eF k a z).binds.length+1+i- (eF k a z).binds.length=i+1 by omega,lS];exact f)
     rw [show z+ ((eF k a z).binds.length+1:Nat) + ((i:Nat) :Int) =z+ (((eF k a z).binds.length+1+i:Nat) :Int)by omega];exact this
theorem aGY {p:Prog}{mo:Int}:∀ (k:Nat) (t:XT),cB t≤k→WX p t→∀ (d:List Int) (z g:Int),g≤z→zOk mo (clF (eF t d z)) z=true→zOk mo t g=true
 |0,.mk o n c ps,hk,_,_,_,_,_,_=>by simp only [cB]at hk;omega
 | k + 1, .mk o n c ps,hk,e,d,z,g,hz,h=>by
  simp only [cB]at hk;have D:=e;simp only [WX]at e;have I:=bDl h;have H:g≤mo:=by omega
  simp only [zOk,cP,decide_eq_true_eq];refine⟨H,?_⟩;rw [eF]at h;by_cases C:bJ (.mk o n c ps) =true
  · have:=D.kids0 C;subst this;rfl
  · rw [if_neg C]at h;by_cases s:o=7
    · rw [if_pos s]at h;obtain⟨rfl,rfl,hl⟩ :=e.1.let7 s;subst s
      match c,hl with
      | [a, b],_=>
       simp only [jJ]at e;simp only [aD]at hk;simp only [flL,flB,clF]at h;obtain⟨l,r⟩ :=zOk_cl.1 h;have hA:zOk mo (clF (eF a d z)) z=true:=zOk_cl.2 ⟨fun i y f=>l i y (by rw [hP (zq0.1 f).1];exact f),(l (eF a d z).binds.length (eF a d z).last (by simp)).1⟩;have ga:=aGY k a (by omega) e.2.1 d z g hz hA;have hB:zOk mo (clF (eF b (d++ [z+ ((eF a d z).binds.length:Nat)]) (z+ ((eF a d z).binds.length+1:Nat)))) (z+ ((eF a d z).binds.length+1:Nat)) =true:=by
        refine zOk_cl.2 ⟨fun i y f=>?_,?_⟩
        · have:=l ((eF a d z).binds.length+1+i) y (by
           rw [iQ (by omega),show(eF a d z).binds.length+1+i- (eF a d z).binds.length=i+1 by omega,lS];exact f)
          rw [show z+ ((eF a d z).binds.length+1:Nat) + ((i:Nat) :Int) =z+ (((eF a d z).binds.length+1+i:Nat) :Int)by omega];exact this
        · simp only [vP,mO]at r;rw [show z+ (((eF a d z).binds.length+1:Nat) :Int) + ((eF b (d++ [z+ ((eF a d z).binds.length:Nat)]) (z+ ((eF a d z).binds.length+1:Nat))).binds.length:Int) =z+ (((eF a d z).binds.length+ ((eF b (d++ [z+ ((eF a d z).binds.length:Nat)]) (z+ ((eF a d z).binds.length+1:Nat))).binds.length+1) :Nat) :Int)by omega];exact r
       have M:=aGY k b (by omega) e.2.2.1 _ _ (g+1) (by omega) hB;simp only [aCj,cP,Bool.and_true];rw [natCast_zero,show(((0+1:Nat)) :Int) =1 from rfl,(oV []).1,(oV []).2,add_zero];exact⟨ga,M⟩
    · rw [if_neg s]at h;simp only [clF]at h;obtain⟨l,r⟩ :=zOk_cl.1 h;simp only [zOk,cP,decide_eq_true_eq]at r;have K:=zOks_iff.1 r.2;have w:aT o c.length≤c.length:=by
       by_cases F:o=4
       ·exact absurd ((atomX_iff (t:=.mk o n c ps)).2 (.inr (.inr (.inr F)))) C
       · have:=aQv (e.1.2 F);simpa using this
      refine zOks_iff.2 fun j x u=>?_;have R:=rI u;have v:=wxs_iff.1 e.2 x (kS u);rw [eM];by_cases G:j<aT o c.length
      · rw [aEG G,add_zero]
        exact aZg H c (aT o c.length) d z e.2 hz (fun y f A J Q L=>by
         obtain⟨i,O⟩ :=List.getElem?_of_mem f;have:=rI O;exact aGY k y (by omega) (wxs_iff.1 e.2 y f) A J g Q L) l j x G u
      · have S:=oH (o:=o) (ps:=ps) (fun q N=>by have:=e.1.pats q N;omega) (j:Int);have B:=aGX c (aT o c.length) d z w;have T: (c.drop (aT o c.length))[j-aT o c.length]?=some x:=by
         rw [List.getElem?_drop,show aT o c.length+ (j-aT o c.length) =j by omega];exact u
        have hr:=aSl o ps (c.drop (aT o c.length)) (aT o c.length) d (z+ ((mR c (aT o c.length) d z).1.length:Nat)) (j-aT o c.length) x T;rw [show aT o c.length+ (j-aT o c.length) =j by omega]at hr;have:=K j _ (by rw [iQ (by omega),B,flR_dropZ o ps c 0 (aT o c.length),eM];exact hr);rw [eM]at this;exact aGY k x (by omega) v _ _ _ (by omega) this
where flR_dropZ (o:Int) (ps:List Pat) :∀ (c:List XT) (i m:Nat) {d:List Int} {n:Int},vW o ps c i m d n=vW o ps (c.drop m) (i+m) 0 d n
 | [],i,m,_,_=>by simp [vW]
 |k::c,i,0,_,_=>rfl
 | k::c,i,m+1,_,_=>by
  simp only [vW,List.drop_succ_cons];rw [flR_dropZ o ps c (i+1) m,show i+1+m=i+ (m+1)by omega]
theorem bDm {p:Prog}{ts:List XT}{cs:List Con}(a:jJ p ts)(h:vU 30 cs (ts.map nfT) =true) :vU 30 cs ts=true:=by
 simp only [vU,cP,aC4,decide_eq_true_eq]at h ⊢;obtain⟨⟨c,g⟩,e⟩ :=h;have f:= (aEK a).1;refine⟨⟨zq27.2 fun t b=>?_,by omega⟩,e⟩;have d:=zq27.1 c (nfT t) (List.mem_map_of_mem b);exact aGY (cB t) t (Nat.le_refl _) (wxs_iff.1 a t b) [0] 1 1 (Int.le_refl _) d
structure FlOk (p:Prog) (t:XT) (to:List Int) (z:Int) :Prop where
 fine:FineX 1000000 t
 wx:WX p t
 sc:vX t (to.length:Nat)
 sz:cB t≤900
 tl:to.length+1000*cB t≤900100
 z0:0≤z
 z1:z+3000* (cB t:Nat) ≤100000000
section
variable {p :Prog} {o n:Int} {ks:List XT} {ps:List Pat} {to:List Int} {z:Int}
end
section
variable {P :Program}
def aUS (P:Program)(is:List Ins)(s:TS) :Option (AV×Nat×List Prop) :=
 match qZ P is s.as with
 | some (s1,ps) =>match s1.cs,s1.fr.kind,s1.fr.mode,s1.fr.roundOf,s1.fr.defers with
  | [],.normal,.ret,none,[] =>match P.funcs[s1.fr.fn]? with
   | some fd=>match lX P s1.h s1.fr.tm fd.results.toList with
    |some [v] =>some (v,s1.fr.fn,ps)
    |_=>none
   |none=>none
  |_,_,_,_,_=>none
 |none=>none
theorem aK4 {f : Nat} {args : List AV} {is : List Ins}{b:Bool}{ps:List Prop}{cargs:List Value}(hb:nU P f=true)(hk:keylessL args=true)(d:aUS P is (start P f args) =some (.bool b,f,ps))(C:AllP ps)(w:World)(U:VRs (embOf w) args cargs) :
  Calls P f ⟨cargs⟩ w fun e w'=>e= .returned (.bool b) ∧GrownO w w':=by
 intro j;unfold nU at hb;split at hb
 · rename_i fn H;split at hb
   · rename_i c hc;have J:dG P f args .normal=some ⟨f,dV .leaf 0 args,max fn.ntmps args.length,[.code c],[],.run,.normal,none⟩ :=by simp [dG,H,hc]
     have fr':FR (embOf w) _ (Frame.enter P f ⟨cargs⟩ .normal) :=hU J U;have R:FR (embOf w) (start P f args).as.fr (Frame.enter P f ⟨cargs⟩ .normal) :=by
      have W: (start P f args).as.fr= ⟨f,dN ((range args.length).zip args),max fn.ntmps args.length,[.code c],[],.run,.normal,none⟩ :=by simp [start,H,hc,TS.as,TF.fr]
      rw [W];refine⟨fr'.fn,⟨fr'.tm.1,fun t a e=>?_⟩,fr'.todo,fr'.defers,fr'.mode,fr'.kind,fr'.round⟩;have m:=aFr (aAL e);have u:= (zq0.1 m).1;have V: (dV .leaf 0 args).at t=some a:=by
       unfold dV;rw [bF,if_pos u];exact m
      exact fr'.tm.2 t a V
     have e2 : (start P f args).as.cs = [] := by unfold start;split; · split<;>rfl
                                                 ·rfl
     have e3 : (start P f args).as.h = ⟨.leaf, 0⟩ := by unfold start;split; · split<;>rfl
                                                        ·rfl
     unfold aUS at d;split at d
     · rename_i s1 qs m;split at d
       · rename_i D y n K A;split at d
         · rename_i O B;split at d
           · rename_i v z;simp only [Option.some.injEq,Prod.mk.injEq]at d;obtain⟨rfl,F,rfl⟩ :=d;have hl:LeadsM P 0 (start P f args).as s1:=gG m (fun p s=>C.mem p s);obtain⟨X,g,Q,w',N,h,k,M,x⟩ :=hl (by rw [e3];exact Nat.le_refl _) (embOf w) _ [] w j R (by rw [e2];rfl) (by rw [e3];exact aHR w);rw [D]at k;have:=k.nil_inv;subst this;obtain⟨Y,I,G⟩ :=qV M h.tm z;simp only [aAD,VR]at G;subst G;have q:=h.mode;rw [n]at q;simp only [MR]at q;have l:=h.defers;rw [A]at l;rw [e3]at x;have r:∀ {b o},¬ (⟨.leaf,0⟩ :Hp).look b=some o:=fun {b o} e=>by simp [Hp.look,T.at_leaf]at e
             refine⟨.returned (.bool b),w',g,⟨rfl,⟨x.os,x.output,fun i S=>?_⟩,x.froz,x.size⟩,N,by rw [h.fn,F],q,l.nil_inv,by rw [h.kind,y],O,by rw [h.fn];exact B,I⟩;have:=x.keep i S (fun b o L e=>absurd e r);rw [this];cases w.heap[i]? with
             |none=>rfl
             |some ob=>cases ob<;>simp
           ·cases d
         ·cases d
       ·cases d
     ·cases d
   ·cases hb
 ·cases hb
theorem aD2 {f : Nat} {args : List AV} {is : List Ins}{b:Bool}{ps:List Prop}{cargs:List Value}{t:TS}(hb:nU P f=true)(hk:keylessL args=true)(G:LeadsM P 0 (start P f args).as t.as)(d:aUS P is t=some (.bool b,f,ps))(C:AllP ps)(w:World)(V:VRs (embOf w) args cargs) :
  Calls P f ⟨cargs⟩ w fun e w'=>e= .returned (.bool b) ∧GrownO w w':=by
 intro j;unfold nU at hb;split at hb
 · rename_i fn I;split at hb
   · rename_i c hc;have K:dG P f args .normal=some ⟨f,dV .leaf 0 args,max fn.ntmps args.length,[.code c],[],.run,.normal,none⟩ :=by simp [dG,I,hc]
     have fr':FR (embOf w) _ (Frame.enter P f ⟨cargs⟩ .normal) :=hU K V;have S:FR (embOf w) (start P f args).as.fr (Frame.enter P f ⟨cargs⟩ .normal) :=by
      have X: (start P f args).as.fr= ⟨f,dN ((range args.length).zip args),max fn.ntmps args.length,[.code c],[],.run,.normal,none⟩ :=by simp [start,I,hc,TS.as,TF.fr]
      rw [X];refine⟨fr'.fn,⟨fr'.tm.1,fun t a e=>?_⟩,fr'.todo,fr'.defers,fr'.mode,fr'.kind,fr'.round⟩;have m:=aFr (aAL e);have u:= (zq0.1 m).1;have W: (dV .leaf 0 args).at t=some a:=by
       unfold dV;rw [bF,if_pos u];exact m
      exact fr'.tm.2 t a W
     have e2 : (start P f args).as.cs = [] := by unfold start;split; · split<;>rfl
                                                 ·rfl
     have e3 : (start P f args).as.h = ⟨.leaf, 0⟩ := by unfold start;split; · split<;>rfl
                                                        ·rfl
     unfold aUS at d;split at d
     · rename_i s1 qs m;split at d
       · rename_i D y n M A;split at d
         · rename_i Q B;split at d
           · rename_i v z;simp only [Option.some.injEq,Prod.mk.injEq]at d;obtain⟨rfl,F,rfl⟩ :=d;have hl:LeadsM P 0 (start P f args).as s1:=G.trans (gG m (fun p s=>C.mem p s));obtain⟨Y,g,R,w',O,h,l,N,x⟩ :=hl (by rw [e3];exact Nat.le_refl _) (embOf w) _ [] w j S (by rw [e2];rfl) (by rw [e3];exact aHR w);rw [D]at l;have:=l.nil_inv;subst this;obtain⟨Z,J,H⟩ :=qV N h.tm z;simp only [aAD,VR]at H;subst H;have q:=h.mode;rw [n]at q;simp only [MR]at q;have k:=h.defers;rw [A]at k;rw [e3]at x;have r:∀ {b o},¬ (⟨.leaf,0⟩ :Hp).look b=some o:=fun {b o} e=>by simp [Hp.look,T.at_leaf]at e
             refine⟨.returned (.bool b),w',g,⟨rfl,⟨x.os,x.output,fun i U=>?_⟩,x.froz,x.size⟩,O,by rw [h.fn,F],q,k.nil_inv,by rw [h.kind,y],Q,by rw [h.fn];exact B,J⟩;have:=x.keep i U (fun b o L e=>absurd e r);rw [this];cases w.heap[i]? with
             |none=>rfl
             |some ob=>cases ob<;>simp
           ·cases d
         ·cases d
       ·cases d
     ·cases d
   ·cases hb
 ·cases hb
theorem cW {f:Nat}{args:List AV}{b:Bool}{cargs:List Value}(L:List Pf)(is:List Ins)(w:World)(hv:VRs (embOf w) args cargs)(hb:nU P f=true:=by kernel_rfl)(hk:keylessL args=true:=by kernel_rfl)(h0:aUS P is (start P f args) =some (.bool b,f,L.map Pf.p) :=by kernel_rfl) :
    Calls P f ⟨cargs⟩ w fun e w'=>e= .returned (.bool b) ∧GrownO w w':=aK4 hb hk h0 (aVz L) w hv
theorem cL {f:Nat}{args:List AV}{b:Bool}{cargs:List Value}{t:TS}(hl:LeadsM P 0 (start P f args).as t.as)(L:List Pf)(is:List Ins)(w:World)(hv:VRs (embOf w) args cargs)(hb:nU P f=true:=by kernel_rfl)(hk:keylessL args=true:=by kernel_rfl)(h0:aUS P is t=some (.bool b,f,L.map Pf.p) :=by kernel_rfl) :
    Calls P f ⟨cargs⟩ w fun e w'=>e= .returned (.bool b) ∧GrownO w w':=aD2 hb hk hl h0 (aVz L) w hv
end
theorem aUT {cons:List Con}{x:Node}(h:FineN cons x)(hk:x.kids.length≤10)(hl:x.pats.length≤900) :bFp x:=by
 refine⟨by omega,?_⟩;have:=vN x.pats (fun q a=>by have:= (h.pats q a).1;omega);omega
mutual
theorem aZh {B:Int}:∀ (t:XT) (a:Nat),FineX B t→∀x∈dQ t a,x.pats.length≤900
 | .mk o n c d,a,b,x,h=>by
  simp only [FineX]at b;simp only [dQ,zq7]at h;rcases h with rfl|h
  ·exact b.2.2.2.2.2.1.2.1
  ·exact aDe c (a+1) b.2.2.2.2.2.2 x h
theorem aDe {B:Int}:∀ (b:List XT) (a:Nat),FineXs B b→∀x∈ (aW b a).2,x.pats.length≤900
 | [],a,_,x,h=>by simp [aW]at h
 | t::b,a,c,x,h=>by
  simp only [FineXs]at c;simp only [aW,zq28]at h;rcases h with h|h
  ·exact aZh t a c.1 x h
  ·exact aDe b _ c.2 x h
end
theorem aUU {B:Int}{ts:List XT}{mn:Int}{cons:List Con}(b:FineXs B ts)(f:oI (zV cons) ts)(h:aD ts≤1000000)(hl:ts.length≤320)(hc:cons.length<1000000) :FitP (cO ts mn cons) :=by
 have hk:=nK ts 0;have g:=pK ts 0;refine⟨by simp only [cO,aQG];omega,by simp only [cO,aQG];omega,hc,fun x a=>?_⟩;obtain⟨i,c,rfl⟩ :=List.getElem_of_mem a;obtain⟨d,e,_⟩ :=aDb ts 0 b f i _ (kR c);exact aUT d e (aDe ts 0 b _ a)
end
end Go.Hb
