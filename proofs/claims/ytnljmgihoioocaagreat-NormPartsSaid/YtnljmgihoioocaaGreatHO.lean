/- A machine on abstract values, its soundness, ways, plain laws. -/
import Derived.Test.YtnljmgihoioocaaGreatHF
import Derived.Test.YtnljmgihoioocaaGreatHG
import Derived.Test.YtnljmgihoioocaaGreatHH
import Derived.Test.YtnljmgihoioocaaGreatHJ
import Derived.Test.YtnljmgihoioocaaGreatHK
import Derived.Test.YtnljmgihoioocaaGreatHL
import Derived.Test.YtnljmgihoioocaaGreatHN
set_option linter.defProp false
set_option linter.unusedVariables false
set_option linter.unusedSimpArgs false
set_option linter.unusedSectionVars false
set_option maxRecDepth 100000
set_option maxHeartbeats 2000000
namespace Go.Hb
open AV (ilst int)
open Int (le_refl toNat)
open List (count_append ext_getElem? getElem?_of_mem getElem?_set getElem?_set_ne getElem?_set_self map_nil range range' replicate)
open Go.Proofs Tryz
noncomputable section
theorem aHx {p:Prog}{Z:List Int}(c:Sprop p Z){i:Nat}{x:Node}(n:p.nodes[i]?=some x) :∀ (t:List Int) (j:Nat) (l:List Int) (P:Nat→Prop),x.kids.drop j=t→l.length=p.nodes.length→P i→ (∀m,P m→l[m]?=Z[m]?) →∀m,(P m∨∃k∈t,k.toNat=m) → (pC x i j t l)[m]?=Z[m]?
 | [],j,l,P,h,hl,b,a,m,hm=>by
  rcases hm with hm| ⟨k,hk,_⟩
  ·exact a m hm
  ·cases hk
 | k ::t,j,l,P,h,hl,b,a,m,hm=>by
  obtain⟨u,v,_⟩ :=bE h;obtain⟨s,o,f⟩ :=c.kid i x j k n u;have r:l.getD i 0=s:=by rw [hQ,a i b,o];rfl
  have d:k.toNat<l.length:=by have:= (zq0.1 f).1;rw [hl,←c.len];exact this
  rw [pC,r];refine aHx c n t (j+1) (l.set k.toNat (s+eR x j)) (fun m=>P m∨k.toNat=m) v (by simpa using hl) (.inl b) (fun m hm=>?_) m ?_
  · rw [getElem?_set];by_cases g:k.toNat=m
    ·rw [if_pos g,if_pos d,←g,f]
    · rw [if_neg g];rcases hm with hm|hm
      ·exact a m hm
      ·exact absurd hm g
  · rcases hm with hm| ⟨q,hk,e⟩
    ·exact .inl (.inl hm)
    · rcases zq7.1 hk with rfl|hk
      ·exact .inl (.inr e)
      ·exact .inr ⟨q,hk,e⟩
theorem aEt {p:Prog}{Z:List Int}(r:Sprop p Z)(hc:rX p) :∀ (t:List Node) (i:Nat) (l:List Int),p.nodes.drop i=t→l.length=p.nodes.length →
  (∀m,((∃f∈p.funs,f.toNat=m) ∨∃ (a:Nat) (x:Node) (k:Int),p.nodes[a]?=some x∧k∈x.kids∧k.toNat=m∧a<i) →l[m]?=Z[m]?) →∀m,m<p.nodes.length→ (lD i t l)[m]?=Z[m]?
 | [],i,l,h,hl,j,m,hm=>by
  have:=bJ h;rcases hc m hm with b| ⟨a,x,k,b,d,c,o⟩
  ·exact j m (.inl b)
  ·exact j m (.inr ⟨a,x,k,b,d,c,by omega⟩)
 | x :: t,i,l,h,hl,j,m,hm=>by
  obtain⟨n,v,w⟩ :=bE h;rw [lD];have s:i<p.nodes.length:= (zq0.1 n).1;refine aEt r hc t (i+1) _ v (by rw [vU,hl]) (fun u q=>?_) m hm;refine aHx r n x.kids 0 l (fun m=> (∃f∈p.funs,f.toNat=m) ∨∃ (a:Nat) (x:Node) (k:Int),p.nodes[a]?=some x∧k∈x.kids∧k.toNat=m∧a<i) rfl hl ?_ j u ?_
  · rcases hc i s with b| ⟨a,y,k,b,d,c,o⟩
    ·exact .inl b
    ·exact .inr ⟨a,y,k,b,d,c,o⟩
  · rcases q with b| ⟨a,y,k,b,d,c,o⟩
    ·exact .inl (.inl b)
    · by_cases g:a<i
      ·exact .inl (.inr ⟨a,y,k,b,d,c,g⟩)
      · have e:a=i:=by omega
        subst e;rw [n]at b;cases b;exact .inr ⟨k,d,c⟩
theorem aHy :∀ (t:List Int) (l:List Int),(∀f∈t,f.toNat<l.length) →∀m,((∃f∈t,f.toNat=m) ∨l[m]?=some 1) → (pD t l)[m]?=some 1
 | [],l,_,m,hm=>by
  rcases hm with⟨f,b,_⟩ |hm
  ·cases b
  ·exact hm
 | a ::t,l,hb,m,hm=>by
  rw [pD];have c:=hb a (dT ..);refine aHy t _ (fun f b=>by rw [eG];exact hb f (eD _ b)) m ?_;by_cases g:a.toNat=m
  ·exact .inr (by rw [getElem?_set,if_pos g,if_pos c])
  · rcases hm with⟨f,b,e⟩ |hm
    · rcases zq7.1 b with rfl|b
      ·exact absurd e g
      ·exact .inl ⟨f,b,e⟩
    ·exact .inr (by rw [getElem?_set,if_neg g];exact hm)
theorem aVW {p:Prog}(hp:FineP p){Z:List Int}(b:Sprop p Z)(hc:rX p) :yV p=Z:=by
 have hl: (pD p.funs (replicate p.nodes.length 0)).length=p.nodes.length:=by rw [vV];simp
 apply ext_getElem?;intro m;by_cases hm:m<p.nodes.length
 · refine aEt b hc p.nodes 0 _ rfl hl (fun d c=>?_) m hm;rcases c with⟨f,a,e⟩ | ⟨g,_,_,_,_,_,h⟩
   · have:=hp.funs f a;rw [aHy p.funs _ (fun f a=>by have:=hp.funs f a;simp;omega) d (.inl ⟨f,a,e⟩),←e,b.root f a]
   ·omega
 ·rw [aBt (by rw [aG2];omega),aBt (by rw [b.len];omega)]
section
variable (p q:Prog) (mn:Int) (zn:List Node) (zu:List Int)
end
theorem hasS_mem {l:List cA}{s:cA}:vE l s=true↔s∈l:=by
 simp [vE]
theorem aCJ :∀ (l pre:List cA),dM pre l=true→l.Nodup∧∀x∈l,x∉pre
 | [],pre,_=> ⟨List.nodup_nil,fun x b=>by cases b⟩
 | x::t,pre,h=>by
  simp only [dM,cF,Bool.not_eq_true']at h;obtain⟨d,c⟩ :=aCJ t (pre++ [x]) h.2
  have b:x∉pre:=fun hm=>by
   have:=hasS_mem.2 hm;rw [h.1]at this;cases this
  refine⟨List.nodup_cons.2 ⟨fun hm=>c x hm (by simp),d⟩,fun y a=>?_⟩;rcases zq7.1 a with rfl|a
  ·exact b
  ·exact fun hm=>c y a (aEC _ hm)
structure Fm (p:Prog) :Prop where
 fine:FineP p
 cons:p.cons.length≤25
 dup: ((p.funs.map (pre p p.nodes.length)).flatten).Nodup
 len: ((p.funs.map (pre p p.nodes.length)).flatten).length=p.nodes.length
 into:∀x∈ (p.funs.map (pre p p.nodes.length)).flatten,0≤x∧x<p.nodes.length
 node:∀ (i:Nat) (x:Node),p.nodes[i]?=some x→aM p x=true∧x.pats.length≤10
 names: (p.cons.map Con.name).Nodup
theorem aRQ {p:Prog}(g:aK p=true)(f:aN p=true) :Fm p:=by
 have e:=g;simp only [aK,cF,decide_eq_true_eq]at e;obtain⟨⟨⟨⟨m,n⟩,k⟩,_⟩,l⟩ :=e;obtain⟨a,b,c,d⟩ :=aHb g f;refine⟨aEp g f,k,a,b,c,fun i x j=> ⟨d i x j,?_⟩,?_⟩
 · have h:=zq27.1 l x (iO j);simp only [bB,cF,decide_eq_true_eq]at h;omega
 · simp only [aN,cF,yQ]at f;exact(aCJ _ _ f.1.2.2).1
theorem Fm.fit {p:Prog}(h:Fm p)(i:Nat)(x:Node)(a:p.nodes[i]?=some x) :bGZ x:=by
 obtain⟨c,b⟩ :=h.node i x a;have:= (h.fine.node i x a).2.1;exact⟨by omega,(aVN h.fine.fsmall c b).1.1⟩
def nodeAt (p:Prog)(k:Int) :Node:= (p.nodes[k.toNat]?).getD ⟨0,0,[],[]⟩
theorem aVX {p:Prog}{k:Int}{x:Node}(h:p.nodes[k.toNat]?=some x) :nodeAt p k=x:=by unfold nodeAt;rw [h];rfl
def zG (p:Prog) :List Int:= (p.funs.map (pre p p.nodes.length)).flatten
def KidsAfter (p:Prog)(l:List Int) :Prop:=∀ (i:Nat) (k c:Int),l[i]?=some k→c∈eV p k→∃j,i<j∧l[j]?=some c
theorem KidsAfter.append {p:Prog}{l m:List Int}(h1:KidsAfter p l)(h2:KidsAfter p m) :KidsAfter p (l++m) :=fun i k c a hc=>by
 by_cases h:i<l.length
 · rw [iQ h]at a;obtain⟨j,b,e⟩ :=h1 i k c a hc;exact⟨j,b,by rw [iQ (zq0.1 e).1];exact e⟩
 · rw [kR (by omega)]at a;obtain⟨j,b,e⟩ :=h2 _ k c a hc;exact⟨l.length+j,by omega,by rw [kR (by omega),show l.length+j-l.length=j by omega];exact e⟩
theorem KidsAfter.flatten {p:Prog}:∀ {L:List (List Int)},(∀l∈L,KidsAfter p l) →KidsAfter p L.flatten
 | [],_=>fun i k c a _=>by simp at a
 | l::L,h=>by
  rw [aED];exact(h l (dT ..)).append (KidsAfter.flatten fun m hm=>h m (eD _ hm))
theorem aZX {p:Prog}(h:Fm p){k:Int}(j:0≤k)(h1:k<p.nodes.length) :∃i:Nat,(zG p)[i]?=some k:=by
 refine zq38.1 ?_;have hd: ((zG p).map toNat).Nodup:=by
  have hd:=h.dup;rw [List.nodup_iff_pairwise_ne]at hd ⊢;refine List.pairwise_map.2 (hd.imp_of_mem (fun {a b} ha hb hne e=>?_));have:=h.into a ha;have:=h.into b hb;exact hne (by omega)
 by_cases hm:k∈zG p
 ·exact hm
 · have g:=aAj (p.nodes.length) (k.toNat:: (zG p).map toNat) (List.nodup_cons.2 ⟨fun d=>by
    obtain⟨y,c,e⟩ :=zq24.1 d;have:=h.into y c;exact hm ((show y=k by omega) ▸ c),hd⟩) (fun x f=>by
    rcases zq7.1 f with rfl|f
    ·omega
    · obtain⟨y,c,rfl⟩ :=zq24.1 f;have:=h.into y c;omega)
   rw [oK,hJ]at g;have:=h.len;unfold zG at g;omega
structure Laid (a:Prog) (off:Nat) (p:Prog) (mf mc:List (Int×Int)) (to:List Int) :Prop where
 node:∀ (i:Nat) (k:Int),(zG p)[i]?=some k→a.nodes[off+i]?=some (aCc mf mc to (nodeAt p k))
 to:∀ (i:Nat) (k:Int),(zG p)[i]?=some k→aUw to k= ((off+i:Nat) :Int)
section
variable {a p:Prog} {off:Nat} {mf mc:List (Int×Int)} {to:List Int}
theorem Laid.at (h:Laid a off p mf mc to)(hp:Fm p){k:Int}(c:0≤k)(h1:k<p.nodes.length) :0≤aUw to k∧a.nodes[(aUw to k).toNat]?=some (aCc mf mc to (nodeAt p k)) :=by
 obtain⟨i,b⟩ :=aZX hp c h1;have e:=h.to i k b;rw [e,oM];exact⟨by omega,h.node i k b⟩
theorem Laid.pre (h:Laid a off p mf mc to)(hp:Fm p) :∀ (f:Nat) (k:Int),0≤k→k<p.nodes.length→p.nodes.length-k.toNat≤f→pre a f (aUw to k) = (pre p f k).map (aUw to)
 |0,k,e,g,i=>by omega
 | f+1,k,e,g,i=>by
  obtain⟨x,b⟩ :∃x,p.nodes[k.toNat]?=some x:= ⟨_,kH (by omega)⟩;obtain⟨j,d⟩ :=h.at hp e g;rw [aVX b]at d;rw [Go.Hb.pre,Go.Hb.pre,b,d];simp only [dJ,List.map_flatten,aMh,aCc];congr 2
  exact bFV (fun c hc=>by
   have:= (hp.fine.node _ _ b).2.2 c hc;exact h.pre hp f c (by omega) (by omega) (by omega))
end
structure MapsOk (p a:Prog) (mf mc:List (Int×Int)) :Prop where
 funs:∀i:Int,0≤i→i<p.funs.length→0≤mAt mf i∧mAt mf i<a.funs.length
 cons:∀ (i:Nat) (d:Con),p.cons[i]?=some d→0≤mAt mc (i:Int) ∧a.cons[(mAt mc (i:Int)).toNat]?=some d
section
variable {p a:Prog} {mf mc:List (Int×Int)}
theorem MapsOk.at (h:MapsOk p a mf mc){n:Int}(d:0≤n)(h1:n<p.cons.length) :0≤mAt mc n∧mAt mc n<a.cons.length∧fA a.cons (mAt mc n) =fA p.cons n∧a.cons[(mAt mc n).toNat]?=p.cons[n.toNat]?:=by
 have e:p.cons[n.toNat]?=some p.cons[n.toNat] :=kH (by omega);obtain⟨c,b⟩ :=h.cons n.toNat _ e;rw [show((n.toNat:Nat) :Int) =n by omega]at c b;have:= (zq0.1 b).1;refine⟨c,by omega,?_,by rw [b,e]⟩;unfold fA;rw [b,e]
theorem aDE (mc:List (Int×Int)) :∀a:List Pat,(oR mc a).length=a.length
 | [] =>rfl
 |p::a=>by rw [oR,oK,oK,aDE mc a]
mutual
theorem aTu (h:MapsOk p a mf mc) :∀q:Pat,cJ p.cons q=true→cJ a.cons (aM5 mc q) =true
 | .mk f n s i,g=>by
  rw [cJ,cF]at g;rw [aM5,cJ,aOP h i g.2,Bool.and_true,aDE];have b:=g.1;by_cases c:f=6
  · subst c;unfold dL at b ⊢;simp [dH]at b ⊢;obtain⟨⟨⟨l,m⟩,j⟩,d⟩ :=b;obtain⟨k,r,e,o⟩ :=h.at l (by omega);exact⟨⟨⟨k,by omega⟩,by rw [e];exact j⟩,d⟩
  · rw [if_neg c];unfold dL at b ⊢;rw [if_neg c]at b ⊢;exact b
theorem aOP (h:MapsOk p a mf mc) :∀b:List Pat,bY p.cons b=true→bY a.cons (oR mc b) =true
 | [],_=>rfl
 | q::b,g=>by
  rw [bY,cF]at g;rw [oR,bY,aTu h q g.1,aOP h b g.2];rfl
end
theorem aJp (mc:List (Int×Int)) :∀ {a:List Pat} {b:Pat},b∈oR mc a→∃q∈a,b=aM5 mc q
 | [],_,h=>by simp [oR]at h
 | q ::a,b,h=>by
  rw [oR]at h;rcases zq7.1 h with rfl|h
  ·exact⟨q,dT ..,rfl⟩
  · obtain⟨x,c,e⟩ :=aJp mc h;exact⟨x,eD _ c,e⟩
theorem aZY (h:MapsOk p a mf mc)(to:List Int){x:Node}(k:aM p x=true) :aM a (aCc mf mc to x) =true:=by
 simp only [aM,dC,cF,decide_eq_true_eq]at k ⊢;obtain⟨⟨⟨c,t⟩,o⟩,u⟩ :=k;have hl: (aCc mf mc to x).pats.length=x.pats.length:=aDE mc _;have hk: (aCc mf mc to x).kids.length=x.kids.length:=hJ ..;have j: (aCc mf mc to x).op=x.op:=rfl;have e: (aCc mf mc to x).n=bN mf mc x.op x.n:=rfl;refine⟨⟨⟨?_,by rw [hl];exact t⟩,?_⟩,?_⟩
 · rw [j,e];unfold bN;by_cases f:x.op=4
   · rw [if_pos f];rw [f]at c ⊢;simp [bO,dH]at c ⊢;by_cases e:0≤x.n
     ·rw [if_pos e];omega
     · rw [if_neg e];have:=h.funs (-1-x.n) (by omega) (by omega);omega
   · rw [if_neg f];by_cases b:x.op=14
     · rw [if_pos b];rw [b]at c ⊢;simp [bO,dH]at c ⊢;obtain⟨r,s,_⟩ :=h.at (n:=x.n) c.1 (by omega);omega
     · rw [if_neg b];unfold bO at c ⊢;rw [if_neg f,if_neg b]at *;exact c
 · refine zq27.2 (fun v l=>?_);obtain⟨q,i,rfl⟩ :=aJp mc l;have:=zq27.1 o q i;simp only [eQ,cF,decide_eq_true_eq]at this ⊢;exact⟨by rw [aJh];exact this.1,aTu h q this.2⟩
 · rw [hl,hk,j,u];congr 1;unfold eZ;rw [j,e];by_cases b:x.op=14
   · have d:=c;rw [b]at d;simp [bO,dH]at d;obtain⟨r,s,m,_⟩ :=h.at (n:=x.n) d.1 (by omega);unfold bN;rw [if_neg (show ¬x.op=4 by omega),if_pos b,if_pos ⟨b,by simp [dH];omega⟩,if_pos ⟨b,by simp [dH];omega⟩,m]
   ·rw [if_neg (fun g=>b g.1),if_neg (fun g=>b g.1)]
end
theorem aBj {lo n:Int}(c:0≤lo) :∀ (a:List Int) (u:List Bool),(u.length:Int) =n→ (∀k∈a,lo≤k∧k<n) → (∀m:Int,0≤m→m<n→a.count m+lX u m≤1) →∃v,marks lo n a u=some v
 | [],u,_,_,_=> ⟨u,rfl⟩
 | k ::a,u,hl,hr,hc=>by
  have hk:=hr k (dT ..);have g:=hc k (by omega) hk.2;rw [show k::a= [k] ++a from rfl,count_append,List.count_singleton_self]at g;have j:u[k.toNat]?=some false:=by
   have b:k.toNat<u.length:=by omega
   cases hb:u[k.toNat]
   case false=>rw [kH b,hb]
   have:lX u k=1:=by unfold lX;rw [kH b,hb];rfl
   omega
  obtain⟨v,h⟩ :=aBj c a (u.set k.toNat true) (by rw [eG];exact hl) (fun x l=>hr x (eD _ l)) (fun m f i=>by
   have d:=hc m f i;rw [show k::a= [k] ++a from rfl,count_append]at d;by_cases e:m=k
   · subst e;have:lX (u.set m.toNat true) m≤1:=by unfold lX;split<;>omega
     rw [List.count_singleton_self]at d;omega
   · have:lX (u.set k.toNat true) m=lX u m:=by unfold lX;rw [getElem?_set_ne (by omega)]
     omega)
  exact⟨v,by rw [marks,if_pos ⟨by simp [dH];omega,j⟩];exact h⟩
theorem aAO {a:Prog}:∀ (t:List Node) (i:Nat) (u:List Bool),u.length=a.nodes.length→ (∀x∈t,aM a x=true) → (∀ (j:Nat) (x:Node),t[j]?=some x→∀k∈x.kids,((i+j:Nat) :Int) <k∧k<a.nodes.length) →
  (∀m:Int,0≤m→m<a.nodes.length→ ((t.map Node.kids).flatten).count m+lX u m≤1) →∃v,bS a i t u=some v
 | [],i,u,_,_,_,_=> ⟨u,rfl⟩
 | x::t,i,u,hl,c,hk,hc=>by
  obtain⟨w,f⟩ :=aBj (lo:= (i:Int) +1) (n:= (a.nodes.length:Int)) (by omega) x.kids u (by omega) (fun k b=>by
   have:=hk 0 x rfl k b;omega) (fun m d e=>by
   have:=hc m d e;rw [dJ,aED,count_append]at this;omega)
  obtain⟨v,h⟩ :=aAO t (i+1) w (by rw [hY f,hl]) (fun y g=>c y (eD _ g)) (fun j y g k b=>by
   have:=hk (j+1) y (by simpa using g) k b;omega) (fun m d e=>by
   have l:=hc m d e;have o:=jY (m:=m) (by omega) d f;rw [dJ,aED,count_append]at l;omega)
  exact⟨v,by rw [bS,if_pos (c x (dT ..)),f];exact h⟩
def pR (z t:List Con) :List Con:=t.filter fun c=>decide (cN c.name z 0<0)
def aBk (z:List Con)(c:Con) :Bool:=match z[(cN c.name z 0).toNat]? with
 |some d=>decide (0≤cN c.name z 0) &&decide (d.args≠c.args)
 |none=>false
def clash (z t:List Con) :Bool:=t.any (aBk z)
theorem conIx_mem {s:cA}{l:List Con}:0≤cN s l 0↔s∈l.map Con.name:=by
 constructor
 · intro h;rcases jZ s l 0 (le_refl _)with g| ⟨_,_,d,a,f⟩
   ·omega
   ·exact zq24.2 ⟨d,iO a,f⟩
 · intro h;rcases jZ s l 0 (le_refl _)with g| ⟨j,_⟩
   · have :cN s l 0≠ -1:=by
      clear g;have :∀ (l:List Con) (i:Int),0≤i→s∈l.map Con.name→cN s l i≠ -1:=by
       intro l
       induction l with
       |nil=>intro i _ h;simp at h
       | cons c l b=>
        intro i k h;rw [cN];split
        ·omega
        · rename_i e;rcases zq7.1 (by simpa using h:s∈c.name::l.map Con.name)with g|g
          ·exact absurd g.symm e
          ·exact b (i+1) (by omega) g
      exact this l 0 (le_refl _) h
     exact absurd g this
   ·exact j
theorem conIx_neg {s:cA}{l:List Con}:cN s l 0<0↔s∉l.map Con.name:=by
 rw [←conIx_mem];omega
theorem aBl (s:cA)(A:List Con) :∀ (l:List Con) (i:Int),s∈l.map Con.name→cN s (l++A) i=cN s l i
 | [],i,h=>by simp at h
 | c ::l,i,h=>by
  rw [sT,cN,cN];by_cases e:c.name=s
  ·rw [if_pos e,if_pos e]
  · rw [if_neg e,if_neg e];rcases zq7.1 (by simpa using h:s∈c.name::l.map Con.name)with g|g
    ·exact absurd g.symm e
    ·exact aBl s A l (i+1) g
theorem aEu (s:cA)(A:List Con) :∀ (l:List Con) (i:Int),s∉l.map Con.name→cN s (l++A) i=cN s A (i+l.length)
 | [],i,h=>by simp
 | c::l,i,h=>by
  simp only [dJ,zq7,not_or]at h;rw [sT,cN,if_neg (fun e=>h.1 e.symm),aEu s A l (i+1) h.2];congr 1;simp;omega
theorem aZZ {l:List Con}(hd: (l.map Con.name).Nodup){j:Nat}{d:Con}(h:l[j]?=some d) :cN d.name l 0=j:=by
 rcases jZ d.name l 0 (le_refl _)with g| ⟨q,p,e,c,n⟩
 · have:0≤cN d.name l 0:=conIx_mem.2 (zq24.2 ⟨d,iO h,rfl⟩);omega
 · have a:= (zq0.1 h).1;have c:l[(cN d.name l 0).toNat]?=some e:=by simpa using c
   have hk:= (zq0.1 c).1;have k: (l.map Con.name)[(cN d.name l 0).toNat]?=some d.name:=by rw [mZ,c];simp [n]
   have o: (l.map Con.name)[j]?=some d.name:=by rw [mZ,h];rfl
   have f:∀ (l:List cA) (i j:Nat) (x:cA),l.Nodup→l[i]?=some x→l[j]?=some x→i=j:=by
    intro l
    induction l with
    |nil=>intro i j x _ h;simp at h
    | cons y l m=>
     intro i j x hd b a;have hd:=List.nodup_cons.1 hd;cases i with
     | zero=>
      cases j with
      |zero=>rfl
      | succ j=>
       simp only [lF,Option.some.injEq,lV]at b a;exact absurd (iO a) (b ▸ hd.1)
     | succ i=>
      cases j with
      | zero=>
       simp only [lF,Option.some.injEq,lV]at b a;exact absurd (iO b) (a ▸ hd.1)
      | succ j=>
       simp only [lV]at b a;rw [m i j x hd.2 b a]
   have:=f _ _ _ _ hd k o;omega
theorem mem_newC {z t:List Con}{c:Con}:c∈pR z t↔c∈t∧c.name∉z.map Con.name:=by
 unfold pR;rw [List.mem_filter,decide_eq_true_eq,conIx_neg]
theorem aZ0 (z t:List Con) : ((pR z t).map Con.name).Sublist (t.map Con.name) := (List.filter_sublist).map _
theorem aJq {z t:List Con}(hz: (z.map Con.name).Nodup)(f: (t.map Con.name).Nodup) : ((z++pR z t).map Con.name).Nodup:=by
 rw [wX,List.nodup_append];refine⟨hz,f.sublist (aZ0 z t),fun a d b hb e=>?_⟩;subst e;obtain⟨c,hc,rfl⟩ :=zq24.1 hb;exact(mem_newC.1 hc).2 d
theorem bG6 {z t:List Con}(hz: (z.map Con.name).Nodup)(k: (t.map Con.name).Nodup)(hc:clash z t=false){d:Con}(hd:d∈t) :0≤cN d.name (z++pR z t) 0∧ (z++pR z t)[(cN d.name (z++pR z t) 0).toNat]?=some d:=by
 by_cases h:d.name∈z.map Con.name
 · have e:=aBl d.name (pR z t) z 0 h;rw [e];have l:=conIx_mem.2 h;refine⟨l,?_⟩;rcases jZ d.name z 0 (le_refl _)with g| ⟨_,p,e,a,i⟩
   ·omega
   · have a:z[(cN d.name z 0).toNat]?=some e:=by simpa using a
     rw [iQ (zq0.1 a).1,a];have b:aBk z d=false:=by
      have:=List.any_eq_false.1 hc d hd;simpa using this
     unfold aBk at b;rw [a]at b;simp only [Bool.and_eq_false_iff,decide_eq_false_iff_not]at b;have c:e.args=d.args:=by
      rcases b with g|g
      ·omega
      ·exact Decidable.not_not.1 g
     obtain⟨m,q⟩ :=e;obtain⟨n,o⟩ :=d;simp only at i c;rw [i,c]
 · have hm:d∈pR z t:=mem_newC.2 ⟨hd,h⟩;obtain⟨j,f⟩ :=zq38.1 (aFr z hm);have:=aZZ (aJq hz k) f;rw [this];exact⟨by omega,by rw [oM];exact f⟩
def toL (p:Prog)(off:Nat) :List Int:=aZm (replicate p.nodes.length 0) off (zG p)
def wS (p q:Prog) :List Con:=p.cons++pR p.cons q.cons
section
variable {p :Prog}
end
theorem aCK :∀ (l pre:List cA),l.Nodup→ (∀x∈l,x∉pre) →dM pre l=true
 | [],_,_,_=>rfl
 | x ::t,pre,hd,h=>by
  have hd:=List.nodup_cons.1 hd;simp only [dM,cF,Bool.not_eq_true'];refine⟨?_,aCK t (pre++ [x]) hd.2 (fun y a=>?_)⟩
  · cases e:vE pre x
    case false=>rfl
    exact absurd (hasS_mem.1 e) (h x (dT ..))
  · rw [zq28,not_or,zq32];exact⟨h y (eD _ a),fun e=>hd.1 (e ▸ a)⟩
structure Fs (p:Prog) :Prop extends Fm p where
 sm:aK p=true
 fo:aN p=true
theorem Fs.of {p:Prog}(a:aK p=true)(b:aN p=true) :Fs p:={aRQ a b with sm:=a,fo:=b}
theorem Fs.head {p:Prog}(h:Fs p) :p.nodes.length≤300∧1≤p.funs.length∧p.funs.length≤p.nodes.length∧0≤p.main∧p.main<p.funs.length∧p.cons.length≤20∧ (∀c∈p.cons,fC c=true) :=by
 have:=h.fo;simp only [aN,cF,eB,yQ,decide_eq_true_eq]at this;obtain⟨⟨⟨⟨b,f⟩,d⟩,⟨a,e⟩,_⟩,_⟩ :=this;simp [dH]at f d;exact⟨b,by omega,by omega,by omega,by omega,e,fun c hc=>zq27.1 a c hc⟩
theorem Fs.scons {p:Prog}(h:Fs p){c:Con}(hc:c∈p.cons) :c.name.length≤40:=by
 have:=h.sm;simp only [aK,cF,hX]at this;simpa using zq27.1 this.1.2 c hc
section
variable {a :Prog} {N:Nat}
theorem aLV (hN:a.nodes.length=N)(M:N≤300)(R:1≤a.funs.length)(W:a.funs.length≤N)(Q:0≤a.main)(Z:a.main<a.funs.length)(B:a.cons.length≤20)(hc:∀c∈a.cons,fC c=true∧c.name.length≤40)(F: (a.cons.map Con.name).Nodup)
  (d:∀ (i:Nat) (x:Node),a.nodes[i]?=some x→aM a x=true∧bB x=true∧∀k∈x.kids,(i:Int) <k∧k<N) (t:∀f∈a.funs,0≤f∧f<N) (K:zG a= (range N).map fun(i:Nat) => (i:Int)) :Fs a:=by
 have H:aK a=true:=by
  simp only [aK,cF,decide_eq_true_eq,hX];refine⟨⟨⟨⟨by omega,by omega⟩,by omega⟩,zq27.2 fun c h=>by simpa using(hc c h).2⟩,zq27.2 fun x w=>?_⟩;obtain⟨i,s⟩ :=zq38.1 w;exact(d i x s).2.1
 have o:FineP a:= ⟨by omega,by omega,fun i x w=>by
  obtain⟨z,y,O⟩ :=d i x w;simp only [bB,cF,decide_eq_true_eq]at y;exact⟨aKQ z,y.1.1,fun k hk=>by have:=O k hk;omega⟩,fun f S=>by have:=t f S;omega⟩
 refine Fs.of H ?_;have G: (zG a).Nodup:=by
  rw [K,List.nodup_iff_pairwise_ne];refine List.pairwise_map.2 ((List.nodup_iff_pairwise_ne.1 List.nodup_range).imp fun h e=>h (by omega))
 have r:∀m:Int,0≤m→m<a.nodes.length→a.funs.count m+ ((a.nodes.map Node.kids).flatten).count m=1:=fun m A z=>by
  have L:=vY (p:=a) (q:=pre a a.nodes.length) m a.funs (fun k hk=>by
   have:=o.funs k hk;exact aDy o m _ k this.1 this.2 (by omega))
  have Y: (zG a).map (eV a) =a.nodes.map Node.kids:=by
   refine ext_getElem? (fun i=>?_);rw [K,mZ,mZ,mZ];by_cases s:i<N
   · rw [List.getElem?_range s];have:a.nodes[i]?=some a.nodes[i] :=kH (by omega);simp only [Option.map_some,this];unfold eV;rw [oM,this]
   ·rw [aBt (by simp;omega),aBt (by omega)];rfl
  have T: (zG a).count m=1:=by
   have a1:=List.nodup_iff_count.1 G m;have V:m∈zG a:=by rw [K];exact zq24.2 ⟨m.toNat,List.mem_range.2 (by omega),by omega⟩
   have:=List.count_pos_iff.2 V;omega
  change (zG a).count m=a.funs.count m+ (((zG a).map (eV a)).flatten).count m at L
  rw [Y,T]at L;omega
 have l:∀m:Int,lX (replicate a.nodes.length false) m=0:=fun m=>by
  unfold lX;rw [List.getElem?_replicate];by_cases g:m.toNat<a.nodes.length
  ·rw [if_pos g];rfl
  ·rw [if_neg g];rfl
 obtain⟨u,D⟩ :=aBj (lo:=0) (n:= (a.nodes.length:Int)) (le_refl _) a.funs (replicate a.nodes.length false) (by rw [aAs]) (fun k hk=>by have:=t k hk;omega) (fun m A z=>by
  have:=r m A z;rw [l];omega)
 have C:=hY D;rw [aAs]at C
 obtain⟨v,J⟩ :=aAO (a:=a) a.nodes 0 u C (fun x w=>by
  obtain⟨i,s⟩ :=zq38.1 w;exact(d i x s).1) (fun j x w k hk=>by have:= (d j x w).2.2 k hk;omega) (fun m A z=>by
  have y:=jY (m:=m) (by omega) A D;have:=r m A z;rw [l]at y;omega)
 simp only [aN,cF];refine⟨⟨?_,?_⟩,?_⟩
 ·simp [eB,dH];omega
 · simp only [yQ,cF,decide_eq_true_eq];exact⟨⟨zq27.2 fun c h=> (hc c h).1,B⟩,aCK _ [] F (fun x _=>by simp)⟩
 · rw [D];simp only;rw [J];unfold allT;refine zq27.2 (fun b hb=>?_);obtain⟨i,s⟩ :=zq38.1 hb;have U:=iM J;have X:= (zq0.1 s).1;have y:=jY (m:= (i:Int)) (by omega) (by omega) D;have O:=mP (m:= (i:Int)) (by omega) J;have:=r (i:Int) (by omega) (by omega);rw [l]at y;have I:lX v (i:Int) =1:=by omega
   unfold lX at I;rw [oM,s]at I;cases b
   case true=>rfl
   simp at I
end
section
variable {p a:Prog} {off:Nat} {mf mc:List (Int×Int)} {to:List Int}
end
section
variable {p q:Prog}
end
theorem aHz (a m n:Nat) : (range' a (m+n)).map (fun i=> ((i:Nat) :Int)) = (range' a m).map (fun i=> ((i:Nat) :Int)) ++ (range' (a+m) n).map (fun i=> ((i:Nat) :Int)) :=by
 rw [←wX,←List.range'_append_1]
section
variable {P :Prog}
mutual
theorem bEc :∀ (t:XT) (a f:Nat),(∀ (j:Nat) (x:Node),(eM t a)[j]?=some x→P.nodes[a+j]?=some x) →cK t≤f→pre P f ((a:Nat) :Int) = (range' a (cK t)).map (fun i=> ((i:Nat) :Int))
 | .mk o n b c,a,0,_,h=>by simp only [cK]at h;omega
 | .mk o n b c,a,f+1,hl,h=>by
  simp only [cK]at h;have d:=hl 0 ⟨o,n,(aW b (a+1)).1,c⟩ (by rw [eM];rfl)
  have hk:=aHA b (a+1) f (fun j x e=>by
   have:=hl (j+1) x (by rw [eM,lV];exact e);rw [show a+1+j=a+ (j+1)by omega];exact this) (by omega)
  rw [Nat.add_zero]at d;simp only [pre,oM,d];rw [hk,cK,Nat.add_comm (aD b) 1,aHz];rfl
theorem aHA :∀ (b:List XT) (a f:Nat),(∀ (j:Nat) (x:Node),(aW b a).2[j]?=some x→P.nodes[a+j]?=some x) →aD b≤f→ (((aW b a).1.map (pre P f)).flatten) = (range' a (aD b)).map (fun i=> ((i:Nat) :Int))
 | [],a,f,_,_=>by simp [aW,aD]
 | t::b,a,f,hl,h=>by
  simp only [aD]at h;simp only [aW]at hl;rw [bM]at hl;have e:=bEc t a f (fun j x c=>hl j x (by rw [iQ (zq0.1 c).1];exact c)) (by omega)
  have d:=aHA b (a+cK t) f (fun j x c=>by
   have:=hl (cK t+j) x (by rw [kR (by rw [bM];omega),bM,show cK t+j-cK t=j by omega];exact c);rw [show a+cK t+j=a+ (cK t+j)by omega];exact this) (by omega)
  simp only [aW,aD,dJ,aED];rw [bM,e,d,aHz]
end
mutual
theorem aZ1 :∀ (t:XT) (a:Nat),(∀ (j:Nat) (x:Node),(eM t a)[j]?=some x→P.nodes[a+j]?=some x) →IsTree P t ((a:Nat) :Int)
 | .mk o n b c,a,hl=>by
  have e:=hl 0 ⟨o,n,(aW b (a+1)).1,c⟩ (by rw [eM];rfl);simp only [IsTree];refine⟨by omega,⟨o,n,(aW b (a+1)).1,c⟩,by rw [oM];exact e,rfl,rfl,rfl,?_⟩
  exact aDF b (a+1) (fun j x d=>by
   have:=hl (j+1) x (by rw [eM,lV];exact d);rw [show a+1+j=a+ (j+1)by omega];exact this)
theorem aDF :∀ (b:List XT) (a:Nat),(∀ (j:Nat) (x:Node),(aW b a).2[j]?=some x→P.nodes[a+j]?=some x) →aE P b (aW b a).1
 | [],a,_=>by simp only [aW,aE]
 | t::b,a,hl=>by
  simp only [aW]at hl ⊢;rw [bM]at hl ⊢;simp only [aE];refine⟨_,_,rfl,aZ1 t a (fun j x c=>hl j x (by rw [iQ (zq0.1 c).1];exact c)),aDF b (a+cK t) (fun j x c=>?_)⟩;have:=hl (cK t+j) x (by rw [kR (by rw [bM];omega),bM,show cK t+j-cK t=j by omega];exact c);rw [show a+cK t+j=a+ (cK t+j)by omega];exact this
end
end
theorem aEv (ts:List XT)(mn:Int)(cs:List Con) :aE (dU ts mn cs) ts (dU ts mn cs).funs:=
 aDF ts 0 (fun j x a=>by rw [eX];exact a)
theorem rY (ts:List XT)(mn:Int)(cs:List Con) : (dU ts mn cs).nodes.length=aD ts:=by simp only [dU,aVR];rw [tQ]
theorem wH (ts:List XT)(mn:Int)(cs:List Con) : (dU ts mn cs).funs.length=ts.length:= (cC (aEv ts mn cs)).symm
theorem aRR (ts:List XT)(mn:Int)(cs:List Con) :zG (dU ts mn cs) = (range (aD ts)).map fun(i:Nat) => (i:Int) :=by
 have h:=aHA (P:=dU ts mn cs) ts 0 (aD ts) (fun j x a=>by rw [eX];exact a) (Nat.le_refl _);rw [List.range_eq_range',←h];unfold zG;rw [rY];rfl
theorem aOQ {p q:Prog}(a:p.funs.length=q.funs.length)(hc:p.cons=q.cons)(x:Node) :aM p x=aM q x:=by
 simp only [aM,dC,bO,eZ,a,hc];try rfl
mutual
theorem aJr {cons:List Con}:∀ (q:Pat),cJ cons q=true→sK q=true
 | .mk f n s a,h=>by
  simp only [cJ,dL,cF,decide_eq_true_eq]at h;obtain⟨⟨_,rfl⟩,b⟩ :=h;simp [sK,aHB a b]
theorem aHB {cons:List Con}:∀ (a:List Pat),bY cons a=true→vG a=true
 | [],_=>rfl
 | p::a,h=>by
  simp only [bY,cF]at h;simp [vG,aJr p h.1,aHB a h.2]
end
mutual
def Pl :XT→Prop
 | .mk o n ks _=> (o=4→n≤29) ∧Pls ks
def Pls :List XT→Prop
 | [] =>True
 |t::ts=>Pl t∧Pls ts
end
theorem pls_iff :∀ {ts:List XT},Pls ts↔∀t∈ts,Pl t
 | [] =>by simp [Pls]
 |t::ts=>by simp only [Pls,pls_iff (ts:=ts),zq7];exact⟨fun h x a=>by rcases a with rfl|a;exact h.1;exact h.2 x a,fun h=> ⟨h t (.inl rfl),fun x a=>h x (.inr a)⟩⟩
mutual
theorem aRS :∀ (t:XT) (z:Int),rA t z→zOk 30 t z=true→Pl t
 | .mk o n b a,z,h,hz=>by
  simp only [rA]at h;simp only [zOk,cF,decide_eq_true_eq]at hz;exact⟨fun e=>by have:=h.1 e;omega,aTv o a b 0 z h.2 hz.2⟩
theorem aTv (o:Int)(ps:List Pat) :∀ (a:List XT) (i:Nat) (z:Int),qT o ps a i z→aEI 30 o ps a i z=true→Pls a
 | [],_,_,_,_=>trivial
 | t::a,i,z,h,hz=>by
  simp only [qT]at h;simp only [aEI,cF]at hz;exact⟨aRS t _ h.1 hz.1,aTv o ps a (i+1) z h.2 hz.2⟩
end
mutual
theorem aZ2 {p:Prog}{Q:Node→Int→Prop}(i:∀ (o n:Int) (k:List Int) (d:List Pat) (z:Int),NdX p o n k.length d→ (o=4→n<z∧n≤29) →Q ⟨o,n,k,d⟩ z) :∀ (t:XT) (a:Nat) (z:Int),WX p t→rA t z→Pl t→∀ (j:Nat) (x:Node) (s:Int),(eM t a)[j]?=some x→ (zT t z)[j]?=some s→Q x s
 | .mk o n h d,a,z,g,f,hz,j,x,s,c,b=>by
  simp only [WX]at g;simp only [rA]at f;simp only [Pl]at hz;rw [eM]at c;rw [zT]at b;cases j with
  | zero=>
   simp only [lF,Option.some.injEq]at c b;subst c b;exact i _ _ _ _ _ (by rw [(wF h (a+1)).1];exact g.1) fun e=> ⟨f.1 e,hz.1 e⟩
  | succ j=>
   simp only [lV]at c b;exact aTw i o d h (a+1) 0 z g.2 f.2 hz.2 j x s c b
theorem aTw {p:Prog}{Q:Node→Int→Prop}(g:∀ (o n:Int) (k:List Int) (ps:List Pat) (z:Int),NdX p o n k.length ps→ (o=4→n<z∧n≤29) →Q ⟨o,n,k,ps⟩ z)(o:Int)(ps:List Pat) :∀ (c:List XT) (a i:Nat) (z:Int),jJ p c→qT o ps c i z→Pls c→∀ (j:Nat) (x:Node) (s:Int),(aW c a).2[j]?=some x→ (zTs o ps c i z)[j]?=some s→Q x s
 | [],a,i,z,_,_,_,j,x,s,d,_=>by simp [aW]at d
 | t ::c,a,i,z,f,e,hz,j,x,s,d,b=>by
  simp only [jJ]at f;simp only [qT]at e;simp only [Pls]at hz;simp only [aW]at d;rw [zTs]at b;by_cases h:j<cK t
  · rw [iQ (by rw [bM];exact h)]at d;rw [iQ (by rw [pE];exact h)]at b;exact aZ2 g t a _ f.1 e.1 hz.1 j x s d b
  · rw [kR (by rw [bM];omega),bM]at d;rw [kR (by rw [pE];omega),pE]at b;exact aTw g o ps c _ (i+1) z f.2 e.2 hz.2 _ x s d b
end
theorem aTx {p:Prog}{Q:Node→Int→Prop}(i:∀ (o n:Int) (k:List Int) (g:List Pat) (z:Int),NdX p o n k.length g→ (o=4→n<z∧n≤29) →Q ⟨o,n,k,g⟩ z) :∀ (d:List XT) (a:Nat),jJ p d→ (∀t∈d,rA t 1) →Pls d→∀ (j:Nat) (x:Node) (s:Int),(aW d a).2[j]?=some x→ (zF d)[j]?=some s→Q x s
 | [],a,_,_,_,j,x,s,c,_=>by simp [aW]at c
 | t ::d,a,e,f,hz,j,x,s,c,b=>by
  simp only [jJ]at e;simp only [Pls]at hz;simp only [aW]at c;rw [zF]at b;by_cases h:j<cK t
  · rw [iQ (by rw [bM];exact h)]at c;rw [iQ (by rw [pE];exact h)]at b;exact aZ2 i t a _ e.1 (f t (dT ..)) hz.1 j x s c b
  · rw [kR (by rw [bM];omega),bM]at c;rw [kR (by rw [pE];omega),pE]at b;exact aTx i d _ e.2 (fun x c=>f x (eD _ c)) hz.2 _ x s c b
theorem NdX.ok {p:Prog}{o n:Int}{k:List Int}{ps:List Pat}(b:NdX p o n k.length ps)(hz:o=4→n≤29) :aM p ⟨o,n,k,ps⟩ =true:=by
 by_cases a:o=4
 · obtain⟨e,c,d⟩ :=b.1 a;have:=hz a;subst d a;have hk:k= [] :=zq35.1 c;subst hk;simp [aM,dC,bO,cL,dH];omega
 · have:=b.2 a;rw [←aBi];exact this
theorem aVY {p:Prog}{x:Node}(hc:∀c∈p.cons,fC c=true)(h:aM p x=true) :x.kids.length≤10∧x.pats.length≤10:=by
 have f:=h;simp only [aM,dC,cF,decide_eq_true_eq]at h;obtain⟨⟨⟨_,b⟩,_⟩,a⟩ :=h;have e:eZ p x≤3:=by
  unfold eZ;split
  · unfold fA;split
    · rename_i c d;have:=hc c (iO d);simp only [fC,cF,dH,decide_eq_true_eq]at this;omega
    ·omega
  ·omega
 have g:x.pats.length≤5:=by
  split at b
  ·simp [dH]at b;omega
  ·simp at b;simp [b]
 refine⟨?_,by omega⟩;unfold cL at a;split at a
 ·omega
 · split at a
   ·omega
   · split at a
     ·omega
     · split at a
       ·omega
       · split at a
         ·omega
         ·split at a<;>omega
mutual
theorem bEd :∀ (t:XT) (a i:Nat) (x:Node) (k:Int),(eM t a)[i]?=some x→k∈x.kids→ ((a+i:Nat) :Int) <k∧k< ((a+cK t:Nat) :Int)
 | .mk o n b c,a,i,x,k,h,hk=>by
  rw [eM]at h;simp only [cK];cases i with
  | zero=>
   simp only [lF,Option.some.injEq]at h;subst h;have:= (wF b (a+1)).2 k hk;omega
  | succ i=>
   have:=aRT b (a+1) i x k (by simpa using h) hk;omega
theorem aRT :∀ (b:List XT) (a i:Nat) (x:Node) (k:Int),(aW b a).2[i]?=some x→k∈x.kids→ ((a+i:Nat) :Int) <k∧k< ((a+aD b:Nat) :Int)
 | [],a,i,x,k,h,_=>by simp [aW]at h
 | t ::b,a,i,x,k,h,hk=>by
  simp only [aW]at h;rw [bM]at h;simp only [aD];by_cases c:i<cK t
  · rw [iQ (by rw [bM];exact c)]at h;have:=bEd t a i x k h hk;omega
  · rw [kR (by rw [bM];omega),bM]at h;have:=aRT b (a+cK t) (i-cK t) x k h hk;omega
end
structure Hd (p:Prog) :Prop where
 one:1≤p.funs.length
 m0:0≤p.main
 m1:p.main<p.funs.length
 c20:p.cons.length≤20
 ok:∀c∈p.cons,fC c=true
 scons:∀c∈p.cons,c.name.length≤40
 names: (p.cons.map Con.name).Nodup
theorem Fs.hd {p:Prog}(h:Fs p) :Hd p:= ⟨h.head.2.1,h.head.2.2.2.1,h.head.2.2.2.2.1,h.head.2.2.2.2.2.1,h.head.2.2.2.2.2.2,fun _ hc=>h.scons hc,h.names⟩
theorem aAP {p:Prog}(hp:Hd p){ts:List XT}(hl:ts.length=p.funs.length)(S:jJ p ts)(M:∀t∈ts,rA t 1)(K:Pls ts)(V:aD ts≤300) :
  Fs (dU ts p.main p.cons) ∧ (eC (dU ts p.main p.cons)).1=true:=by
 obtain⟨W,C,O,L,w,F,D⟩ :=hp;have m:=wH ts p.main p.cons;have r:=rY ts p.main p.cons;have u:=bDY (ts:=ts) (mn:=p.main) (cons:=p.cons);have b:∀ (i:Nat) (x:Node) (s:Int),(dU ts p.main p.cons).nodes[i]?=some x→ (zF ts)[i]?=some s→aM p x=true∧ (x.op=4→x.n<s) :=fun i x s d a=>
  aTx (p:=p) (Q:=fun x s=>aM p x=true∧ (x.op=4→x.n<s)) (fun o n k I z J y=> ⟨J.ok fun e=> (y e).2,fun e=> (y e).1⟩) ts 0 S M K i x s d a
 have v:∀ (i:Nat) (x:Node),(dU ts p.main p.cons).nodes[i]?=some x→∃s,(zF ts)[i]?=some s:=fun i x d=>by
  have:= (zq0.1 d).1;exact⟨_,kH (by rw [u.len];exact this)⟩
 have R:ts.length≤aD ts:=by
  have:∀l:List XT,l.length≤aD l:=fun l=>by
   induction l with
   |nil=>simp
   |cons t l U=>obtain⟨o,n,T,I⟩ :=t;simp only [oK,aD,cK];omega
  exact this ts
 have h:=wF ts 0;have g:Fs (dU ts p.main p.cons) :=by
  refine aLV (N:=aD ts) r (by omega) (by omega) (by omega) C (by show p.main<_;rw [m,hl];exact O) L (fun c hc=> ⟨w c hc,F c hc⟩) D (fun i x d=>?_) (fun f H=>?_) (aRR ..)
  · obtain⟨s,a⟩ :=v i x d;have ok:= (b i x s d a).1;have hk:=aVY (p:=p) w ok;refine⟨by rw [aOQ (p:=dU ts p.main p.cons) (q:=p) (by rw [m,hl]) rfl];exact ok,?_,?_⟩
    · simp only [bB,fU,cF,decide_eq_true_eq];refine⟨⟨hk.1,hk.2⟩,zq27.2 fun q G=>?_⟩;simp only [aM,cF]at ok;have:=zq27.1 ok.1.2 q G;simp only [eQ,cF,decide_eq_true_eq]at this;simp only [vH,cF,decide_eq_true_eq];exact⟨by omega,aJr q this.2⟩
    · intro k hk;have X:=aRT ts 0 i x k d hk;omega
  · have:=h.2 f H;omega
 refine⟨g,?_⟩;unfold eC;rw [if_pos g.fo];have hZ:=aVW g.fine u aVV;simp only;rw [hZ];refine(pP _ _ _ 0).2 fun j A=>?_;rw [eX];obtain⟨s,a⟩ :∃s,(zF ts)[j]?=some s:= ⟨_,kH A⟩;obtain⟨x,d⟩ :∃x,(dU ts p.main p.cons).nodes[j]?=some x:= ⟨_,kH (by rw [←u.len];exact A)⟩;have:= (b j x s d a).2;simp only [sQ,d,a,Bool.not_eq_true',Bool.and_eq_false_iff,decide_eq_false_iff_not];by_cases B:x.op=4
 ·exact .inr (by have:=this B;omega)
 ·exact .inl B
theorem aLW {p:Prog}(hp:Hd p){ts:List XT}(hl:ts.length=p.funs.length)(c:jJ p ts)(a:∀t∈ts,rA t 1)(hz:tP 30 p.cons ts=true) :
  Fs (dU ts p.main p.cons) ∧ (eC (dU ts p.main p.cons)).1=true:=by
 simp only [tP,cF,yZ,decide_eq_true_eq]at hz;exact aAP hp hl c a (pls_iff.2 fun t b=>aRS t 1 (a t b) (zq27.1 hz.1.1 t b)) (by omega)
abbrev aZ3 (a:Prog)(b:List Node)(c:List Int)(d:Int)(e:List Con)(f:List Node):=aA [oC 0 [(iN a.nodes),(iI a.funs),(nI a.main),(iC a.cons)],oC 1 [.nils,.nils,(nI 0),.nils],oC 2 [(.gl 3 4 0 b.length false),(.gl 4 1 0 c.length false),(nI d),(iC e)],oL 4 1 (jI c),oL 5 4 (jN (b++f))] 6
abbrev aRU (a:Nat)(b:List Node)(c:List Int)(d:Int)(e:List Con):=oC a [(.gl 3 4 0 b.length false),(.gl 4 1 0 c.length false),(nI d),(iC e)]
abbrev aRV (a:Nat)(b:Prog):=oC a [(iN b.nodes),(iI b.funs),(nI b.main),(iC b.cons)]
abbrev aRW (a:Nat):=oC a [.nils,.nils,(nI 0),.nils]
def bFI(a:Prog):TS:=cO PP 26 [(Prog.av a)] [] 0
def aDG(a:Prog)(d:Int)(e:List Con)(f:Int)(b:List Node)(c:List Int):TS:=⟨(tf 26 41 [kp 1 0,kp 2 1,kp 3 2,(4,(nI f))] [kc f26 116,kl f26 116,.inBlock 0,kc f26 15]),[],[aRV 0 a,aRW 1,aRU 2 b c d e,oL 3 4 (jN b),oL 4 1 (jI c)],5⟩
def aZ4(a:Prog)(d:Int)(e:List Con)(f:Int)(b:List Node)(c:List Int):TS:=⟨(tf 26 41 [kp 1 0,kp 2 1,kp 3 2,(4,(nI f))] [kc f26 1865,.inBlock 1,kc f26 467,kl f26 116,.inBlock 0,kc f26 15]),[],[aRV 0 a,aRW 1,aRU 2 b c d e,oL 3 4 (jN b),oL 4 1 (jI c)],5⟩
def bEe (c:Prog):=fun a b d=>(tT 0 (bFI c)<|.y fun a:Int=>.y fun b:List Con=>gp 8 59 [(Prog.av c)] (.agg [.nils,.nils,(nI a),(iC b)])<|.i [rn 10,.cnil 2 0 4] []<|gu 0 3 (jN ([] :List Node))<|gv 0 2 0 (.gl 3 4 0 ([] :List Node).length false)<|.i [.cnil 2 1 1] []<|gu 0 4 (jI ([] :List Int))<|gv 0 2 1 (.gl 4 1 0 ([] :List Int).length false)<|.W 0 5 [0,1,2,3,4] (aDG c a b 0 ([] :List Node) ([] :List Int))) a b d ⟨kk,⟨kk,trivial⟩⟩
def bG7(c:Prog)(d:Int)(e:List Con)(f:Int)(a:List Node)(b:List Int):=tT 0 (aDG c d e f a b)<|gl 6 bU c.funs<|gd 2 11 (f< (c.funs.length:Int)) (ga 12 bU b [(a.length:Int)]<|.W 3 7 [0,1,2,3,6] (aZ4 c d e f a (b++ [(a.length:Int)])))<|gy 3 2 0 3 4 Node.av a false<|gy 0 2 1 4 1 bU b false<|gE 5 5 (.agg [(iN a),(iI b),(nI d),(iC e)])
def bEf:=fun a b c d e f g i=>bG7 a b c d e f|>.t g i ⟨kk,⟨kk,trivial⟩⟩
def bEg (a:Prog)(f:Int)(g:List Con)(i:Int)(b:List Node)(c:List Int):=fun d j k e l m n o p q=>(tT 0 (aZ4 a f g i b c)<|.y fun d:Int=>.y fun j:List Int=>.y fun k:List Int=>.y fun e:List Node=>.i [.reg (rd 6 (.ans (.idx (bU d))::rd 3 [.ans (.len (a.funs.length:Int)),.pure (iI j),.d,.d,.ans (.len (a.cons.length:Int)),.pure (iI k),.call (.gl 5 4 0 (b++e).length false) (aZ3 a b c f g e),.d,.d]))] [hA (0≤i),.a (((a.funs)[i.toNat]?) =some d) (bP (f:=bU)),hl bU a.funs,hA (aJ PP 61 [(nI 0),(nI (a.funs.length:Int))] (iI j)),hl Con.av a.cons,hA (aJ PP 61 [(nI 0),(nI (a.cons.length:Int))] (iI k)),hA (Spec PP (.enter 60 [(.gl 3 4 0 b.length false),(Prog.av a),(nI d),(iI j),(iI k)]) (aA [aRV 0 a,aRW 1,aRU 2 b c f g,oL 3 4 (jN b),oL 4 1 (jI c)] 5) (.ret (.gl 5 4 0 (b++e).length false)) (aZ3 a b c f g e)),.q (p:=(nI ((jC a.cons).length:Int)) = (nI (a.cons.length:Int))) (congrArg (int .i64) (aMI _ _)),.q (p:=(nI ((jC a.cons).length:Int)) = (nI (a.cons.length:Int))) (congrArg (int .i64) (aMI _ _)),hr (ilst 2 (jC a.cons) false),hr (ilst 2 (jC a.cons) false),hr (nI d),hr (nI d),hr (nI d),hr (ilst 1 (jI a.funs) false),hr (ilst 1 (jI a.funs) false),hr (ilst 1 (jI a.funs) false),hr (Prog.av a),hr (Prog.av a),hr (Prog.av a),hr (AV.gl 3 4 0 b.length false),hr (AV.gl 3 4 0 b.length false),hr (AV.gl 3 4 0 b.length false)]<|gw 4 13 (i+1)<|.W 3 6 [0,1,2,5,4] (aDG a f g (i+1) (b++e) c)) d j k e l m n o p q ⟨kk,⟨kk,trivial⟩⟩
theorem aOS (p:Prog)(k:Nat)(mn:Int)(cs:List Con)(j:p.funs.length<1000000)(hc:p.cons.length<1000000) :∀ (t:List Int) (i:Nat) (l:List Node) (fs b:List Int) (r:List Node),p.funs.drop i=t→fs.length=i→i≤p.funs.length →
  mU (gV p (numsL 0 p.funs.length) (numsL 0 p.cons.length) k) l.length t=some (b,r) →
  LeadsM PP 0 (aDG p mn cs (i:Int) l fs).as (aDG p mn cs ((p.funs.length:Nat) :Int) (l++r) (fs++b)).as
 | [],i,l,fs,b,r,h,hl,m,hm=>by
  have:=bJ h;obtain rfl:i=p.funs.length:=by omega
  cases hm;rw [oS,oS];exact LeadsM.refl _
 | c ::t,i,l,fs,b,r,h,hl,m,hm=>by
  obtain⟨q,s,v⟩ :=bE h;simp only [mU]at hm;split at hm
  · rename_i e d;split at hm
    · rename_i a g f;cases hm;have u:=bEf p mn cs i l fs sd (by simp;omega);have o:=bEg p mn cs i l (fs++ [((l.length:Nat) :Int)]) c _ _ e sd (by simpa using q) (aAi 0 p.funs.length j (by omega) (by omega)) (aAi 0 p.cons.length hc (by omega) (by omega)) (aOr d mn cs _) sd;have n:=aOS p k mn cs j hc t (i+1) (l++e) (fs++ [((l.length:Nat) :Int)]) a g s (by simp [hl]) (by omega) (by rw [wT];exact f);rw [show fs++ ((l.length:Nat) :Int) ::a= (fs++ [((l.length:Nat) :Int)]) ++a by simp,←zq9 l e g];exact u.trans (o.trans n)
    ·cases hm
  ·cases hm
mutual
theorem bEh {cons:List Con}:∀ (q:Pat),cJ cons q=true→aG4 (numsL 0 cons.length) q=some q
 | .mk f n s b,h=>by
  simp only [cJ,cF]at h;have e:aAN (numsL 0 cons.length) f n=some n:=by
   unfold aAN;by_cases a:f=6
   · have c:=h.1;simp [dL,a,dH]at c;rw [if_pos a,if_pos (by omega),fW 0 (by omega)];simp;omega
   ·rw [if_neg a]
  simp only [aG4,e,aCL b h.2]
theorem aCL {cons:List Con}:∀ (a:List Pat),bY cons a=true→qP (numsL 0 cons.length) a=some a
 | [],_=>rfl
 | p::a,h=>by
  simp only [bY,cF]at h;simp only [qP,bEh p h.1,aCL a h.2]
end
theorem nQ {cons:List Con}:∀ {a:List Pat},(∀q∈a,cJ cons q=true) →bY cons a=true
 | [],_=>rfl
 |p::a,h=>by simp only [bY,cF];exact⟨h p (dT ..),nQ fun q b=>h q (eD _ b)⟩
theorem bFJ {p:Prog}{x:Node}(h:aM p x=true)(e:p.funs.length<1000000) :mN (numsL 0 p.funs.length) (numsL 0 p.cons.length) x.op x.n=some x.n:=by
 simp only [aM,dC,bO,cF]at h;have c:=h.1.1.1;unfold mN;by_cases b:x.op=4
 · by_cases d:x.n<0
   · simp [b,dH]at c;rw [if_pos ⟨b,d⟩,fW 0 (by omega)];simp only;rw [if_pos (by omega)];congr 1;omega
   ·rw [if_neg (by omega),if_neg (by omega)]
 · rw [if_neg (by omega)];by_cases a:x.op=14
   · simp [a,dH]at c;rw [if_pos a,if_pos (by omega),fW 0 (by omega)];simp;omega
   ·rw [if_neg a]
section
variable {p :Prog} (hfs:Fs p)
include hfs
mutual
theorem aRX :∀ (t:XT) (a:Int) (k len:Nat),IsTree p t a→cK t≤k→len+cK t≤1000→gV p (numsL 0 p.funs.length) (numsL 0 p.cons.length) k len a=some (eM t len)
 | .mk o n g r,a,0,len,_,h,_=>by simp only [cK]at h;omega
 | .mk o n g r,a,k+1,len,i,h,hl=>by
  simp only [cK]at h hl;simp only [IsTree]at i;obtain⟨m,nd,e,rfl,rfl,rfl,l⟩ :=i;have d:= (hfs.node _ nd e).1;have f:= (hfs.fine.node _ nd e);obtain⟨_,_,_,_,_,u,_⟩ :=hfs.head
  have b:∀q∈nd.pats,cB q≤12∧cJ p.cons q=true:=fun q c=>by
   have:=d;simp only [aM,cF]at this;have:=zq27.1 this.1.2 q c;simpa only [eQ,cF,decide_eq_true_eq]using this
  have s:=wE nd.pats (fun q c=>by have:= (b q c).1;omega);have j:= (hfs.node _ nd e).2;have hk:=aDH g nd.kids k (len+1) l (by omega) (by omega);rw [gV,if_pos ⟨m,by omega⟩,e];simp only;rw [if_pos ⟨by omega,by omega⟩,bFJ d (by have:=hfs.fine.fsmall;omega)];simp only;rw [aCL nd.pats (nQ fun q c=> (b q c).2)];simp only;rw [hk,eM]
theorem aDH :∀ (a:List XT) (l:List Int) (k len:Nat),aE p a l→aD a≤k→len+aD a≤1000→mU (gV p (numsL 0 p.funs.length) (numsL 0 p.cons.length) k) len l=some ((aW a len).1,(aW a len).2)
 | [],l,k,len,h,_,_=>by simp only [aE]at h;subst h;rfl
 | t::a,l,k,len,h,hk,hl=>by
  simp only [aD]at hk hl;simp only [aE]at h;obtain⟨c,f,rfl,g,d⟩ :=h;have e:=aRX t c k len g (by omega) (by omega);have b:=aDH a f k (len+cK t) d (by omega) (by omega);simp only [mU];rw [e];simp only;rw [bM,b];simp only [aW,bM]
end
end
def sS (F C:List Int)(o n:Int) :Int:= (mN F C o n).getD n
mutual
def aVZ (C:List Int) :Pat→Pat
 | .mk f n s ps=>.mk f ((aAN C f n).getD n) s (mW C ps)
def mW (C:List Int) :List Pat→List Pat
 | [] =>[]
 |p::ps=>aVZ C p::mW C ps
end
mutual
def jF (F C:List Int) :XT→XT
 | .mk o n ks ps=>.mk o (sS F C o n) (cZ F C ks) (mW C ps)
def cZ (F C:List Int) :List XT→List XT
 | [] =>[]
 |t::ts=>jF F C t::cZ F C ts
end
mutual
theorem aLX (F C:List Int) :∀ (t:XT),cK (jF F C t) =cK t
 | .mk o n a b=>by simp only [jF,cK,aCM F C a]
theorem aCM (F C:List Int) :∀ (a:List XT),aD (cZ F C a) =aD a
 | [] =>rfl
 |t::a=>by simp only [cZ,aD,aLX F C t,aCM F C a]
end
section
variable {cons :List Con} {C:List Int} (hC:C.length=cons.length)
include hC
mutual
theorem aZ5 :∀ (q:Pat),cJ cons q=true→aG4 C q=some (aVZ C q)
 | .mk f n s b,h=>by
  simp only [cJ,cF]at h;have e:aAN C f n=some ((aAN C f n).getD n) :=by
   unfold aAN;by_cases a:f=6
   · have c:=h.1;simp [dL,a,dH]at c;rw [if_pos a,if_pos (by omega),kH (by omega)];rfl
   ·rw [if_neg a];rfl
  simp only [aG4];rw [e];simp only [tU b h.2,aVZ]
theorem tU :∀ (a:List Pat),bY cons a=true→qP C a=some (mW C a)
 | [],_=>rfl
 | p::a,h=>by
  simp only [bY,cF]at h;simp only [qP,aZ5 p h.1,tU a h.2,mW]
end
end
theorem bG8 {p:Prog}{F C:List Int}(e:F.length=p.funs.length)(hC:C.length=p.cons.length)(hb:∀g∈F,-1000000000≤g∧g≤1000000000)(f:p.funs.length<1000000){x:Node}(h:aM p x=true) :mN F C x.op x.n=some (sS F C x.op x.n) :=by
 simp only [aM,dC,bO,cF]at h;have c:=h.1.1.1;unfold sS;unfold mN;by_cases b:x.op=4
 · by_cases d:x.n<0
   · simp [b,dH]at c;rw [if_pos ⟨b,d⟩,kH (by omega)];simp only;have:=hb _ (List.getElem_mem (l:=F) (n:= (-1-x.n).toNat) (by omega));rw [if_pos (by omega)];rfl
   ·rw [if_neg (by omega),if_neg (by omega)];rfl
 · rw [if_neg (by omega)];by_cases a:x.op=14
   · simp [a,dH]at c;rw [if_pos a,if_pos (by omega),kH (by omega)];rfl
   ·rw [if_neg a];rfl
section
variable {p :Prog} (hfs:Fs p) {F C:List Int} (hF:F.length=p.funs.length) (hC:C.length=p.cons.length) (hb:∀g∈F,-1000000000≤g∧g≤1000000000)
include hfs hF hC hb
mutual
theorem aRY :∀ (t:XT) (a:Int) (k len:Nat),IsTree p t a→cK t≤k→len+cK t≤1000→gV p F C k len a=some (eM (jF F C t) len)
 | .mk o n g r,a,0,len,_,h,_=>by simp only [cK]at h;omega
 | .mk o n g r,a,k+1,len,i,h,hl=>by
  simp only [cK]at h hl;simp only [IsTree]at i;obtain⟨m,nd,e,rfl,rfl,rfl,l⟩ :=i;have d:= (hfs.node _ nd e).1;have f:= (hfs.fine.node _ nd e)
  have b:∀q∈nd.pats,cB q≤12∧cJ p.cons q=true:=fun q c=>by
   have:=d;simp only [aM,cF]at this;have:=zq27.1 this.1.2 q c;simpa only [eQ,cF,decide_eq_true_eq]using this
  have s:=wE nd.pats (fun q c=>by have:= (b q c).1;omega);have j:= (hfs.node _ nd e).2;have hk:=aAn g nd.kids k (len+1) l (by omega) (by omega);rw [gV,if_pos ⟨m,by omega⟩,e];simp only;rw [if_pos ⟨by omega,by omega⟩,bG8 hF hC hb (by have:=hfs.fine.fsmall;omega) d];simp only;rw [tU hC nd.pats (nQ fun q c=> (b q c).2)];simp only;rw [hk,jF,eM]
theorem aAn :∀ (a:List XT) (l:List Int) (k len:Nat),aE p a l→aD a≤k→len+aD a≤1000→mU (gV p F C k) len l=some ((aW (cZ F C a) len).1,(aW (cZ F C a) len).2)
 | [],l,k,len,h,_,_=>by simp only [aE]at h;subst h;rfl
 | t::a,l,k,len,h,hk,hl=>by
  simp only [aD]at hk hl;simp only [aE]at h;obtain⟨c,f,rfl,g,d⟩ :=h;have e:=aRY t c k len g (by omega) (by omega);have b:=aAn a f k (len+cK t) d (by omega) (by omega);simp only [mU];rw [e];simp only;rw [bM,aLX,b];simp only [cZ,aW,bM,aLX]
end
end
mutual
theorem aTy (C:List Int) :∀ (q:Pat),bnm (aVZ C q) =bnm q
 | .mk f n s a=>by simp only [aVZ,bnm,aOT C a]
theorem aOT (C:List Int) :∀ (a:List Pat),qY (mW C a) =qY a
 | [] =>rfl
 |p::a=>by simp only [mW,qY,aTy C p,aOT C a]
end
theorem aJs (C:List Int) :∀ (a:List Pat),mW C a=a.map (aVZ C)
 | [] =>rfl
 |p::a=>by simp only [mW,dJ,aJs C a]
theorem cP (F C:List Int) :∀ (a:List XT),cZ F C a=a.map (jF F C)
 | [] =>rfl
 |t::a=>by simp only [cZ,dJ,cP F C a]
theorem aOU (F C:List Int) :∀ (t:XT),bK (jF F C t) =bK t
 | .mk o n b a=>rfl
theorem aRZ (F C:List Int) :∀ (b:List XT) (t:XT),jF F C (clB b t) =clB (b.map (jF F C)) (jF F C t)
 | [],t=>rfl
 | a::b,t=>by
  have e:sS F C 7 0=0:=by unfold sS mN;rw [if_neg (by decide),if_neg (by decide)];rfl
  simp only [clB,jF,cZ,mW,dJ,e,aRZ F C b t]
theorem qU {F C:List Int}{n:Int}(h:0≤n) :sS F C 4 n=n:=by
 unfold sS mN;rw [if_neg (by omega),if_neg (by decide)];rfl
theorem aHC (C:List Int)(o:Int)(ps:List Pat)(k:Int) :bI o (mW C ps) k=bI o ps k:=by
 simp only [bI,eR,aJs,mZ];cases ps[(k-1).toNat]? with
 |none=>rfl
 |some q=>simp only [Option.map_some,aTy]
def Nn (l:List Int) :Prop:=∀x∈l,(0:Int) ≤x
theorem aTz {l:List Int}(h:Nn l)(i:Nat) :0≤l.getD i 0:=by
 rw [hQ];cases e:l[i]? with
 |none=>simp
 |some v=>simpa using h v (iO e)
theorem aZ6 {l:List Int}{n k:Int}(h:Nn l)(b:0≤n) :Nn (plc l n k) :=fun x a=>by
 rcases zq28.1 a with a|a
 ·exact h x a
 · obtain⟨i,_,rfl⟩ :=zq24.1 a;omega
theorem aZ7 {l:List Int}{n:Int}(h:Nn l)(b:0≤n) :Nn (l++ [n]) :=fun x a=>by
 rcases zq28.1 a with a|a
 ·exact h x a
 ·rw [zq32]at a;omega
theorem aHD {F C:List Int}(a:Nn F){n:Int}(h:n<0) :sS F C 4 n<0:=by
 unfold sS mN;rw [if_pos ⟨rfl,h⟩];cases e:F[(-1-n).toNat]? with
 |none=>simpa using h
 | some g=>
  have:=a g (iO e);simp only;split
  ·simp only [Option.getD_some];omega
  ·simpa using h
theorem aTA {F C:List Int}(d:Nn F){to:List Int}(c:Nn to) :∀ (t:XT),sR (jF F C t) to=jF F C (sR t to)
 | .mk o n i j=>by
  by_cases h:o=4∧0≤n
  · obtain⟨rfl,a⟩ :=h;have f:=aTz c n.toNat;simp only [jF,sR,qU a,a,and_self,if_true,qU f]
  · have b:¬ (o=4∧0≤sS F C o n) :=fun⟨e,g⟩ =>by
     subst e;have:=aHD (C:=C) d (n:=n) (by omega);omega
    simp only [jF,sR,if_neg h,if_neg b]
def aAQ (F C:List Int)(f:Flow) :Flow:= ⟨f.binds.map (jF F C),jF F C f.last⟩
theorem aLY (o:Int)(ps:List Pat)(k:Int)(h:∀q∈ps,0≤bnm q) :0≤bI o ps k:=by
 simp only [bI,eR];split
 ·omega
 · split
   · split
     ·rename_i q a;exact h q (iO a)
     ·omega
   ·omega
mutual
theorem aLZ :∀ (q:Pat),0≤bnm q
 | .mk f n s a=>by
  have:=aTB a;simp only [bnm];split<;>omega
theorem aTB :∀ (a:List Pat),0≤qY a
 | [] =>by simp [qY]
 | p::a=>by
  have:=aLZ p;have:=aTB a;simp only [qY];omega
end
section
variable {F C:List Int} (hF:Nn F)
include hF
mutual
theorem aHE :∀ (t:XT) (c:List Int) (z:Int),Nn c→0≤z→gQ (jF F C t) c z=aAQ F C (gQ t c z)
 | .mk o n a i,c,z,f,hz=>by
  have b:=aTA (C:=C) hF f (.mk o n a i);have d:=aOU F C (.mk o n a i);have e: (cZ F C a).length=a.length:=by rw [cP,hJ]
  rw [jF]at b d ⊢;rw [gQ,gQ,d,e];by_cases g:bK (.mk o n a i) =true
  ·rw [if_pos g,if_pos g,b];rfl
  · rw [if_neg g,if_neg g];by_cases h:o=7
    · rw [if_pos h,if_pos h];exact bEi a c z f hz
    · rw [if_neg h,if_neg h];obtain⟨l,k⟩ :=aL0 a (bL o a.length) c z f hz;have j:=aL1 o i a 0 (bL o a.length) c (z+ ((mV a (bL o a.length) c z).1.length:Nat)) f (by omega);rw [l,k,hJ,j];simp only [aAQ,jF,cP,wX]
theorem bEi :∀ (c:List XT) (b:List Int) (z:Int),Nn b→0≤z→flL (cZ F C c) b z=aAQ F C (flL c b z)
 | [],b,z,_,_=>by
  simp only [cZ,flL,aAQ,map_nil];rfl
 | a::c,b,z,e,hz=>by
  have f:=aHE a b z e hz;simp only [cZ,flL,f];have d:=bEj c (b++ [z+ ((gQ a b z).binds.length:Nat)]) (z+ ((gQ a b z).binds.length+1:Nat)) (aZ7 e (by omega)) (by omega);simp only [aAQ,hJ]at d ⊢;rw [d];simp only [wX,dJ]
theorem bEj :∀ (c:List XT) (a:List Int) (z:Int),Nn a→0≤z→flB (cZ F C c) a z=aAQ F C (flB c a z)
 | [],a,z,_,_=>by
  simp only [cZ,flB,aAQ,map_nil];rfl
 | b::c,a,z,d,hz=>by
  simp only [cZ,flB];exact aHE b a z d hz
theorem aL0 :∀ (b:List XT) (m:Nat) (a:List Int) (z:Int),Nn a→0≤z→ (mV (cZ F C b) m a z).1= (mV b m a z).1.map (jF F C) ∧ (mV (cZ F C b) m a z).2= (mV b m a z).2.map (jF F C)
 | [],m,a,z,_,_=>by simp [cZ,mV]
 |k::b,0,a,z,_,_=>by simp [cZ,mV]
 | k ::b,m+1,a,z,d,hz=>by
  simp only [cZ,mV,aOU];by_cases c:bK k=true
  · obtain⟨f,e⟩ :=aL0 b m a z d hz;rw [if_pos c,if_pos c];simp only [f,e,dJ,aTA hF d k,and_self]
  · rw [if_neg c,if_neg c];have g:=aHE k a z d hz;obtain⟨f,e⟩ :=aL0 b m a (z+ ((gQ k a z).binds.length+1:Nat)) d (by omega);rw [g];simp only [aAQ,hJ];rw [f,e];simp only [wX,dJ,jF,cZ,mW,qU (F:=F) (C:=C) (show 0≤z+ ((gQ k a z).binds.length:Nat)by omega),and_self]
theorem aL1 (o:Int)(ps:List Pat) :∀ (b:List XT) (i m:Nat) (a:List Int) (n:Int),Nn a→0≤n→zB o (mW C ps) (cZ F C b) i m a n= (zB o ps b i m a n).map (jF F C)
 | [],i,m,a,n,_,_=>by simp [cZ,zB]
 | k::b,i,m+1,a,n,d,c=>by
  simp only [cZ,zB];exact aL1 o ps b (i+1) m a n d c
 | k::b,i,0,a,n,d,c=>by
  have f:=aLY o ps (i:Int) (fun q _=>aLZ q);have e:=aHE k (plc a n (bI o ps (i:Int))) (n+bI o ps (i:Int)) (aZ6 d c) (by omega);simp only [cZ,zB,dJ,aHC,e,aL1 o ps b (i+1) 0 a n d c,clF,aAQ,aRZ]
end
theorem aZ8 (t:XT) :pW (jF F C t) =jF F C (pW t) :=by
 unfold pW;rw [aHE hF t [0] 1 (fun x a=>by rw [zq32]at a;omega) (by decide)];simp only [clF,aAQ,aRZ]
end
mutual
def fnT :XT→List Int
 | .mk o n ks _=>if o=4∧n<0 then n::eN ks else eN ks
def eN :List XT→List Int
 | [] =>[]
 |t::ts=>fnT t++eN ts
end
theorem aHF :∀ (a b:List XT),eN (a++b) =eN a++eN b
 | [],b=>by simp [eN]
 |t::a,b=>by simp [eN,aHF a b]
theorem fn_mem {n:Int}:∀ {ts:List XT},n∈eN ts↔∃t∈ts,n∈fnT t
 | [] =>by simp [eN]
 |t::ts=>by simp [eN,fn_mem (ts:=ts)]
theorem aR0 {n:Int}:∀ {t:XT},n∈fnT t→n<0:=fun {t}=>by
 refine XT.rec (motive_1:=fun t=>n∈fnT t→n<0) (motive_2:=fun b=>n∈eN b→n<0) (fun o m e f a h=>?_) (fun h=>by simp [eN]at h) (fun t b d c h=>?_) t
 · rw [fnT]at h;split at h
   · rename_i g;rcases zq7.1 h with rfl|h
     ·exact g.2
     ·exact a h
   ·exact a h
 · rw [eN]at h;rcases zq28.1 h with h|h
   ·exact d h
   ·exact c h
theorem aZ9 {to:List Int}(a:Nn to) :∀ (t:XT),fnT (sR t to) =fnT t
 | .mk o n c b=>by
  have:=aTz a n.toNat;rw [sR];split
  ·rename_i h;rw [fnT,fnT,if_neg (by omega),if_neg (by omega)]
  ·rfl
theorem bAa {n:Int}:∀ (b:List XT) (t:XT),n∈fnT (clB b t) ↔n∈eN b∨n∈fnT t
 | [],t=>by simp [clB,eN]
 | a::b,t=>by
  simp only [clB,fnT,eN];rw [if_neg (by decide),zq28,oS,bAa b t,zq28,or_assoc]
mutual
theorem aL2 {p:Prog}:∀ (t:XT),WX p t→∀n∈fnT t,-(p.funs.length:Int) ≤n
 | .mk o n b c,a,m,hm=>by
  simp only [WX]at a;rw [fnT]at hm;split at hm
  · rename_i g;rcases zq7.1 hm with rfl|hm
    ·have:= (a.1.1 g.1).1;omega
    ·exact aL3 b a.2 m hm
  ·exact aL3 b a.2 m hm
theorem aL3 {p:Prog}:∀ (b:List XT),jJ p b→∀n∈eN b,-(p.funs.length:Int) ≤n
 | [],_,n,a=>by simp [eN]at a
 | t::b,c,n,a=>by
  simp only [jJ]at c;rw [eN]at a;rcases zq28.1 a with a|a
  ·exact aL2 t c.1 n a
  ·exact aL3 b c.2 n a
end
def fnF (f:Flow) :List Int:=eN f.binds++fnT f.last
section
variable {p :Prog} {x:Int}
mutual
theorem aOV :∀ (t:XT),WX p t→∀ (b:List Int) (z:Int),Nn b→0≤z→ (x∈fnF (gQ t b z) ↔x∈fnT t)
 | .mk o n a i,c,b,z,d,hz=>by
  have l:=c;simp only [WX]at c;rw [gQ];by_cases e:bK (.mk o n a i) =true
  ·rw [if_pos e,fnF,aZ9 d,eN,qW]
  · rw [if_neg e];have g:¬ (o=4∧n<0) :=fun h=>e (by rw [atomX_iff];exact .inr (.inr (.inr h.1)));by_cases f:o=7
    · obtain⟨_,_,hl⟩ :=c.1.let7 f;rw [if_pos f,fnT,if_neg g];exact bG9 a c.2 (by omega) b z d hz
    · rw [if_neg f,fnT,if_neg g,fnF,fnT,if_neg g];have m:=aR1 a c.2 (bL o a.length) b z d hz;have k:=aR2 o i a c.2 0 (bL o a.length) b (z+ ((mV a (bL o a.length) b z).1.length:Nat)) d (by omega);have j:eN a=eN (a.take (bL o a.length)) ++eN (a.drop (bL o a.length)) :=by rw [←aHF,List.take_append_drop]
      rw [j,aHF,zq28,zq28,zq28,k,←m,zq28,or_assoc]
theorem bG9 :∀ (c:List XT),jJ p c→c.length≤2→∀ (b:List Int) (z:Int),Nn b→0≤z→ (x∈fnF (flL c b z) ↔x∈eN c)
 | [],_,_,b,z,_,_=>by simp [flL,fnF,eN,dXT,fnT]
 | a::c,d,hl,b,z,f,hz=>by
  simp only [jJ]at d;have g:=aOV a d.1 b z f hz;have e:=bHa c d.2 (by simp at hl;omega) (b++ [z+ ((gQ a b z).binds.length:Nat)]) (z+ ((gQ a b z).binds.length+1:Nat)) (aZ7 f (by omega)) (by omega);rw [flL];simp only [fnF,aHF,eN,zq28]at g e ⊢;rw [←g,←e];simp only [or_assoc]
theorem bHa :∀ (a:List XT),jJ p a→a.length≤1→∀ (c:List Int) (z:Int),Nn c→0≤z→ (x∈fnF (flB a c z) ↔x∈eN a)
 | [],_,_,c,z,_,_=>by simp [flB,fnF,eN,dXT,fnT]
 | b::a,d,hl,c,z,e,hz=>by
  simp only [jJ]at d;obtain rfl:a= [] :=zq35.1 (by rw [oK]at hl;omega);rw [flB,eN,eN,oS];exact aOV b d.1 c z e hz
theorem aR1 :∀ (c:List XT),jJ p c→∀ (m:Nat) (b:List Int) (z:Int),Nn b→0≤z→ (x∈eN (mV c m b z).1++eN (mV c m b z).2↔x∈eN (c.take m))
 | [],_,m,b,z,_,_=>by simp [mV,eN]
 |k::c,_,0,b,z,_,_=>by simp [mV,eN]
 | k ::c,g,m+1,b,z,f,hz=>by
  simp only [jJ]at g;rw [mV,List.take_succ_cons,eN];by_cases i:bK k=true
  · have d:=aR1 c g.2 m b z f hz;rw [zq28]at d;rw [if_pos i,eN,aZ9 f,zq28,zq28,zq28,←d];constructor<;> (rintro(h|h|h) <;>simp [h])
  · have j:=aOV k g.1 b z f hz;have d:=aR1 c g.2 m b (z+ ((gQ k b z).binds.length+1:Nat)) f (by omega);rw [zq28]at d;have e:∀ (a:Int),0≤a→fnT (.mk 4 a [] []) = [] :=fun a i=>by rw [fnT,if_neg (by omega)];rfl
    rw [if_neg i,zq28 (t:=eN (c.take m)),←j,←d];simp only [fnF,aHF,eN,zq28,or_assoc,e _ (show 0≤z+ ((gQ k b z).binds.length:Nat)by omega),qW]
theorem aR2 (o:Int)(ps:List Pat) :∀ (b:List XT),jJ p b→∀ (i m:Nat) (a:List Int) (n:Int),Nn a→0≤n→ (x∈eN (zB o ps b i m a n) ↔x∈eN (b.drop m))
 | [],_,i,m,a,n,_,_=>by simp [zB,eN]
 | k::b,c,i,m+1,a,n,d,e=>by
  simp only [jJ]at c;rw [zB,List.drop_succ_cons];exact aR2 o ps b c.2 (i+1) m a n d e
 | k::b,c,i,0,a,n,d,e=>by
  simp only [jJ]at c;have h:=aLY o ps (i:Int) (fun q _=>aLZ q);have g:=aOV k c.1 (plc a n (bI o ps (i:Int))) (n+bI o ps (i:Int)) (aZ6 d e) (by omega);have f:=aR2 o ps b c.2 (i+1) 0 a n d e;rw [List.drop_zero]at f ⊢;rw [zB,eN,eN,zq28,zq28,f,clF,bAa,←g,fnF,zq28]
end
theorem bFK {t:XT}(h:WX p t) :x∈fnT (pW t) ↔x∈fnT t:=by
 unfold pW;rw [clF,bAa,←aOV t h [0] 1 (fun x a=>by rw [zq32]at a;omega) (by decide),fnF,zq28]
end
def aIk :List Int→Int→List (Int×Int)
 | [],_=>[]
 |a::t,i=> (i,a) ::aIk t (i+1)
theorem aOW :∀ (F:List Int) (b:Int) (j:Nat),mR (b+ (j:Int)) (aIk F b) =F[j]?
 | [],_,_=>by simp [aIk,mR]
 |a::t,b,0=>by simp [aIk,mR]
 | a::t,b,j+1=>by
  simp only [aIk,mR];rw [if_neg (by omega),show b+ ((j+1:Nat) :Int) = (b+1) + (j:Int)by omega,aOW t (b+1) j];simp
structure RenOk (p Z:Prog) (C:List Int) :Prop where
 len:C.length=p.cons.length
 cons:∀ (i:Nat) (d:Con),p.cons[i]?=some d→∃c:Int,C[i]?=some c∧0≤c∧Z.cons[c.toNat]?=some d
 one:1≤Z.funs.length
section
variable {p Z:Prog} {F C:List Int}
theorem aTC {i:Nat}{c:Int}(h:C[i]?=some c) :mAt (aIk C 0) (i:Int) =c:=by
 have:=aOW C 0 i;rw [Int.zero_add,h]at this;unfold mAt;rw [this];rfl
theorem RenOk.maps (h:RenOk p Z C) :MapsOk p Z [] (aIk C 0) := ⟨fun i _ _=>by have:=h.one;simp [mAt,mR];omega,fun i d hd=>by
 obtain⟨c,e,a,b⟩ :=h.cons i d hd;rw [aTC e];exact⟨a,b⟩⟩
theorem RenOk.same (h:RenOk p Z C) :aJd p.cons.length (aIk C 0) C:=fun i a b=>by
 have hl:=h.len;have e:C[i.toNat]?=some C[i.toNat] :=kH (by omega);have:=aTC e;rw [show((i.toNat:Nat) :Int) =i by omega]at this;rw [this,e]
theorem bHb (h:RenOk p Z C){o n:Int}{k:Nat}{ps:List Pat}(d:NdX p o n k ps)(r:o=4→n<0→ -(Z.funs.length:Int) ≤sS F C 4 n) :NdX Z o (sS F C o n) k (mW C ps) :=by
 refine⟨fun e=>?_,fun e=>?_⟩
 · subst e;obtain⟨_,s,j⟩ :=d.1 rfl;refine⟨?_,s,by rw [j];rfl⟩;by_cases l:n<0
   ·have:=r rfl l;omega
   ·rw [qU (by omega)];omega
 · have ok:=d.2 e
   have a:∀q∈ps,cJ p.cons q=true:=fun q i=>by
    have:=ok;simp only [aM,cF]at this;have:=zq27.1 this.1.2 q i;simp only [eQ,cF]at this;exact this.2
   have f:mW C ps=oR (aIk C 0) ps:=Option.some.inj ((tU h.len ps (nQ a)).symm.trans (aFm p.cons h.same ps (nQ a)));have m:sS F C o n=bN [] (aIk C 0) o n:=by
    unfold sS mN bN;rw [if_neg (fun g=>e g.1),if_neg e];by_cases b:o=14
    · subst b;have c:=ok;simp only [aM,dC,bO,cF]at c;have c:=c.1.1.1;simp [dH]at c;rw [if_pos rfl,if_pos rfl,if_pos c.1,h.same n c.1 (by omega)];rfl
    ·rw [if_neg b,if_neg b];rfl
   rw [f,m];have:=aZY h.maps [] ok;rw [aCc,←aBi]at this;simpa only [hJ,aAs]using this
mutual
theorem aL4 (h:RenOk p Z C) :∀ (t:XT),WX p t→ (∀n∈fnT t,-(Z.funs.length:Int) ≤sS F C 4 n) →WX Z (jF F C t)
 | .mk o n c f,a,b=>by
  simp only [WX]at a;rw [fnT]at b;rw [jF,WX,cP,hJ,←cP];refine⟨bHb h a.1 (fun e d=>?_),aTD h c a.2 (fun m hm=>b m ?_)⟩
  ·exact b n (by rw [if_pos ⟨e,d⟩];exact dT ..)
  · split
    ·exact eD _ hm
    ·exact hm
theorem aTD (h:RenOk p Z C) :∀ (a:List XT),jJ p a→ (∀n∈eN a,-(Z.funs.length:Int) ≤sS F C 4 n) →jJ Z (cZ F C a)
 | [],_,_=>trivial
 | t::a,b,c=>by
  simp only [jJ]at b;rw [eN]at c;exact⟨aL4 h t b.1 (fun m hm=>c m (aEC _ hm)),aTD h a b.2 (fun m hm=>c m (aFr _ hm))⟩
end
mutual
theorem aR3 (a:Nn F) :∀ (t:XT) (z:Int),0≤z→rA t z→rA (jF F C t) z
 | .mk o n b c,z,hz,h=>by
  simp only [rA]at h;rw [jF,rA];refine⟨fun e=>?_,aTE a o c b 0 z hz h.2⟩;subst e;by_cases d:n<0
  ·have:=aHD (C:=C) a d;omega
  ·rw [qU (by omega)];exact h.1 rfl
theorem aTE (b:Nn F)(o:Int)(ps:List Pat) :∀ (a:List XT) (i:Nat) (z:Int),0≤z→qT o ps a i z→qT o (mW C ps) (cZ F C a) i z
 | [],_,_,_,_=>trivial
 | t::a,i,z,hz,h=>by
  simp only [qT]at h;have:=aLY o ps (i:Int) (fun q _=>aLZ q);rw [cZ,qT,aHC];exact⟨aR3 b t _ (by omega) h.1,aTE b o ps a (i+1) z hz h.2⟩
end
mutual
theorem aR4 (a:Nn F) :∀ (t:XT),Pl t→Pl (jF F C t)
 | .mk o n c d,h=>by
  simp only [Pl]at h;rw [jF,Pl];refine⟨fun e=>?_,aTF a c h.2⟩;subst e;by_cases b:n<0
  ·have:=aHD (C:=C) a b;omega
  ·rw [qU (by omega)];exact h.1 rfl
theorem aTF (b:Nn F) :∀ (a:List XT),Pls a→Pls (cZ F C a)
 | [],_=>trivial
 | t::a,h=>by
  simp only [Pls]at h;exact⟨aR4 b t h.1,aTF b a h.2⟩
end
mutual
theorem aL5 (mo:Int) :∀ (t:XT) (z:Int),zOk mo (jF F C t) z=zOk mo t z
 | .mk o n b a,z=>by rw [jF,zOk,zOk,aOX mo o a b 0 z]
theorem aOX (mo o:Int)(ps:List Pat) :∀ (a:List XT) (i:Nat) (z:Int),aEI mo o (mW C ps) (cZ F C a) i z=aEI mo o ps a i z
 | [],_,_=>rfl
 |t::a,i,z=>by rw [cZ,aEI,aEI,aHC,aL5 mo t,aOX mo o ps a (i+1) z]
end
theorem bIw (h:p.funs.length<1000000){o n:Int}{k:Nat}{ps:List Pat}(b:NdX p o n k ps) :sS (numsL 0 p.funs.length) (numsL 0 p.cons.length) o n=n∧mW (numsL 0 p.cons.length) ps=ps:=by
 by_cases e:o=4
 · obtain⟨i,_,f⟩ :=b.1 e;refine⟨?_,by rw [f];rfl⟩;subst e;by_cases g:n<0
   · unfold sS mN;rw [if_pos ⟨rfl,g⟩,fW 0 (by omega)];simp only;rw [if_pos (by omega),Option.getD_some];omega
   ·exact qU (by omega)
 · have ok:=b.2 e
   have a:∀q∈ps,cJ p.cons q=true:=fun q d=>by
    have:=ok;simp only [aM,cF]at this;have:=zq27.1 this.1.2 q d;simp only [eQ,cF]at this;exact this.2
   have c:=bFJ ok h;refine⟨by unfold sS;simp only at c;rw [c];rfl,Option.some.inj ((tU (fV ..) ps (nQ a)).symm.trans (aCL ps (nQ a)))⟩
mutual
theorem bAc (b:p.funs.length<1000000) :∀ (t:XT),WX p t→jF (numsL 0 p.funs.length) (numsL 0 p.cons.length) t=t
 | .mk o n c f,a=>by
  simp only [WX]at a;obtain⟨e,d⟩ :=bIw b a.1;rw [jF,e,d,aTG b c a.2]
theorem aTG (c:p.funs.length<1000000) :∀ (a:List XT),jJ p a→cZ (numsL 0 p.funs.length) (numsL 0 p.cons.length) a=a
 | [],_=>rfl
 | t::a,b=>by
  simp only [jJ]at b;rw [cZ,bAc c t b.1,aTG c a b.2]
end
end
def aHG (i:Nat) :List Int→List Int→List Int
 | [],l=>l
 |k::t,l=>aHG i t (l.set k.toNat (l.getD i 0))
def aEJ :List Node→Nat→List Int→List Int
 | [],_,l=>l
 |x::t,i,l=>aEJ t (i+1) (aHG i x.kids l)
def aIl :List Int→Nat→List Int→List Int
 | [],_,l=>l
 |f::t,i,l=>aIl t (i+1) (l.set f.toNat (i:Int))
def wI (p:Prog) :List Int:=aEJ p.nodes 0 (aIl p.funs 0 (replicate p.nodes.length 0))
theorem aCN (i:Nat) :∀ (t l:List Int),(aHG i t l).length=l.length
 | [],_=>rfl
 |k::t,l=>by rw [aHG,aCN i t];simp
theorem aOY :∀ (t:List Node) (i:Nat) (l:List Int),(aEJ t i l).length=l.length
 | [],_,_=>rfl
 |x::t,i,l=>by rw [aEJ,aOY t,aCN]
theorem aHH :∀ (t:List Int) (i:Nat) (l:List Int),(aIl t i l).length=l.length
 | [],_,_=>rfl
 |f::t,i,l=>by rw [aIl,aHH t];simp
theorem bAd (p:Prog) : (wI p).length=p.nodes.length:=by rw [wI,aOY,aHH];simp
def kX (own:List Int) :List Node→Nat→List Bool→List Bool
 | [],_,l=>l
 |x::t,i,l=>kX own t (i+1) (if x.op=4∧x.n<0∧l.getD (own.getD i 0).toNat false=true then l.set (-1-x.n).toNat true else l)
def rZ (p:Prog)(own:List Int) :Nat→List Bool→List Bool
 |0,l=>l
 |k+1,l=>rZ p own k (kX own p.nodes 0 l)
def bG (p:Prog) :List Bool:=rZ p (wI p) p.funs.length ((replicate p.funs.length false).set p.main.toNat true)
theorem aAp (own:List Int) :∀ (t:List Node) (i:Nat) (l:List Bool),(kX own t i l).length=l.length
 | [],_,_=>rfl
 |x::t,i,l=>by rw [kX,aAp own t];split<;>simp
theorem aJt (p:Prog)(own:List Int) :∀ (k:Nat) (l:List Bool),(rZ p own k l).length=l.length
 |0,_=>rfl
 |k+1,l=>by rw [rZ,aJt p own k,aAp]
theorem lL (p:Prog) : (bG p).length=p.funs.length:=by rw [bG,aJt];simp
structure OwnsP (p:Prog) (own:List Int) :Prop where
 len:own.length=p.nodes.length
 own:∀i:Nat,i<p.nodes.length→0≤own.getD i 0∧own.getD i 0<p.funs.length
 name:∀ (i:Nat) (x:Node),p.nodes[i]?=some x→x.op=4→x.n<0→ -1-x.n<p.funs.length
 small:p.nodes.length≤320
 fsmall:p.funs.length≤320
 main:0≤p.main∧p.main<p.funs.length
abbrev inK (l:List Bool)(x:Nat) :Prop:=l.getD x false=true
theorem aTH (l:List Bool)(y x:Nat) :inK (l.set y true) x→inK l x∨x=y:=fun h=>by
 unfold inK at h ⊢;rw [hQ,getElem?_set]at h;split at h
 ·rename_i e;exact .inr e.symm
 ·rw [←hQ]at h;exact .inl h
theorem aOZ (l:List Bool)(y x:Nat)(h:inK l x) :inK (l.set y true) x:=by
 unfold inK at h ⊢;rw [hQ,getElem?_set];rw [hQ]at h;split
 · rename_i e;subst e;have:y<l.length:=by
    rcases Nat.lt_or_ge y l.length with q|q
    ·exact q
    ·rw [aBt q]at h;cases h
   rw [if_pos this];rfl
 ·exact h
theorem aTI (l:List Bool)(y:Nat)(h:y<l.length) :inK (l.set y true) y:=by
 unfold inK;rw [hQ,getElem?_set,if_pos rfl,if_pos h];rfl
abbrev bJu (own:List Int)(l:List Bool)(i:Nat)(x:Node) :Prop:=x.op=4∧x.n<0∧l.getD (own.getD i 0).toNat false=true
theorem wJ (own:List Int) :∀ (t:List Node) (i:Nat) (l:List Bool) (x:Nat),inK l x→inK (kX own t i l) x
 | [],_,_,_,h=>h
 | y::t,i,l,x,h=>by
  rw [kX];apply wJ own t (i+1);split
  ·exact aOZ _ _ _ h
  ·exact h
theorem aEx (own:List Int)(R:Nat→Prop) :∀ (t:List Node) (i:Nat) (l:List Bool),(∀ (j:Nat) (x:Node),t[j]?=some x→x.op=4→x.n<0→R (own.getD (i+j) 0).toNat→R (-1-x.n).toNat) → (∀x,inK l x→R x) →∀x,inK (kX own t i l) x→R x
 | [],_,_,_,hl,x,h=>hl x h
 | y :: t,i,l,b,hl,x,h=>by
  rw [kX]at h;refine aEx own R t (i+1) _ (fun j z hz=>?_) (fun z hz=>?_) x h
  · have:=b (j+1) z (by simpa using hz);rw [show i+1+j=i+ (j+1)by omega];exact this
  · split at hz
    · rename_i a;rcases aTH _ _ _ hz with q|q
      ·exact hl z q
      · rw [q];exact b 0 y rfl a.1 a.2.1 (hl _ a.2.2)
    ·exact hl z hz
theorem aHI (own:List Int) :∀ (t:List Node) (i:Nat) (l:List Bool),(∀x,inK (kX own t i l) x→inK l x) → (∀ (j:Nat) (x:Node),t[j]?=some x→x.op=4→x.n<0→ (-1-x.n).toNat<l.length) →
  ∀ (j:Nat) (x:Node),t[j]?=some x→bJu own l (i+j) x→inK l (-1-x.n).toNat
 | [],_,_,_,_,j,x,h,_=>by simp at h
 | y::t,i,l,hc,c,0,x,h,b=>by
  simp only [lF,Option.some.injEq]at h;subst h;apply hc;rw [Nat.add_zero]at b;rw [kX,if_pos b];exact wJ own t (i+1) _ _ (aTI _ _ (c 0 y rfl b.1 b.2.1))
 | y ::t,i,l,hc,c,j+1,x,h,b=>by
  simp only [lV]at h;rw [kX]at hc;have same:∀z,inK (if y.op=4∧y.n<0∧l.getD (own.getD i 0).toNat false=true then l.set (-1-y.n).toNat true else l) z→inK l z:=fun z hz=>hc z (wJ own t (i+1) _ z hz)
  have a:∀z,inK l z→inK (if y.op=4∧y.n<0∧l.getD (own.getD i 0).toNat false=true then l.set (-1-y.n).toNat true else l) z:=fun z hz=>by
   split
   ·exact aOZ _ _ _ hz
   ·exact hz
  apply same;refine aHI own t (i+1) _ (fun z hz=>a z (hc z hz)) (fun j z hz d e=>?_) j x h ⟨b.1,b.2.1,?_⟩
  · have:=c (j+1) z (by simpa using hz) d e;split
    ·rw [eG];exact this
    ·exact this
  · rw [show i+1+j=i+ (j+1)by omega];exact a _ b.2.2
theorem aDI :∀ (l:List Bool) (y:Nat),l.count true≤ (l.set y true).count true
 | [],_=>by simp
 |b::l,0=>by cases b<;>simp
 | b::l,y+1=>by
  have:=aDI l y;simp only [List.set_cons_succ,List.count_cons];omega
theorem aHJ :∀ (l:List Bool) (y:Nat),(l.set y true).count true=l.count true→l.set y true=l
 | [],_,_=>by simp
 |b::l,0,h=>by cases b<;>simp_all
 | b::l,y+1,h=>by
  simp only [List.set_cons_succ,List.count_cons]at h ⊢;rw [aHJ l y (by omega)]
theorem zH (own:List Int) :∀ (t:List Node) (i:Nat) (l:List Bool),l.count true≤ (kX own t i l).count true
 | [],_,_=>Nat.le_refl _
 | y::t,i,l=>by
  rw [kX];refine Nat.le_trans ?_ (zH own t (i+1) _);split
  ·exact aDI _ _
  ·exact Nat.le_refl _
theorem aBm (own:List Int) :∀ (t:List Node) (i:Nat) (l:List Bool),(kX own t i l).count true=l.count true→kX own t i l=l
 | [],_,_,_=>rfl
 | y ::t,i,l,h=>by
  rw [kX]at h ⊢;have c:=zH own t (i+1) (if y.op=4∧y.n<0∧l.getD (own.getD i 0).toNat false=true then l.set (-1-y.n).toNat true else l);split at h
  · rename_i a;rw [if_pos a]at c ⊢;have d:=aDI l (-1-y.n).toNat;have b: (l.set (-1-y.n).toNat true).count true=l.count true:=by omega
    rw [aBm own t (i+1) _ (by omega),aHJ l _ b]
  · rename_i a;rw [if_neg a];exact aBm own t (i+1) l h
theorem aJu (p:Prog)(own:List Int) :∀ (k:Nat) (l:List Bool),l.length<k+l.count true→kX own p.nodes 0 (rZ p own k l) =rZ p own k l
 | 0,l,h=>by
  have:=List.count_le_length (a:=true) (l:=l);omega
 | k +1,l,h=>by
  rw [rZ];have d:=zH own p.nodes 0 l;by_cases e: (kX own p.nodes 0 l).count true=l.count true
  · have b:=aBm own p.nodes 0 l e;rw [b]
    have:∀k,rZ p own k l=l:=fun k=>by
     induction k with
     |zero=>rfl
     |succ k c=>rw [rZ,b];exact c
    rw [this k,b]
  ·exact aJu p own k _ (by rw [aAp];omega)
theorem aHK (p:Prog)(own:List Int) :∀ (k:Nat) (l:List Bool) (x:Nat),inK l x→inK (rZ p own k l) x
 |0,_,_,h=>h
 |k+1,l,x,h=>by rw [rZ];exact aHK p own k _ x (wJ own _ _ _ x h)
theorem aEy (p:Prog)(own:List Int)(R:Nat→Prop)(a:∀ (j:Nat) (x:Node),p.nodes[j]?=some x→x.op=4→x.n<0→R (own.getD j 0).toNat→R (-1-x.n).toNat) :∀ (k:Nat) (l:List Bool),(∀x,inK l x→R x) →∀x,inK (rZ p own k l) x→R x
 |0,_,hl,x,h=>hl x h
 | k+1,l,hl,x,h=>by
  rw [rZ]at h;exact aEy p own R a k _ (fun z hz=>aEx own R p.nodes 0 l (fun j y b=>by rw [eX];exact a j y b) hl z hz) x h
inductive ReaN (p:Prog) (own:List Int) :Nat→Prop
 |main:ReaN p own p.main.toNat
 |step {j:Nat} {x:Node}:p.nodes[j]?=some x→x.op=4→x.n<0→ReaN p own (own.getD j 0).toNat→ReaN p own (-1-x.n).toNat
theorem aR5 {p:Prog}(f:OwnsP p (wI p))(x:Nat) :inK (bG p) x↔ReaN p (wI p) x:=by
 obtain⟨n,o⟩ :=f.main;have a:p.main.toNat< (replicate p.funs.length false).length:=by rw [aAs];omega
 constructor
 · intro h;refine aEy p (wI p) (ReaN p (wI p)) (fun j y d c e l=>.step d c e l) p.funs.length _ (fun z hz=>?_) x h;rcases aTH _ _ _ hz with q|q
   · unfold inK at q;rw [hQ,List.getElem?_replicate]at q;split at q<;>cases q
   ·rw [q];exact .main
 · intro h;have b:kX (wI p) p.nodes 0 (bG p) =bG p:=by
    refine aJu p (wI p) p.funs.length _ ?_;have:0< ((replicate p.funs.length false).set p.main.toNat true).count true:=by
     rw [List.count_pos_iff];exact iO (i:=p.main.toNat) (by rw [getElem?_set,if_pos rfl,if_pos a])
    rw [eG,aAs];omega
   induction h with
   |main=>exact aHK p (wI p) _ _ _ (aTI _ _ a)
   | @step j y d c e _ m=>
    refine aHI (wI p) p.nodes 0 (bG p) (fun z hz=>by rw [b]at hz;exact hz) (fun j z hz g k=>?_) j y d ⟨c,e,by rw [eX];exact m⟩;have:=f.name j z hz g k;rw [lL];omega
theorem aDJ {lo n:Int}:∀ {b:List Int} {u v:List Bool},marks lo n b u=some v→∀k∈b,v[k.toNat]?=some true
 | [],_,_,_,k,hk=>by cases hk
 | a::b,u,v,h,k,hk=>by
  obtain⟨d,c⟩ :=eU h;rcases zq7.1 hk with rfl|hk
  ·exact jX c _ (getElem?_set_self (zq0.1 d).1)
  ·exact aDJ c k hk
theorem aAq {i:Nat}{lo n:Int}:∀ {t:List Int} {u v:List Bool} {l:List Int},marks lo n t u=some v→∀m:Nat,u[m]?=some true→ (aHG i t l)[m]?=l[m]?
 | [],_,_,_,_,_,_=>rfl
 | k::t,u,v,l,h,m,hm=>by
  obtain⟨b,c⟩ :=eU h;have a:k.toNat≠m:=fun e=>by rw [e,hm]at b;cases b
  rw [aHG,aAq c m (by rw [getElem?_set_ne a];exact hm),getElem?_set_ne a]
theorem aAr {p:Prog}:∀ {t:List Node} {i:Nat} {u v:List Bool} {l:List Int},bS p i t u=some v→∀m:Nat,u[m]?=some true→ (aEJ t i l)[m]?=l[m]?
 | [],_,_,_,_,_,_,_=>rfl
 | x::t,i,u,v,l,h,m,hm=>by
  obtain⟨_,w,a,b⟩ :=eI h;rw [aEJ,aAr b m (jX a m hm),aAq a m hm]
theorem aJv {lo n:Int}:∀ {t:List Int} {i:Nat} {u v:List Bool} {l:List Int},marks lo n t u=some v→∀m:Nat,u[m]?=some true→ (aIl t i l)[m]?=l[m]?
 | [],_,_,_,_,_,_,_=>rfl
 | k::t,i,u,v,l,h,m,hm=>by
  obtain⟨b,c⟩ :=eU h;have a:k.toNat≠m:=fun e=>by rw [e,hm]at b;cases b
  rw [aIl,aJv c m (by rw [getElem?_set_ne a];exact hm),getElem?_set_ne a]
theorem aO0 {i:Nat}{lo n:Int}:∀ {t:List Int} {u v:List Bool} {l:List Int},marks lo n t u=some v→u.length=l.length→u[i]?=some true→∀ (d:Nat) (k:Int),t[d]?=some k→ (aHG i t l)[k.toNat]?=some (l.getD i 0)
 | [],_,_,_,_,_,_,d,k,hk=>by simp at hk
 | a::t,u,v,l,h,c,j,d,k,hk=>by
  obtain⟨g,m⟩ :=eU h;have b:a.toNat≠i:=fun e=>by rw [e,j]at g;cases g
  have f:a.toNat<u.length:= (zq0.1 g).1;rw [aHG];cases d with
  | zero=>
   simp at hk;subst hk;rw [aAq m _ (by rw [getElem?_set_self f]),getElem?_set_self (by omega)]
  | succ d=>
   have:=aO0 (i:=i) (l:=l.set a.toNat (l.getD i 0)) m (by simpa using c) (by rw [getElem?_set_ne b];exact j) d k (by simpa using hk);rw [this,hQ,getElem?_set_ne b,←hQ]
theorem aO1 {p:Prog}:∀ {t:List Node} {i:Nat} {u v:List Bool} {l:List Int},bS p i t u=some v→ (∀m,m<v.length→v[m]?=some true) →u.length=l.length→i+t.length≤u.length→∀ (j:Nat) (x:Node) (d:Nat) (k:Int),t[j]?=some x→x.kids[d]?=some k →
  ∃s,(aEJ t i l)[i+j]?=some s∧ (aEJ t i l)[k.toNat]?=some s
 | [],_,_,_,_,_,_,_,_,j,x,d,k,c,_=>by simp at c
 | y ::t,i,u,v,l,h,r,a,f,j,x,d,k,c,hk=>by
  obtain⟨_,w,b,n⟩ :=eI h;have o:=hY b;simp only [oK]at f;rw [aEJ];cases j with
  | zero=>
   simp at c;subst c;have A:=iM h;have e:u[i]?=some true:=vW h i (Nat.le_refl _) (r i (by omega));have q:=aO0 (i:=i) (l:=l) b a e d k hk;have g:w[k.toNat]?=some true:=aDJ b k (iO hk);refine⟨l.getD i 0,?_,?_⟩
   · show(aEJ t (i+1) (aHG i y.kids l))[i]?=some (l.getD i 0);rw [aAr n i (jX b i e),aAq b i e,hQ,kH (by omega)];rfl
   ·rw [aAr n _ g,q]
  | succ j=>
   obtain⟨s,z,B⟩ :=aO1 (l:=aHG i y.kids l) n r (by rw [aCN,o,a]) (by omega) j x d k (by simpa using c) hk;exact⟨s,by rw [←z];congr 1;omega,B⟩
theorem aJw {lo n:Int}:∀ {t:List Int} {i:Nat} {u v:List Bool} {l:List Int},marks lo n t u=some v→u.length=l.length→∀ (d:Nat) (f:Int),t[d]?=some f→ (aIl t i l)[f.toNat]?=some ((i+d:Nat) :Int)
 | [],_,_,_,_,_,_,d,f,b=>by simp at b
 | a::t,i,u,v,l,h,c,d,f,b=>by
  obtain⟨j,g⟩ :=eU h;have e:a.toNat<u.length:= (zq0.1 j).1;rw [aIl];cases d with
  | zero=>
   simp at b;subst b;rw [aJv g _ (getElem?_set_self e),getElem?_set_self (by omega)];rfl
  | succ d=>
   have:=aJw (i:=i+1) (l:=l.set a.toNat (i:Int)) g (by simpa using c) d f (by simpa using b);rw [this];congr 2;omega
structure Oprop (p:Prog) (S:List Int) :Prop where
 len:S.length=p.nodes.length
 root:∀ (d:Nat) (f:Int),p.funs[d]?=some f→S[f.toNat]?=some (d:Int)
 kid:∀ (i:Nat) (x:Node) (k:Int),p.nodes[i]?=some x→k∈x.kids→S[k.toNat]?=S[i]?
theorem aEz {p:Prog}(a:aN p=true) :Oprop p (wI p) :=by
 simp only [aN,cF]at a;obtain⟨_,a⟩ :=a;split at a
 · rename_i u g;unfold allT at a;split at a
   · rename_i v e;have b:u.length=p.nodes.length:=by rw [hY g];simp
     have j:v.length=p.nodes.length:=by rw [iM e,b]
     have c:∀m,m<v.length→v[m]?=some true:=fun m hm=>by
      rw [kH hm];have:=zq27.1 a _ (List.getElem_mem hm);simpa using this
     refine⟨bAd p,fun d f hd=>?_,fun i x k n hk=>?_⟩
     · rw [wI,aAr e _ (aDJ g f (iO hd)),aJw g (by simp) d f hd];congr 2;omega
     · obtain⟨d,hd⟩ :=getElem?_of_mem hk;obtain⟨s,h,o⟩ :=aO1 (l:=aIl p.funs 0 (replicate p.nodes.length 0)) e c (by rw [aHH];simp [b]) (by omega) i x d k n hd;rw [eX]at h;rw [wI,h,o]
   ·cases a
 ·cases a
theorem bAe {p:Prog}{S:List Int}(a:Oprop p S)(hc:rX p) :∀ (b m:Nat),m≤b→m<p.nodes.length→∃d:Nat,d<p.funs.length∧S[m]?=some (d:Int)
 | b,m,hb,hm=>by
  rcases hc m hm with⟨f,g,e⟩ | ⟨i,x,k,c,hk,e,h⟩
  · obtain⟨d,hd⟩ :=getElem?_of_mem g;exact⟨d,(zq0.1 hd).1,by rw [←e];exact a.root d f hd⟩
  · rw [←e,a.kid i x k c hk];cases b with
    |zero=>omega
    |succ b=>exact bAe a hc b i (by omega) (by omega)
theorem aCO {p:Prog}(h:aK p=true)(c:aN p=true)(f:∀ (i:Nat) (x:Node),p.nodes[i]?=some x→aM p x=true)(hm:0≤p.main∧p.main<p.funs.length) :OwnsP p (wI p) :=by
 obtain⟨b,_,hc⟩ :=kG h c;have a:=aEz c;refine⟨a.len,fun i g=>?_,fun i x k j m=>?_,b.small,b.fsmall,hm⟩
 · obtain⟨d,hd,e⟩ :=bAe a hc i i (Nat.le_refl _) g;rw [hQ,e];show 0≤ (d:Int) ∧ (d:Int) <p.funs.length;omega
 · have:=f i x k;simp only [aM,cF,dC,bO,j]at this;have l:=this.1.1.1;simp [inB_iff]at l;omega
inductive ReaT (ts:List XT) (m:Int) :Nat→Prop
 |main:ReaT ts m m.toNat
 |step {d:Nat} {t:XT} {n:Int}:ReaT ts m d→ts[d]?=some t→n∈fnT t→ReaT ts m (-1-n).toNat
theorem bEk {p:Prog}{ts:List XT}(f:jJ p ts){m:Int}(x:Nat) :ReaT (ts.map pW) m x↔ReaT ts m x:=by
 constructor
 · intro h
   induction h with
   |main=>exact .main
   | @step d t n _ a b c=>
    rw [mZ]at a;cases e:ts[d]? with
    |none=>rw [e]at a;cases a
    | some u=>
     rw [e]at a;cases a;exact .step c e ((bFK (wxs_iff.1 f u (iO e))).1 b)
 · intro h
   induction h with
   |main=>exact .main
   | @step d t n _ a b c=>exact .step c (by rw [mZ,a];rfl) ((bFK (wxs_iff.1 f t (iO a))).2 b)
theorem wK {p:Prog}:∀ {a:List XT} {l:List Int},aE p a l→ (∀ (j:Nat) (k:Int),l[j]?=some k→∃t,a[j]?=some t∧IsTree p t k)
 | [],l,h,j,k,hk=>by simp only [aE]at h;subst h;simp at hk
 | t::a,l,h,j,k,hk=>by
  simp only [aE]at h;obtain⟨c,e,rfl,d,b⟩ :=h;cases j with
  |zero=>simp at hk;subst hk;exact⟨t,rfl,d⟩
  |succ j=>simpa using wK b j k (by simpa using hk)
section
variable {p :Prog} (h:Fs p) {ts:List XT} (ht:aE p ts p.funs)
section
variable {S :List Int} (hS:Oprop p S)
include hS
mutual
theorem aTJ :∀ (t:XT) (a:Int) (d:Int),IsTree p t a→S[a.toNat]?=some d→∀n∈fnT t,∃ (i:Nat) (x:Node),p.nodes[i]?=some x∧x.op=4∧x.n=n∧n<0∧S[i]?=some d
 | .mk o n e h,a,d,b,hd,m,hm=>by
  simp only [IsTree]at b;obtain⟨j,nd,c,rfl,rfl,rfl,f⟩ :=b;have hk:=aO2 e nd.kids d f (fun k hk=>by rw [hS.kid _ nd k c hk,hd]);rw [fnT]at hm;split at hm
  · rename_i g;rcases zq7.1 hm with rfl|hm
    ·exact⟨a.toNat,nd,c,g.1,rfl,g.2,hd⟩
    ·exact hk m hm
  ·exact hk m hm
theorem aO2 :∀ (b:List XT) (l:List Int) (d:Int),aE p b l→ (∀k∈l,S[k.toNat]?=some d) →∀n∈eN b,∃ (i:Nat) (x:Node),p.nodes[i]?=some x∧x.op=4∧x.n=n∧n<0∧S[i]?=some d
 | [],_,_,_,_,n,a=>by simp [eN]at a
 | t::b,l,d,h,hl,n,a=>by
  simp only [aE]at h;obtain⟨c,e,rfl,g,f⟩ :=h;rw [eN]at a;rcases zq28.1 a with a|a
  ·exact aTJ t c d g (hl c (dT ..)) n a
  ·exact aO2 b e d f (fun k hk=>hl k (eD _ hk)) n a
end
include h ht in
theorem aTK (hc:rX p) :∀ (b i:Nat),i≤b→i<p.nodes.length→∃ (d:Nat) (t u:XT),S[i]?=some (d:Int) ∧ts[d]?=some t∧IsTree p u (i:Int) ∧∀n∈fnT u,n∈fnT t
 | b, i,hb,s=>by
  rcases hc i s with⟨f,l,e⟩ | ⟨j,x,k,g,hk,e,L⟩
  · obtain⟨d,hd⟩ :=getElem?_of_mem l;obtain⟨t,B,z⟩ :=wK ht d f hd;have hr:=h.fine.funs f l;refine⟨d,t,t,by rw [←e];exact hS.root d f hd,B,by rw [←e,show((f.toNat:Nat) :Int) =f by omega];exact z,fun n y=>y⟩
  · cases b with
    |zero=>omega
    | succ b=>
     obtain⟨d,t,u,A,F,q,G⟩ :=aTK hc b j (by omega) (by omega);obtain⟨o,n,ks,J⟩ :=u;simp only [IsTree]at q;obtain⟨_,nd,r,M,I,K,H⟩ :=q;rw [oM,g]at r;cases r;obtain⟨c,a⟩ :=getElem?_of_mem hk;obtain⟨v,C,D⟩ :=wK H c k a;have w:= (h.fine.node j x g).2.2 k hk;refine⟨d,t,v,by rw [←e,hS.kid j x k g hk,A],F,by rw [←e,show((k.toNat:Nat) :Int) =k by omega];exact D,fun m hm=>G m ?_⟩;have:m∈eN ks:=fn_mem.2 ⟨v,iO C,hm⟩;rw [fnT];split
     ·exact eD _ this
     ·exact this
end
include h ht
theorem bAf (x:Nat) :ReaN p (wI p) x↔ReaT ts p.main x:=by
 have c:=aEz h.fo;obtain⟨_,_,hc⟩ :=kG h.sm h.fo;constructor
 · intro g
   induction g with
   |main=>exact .main
   | @step j y m w A _ b=>
    obtain⟨d,t,u,e,f,l,B⟩ :=aTK h ht c hc j j (Nat.le_refl _) (zq0.1 m).1;rw [hQ,e]at b;refine .step (d:=d) b f (B _ ?_);obtain⟨o,n,C,F⟩ :=u;simp only [IsTree]at l;obtain⟨_,nd,a,rfl,rfl,rfl,_⟩ :=l;rw [oM,m]at a;cases a;rw [fnT,if_pos ⟨w,A⟩];exact dT ..
 · intro g
   induction g with
   |main=>exact .main
   | @step d t n _ e f b=>
    obtain⟨k,r,v⟩ :=pQ ht d t e;obtain⟨i,y,a,s,z,D,q⟩ :=aTJ c t k d v (c.root d k r) n f;rw [←z];refine .step a s (by omega) ?_;rw [hQ,q];exact b
theorem tV (x:Nat) : (bG p)[x]?=some true↔ReaT ts p.main x:=by
 have c:=aCO h.sm h.fo (fun i x a=> (h.node i x a).1) ⟨h.head.2.2.2.1,h.head.2.2.2.2.1⟩;rw [←bAf h ht,←aR5 c];unfold inK;rw [hQ];cases (bG p)[x]? with
 |none=>simp
 |some b=>simp
end
theorem aBn {p a:Prog}(h:Fs p)(g:Fs a){ts:List XT}(b:aE p ts p.funs)(c:aE a (ts.map pW) a.funs)(hm:a.main=p.main) :bG a=bG p:=by
 have d:=zE (fun i x j=> (h.node i x j).1) ts p.funs b;have hl: (bG a).length= (bG p).length:=by rw [lL,lL,←cC b,←cC c,hJ]
 refine ext_getElem? fun i=>?_;have e: (bG a)[i]?=some true↔ (bG p)[i]?=some true:=by rw [tV g c,tV h b,hm,bEk d]
 by_cases f:i< (bG p).length
 · rw [kH f,kH (by omega)]at e ⊢;congr 1;cases l: (bG a)[i]'(by omega) <;>cases k: (bG p)[i] <;>simp_all
 ·rw [aBt (by omega),aBt (by omega)]
end
end Go.Hb
