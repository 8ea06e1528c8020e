/- A machine on abstract values, its soundness, ways, plain laws. -/
import Derived.Test.YtabmpnmmkeieiaaGreatHF
import Derived.Test.YtabmpnmmkeieiaaGreatHG
import Derived.Test.YtabmpnmmkeieiaaGreatHJ
import Derived.Test.YtabmpnmmkeieiaaGreatHK
import Derived.Test.YtabmpnmmkeieiaaGreatHM
import Derived.Test.YtabmpnmmkeieiaaGreatHP
set_option linter.defProp false
set_option linter.unusedVariables false
set_option linter.unusedSimpArgs false
set_option linter.unusedSectionVars false
set_option maxRecDepth 100000
set_option maxHeartbeats 4000000
namespace Go.Hb
open AV (keyless keylessL)
open Bool (and_eq_true or_eq_true)
open List (all_cons all_eq_true append_assoc append_nil drop getElem?_cons_zero length length_append length_cons map map_cons map_nil mem_append mem_append_left mem_append_right mem_cons mem_cons_of_mem mem_cons_self mem_of_getElem? nil_append pairwise_cons set_cons_succ set_cons_zero set_set take)
open Nat (le_refl zero_le)
open Terms (av)
open Go.Proofs Tryz
noncomputable section
def xN :Nat→List aB→List aB
 |0,tk=>tk
 |n+1,tk=>xN n (tk++ [kG tk])
theorem eC :∀ (n:Nat) (tk:List aB),(xN n tk).length=tk.length+n
 |0,tk=>rfl
 |n+1,tk=>by rw [xN,eC n,length_append];simp;omega
theorem aNu :∀ (n:Nat) (tk:List aB),∃x,xN n tk=tk++x
 |0,tk=> ⟨[],by rw [append_nil];rfl⟩
 | n+1,tk=>by
  obtain⟨x,h⟩ :=aNu n (tk++ [kG tk]);exact⟨kG tk::x,by rw [xN,h,append_assoc];rfl⟩
theorem aF5 :∀ (n:Nat) (tk:List aB),tk.Nodup→tk.length+n≤1000000→ (xN n tk).Nodup
 |0,tk,h,_=>h
 | n+1,tk,h,hl=>by
  rw [xN];refine aF5 n _ ?_ (by simp;omega);rw [List.nodup_append];refine⟨h,by simp,fun a ha b hb e=>?_⟩;rw [List.mem_singleton.1 hb]at e;exact(aJG tk (by omega)).2 (e ▸ ha)
theorem aBa :∀ (n m:Nat) (tk:List aB),xN m (xN n tk) =xN (n+m) tk
 |0,m,tk=>by rw [Nat.zero_add];rfl
 |n+1,m,tk=>by rw [xN,aBa n m,Nat.succ_add];rfl
def pU :List Term→List Pat→List aB→List Term×List Pat×List aB
 |k::ks,p::ps,tk=> (renL (aO p) tk.length k:: (pU ks ps (xN (aO p).length tk)).1,lW (aO p) tk.length p:: (pU ks ps (xN (aO p).length tk)).2.1,(pU ks ps (xN (aO p).length tk)).2.2)
 |ks,ps,tk=> (ks,ps,tk)
structure AH where
 s:aB
 ks:List Term
 ps:List Pat
 tk:List aB
def lR (o:Int)(s:aB)(ks:List Term)(ps:List Pat)(tk:List aB) :AH:=
 if o=5∨o=27 then⟨bR tk.length,ks.map (kW s (bR tk.length)),ps,tk++ [kG tk]⟩
 else if o=7 then match ks with
  | [k0,k1] => ⟨bR tk.length,[k0,kW s (bR tk.length) k1],ps,tk++ [kG tk]⟩
  |ks=> ⟨s,ks,ps,tk⟩
 else if o=15 then match ks with
  |k0::kr=> ⟨s,k0:: (pU kr ps tk).1,(pU kr ps tk).2.1,(pU kr ps tk).2.2⟩
  | [] => ⟨s,[],ps,tk⟩
 else⟨s,ks,ps,tk⟩
def rG (g:Term→List aB→Term×List aB) :List Term→List aB→List Term×List aB
 | [],tk=> ([],tk)
 |k::ks,tk=> ((g k tk).1:: (rG g ks (g k tk).2).1,(rG g ks (g k tk).2).2)
def eD :Nat→Term→List aB→Term×List aB
 |0,t,tk=> (t,tk)
 |f+1,.mk o n s ks ps,tk=> (.mk o n (lR o s ks ps tk).s (rG (eD f) (lR o s ks ps tk).ks (lR o s ks ps tk).tk).1 (lR o s ks ps tk).ps,(rG (eD f) (lR o s ks ps tk).ks (lR o s ks ps tk).tk).2)
theorem mP {o n:Int}{s:aB}{ks:List Term}{ps:List Pat}(h:nN (.mk o n s ks ps)) :
  ((o=5∨o=27) ∧ (∃k,ks= [k]) ∧ps= []) ∨ (o=7∧ (∃k0 k1,ks= [k0,k1]) ∧ps= []) ∨ (o=15∧∃k0 kr,ks=k0::kr∧kr.length=ps.length) ∨ (¬ (o=5∨o=27) ∧o≠7∧o≠15∧ps= []) :=by
 rw [nN,arO]at h;obtain⟨⟨h1,h2,h3,h4,h5⟩,_⟩ :=h;have hp:o≠15→ps= [] :=fun g=>List.length_eq_zero_iff.1 (h4 g);by_cases a:o=5∨o=27
 · refine .inl ⟨a,?_,hp (by omega)⟩
   match ks,h1 a with
   | [k],_=>exact⟨k,rfl⟩
 · by_cases b:o=7
   · refine .inr (.inl ⟨b,?_,hp (by omega)⟩)
     match ks,h2 b with
     | [k0,k1],_=>exact⟨k0,k1,rfl⟩
   · by_cases c:o=15
     · refine .inr (.inr (.inl ⟨c,?_⟩))
       match ks,h3 c with
       |k0::kr,e=>exact⟨k0,kr,rfl,by simpa using e⟩
     ·exact .inr (.inr (.inr ⟨a,b,c,hp c⟩))
def nlM (e:List aB) :List Term→List Pat→List NT
 |k::ks,p::ps=>jM (e++aO p) k::nlM e ks ps
 |_,_=>[]
theorem aLQ (e:List aB)(s:aB) :∀ (ks:List Term) (qs ps:List Pat),ks.length=ps.length→iV e 15 s (qs++ps) (qs.length+1) ks=nlM e ks ps
 | [],qs,[],_=>by rw [iV,nlM];intros;simp_all
 | k::ks,qs,p::ps,h=>by
  have hb:aR 15 s (qs++p::ps) (qs.length+1) =aO p:=by simp [aR]
  have:=aLQ e s ks (qs++ [p]) ps (by simpa using h);rw [append_assoc,length_append]at this;rw [iV,nlM,hb];exact congrArg _ this
def aT8 (ps:List Pat) :Prop:=∀p∈ps,pOk p∧ (aO p).Nodup∧∀y∈aO p,¬lT y
theorem aT9 (e:List aB) :∀ (ks:List Term) (ps:List Pat) (tk:List aB),ks.length=ps.length→gB ks→aT8 ps→oM tk.length (dM ks) →
  nlM e (pU ks ps tk).1 (pU ks ps tk).2.1=nlM e ks ps∧fB (pU ks ps tk).2.1=fB ps∧ (pU ks ps tk).1.length= (pU ks ps tk).2.1.length
 | [],[],tk,_,_,_,_=> ⟨rfl,rfl,rfl⟩
 | k::ks,p::ps,tk,hl,hk,hp,hn=>by
  rw [gB]at hk;rw [dM]at hn;obtain⟨p1,p2,p3⟩ :=hp p (mem_cons_self ..)
  obtain⟨h1,h2,h3⟩ :=aT9 e ks ps (xN (aO p).length tk) (by simpa using hl) hk.2 (fun q hq=>hp q (mem_cons_of_mem _ hq))
   (iG (j:=tk.length) (fun s hs=>hn s (mem_append_right _ hs)) (by rw [eC];omega))
  have g1:=aNq (aO p) tk.length k e hk.1 (fun s hs=>hn s (mem_append_left _ hs)) p2 p3;have g2:=nM (aO p) [] p tk.length rfl p2 p3 (by simp);rw [pU];refine⟨?_,?_,?_⟩
  ·rw [nlM,nlM,h1,g2,nil_append,g1]
  ·rw [fB,fB,h2,(wR _ _ p).1]
  ·rw [length_cons,length_cons,h3]
theorem aLR {o n:Int}{s:aB}{ks:List Term}{ps:List Pat}(h:nN (.mk o n s ks ps)){tk:List aB}(hn:oM tk.length (dM ks))(e:List aB) :
  iV e o (lR o s ks ps tk).s (lR o s ks ps tk).ps 0 (lR o s ks ps tk).ks=iV e o s ps 0 ks∧fB (lR o s ks ps tk).ps=fB ps:=by
 have hc:=mP h;have hm:=aEz h;rw [nN]at h;obtain⟨_,h2,h3,h4⟩ :=h;unfold lR;rcases hc with⟨a,⟨k,rfl⟩,rfl⟩ | ⟨a,⟨k0,k1,rfl⟩,rfl⟩ | ⟨a,k0,kr,rfl,hl⟩ | ⟨a,b,c,rfl⟩
 · rw [if_pos a];simp only [gB,dM,append_nil]at h4 hn;have hb:∀x,aR o x [] 0= [x] :=fun x=>by rw [aR,if_pos a]
   have:=aHX s tk.length k e [] h4.1 hn (by simp) (by simp);rw [append_nil,append_nil]at this;refine⟨?_,rfl⟩;simp only [map_cons,map_nil,iV,hb,this]
 · have hb:∀x,aR o x [] 0= [] ∧aR o x [] (0+1) = [x] :=fun x=>by subst a;simp [aR]
   rw [if_neg (by omega),if_pos a];simp only [gB,dM,append_nil]at h4 hn;have:=aHX s tk.length k1 e [] h4.2.1 (fun x hx=>hn x (mem_append_right _ hx)) (by simp) (by simp);rw [append_nil,append_nil]at this;refine⟨?_,rfl⟩;simp only [iV,(hb _).1,(hb _).2,this]
 · rw [if_neg (by omega),if_neg (by omega),if_pos a];subst a;rw [gB]at h4;rw [dM]at hn;obtain⟨g1,g2,g3⟩ :=aT9 e kr ps tk hl h4.2 h3 (fun x hx=>hn x (mem_append_right _ hx));have hb:∀qs,aR 15 s qs 0= [] :=fun qs=>by simp [aR]
   have e1:=aLQ e s kr [] ps hl;have e2:=aLQ e s (pU kr ps tk).1 [] (pU kr ps tk).2.1 g3;simp only [nil_append,List.length_nil]at e1 e2;refine⟨?_,g2⟩;simp only [iV,hb,e1,e2,g1]
 · rw [if_neg a,if_neg b,if_neg c];exact⟨rfl,rfl⟩
theorem aLS :∀ (ks:List Term) (ps:List Pat) (tk:List aB),ks.length=ps.length→gB ks→aT8 ps→oM tk.length (dM ks) →
  gB (pU ks ps tk).1∧oM (pU ks ps tk).2.2.length (dM (pU ks ps tk).1) ∧cZ (pU ks ps tk).1=cZ ks∧aY (pU ks ps tk).1=aY ks∧ (pU ks ps tk).1.length=ks.length∧∃m,(pU ks ps tk).2.2=xN m tk∧m≤aM ps
 | [],[],tk,_,_,_,_=> ⟨trivial,fun _ h=> (by cases h),rfl,rfl,rfl,0,rfl,zero_le _⟩
 | k ::ks,p::ps,tk,hl,hk,hp,hn=>by
  rw [gB]at hk;rw [dM]at hn;have hn1:oM tk.length (nO k) :=fun s hs=>hn s (mem_append_left _ hs)
  obtain⟨h1,h2,h3,h4,h5,m,h6,h7⟩ :=aLS ks ps (xN (aO p).length tk) (by simpa using hl) hk.2 (fun q hq=>hp q (mem_cons_of_mem _ hq))
   (iG (j:=tk.length) (fun s hs=>hn s (mem_append_right _ hs)) (by rw [eC];omega))
  obtain⟨g1,g2,g3,g4⟩ :=aF4 (aO p) tk.length k hk.1 hn1;have hpl:=mK p;rw [pU];simp only;refine⟨?_,?_,?_,?_,?_,(aO p).length+m,?_,?_⟩
  ·rw [gB];exact⟨g1,h1⟩
  · rw [dM];intro s hs;rcases List.mem_append.1 hs with g|g
    ·exact iG g2 (by rw [h6,eC,eC];omega) s g
    ·exact h2 s g
  ·rw [cZ,cZ,h3,g3]
  ·rw [aY,aY,h4,g4]
  ·rw [length_cons,length_cons,h5]
  ·rw [h6,aBa]
  ·rw [aM];omega
theorem aBX {o n:Int}{s:aB}{ks:List Term}{ps:List Pat}(h:nN (.mk o n s ks ps)){tk:List aB}(hn:oM tk.length (dM ks)) :
  gB (lR o s ks ps tk).ks∧oM (lR o s ks ps tk).tk.length (dM (lR o s ks ps tk).ks) ∧cZ (lR o s ks ps tk).ks=cZ ks∧aY (lR o s ks ps tk).ks=aY ks∧ (lR o s ks ps tk).ks.length=ks.length ∧
  ∃m,(lR o s ks ps tk).tk=xN m tk∧m≤aM ps+1:=by
 have hc:=mP h;rw [nN]at h;obtain⟨_,h2,h3,h4⟩ :=h;unfold lR;rcases hc with⟨a,⟨k,rfl⟩,rfl⟩ | ⟨a,⟨k0,k1,rfl⟩,rfl⟩ | ⟨a,k0,kr,rfl,hl⟩ | ⟨a,b,c,rfl⟩
 · rw [if_pos a];simp only [gB,dM,append_nil,and_true]at h4 hn;obtain⟨g1,g2⟩ :=aA9 s (bR tk.length) k;simp only [map_cons,map_nil,gB,dM,append_nil,cZ,aY,g1,g2,and_true,true_and];refine⟨aA7 _ _ _ h4,?_,rfl,1,rfl,by omega⟩;rw [length_append];exact aC4 hn
 · rw [if_neg (by omega),if_pos a];simp only [gB,dM,append_nil,and_true]at h4 hn;obtain⟨g1,g2⟩ :=aA9 s (bR tk.length) k1;simp only [gB,dM,append_nil,cZ,aY,g1,g2,and_true,true_and];refine⟨⟨h4.1,aA7 _ _ _ h4.2⟩,?_,rfl,1,rfl,by omega⟩;rw [length_append];intro x hx;rcases List.mem_append.1 hx with g|g
   ·exact iG (j:=tk.length) (fun x hx=>hn x (mem_append_left _ hx)) (by simp) x g
   ·exact aC4 (j:=tk.length) (k:=k1) (fun x hx=>hn x (mem_append_right _ hx)) x g
 · rw [if_neg (by omega),if_neg (by omega),if_pos a];rw [gB]at h4;rw [dM]at hn;obtain⟨g1,g2,g3,g4,g5,m,g6,g7⟩ :=aLS kr ps tk hl h4.2 h3 (fun x hx=>hn x (mem_append_right _ hx));refine⟨?_,?_,?_,?_,?_,m,g6,by omega⟩
   ·simp only [gB];exact⟨h4.1,g1⟩
   · simp only [dM];intro x hx;rcases List.mem_append.1 hx with g|g
     ·exact iG (j:=tk.length) (fun x hx=>hn x (mem_append_left _ hx)) (by rw [g6,eC];omega) x g
     ·exact g2 x g
   ·simp only [cZ,g3]
   ·simp only [aY,g4]
   ·simp only [length_cons,g5]
 · rw [if_neg a,if_neg b,if_neg c];exact⟨h4,hn,rfl,rfl,rfl,0,rfl,zero_le _⟩
theorem aNv :∀ (ks ks':List Term) (ps ps':List Pat) (tk:List aB),ks.length=ps.length→ks'.length=ps'.length→aT8 ps→aT8 ps'→fB ps=fB ps' →
  (pU ks ps tk).2= (pU ks' ps' tk).2
 | [],[],[],[],tk,_,_,_,_,_=>rfl
 | [],k'::ks',[],p'::ps',tk,_,_,_,_,h=>by rw [fB,fB]at h;cases h
 |k::ks,[],p::ps,[],tk,_,_,_,_,h=>by rw [fB,fB]at h;cases h
 | k::ks,k'::ks',p::ps,p'::ps',tk,hl,hl',hp,hp',h=>by
  rw [fB,fB,List.cons.injEq]at h;obtain⟨p1,p2,p3⟩ :=hp p (mem_cons_self ..);obtain⟨q1,q2,q3⟩ :=hp' p' (mem_cons_self ..);have e1:=aOq h.1 p1 q1 p2 q2 p3 q3 tk.length;have e2:= (aHY p p' h.1 p1 q1).1;have:=aNv ks ks' ps ps' (xN (aO p).length tk) (by simpa using hl) (by simpa using hl') (fun q hq=>hp q (mem_cons_of_mem _ hq)) (fun q hq=>hp' q (mem_cons_of_mem _ hq)) h.2;rw [pU,pU,←e2,e1];simp only [this]
theorem bCF {o n n':Int}{s s':aB}{ks ks':List Term}{ps ps':List Pat}(h:nN (.mk o n s ks ps))(h':nN (.mk o n' s' ks' ps'))(tk:List aB)
  (hs: (if bnd o then []else s) = (if bnd o then []else s')) (hp:fB ps=fB ps') :
  (lR o s ks ps tk).s= (lR o s' ks' ps' tk).s∧ (lR o s ks ps tk).ps= (lR o s' ks' ps' tk).ps∧ (lR o s ks ps tk).tk= (lR o s' ks' ps' tk).tk:=by
 have hc:=mP h;have hc':=mP h';rw [nN]at h h';obtain⟨_,h2,h3,h4⟩ :=h;obtain⟨_,h2',h3',h4'⟩ :=h';unfold lR;rcases hc with⟨a,⟨k,rfl⟩,rfl⟩ | ⟨a,⟨k0,k1,rfl⟩,rfl⟩ | ⟨a,k0,kr,rfl,hl⟩ | ⟨a,b,c,rfl⟩
 · rcases hc' with⟨a',⟨k',rfl⟩,rfl⟩ | ⟨a',⟨k0',k1',rfl⟩,rfl⟩ | ⟨a',k0',kr',rfl,hl'⟩ | ⟨a',b',c',rfl⟩
   ·rw [if_pos a,if_pos a];exact⟨rfl,rfl,rfl⟩
   ·exfalso;omega
   ·exfalso;omega
   ·exact absurd a a'
 · rcases hc' with⟨a',⟨k',rfl⟩,rfl⟩ | ⟨a',⟨k0',k1',rfl⟩,rfl⟩ | ⟨a',k0',kr',rfl,hl'⟩ | ⟨a',b',c',rfl⟩
   ·exfalso;omega
   · have n1:¬ (o=5∨o=27) :=by omega
     simp only [if_neg n1,if_pos a,and_self]
   ·exfalso;omega
   ·exact absurd a b'
 · rcases hc' with⟨a',⟨k',rfl⟩,rfl⟩ | ⟨a',⟨k0',k1',rfl⟩,rfl⟩ | ⟨a',k0',kr',rfl,hl'⟩ | ⟨a',b',c',rfl⟩
   ·exfalso;omega
   ·exfalso;omega
   · rw [if_neg (show ¬bnd o by unfold bnd;omega),if_neg (show ¬bnd o by unfold bnd;omega)]at hs;have n1:¬ (o=5∨o=27) :=by omega
     have n2:¬o=7:=by omega
     simp only [if_neg n1,if_neg n2,if_pos a];have:=aNv kr kr' ps ps' tk hl hl' h3 h3' hp;exact⟨hs,congrArg Prod.fst this,congrArg Prod.snd this⟩
   ·exact absurd a c'
 · rw [if_neg (show ¬bnd o by unfold bnd;omega),if_neg (show ¬bnd o by unfold bnd;omega)]at hs;rcases hc' with⟨a',_⟩ | ⟨a',_⟩ | ⟨a',_⟩ | ⟨a',b',c',rfl⟩
   ·exact absurd a' a
   ·exact absurd a' b
   ·exact absurd a' c
   · rw [if_neg a,if_neg b,if_neg c,if_neg a,if_neg b,if_neg c];exact⟨hs,rfl,rfl⟩
theorem aOr {n:Int}{s:aB}{ks:List Term}{ps:List Pat}(h:nN (.mk 4 n s ks ps)) :ks= [] ∧ps= [] :=by
 rw [nN,arO]at h;exact⟨List.length_eq_zero_iff.1 (h.1.2.2.2.2 rfl),List.length_eq_zero_iff.1 (h.1.2.2.2.1 (by omega))⟩
theorem aBb {g:Term→List aB→Term×List aB}(hg:∀t tk,nN t→oM tk.length (nO t) → (∀e,jM e (g t tk).1=jM e t) ∧∃m,(g t tk).2=xN m tk∧m≤fA t) :
  ∀ (ks:List Term) (tk:List aB),gB ks→oM tk.length (dM ks) → (∀e o s ps i,iV e o s ps i (rG g ks tk).1=iV e o s ps i ks) ∧∃m,(rG g ks tk).2=xN m tk∧m≤cZ ks
 | [],tk,_,_=> ⟨fun _ _ _ _ _=>rfl,0,rfl,zero_le _⟩
 | k::ks,tk,hk,hn=>by
  rw [gB]at hk;rw [dM]at hn;obtain⟨h1,m,h2,h3⟩ :=hg k tk hk.1 (fun x hx=>hn x (mem_append_left _ hx));obtain⟨g1,m',g2,g3⟩ :=aBb hg ks (g k tk).2 hk.2 (iG (j:=tk.length) (fun x hx=>hn x (mem_append_right _ hx)) (by rw [h2,eC];omega));rw [rG];simp only;refine⟨fun e o s ps i=>by rw [iV,iV,h1,g1],m+m',?_,?_⟩
  ·rw [g2,h2,aBa]
  ·rw [cZ];omega
theorem qO :∀ (f:Nat) (t:Term) (tk:List aB),nN t→oM tk.length (nO t) → (∀e,jM e (eD f t tk).1=jM e t) ∧∃m,(eD f t tk).2=xN m tk∧m≤fA t
 |0,t,tk,_,_=> ⟨fun _=>rfl,0,rfl,zero_le _⟩
 | f + 1,.mk o n s ks ps,tk,h,hn=>by
  rw [eD];simp only;by_cases h4:o=4
  · subst h4;obtain⟨rfl,rfl⟩ :=aOr h;have e:lR 4 s [] [] tk= ⟨s,[],[],tk⟩ :=by simp [lR]
    rw [e];exact⟨fun _=>rfl,0,rfl,zero_le _⟩
  · rw [nO,if_neg h4]at hn;obtain⟨h1,h2,h3,_,_,m,h5,h6⟩ :=aBX h hn;obtain⟨g1,m',g2,g3⟩ :=aBb (qO f) _ _ h1 h2;refine⟨fun e=>?_,m+m',?_,?_⟩
    · obtain⟨k1,k2⟩ :=aLR h hn e;rw [jM,jM,if_neg h4,if_neg h4,g1,k1,k2];congr 1;by_cases hb:bnd o
      ·rw [if_pos hb,if_pos hb]
      · rw [if_neg hb,if_neg hb];unfold lR;rw [if_neg (fun g=>hb (by unfold bnd;omega)),if_neg (fun g=>hb (by unfold bnd;omega))];split
        ·split<;>rfl
        ·rfl
    ·rw [g2,h5,aBa]
    ·rw [fA];omega
theorem aNw {g:Term→List aB→Term×List aB}{f:Nat}(hk:∀t tk,nN t→oM tk.length (nO t) → (∀e,jM e (g t tk).1=jM e t) ∧∃m,(g t tk).2=xN m tk∧m≤fA t)
  (hg:∀t u e tk,nN t→nN u→oM tk.length (nO t) →oM tk.length (nO u) →bD t≤f→bD u≤f→jM e t=jM e u→g t tk=g u tk) (e:List aB) (o:Int) (s:aB) (ps:List Pat) :
  ∀ (ks ks':List Term) (i:Nat) (tk:List aB),gB ks→gB ks'→oM tk.length (dM ks) →oM tk.length (dM ks') →aY ks≤f→aY ks'≤f→iV e o s ps i ks=iV e o s ps i ks'→rG g ks tk=rG g ks' tk
 | [],[],_,_,_,_,_,_,_,_,_=>rfl
 | [],k::ks,_,_,_,_,_,_,_,_,h=>by rw [iV,iV]at h;cases h
 |k::ks,[],_,_,_,_,_,_,_,_,h=>by rw [iV,iV]at h;cases h
 | k::ks,k'::ks',i,tk,h1,h2,n1,n2,s1,s2,h=>by
  rw [iV,iV,List.cons.injEq]at h;rw [gB]at h1 h2;rw [dM]at n1 n2;rw [aY]at s1 s2;have a1:=hg k k' _ tk h1.1 h2.1 (fun x hx=>n1 x (mem_append_left _ hx)) (fun x hx=>n2 x (mem_append_left _ hx)) (by omega) (by omega) h.1;obtain⟨_,m,e2,_⟩ :=hk k' tk h2.1 (fun x hx=>n2 x (mem_append_left _ hx));have hl:tk.length≤ (g k' tk).2.length:=by rw [e2,eC];omega
  have a2:=aNw hk hg e o s ps ks ks' (i+1) (g k' tk).2 h1.2 h2.2 (iG (j:=tk.length) (fun x hx=>n1 x (mem_append_right _ hx)) hl) (iG (j:=tk.length) (fun x hx=>n2 x (mem_append_right _ hx)) hl) (by omega) (by omega) h.2;rw [rG,rG,a1,a2]
theorem aUa :∀ (f:Nat) (t u:Term) (e tk:List aB),nN t→nN u→oM tk.length (nO t) →oM tk.length (nO u) →bD t≤f→bD u≤f→jM e t=jM e u→eD f t tk=eD f u tk
 |0,.mk ..,_,_,_,_,_,_,_,h,_,_=>by rw [bD]at h;omega
 | f + 1, .mk o n s ks ps,.mk o' n' s' ks' ps',e,tk,ht,hu,nt,nu,st,su,h=>by
  rw [jM,jM]at h;by_cases h4:o=4
  · by_cases h4':o'=4
    · rw [if_pos h4,if_pos h4',NT.nm.injEq]at h;obtain⟨e1,e2,e3,e4,e5⟩ :=h;have es:s=s':=by
       rw [←e1]at e2;by_cases hp:aZ e s<0
       ·rw [if_pos hp,if_pos hp]at e2;exact e2
       · have m1:=placeL_mem.1 (show 0≤aZ e s by omega);have m2:=placeL_mem.1 (show 0≤aZ e s' by omega);have q1:=tW m1;have q2:=tW m2;rw [e1]at q1;exact Option.some.inj (q1.symm.trans q2)
      rw [h4,h4',e3,e4,e5,es]
    ·rw [if_pos h4,if_neg h4']at h;cases h
  · by_cases h4':o'=4
    ·rw [if_neg h4,if_pos h4']at h;cases h
    · rw [if_neg h4,if_neg h4',NT.nd.injEq]at h;obtain⟨rfl,rfl,e3,e4,e5⟩ :=h;rw [nO,if_neg h4]at nt nu;rw [bD]at st su;obtain⟨a1,a2,_,a4,_⟩ :=aBX ht nt;obtain⟨b1,b2,_,b4,_⟩ :=aBX hu nu;obtain⟨d1,d2,d3⟩ :=bCF ht hu tk e3 e5;have k1:= (aLR ht nt e).1;have k2:= (aLR hu nu e).1;rw [←d1,←d2]at k2;have hk:iV e o (lR o s ks ps tk).s (lR o s ks ps tk).ps 0 (lR o s ks ps tk).ks=iV e o (lR o s ks ps tk).s (lR o s ks ps tk).ps 0 (lR o s' ks' ps' tk).ks:=by rw [k1,k2,e4]
      have:=aNw (qO f) (aUa f) e o _ _ _ _ 0 (lR o s ks ps tk).tk a1 b1 a2 (by rw [d3];exact b2) (by omega) (by omega) hk;rw [eD,eD,this,d1,d2,d3]
theorem aEB :∀a:aB,ltS a a=false
 | [] =>rfl
 | x::a=>by
  have:=aEB a;simp only [ltS,Op.bytesLess]at this ⊢;simp [this]
theorem aUb :∀a b c:aB,ltS a b=true→ltS b c=true→ltS a c=true
 | [],[],c,h,_=>by simp [ltS,Op.bytesLess]at h
 | [],_::_,[],_,h=>by simp [ltS,Op.bytesLess]at h
 | [],_::_,_::_,_,_=>by simp [ltS,Op.bytesLess]
 |_::_,[],c,h,_=>by simp [ltS,Op.bytesLess]at h
 |_::_,_::_,[],_,h=>by simp [ltS,Op.bytesLess]at h
 | x ::a,y::b,z::c,h1,h2=>by
  have ih:=aUb a b c;simp only [ltS,Op.bytesLess,or_eq_true,and_eq_true,decide_eq_true_eq,beq_iff_eq,UInt8.lt_iff_toNat_lt]at *;rcases h1 with h1| ⟨h1,g1⟩
  · rcases h2 with h2| ⟨h2,g2⟩
    ·left;omega
    ·subst h2;left;exact h1
  · subst h1;rcases h2 with h2| ⟨h2,g2⟩
    ·left;exact h2
    ·subst h2;right;exact⟨rfl,ih g1 g2⟩
theorem aUc :∀a b:aB,ltS a b=false→a≠b→ltS b a=true
 | [],[],_,h=>absurd rfl h
 | [],_::_,h,_=>by simp [ltS,Op.bytesLess]at h
 |_::_,[],_,_=>by simp [ltS,Op.bytesLess]
 | x ::a,y::b,h1,h2=>by
  have ih:=aUc a b;simp only [ltS,Op.bytesLess,or_eq_true,and_eq_true,decide_eq_true_eq,beq_iff_eq,Bool.or_eq_false_iff,Bool.and_eq_false_iff,decide_eq_false_iff_not,beq_eq_false_iff_ne,UInt8.lt_iff_toNat_lt]at *;by_cases e:x=y
  · subst e;right;refine⟨rfl,ih ?_ (fun g=>h2 (by rw [g]))⟩;rcases h1.2 with g|g
    ·exact absurd rfl g
    ·exact g
  · left;have:x.toNat≠y.toNat:=fun g=>e (UInt8.toNat_inj.1 g);omega
abbrev xO (l:List aB) :Prop:=l.Pairwise fun a b=>ltS a b=true
theorem putS_mem {x s:aB}:∀ {l:List aB},s∈tP x l↔s=x∨s∈l
 | [] =>by simp [tP]
 | y ::l=>by
  rw [tP];split
  · rw [mem_cons,putS_mem (l:=l),mem_cons];constructor
    ·rintro(h|h|h) <;>simp [h]
    ·rintro(h|h|h) <;>simp [h]
  · split
    ·rename_i h;rw [h];simp
    ·simp
theorem aJ5 {x:aB}:∀ {l:List aB},xO l→xO (tP x l)
 | [],_=>by simp [tP,xO]
 | y ::l,h=>by
  have h':=h;rw [xO,pairwise_cons]at h';rw [tP];split
  · rename_i g;rw [xO,pairwise_cons];refine⟨fun z hz=>?_,aJ5 h'.2⟩;rcases putS_mem.1 hz with e|hz
    ·rw [e];exact g
    ·exact h'.1 z hz
  · split
    ·exact h
    · rename_i g1 g2;have hl:=aUc y x (by simpa using g1) g2;rw [xO,pairwise_cons];refine⟨fun z hz=>?_,h⟩;rcases List.mem_cons.1 hz with e|hz
      ·rw [e];exact hl
      ·exact aUb _ _ _ hl (h'.1 z hz)
theorem aJ6 {b:List aB}{s:aB}:∀ {l acc:List aB},s∈zQ b l acc↔s∈acc∨ (s∈l∧s∉b)
 | [],acc=>by simp [zQ]
 | x ::l,acc=>by
  rw [zQ,aJ6 (l:=l)];by_cases h:dA b x=true
  · have hx:=hasS_mem.1 h;rw [if_pos h,mem_cons];constructor
    ·rintro(g|g) <;>simp [g]
    · rintro(g| ⟨g|g,k⟩)
      ·exact .inl g
      ·subst g;exact absurd hx k
      ·exact .inr ⟨g,k⟩
  · have hx:x∉b:=fun g=>h (hasS_mem.2 g);rw [if_neg h,putS_mem,mem_cons];constructor
    · rintro((g|g) |g)
      ·subst g;exact .inr ⟨.inl rfl,hx⟩
      ·exact .inl g
      ·exact .inr ⟨.inr g.1,g.2⟩
    · rintro(g| ⟨g|g,k⟩)
      ·exact .inl (.inr g)
      ·exact .inl (.inl g)
      ·exact .inr ⟨g,k⟩
theorem aJ7 {b:List aB}:∀ {l acc:List aB},xO acc→xO (zQ b l acc)
 | [],acc,h=>h
 | x::l,acc,h=>by
  rw [zQ];refine aJ7 ?_;split
  ·exact h
  ·exact aJ5 h
theorem aEC (o:Int)(s:aB)(ps:List Pat) :∀ (ks:List Term) (i:Nat) (acc:List aB),xO acc→xO (iO o s ps i ks acc)
 | [],i,acc,h=>by rw [iO];exact h
 |k::ks,i,acc,h=>by rw [iO];exact aEC o s ps ks _ _ (aJ7 h)
theorem aBY :∀t:Term,xO (cK t)
 | .mk o n s ks ps=>by
  rw [cK];split
  ·simp [xO]
  ·exact aEC o s ps ks 0 [] List.Pairwise.nil
theorem aUd :∀ {l m:List aB},xO l→xO m→ (∀s,s∈l↔s∈m) →l=m
 | [],[],_,_,_=>rfl
 | [],b::m,_,_,h=>absurd ((h b).2 (mem_cons_self ..)) (by simp)
 |a::l,[],_,_,h=>absurd ((h a).1 (mem_cons_self ..)) (by simp)
 | a :: l,b::m,h1,h2,h=>by
  rw [xO,pairwise_cons]at h1 h2;have hab:a=b:=by
   rcases List.mem_cons.1 ((h a).1 (mem_cons_self ..))with e|e
   ·exact e
   · rcases List.mem_cons.1 ((h b).2 (mem_cons_self ..))with g|g
     ·exact g.symm
     · have:=aUb _ _ _ (h2.1 a e) (h1.1 b g);rw [aEB]at this;cases this
  subst hab;have ha1:a∉l:=fun g=>by have:=h1.1 a g;rw [aEB]at this;cases this
  have ha2:a∉m:=fun g=>by have:=h2.1 a g;rw [aEB]at this;cases this
  rw [aUd h1.2 h2.2 fun s=>?_];constructor
  · intro g;rcases List.mem_cons.1 ((h s).1 (mem_cons_of_mem _ g))with e|e
    ·subst e;exact absurd g ha1
    ·exact e
  · intro g;rcases List.mem_cons.1 ((h s).2 (mem_cons_of_mem _ g))with e|e
    ·subst e;exact absurd g ha2
    ·exact e
theorem aOs {l:List aB}(h:xO l) :l.Nodup:=h.imp fun {a b} hab e=>by rw [e,aEB]at hab;cases hab
mutual
def frs :NT→List aB
 | .nm p s _ _ _=>if p<0 then [s]else []
 | .nd _ _ _ ks _=>aFi ks
def aFi :List NT→List aB
 | [] =>[]
 |k::ks=>frs k++aFi ks
end
mutual
theorem aHZ (x:aB) :∀ (t:Term) (e:List aB),(x∈cK t∧x∉e) ↔x∈frs (jM e t)
 | .mk o n s ks ps,e=>by
  rw [cK,jM];by_cases h4:o=4
  · rw [if_pos h4,if_pos h4,frs];have hm:= @placeL_mem e s;by_cases hp:aZ e s<0
    · rw [if_pos hp,if_pos hp,List.mem_singleton];exact⟨fun g=>g.1,fun g=> ⟨g,fun k=>by rw [g]at k;have:=hm.2 k;omega⟩⟩
    · rw [if_neg hp,List.mem_singleton];exact⟨fun g=>absurd (hm.1 (by omega)) (by rw [←g.1];exact g.2),fun g=>by cases g⟩
  · rw [if_neg h4,if_neg h4,frs,aNx x o s ps ks 0 e []];simp
theorem aNx (x:aB)(o:Int)(s:aB)(ps:List Pat) :∀ (ks:List Term) (i:Nat) (e acc:List aB),(x∈iO o s ps i ks acc∧x∉e) ↔ (x∈acc∧x∉e) ∨x∈aFi (iV e o s ps i ks)
 | [],i,e,acc=>by rw [iO,iV,aFi];simp
 | k ::ks,i,e,acc=>by
  rw [iO,iV,aFi,aNx x o s ps ks (i+1) e _,aJ6,mem_append,←aHZ x k,mem_append];constructor
  · rintro(⟨h|h,g⟩ |h)
    ·exact .inl ⟨h,g⟩
    ·exact .inr (.inl ⟨h.1,fun q=>q.elim g h.2⟩)
    ·exact .inr (.inr h)
  · rintro(h|h|h)
    ·exact .inl ⟨.inl h.1,h.2⟩
    ·exact .inl ⟨.inr ⟨h.1,fun q=>h.2 (.inr q)⟩,fun q=>h.2 (.inl q)⟩
    ·exact .inr h
end
mutual
theorem aNy (x:aB) :∀ (t:Term) (e:List aB),x∈frs (jM e t) →x∈nO t
 | .mk o n s ks ps,e,h=>by
  rw [jM]at h;rw [nO];by_cases h4:o=4
  · rw [if_pos h4,frs]at h;rw [if_pos h4];by_cases g:aZ e s<0
    ·rw [if_pos g,if_pos g]at h;exact h
    ·rw [if_neg g]at h;cases h
  · rw [if_neg h4,frs]at h;rw [if_neg h4];exact aJ8 x o s ps ks 0 e h
theorem aJ8 (x:aB)(o:Int)(s:aB)(ps:List Pat) :∀ (ks:List Term) (i:Nat) (e:List aB),x∈aFi (iV e o s ps i ks) →x∈dM ks
 | [],i,e,h=>by rw [iV,aFi]at h;cases h
 | k::ks,i,e,h=>by
  rw [iV,aFi]at h;rw [dM];rcases List.mem_append.1 h with h|h
  ·exact mem_append_left _ (aNy x k _ h)
  ·exact mem_append_right _ (aJ8 x o s ps ks _ _ h)
end
theorem free_eq {t u:Term}(h:jM [] t=jM [] u) :cK t=cK u:=
 aUd (aBY t) (aBY u) fun s=>by
  have h1:=aHZ s t [];have h2:=aHZ s u [];rw [h]at h1;simp only [List.not_mem_nil,not_false_eq_true,and_true]at h1 h2;rw [h1,h2]
mutual
def stB (B L:aB→Prop) :Term→Prop
 | .mk o _ s ks ps=> (o=4→L s∧ks= [] ∧ps= []) ∧ (bnd o→B s) ∧ (o≠4→¬bnd o→¬lT s) ∧ (∀p∈ps,pOk p∧∀y∈aO p,B y) ∧aLT B L ks
def aLT (B L:aB→Prop) :List Term→Prop
 | [] =>True
 |k::ks=>stB B L k∧aLT B L ks
end
theorem mks_mem {s:aB}:∀ {n j:Nat},s∈mks j n↔∃i,j≤i∧i<j+n∧s=bR i
 |0,j=>by simp [mks];intros;omega
 | n +1,j=>by
  rw [mks,mem_cons,mks_mem (n:=n)];constructor
  · rintro(h| ⟨i,h1,h2,h3⟩)
    ·exact⟨j,le_refl _,by omega,h⟩
    ·exact⟨i,by omega,by omega,h3⟩
  · rintro⟨i,h1,h2,h3⟩
    by_cases e:i=j
    ·subst e;exact .inl h3
    ·exact .inr ⟨i,by omega,by omega,h3⟩
def Bm (n0 N:Nat)(s:aB) :Prop:=∃j,n0≤j∧j<N∧s=bR j
def Lm (n0 N:Nat)(s:aB) :Prop:=¬lT s∨Bm n0 N s
section
variable (n0 N:Nat)
theorem aUe :∀ (ks:List Term) (ps:List Pat) (tk:List aB),ks.length=ps.length→∃m,(pU ks ps tk).2.2=xN m tk
 | [],[],tk,_=> ⟨0,rfl⟩
 | k::ks,p::ps,tk,h=>by
  obtain⟨m,e⟩ :=aUe ks ps (xN (aO p).length tk) (by simpa using h);exact⟨_,by rw [pU,e,aBa]⟩
theorem aUf :∀ (ks:List Term) (ps:List Pat) (tk:List aB),ks.length=ps.length→aT8 ps→n0≤tk.length→ (pU ks ps tk).2.2.length≤N→ (∀s∈dM ks,Lm n0 N s) →
  (∀p∈ (pU ks ps tk).2.1,pOk p∧∀y∈aO p,Bm n0 N y) ∧∀s∈dM (pU ks ps tk).1,Lm n0 N s
 | [],[],tk,_,_,_,_,_=> ⟨fun _ h=> (by cases h),fun _ h=> (by cases h)⟩
 | k ::ks,p::ps,tk,hl,hp,h0,hN,hL=>by
  obtain⟨m,e⟩ :=aUe ks ps (xN (aO p).length tk) (by simpa using hl);rw [pU]at hN;simp only at hN;have hlen:tk.length+ (aO p).length≤N:=by rw [e,eC,eC]at hN;omega
  rw [dM]at hL;obtain⟨p1,p2,p3⟩ :=hp p (mem_cons_self ..);obtain⟨h1,h2⟩ :=aUf ks ps (xN (aO p).length tk) (by simpa using hl) (fun q hq=>hp q (mem_cons_of_mem _ hq)) (by rw [eC];omega) hN (fun s hs=>hL s (mem_append_right _ hs));have g2:=nM (aO p) [] p tk.length rfl p2 p3 (by simp);have M:∀i,tk.length≤i→i<tk.length+ (aO p).length→Bm n0 N (bR i) :=fun i a b=> ⟨i,by omega,by omega,rfl⟩;rw [pU];refine⟨fun q hq=>?_,fun s hs=>?_⟩
  · rcases List.mem_cons.1 hq with rfl|hq
    · refine⟨(wR _ _ p).2 p1,fun y hy=>?_⟩;rw [g2,nil_append]at hy;obtain⟨i,a,b,rfl⟩ :=mks_mem.1 hy;exact M i a b
    ·exact h1 q hq
  · simp only [dM]at hs;rcases List.mem_append.1 hs with hs|hs
    · rcases aJ2 _ _ k s hs with g| ⟨i,a,b,rfl⟩
      ·exact hL s (mem_append_left _ g)
      ·exact .inr (M i a b)
    ·exact h2 s hs
theorem bF5 {o n:Int}{s:aB}{ks:List Term}{ps:List Pat}(h:nN (.mk o n s ks ps))(h4:o≠4){tk:List aB}(hn:oM tk.length (dM ks))(h0:n0≤tk.length)(hN: (lR o s ks ps tk).tk.length≤N)
  (hL:∀s∈dM ks,Lm n0 N s) : (bnd o→Bm n0 N (lR o s ks ps tk).s) ∧ (¬bnd o→¬lT (lR o s ks ps tk).s) ∧ (∀p∈ (lR o s ks ps tk).ps,pOk p∧∀y∈aO p,Bm n0 N y) ∧∀x∈dM (lR o s ks ps tk).ks,Lm n0 N x:=by
 have hc:=mP h;rw [nN]at h;obtain⟨_,h2,h3,hk⟩ :=h;have hs:=h2 h4;unfold lR at hN ⊢;rcases hc with⟨a,⟨k,rfl⟩,rfl⟩ | ⟨a,⟨k0,k1,rfl⟩,rfl⟩ | ⟨a,k0,kr,rfl,hl⟩ | ⟨a,b,c,rfl⟩
 · rw [if_pos a]at hN ⊢;rw [length_append,List.length_singleton]at hN;have hB:Bm n0 N (bR tk.length) := ⟨_,h0,by omega,rfl⟩;refine⟨fun _=>hB,fun g=>absurd (show bnd o by unfold bnd;omega) g,fun p hp=> (by cases hp),fun x hx=>?_⟩;simp only [map_cons,map_nil,dM,append_nil]at hx hL;rcases aA8 _ _ k x hx with g|rfl
   ·exact hL x g
   ·exact .inr hB
 · rw [if_neg (show ¬ (o=5∨o=27)by omega),if_pos a]at hN ⊢;simp only [length_append,List.length_singleton]at hN;have hB:Bm n0 N (bR tk.length) := ⟨_,h0,by omega,rfl⟩;refine⟨fun _=>hB,fun g=>absurd (show bnd o by unfold bnd;omega) g,fun p hp=> (by cases hp),fun x hx=>?_⟩;simp only [dM,append_nil]at hx hL;rcases List.mem_append.1 hx with hx|hx
   ·exact hL x (mem_append_left _ hx)
   · rcases aA8 _ _ k1 x hx with g|rfl
     ·exact hL x (mem_append_right _ g)
     ·exact .inr hB
 · rw [if_neg (show ¬ (o=5∨o=27)by omega),if_neg (show ¬o=7 by omega),if_pos a]at hN ⊢;rw [gB]at hk;rw [dM]at hn hL;obtain⟨_,_,_,_,_,m,e,_⟩ :=aLS kr ps tk hl hk.2 h3 (fun x hx=>hn x (mem_append_right _ hx));obtain⟨g1,g2⟩ :=aUf n0 N kr ps tk hl h3 h0 hN (fun x hx=>hL x (mem_append_right _ hx));refine⟨fun g=>absurd g (by unfold bnd;omega),fun _=>hs,g1,fun x hx=>?_⟩;simp only [dM]at hx;rcases List.mem_append.1 hx with hx|hx
   ·exact hL x (mem_append_left _ hx)
   ·exact g2 x hx
 · rw [if_neg a,if_neg b,if_neg c]at hN ⊢;exact⟨fun g=>absurd g (by unfold bnd;omega),fun _=>hs,fun p hp=> (by cases hp),hL⟩
theorem aUg {g:Term→List aB→Term×List aB}{f:Nat}(hk:∀t tk,nN t→oM tk.length (nO t) → (∀e,jM e (g t tk).1=jM e t) ∧∃m,(g t tk).2=xN m tk∧m≤fA t)
  (hg:∀t tk,bD t≤f→nN t→oM tk.length (nO t) →n0≤tk.length→ (g t tk).2.length≤N→ (∀s∈nO t,Lm n0 N s) →stB (Bm n0 N) (Lm n0 N) (g t tk).1) :
  ∀ (ks:List Term) (tk:List aB),aY ks≤f→gB ks→oM tk.length (dM ks) →n0≤tk.length→ (rG g ks tk).2.length≤N→ (∀s∈dM ks,Lm n0 N s) →aLT (Bm n0 N) (Lm n0 N) (rG g ks tk).1
 | [],tk,_,_,_,_,_,_=>by rw [rG,aLT];trivial
 | k::ks,tk,hz,ht,hn,h0,hN,hL=>by
  rw [gB]at ht;rw [dM]at hn hL;rw [aY]at hz;rw [rG]at hN ⊢;simp only at hN;obtain⟨_,m,e,_⟩ :=hk k tk ht.1 (fun x hx=>hn x (mem_append_left _ hx));have hl:tk.length≤ (g k tk).2.length:=by rw [e,eC];omega
  have hn2:oM (g k tk).2.length (dM ks) :=iG (j:=tk.length) (fun x hx=>hn x (mem_append_right _ hx)) hl;obtain⟨_,m2,e2,_⟩ :=aBb hk ks (g k tk).2 ht.2 hn2;rw [aLT]
  exact⟨hg k tk (by omega) ht.1 (fun x hx=>hn x (mem_append_left _ hx)) h0 (by rw [e2,eC]at hN;omega) (fun x hx=>hL x (mem_append_left _ hx)),
   aUg hk hg ks _ (by omega) ht.2 hn2 (by omega) hN (fun x hx=>hL x (mem_append_right _ hx))⟩
theorem bEP :∀ (f:Nat) (t:Term) (tk:List aB),bD t≤f→nN t→oM tk.length (nO t) →n0≤tk.length→ (eD f t tk).2.length≤N→ (∀s∈nO t,Lm n0 N s) →stB (Bm n0 N) (Lm n0 N) (eD f t tk).1
 |0,.mk ..,tk,h,_,_,_,_,_=>by rw [bD]at h;omega
 | f +1,.mk o n s ks ps,tk,hz,ht,hn,h0,hN,hL=>by
  rw [bD]at hz;by_cases h4:o=4
  · subst h4;obtain⟨rfl,rfl⟩ :=aOr ht;have e:lR 4 s [] [] tk= ⟨s,[],[],tk⟩ :=by simp [lR]
    rw [eD,e,stB];exact⟨fun _=> ⟨hL s (by simp [nO]),rfl,rfl⟩,fun g=>absurd g (by unfold bnd;omega),fun g=>absurd rfl g,fun p hp=> (by cases hp),trivial⟩
  · rw [nO,if_neg h4]at hn hL;obtain⟨h1,h2,h3,h4',_,m,h5,h6⟩ :=aBX ht hn;obtain⟨_,m',g2,g3⟩ :=aBb (qO f) _ _ h1 h2;rw [eD]at hN ⊢;simp only at hN;have hN2: (lR o s ks ps tk).tk.length≤N:=by rw [g2,eC]at hN;omega
    obtain⟨k1,k2,k3,k4⟩ :=bF5 n0 N ht h4 hn h0 hN2 hL;rw [stB];exact⟨fun g=>absurd g h4,k1,fun _=>k2,k3,aUg n0 N (qO f) (bEP f) _ _ (by omega) h1 h2 (by rw [h5,eC];omega) hN k4⟩
end
theorem aLU (u:aB→aB)(e:List aB)(s:aB)(h:∀y∈e,u y=u s→y=s) :aZ (e.map u) (u s) =aZ e s:=by
 have H:∀i,bW (e.map u) (u s) i=bW e s i:=by
  intro i
  induction i with
  |zero=>rfl
  | succ i ih=>
   rw [bW,bW,List.getElem?_map,ih];cases hy:e[i]? with
   |none=>rfl
   | some y=>
    simp only [Option.map_some,Option.some.injEq];by_cases g:y=s
    ·rw [if_pos g,if_pos (by rw [g])]
    ·rw [if_neg g,if_neg (fun k=>g (h y (mem_of_getElem? hy) k))]
 unfold aZ;rw [List.length_map];exact H _
mutual
theorem aED (l:List aB) :∀p:Pat,aO (aCN l p) = (aO p).map (rE l)
 | .mk f n s ps=>by
  rw [aCN,aO,aO];split
  ·rfl
  ·exact aCC l ps
theorem aCC (l:List aB) :∀ps:List Pat,bY (hP l ps) = (bY ps).map (rE l)
 | [] =>by rw [hP,bY];rfl
 |p::ps=>by rw [hP,bY,bY,aED l p,aCC l ps,List.map_append]
end
theorem aC5 {l:List aB}{s:aB}(h:¬lT s) :rE l s=s:=by
 unfold rE;cases l with
 |nil=>rfl
 |cons y l=>rw [aJr,if_neg h]
theorem aNz :∀ (l:List aB) (i j:Nat) (y:aB),l[j]?=some y→aJr (bR (i+j)) i l=y
 | [],i,j,y,h=>by simp at h
 |x::l,i,0,y,h=>by rw [aJr,if_pos (oP _),Nat.add_zero,if_pos rfl];simpa using h
 | x::l,i,j+1,y,h=>by
  rw [aJr,if_pos (oP _),if_neg (fun g=>by have:=aF2 g;omega),show i+ (j+1) = (i+1) +j by omega];exact aNz l (i+1) j y (by simpa using h)
theorem aNA {l:List aB}{j:Nat}{y:aB}(h:l[j]?=some y) :rE l (bR j) =y:=by
 have:=aNz l 0 j y h;rwa [Nat.zero_add]at this
mutual
theorem bCG (l:List aB) :∀p:Pat,pOk p→erP (aCN l p) =erP p
 | .mk f n s ps,h=>by
  rw [pOk]at h;rw [aCN,erP,erP,aEE l ps h.2.2];by_cases hf:f=2
  ·rw [if_pos hf,if_pos hf]
  ·rw [if_neg hf,if_neg hf,aC5 (h.2.1 hf)]
theorem aEE (l:List aB) :∀ps:List Pat,tV ps→fB (hP l ps) =fB ps
 | [],_=>by rw [hP]
 |p::ps,h=>by rw [tV]at h;rw [hP,fB,fB,bCG l p h.1,aEE l ps h.2]
end
theorem aBc :∀ {ps:List Pat},(∀p∈ps,pOk p) →tV ps
 | [],_=>trivial
 |p::ps,h=>by rw [tV];exact⟨h p (mem_cons_self ..),aBc fun q hq=>h q (mem_cons_of_mem _ hq)⟩
theorem aF6 (l:List aB) :∀ (ps:List Pat) (i:Nat),(hP l ps)[i]?= (ps[i]?).map (aCN l)
 | [],i=>by rw [hP];rfl
 |p::ps,0=>by rw [hP];rfl
 |p::ps,i+1=>by rw [hP];simpa using aF6 l ps i
theorem aOt (l:List aB)(o:Int)(s t:aB)(ps:List Pat)(i:Nat)(h:bnd o→t=rE l s) :aR o t (hP l ps) i= (aR o s ps i).map (rE l) :=by
 unfold aR;by_cases h1:o=5∨o=27
 ·rw [if_pos h1,if_pos h1,h (by unfold bnd;omega)];rfl
 · rw [if_neg h1,if_neg h1];by_cases h2:o=7
   · rw [if_pos h2,if_pos h2,h (by unfold bnd;omega)];split<;>rfl
   · rw [if_neg h2,if_neg h2];by_cases h3:o=15
     · rw [if_pos h3,if_pos h3];cases i with
       |zero=>rfl
       | succ i=>
        simp only [aF6];cases ps[i]? with
        |none=>rfl
        |some p=>exact aED l p
     ·rw [if_neg h3,if_neg h3];rfl
theorem bCH {B:aB→Prop}{o:Int}{s:aB}{ps:List Pat}(h1:bnd o→B s)(h2:∀p∈ps,∀y∈aO p,B y)(i:Nat) :∀y∈aR o s ps i,B y:=by
 intro y hy;unfold aR at hy;split at hy
 ·rw [List.mem_singleton.1 hy];exact h1 (by unfold bnd;omega)
 · split at hy
   · split at hy
     ·rw [List.mem_singleton.1 hy];exact h1 (by unfold bnd;omega)
     ·cases hy
   · split at hy
     · split at hy
       ·cases hy
       · split at hy
         · rename_i p hp;exact h2 p (mem_of_getElem? hp) y hy
         ·cases hy
     ·cases hy
theorem aBd {l:List aB}(h:l.Nodup){i j:Nat}{hi:i<l.length}{hj:j<l.length}(e:l[i] =l[j]) :i=j:=by
 have hp:=List.pairwise_iff_getElem.1 h;rcases Nat.lt_trichotomy i j with g|g|g
 ·exact absurd e (hp i j hi hj g)
 ·exact g
 ·exact absurd e.symm (hp j i hj hi g)
section
variable (T :List aB) (n0:Nat) (hT:T.Nodup)
include hT
theorem bCI {a b:aB}(ha:Bm n0 T.length a)(hb:Bm n0 T.length b∨ (¬lT b∧b∈T.take n0))(h:rE T a=rE T b) :a=b:=by
 obtain⟨j,h1,h2,rfl⟩ :=ha;have e1:=aNA (l:=T) (List.getElem?_eq_getElem h2);rcases hb with⟨i,g1,g2,rfl⟩ | ⟨g1,g2⟩
 · have e2:=aNA (l:=T) (List.getElem?_eq_getElem g2);rw [e1,e2]at h;rw [aBd hT h]
 · rw [e1,aC5 g1]at h;obtain⟨i,hi,e⟩ :=List.mem_iff_getElem.1 g2;rw [List.length_take]at hi;rw [List.getElem_take]at e;rw [←e]at h;have:=aBd hT h;omega
mutual
theorem aUh :∀ (t:Term) (e:List aB),stB (Bm n0 T.length) (Lm n0 T.length) t→ (∀s∈e,Bm n0 T.length s) → (∀s∈frs (jM e t),¬lT s∧s∈T.take n0) →jM (e.map (rE T)) (aFg T t) =jM e t
 | .mk o n s ks ps,e,hs,he,hf=>by
  rw [stB]at hs;obtain⟨s1,s2,s3,s4,s5⟩ :=hs;rw [jM]at hf;rw [aFg,jM,jM];by_cases h4:o=4
  · obtain⟨g1,rfl,rfl⟩ :=s1 h4;rw [if_pos h4,frs]at hf;have hA:Bm n0 T.length s∨ (¬lT s∧s∈T.take n0) :=by
     by_cases hm:aZ e s<0
     ·rw [if_pos hm,if_pos hm]at hf;exact .inr (hf s (List.mem_singleton_self _))
     ·exact .inl (he s (placeL_mem.1 (by omega)))
    have e1:aZ (e.map (rE T)) (rE T s) =aZ e s:=aLU _ e s fun y hy g=>bCI T n0 hT (he y hy) hA g;rw [if_pos h4,if_pos h4,e1];by_cases hm:aZ e s<0
    · rw [if_pos hm,if_pos hm]at hf;rw [if_pos hm,if_pos hm,aC5 (hf s (List.mem_singleton_self _)).1];rfl
    ·rw [if_neg hm,if_neg hm];rfl
  · rw [if_neg h4,frs]at hf;rw [if_neg h4,if_neg h4,aEE T ps (aBc fun p hp=> (s4 p hp).1),aNB o s (rE T s) ps ks 0 e s5 (bCH s2 fun p hp=> (s4 p hp).2) (fun _=>rfl) he hf];by_cases hb:bnd o
    ·rw [if_pos hb,if_pos hb]
    ·rw [if_neg hb,if_neg hb,aC5 (s3 h4 hb)]
theorem aNB (o:Int)(s t:aB)(ps:List Pat) :∀ (ks:List Term) (i:Nat) (e:List aB),aLT (Bm n0 T.length) (Lm n0 T.length) ks→ (∀i,∀y∈aR o s ps i,Bm n0 T.length y) → (bnd o→t=rE T s) → (∀s∈e,Bm n0 T.length s) →
  (∀x∈aFi (iV e o s ps i ks),¬lT x∧x∈T.take n0) →iV (e.map (rE T)) o t (hP T ps) i (wJ T ks) =iV e o s ps i ks
 | [],i,e,_,_,_,_,_=>by rw [wJ,iV,iV]
 | k::ks,i,e,hs,hb,ht,he,hf=>by
  rw [aLT]at hs;rw [iV,aFi]at hf;have h1:=aUh k (e++aR o s ps i) hs.1 (fun x hx=> (List.mem_append.1 hx).elim (he x) (hb i x)) (fun x hx=>hf x (mem_append_left _ hx));have h2:=aNB o s t ps ks (i+1) e hs.2 hb ht he (fun x hx=>hf x (mem_append_right _ hx));rw [wJ,iV,iV,h2,aOt T o s t ps i ht,←List.map_append,h1]
end
end
def pR (t:Term) :Term:=aFg (eD 1000 t (cK t)).2 (eD 1000 t (cK t)).1
structure CanF (t:Term) :Prop where
 ok:nN t
 lf:∀s∈nO t,¬lT s
 sz:bD t≤1000
 ta:fA t≤100000
theorem aEF {j:Nat}{l:List aB}(h:∀s∈l,¬lT s) :oM j l:=fun s hs i _ e=>h s hs (e ▸ oP i)
theorem aJ9 {t:Term}(h:CanF t) :jM [] (pR t) =jM [] t:=by
 have hn:oM (cK t).length (nO t) :=aEF h.lf;obtain⟨k1,m,k2,k3⟩ :=qO 1000 t (cK t) h.ok hn;have hfl:=sG t;have hz:=h.sz;have hta:=h.ta;have hd: ((eD 1000 t (cK t)).2).Nodup:=by rw [k2];exact aF5 m _ (aOs (aBY t)) (by omega)
 have hst:=bEP (cK t).length (eD 1000 t (cK t)).2.length 1000 t (cK t) hz h.ok hn (le_refl _) (le_refl _) (fun s hs=>.inl (h.lf s hs))
 have:=aUh (eD 1000 t (cK t)).2 (cK t).length hd (eD 1000 t (cK t)).1 [] hst (fun s hs=> (by cases hs)) (fun s hs=>by
  rw [k1]at hs;refine⟨h.lf s (aNy s t [] hs),?_⟩;obtain⟨x,hx⟩ :=aNu m (cK t);rw [k2,hx,List.take_left];exact((aHZ s t []).2 hs).1)
 rw [k1]at this;exact this
theorem aOu {t u:Term}(ht:CanF t)(hu:CanF u) :pR t=pR u↔jM [] t=jM [] u:=by
 constructor
 · intro h;rw [←aJ9 ht,h,aJ9 hu]
 · intro h;have hf:=free_eq h;unfold pR;rw [aUa 1000 t u [] (cK t) ht.ok hu.ok (aEF ht.lf) (aEF hu.lf) ht.sz hu.sz h,hf]
theorem aBe (cs:List Con) :∀ps:List Pat,aA3 cs ps=ps.all (knP cs)
 | [] =>by rw [aA3];rfl
 |p::ps=>by rw [aA3,aBe cs ps,all_cons]
section
variable (fs :List aB) (cs:List Con) (mf mc:List (aB×Int)) (ar:List Int) (hf:aT3 fs mf) (hc:aT2 cs mc) (ha:ar=cs.map Con.args) (hfl:fs.length≤100000)
include hc ha
theorem aNC (s:aB)(k:Int) :aHA mc ar s k=if ckn cs s k=true then some (eB s cs 0)else none:=by
 unfold aHA ckn;rw [hc s];by_cases h:s∈cs.map Con.name
 · have h0:=conIx_mem.2 h;rw [if_pos h,decide_eq_true h0,Bool.true_and];obtain⟨c,hcc⟩ :=aSY h0;simp only [ha,List.getElem?_map,hcc,Option.map_some,Option.some.injEq,decide_eq_true_eq]
 · rw [if_neg h,decide_eq_false (fun g=>h (conIx_mem.1 g)),Bool.false_and];rfl
mutual
theorem bHp :∀p:Pat,wP mc ar p=if knP cs p=true then some (pnP cs p)else none
 | .mk f n s ps=>by
  rw [wP,knP,pnP,aLV ps,aNC cs mc ar hc ha];by_cases h6:f=6
  · simp only [if_pos h6];cases ckn cs s (length ps) <;>cases aA3 cs ps<;>rfl
  · simp only [if_neg h6,Bool.true_and];cases aA3 cs ps<;>rfl
theorem aLV :∀ps:List Pat,wPs mc ar ps=if aA3 cs ps=true then some (pT cs ps)else none
 | [] =>by rw [wPs,aA3,pT];rfl
 | p::ps=>by
  rw [wPs,aA3,pT,bHp p,aLV ps];cases knP cs p<;>cases aA3 cs ps<;>rfl
end
include hf hfl
theorem aUi (env:List aB)(s:aB) :aFR mf env s=if(dA env s||dA fs s) =true then some (if aZ env s<0 then IntKind.i64.wrap (-1-aZ fs s)else aZ env s)else none:=by
 unfold aFR;have hm:= @placeL_mem env s;by_cases h:s∈env
 · have h0:=hm.2 h;rw [if_pos h0,hasS_mem.2 h,Bool.true_or,if_pos rfl,if_neg (by omega)]
 · have h0:¬0≤aZ env s:=fun g=>h (hm.1 g);have he:dA env s=false:=by
    cases e:dA env s with
    |false=>rfl
    |true=>exact absurd (hasS_mem.1 e) h
   rw [if_neg h0,he,Bool.false_or,hf s,if_pos (show aZ env s<0 by omega)];by_cases h2:s∈fs
   · have hr:=oK fs s fs.length;have hp:aZ fs s=bW fs s fs.length:=rfl;have w:IntKind.i64.wrap (-1-aZ fs s) = -1-aZ fs s:=by apply wrap64<;>omega
     rw [if_pos h2,hasS_mem.2 h2,if_pos rfl,w]
   · have hs:dA fs s=false:=by
      cases e:dA fs s with
      |false=>rfl
      |true=>exact absurd (hasS_mem.1 e) h2
     rw [if_neg h2,hs];rfl
theorem hd4 {o n:Int}{s:aB}{k m:Int}(h:aL o n s k m=true)(h4:o=4) :k=0∧m=0:=by
 subst h4;simp [aL,aK]at h;omega
mutual
theorem bEQ :∀ (t:Term) (env:List aB) (a:Nat),fH t=true→mT mf mc ar t env a=if knT fs cs t env=true then some (fM fs cs t env a)else none
 | .mk o n s ks ps,env,a,hF=>by
  rw [fH]at hF;simp only [and_eq_true]at hF;obtain⟨⟨hH,_⟩,hFk⟩ :=hF;rw [mT,knT,fM];unfold aTS yJ;by_cases h4:o=4
  · obtain⟨hk,hm⟩ :=hd4 fs cs mf mc ar hf hc ha hfl hH h4;have ek:ks= [] :=List.length_eq_zero_iff.1 (by omega);have ep:ps= [] :=List.length_eq_zero_iff.1 (by omega);subst ek ep;rw [if_pos h4,if_pos h4,if_neg (show ¬o=14 by omega),if_pos h4,aUi fs cs mf mc ar hf hc ha hfl,wPs,mTs,dW,pT];cases (dA env s||dA fs s) <;>rfl
  · rw [if_neg h4,if_neg h4,if_neg h4,aLV cs mc ar hc ha ps,aUj o s ps ks 0 env (a+1) hFk,aBe,aNC cs mc ar hc ha];by_cases h14:o=14
    · rw [if_pos h14,if_pos h14,if_pos h14];cases ckn cs s (length ks) <;>cases ps.all (knP cs) <;>cases aEb fs cs o s ps ks 0 env<;>rfl
    · rw [if_neg h14,if_neg h14,if_neg h14,Bool.true_and];cases ps.all (knP cs) <;>cases aEb fs cs o s ps ks 0 env<;>rfl
theorem aUj (o:Int)(s:aB)(ps:List Pat) :∀ (ts:List Term) (i:Nat) (env:List aB) (a:Nat),jK ts=true→mTs mf mc ar o s ps ts i env a=if aEb fs cs o s ps ts i env=true then some (dW fs cs o s ps ts i env a)else none
 | [],i,env,a,_=>by rw [mTs,aEb,dW];rfl
 | t::ts,i,env,a,hF=>by
  rw [jK,and_eq_true]at hF;rw [mTs,aEb,dW,bEQ t _ _ hF.1];cases knT fs cs t (env++aR o s ps i)with
  |false=>rfl
  | true=>
   simp only [if_true,Bool.true_and];rw [aUj o s ps ts (i+1) env _ hF.2];cases aEb fs cs o s ps ts (i+1) env<;>rfl
end
theorem bER :∀ (t:List FunD) (a:Nat),(∀f∈t,fH f.bod=true) →mM mf mc ar t a=if(t.all fun f=>knT fs cs f.bod [f.par]) =true then some (hJ fs cs t a)else none
 | [],a,_=>by rw [mM,hJ];rfl
 | f::t,a,h=>by
  rw [mM,hJ,bEQ fs cs mf mc ar hf hc ha hfl f.bod _ _ (h f (mem_cons_self ..)),all_cons];cases knT fs cs f.bod [f.par]with
  |false=>rfl
  | true=>
   simp only [if_true,Bool.true_and];rw [bER t _ (fun x hx=>h x (mem_cons_of_mem _ hx))];cases (t.all fun f=>knT fs cs f.bod [f.par]) <;>rfl
end
theorem aOv (m:Mod)(hs:iL m=true) :aF0 m=wN m:=by
 unfold aF0 wN;cases ho:pO m with
 |false=>rfl
 | true=>
  rw [if_pos rfl,if_pos rfl];have F:=aBT hs ho;obtain⟨h1,h2⟩ :=aF1 m;unfold okM;cases hb: (fS (rF m) &&fS ((gP m).map Con.name) &&dA (rF m) nL)with
  |false=>rw [h2 hb];rfl
  | true=>
   obtain⟨mf,w,e1,e2,⟨e3,e4⟩,e5⟩ :=h1 hb;rw [e1];rw [e5]at e3 e4;have hM:=bER (rF m) (gP m) mf w.mc w.ar e2 e3 e4 (by have:=F.fl;simp;omega) m.funs 0 F.tf;simp only [hM,Bool.true_and,e5];have hmain:cQ nL mf=some (aZ (rF m) nL) :=by
    simp only [and_eq_true]at hb;rw [e2 nL,if_pos (hasS_mem.1 hb.2)]
   rw [hmain,Option.getD_some];have ek: (m.funs.all fun f=>knT (rF m) (gP m) f.bod [f.par]) =knM m m.funs:=rfl;rw [ek];cases knM m m.funs with
   |false=>rfl
   |true=>rfl
theorem aEG (m:Mod)(hs:iL m=true) :Pure PP 10 [Mod.av m] (.tup [Prog.av (wN m).1,.int .i64 (wN m).2]) :=by
 rw [←aOv m hs];refine aLO m hs (fun mf w h=>?_);obtain⟨h1,h2⟩ :=aF1 m;cases hb: (fS (rF m) &&fS ((gP m).map Con.name) &&dA (rF m) nL)with
 |false=>rw [h2 hb]at h;cases h
 | true =>
  obtain⟨mf',w',e1,e2,⟨e3,e4⟩,e5⟩ :=h1 hb;rw [e1]at h;cases h;refine⟨fun s n hn=>?_,fun s f hn=>?_,⟨aZ (rF m) nL,?_⟩⟩
  · rw [e3 s]at hn;split at hn
    · rename_i hmem;cases hn;have h0:=conIx_mem.2 hmem;rcases kT s w.l 0 (by omega)with g|g
      ·omega
      ·rw [e4,List.length_map];omega
    ·cases hn
  · rw [e2 s]at hn;split at hn
    · rename_i hmem;cases hn;have h0:=placeL_mem.2 hmem;have hr:=oK (rF m) s (rF m).length;have hp:aZ (rF m) s=bW (rF m) s (rF m).length:=rfl;have hl: (rF m).length≤8:=by
       simp only [iL,and_eq_true,decide_eq_true_eq]at hs;simp;omega
      omega
    ·cases hn
  · simp only [and_eq_true]at hb;exact(e2 nL).trans (if_pos (hasS_mem.1 hb.2))
theorem aF7 {l:List aB}{s:aB}:∀ {i:Nat},bW l s i<0→bW l s i= -1
 |0,_=>rfl
 | i+1,h=>by
  rw [bW]at h ⊢;by_cases g:l[i]?=some s
  ·rw [if_pos g]at h;omega
  ·rw [if_neg g]at h ⊢;exact aF7 h
theorem zY {l:List aB}{s:aB}(h:aZ l s<0) :aZ l s= -1:=aF7 h
theorem aKa (x:aB)(e:List aB)(s:aB) :aZ (x::e) s=if 0≤aZ e s then aZ e s+1 else if x=s then 0 else -1:=by
 have h:=gC [x] e s;rw [List.singleton_append]at h;rw [h];by_cases g:s∈e
 ·rw [if_pos g,if_pos (placeL_mem.2 g)];simp;omega
 ·rw [if_neg g,if_neg (fun k=>g (placeL_mem.1 k)),aEx]
mutual
def shN (x:aB) :NT→NT
 | .nm p s n ks ps=>if 0≤p then .nm (p+1) s n ks ps else if x=s then .nm 0 [] n ks ps else .nm p s n ks ps
 | .nd o n s ks ps=>.nd o n s (aUk x ks) ps
def aUk (x:aB) :List NT→List NT
 | [] =>[]
 |k::ks=>shN x k::aUk x ks
end
mutual
def unN (x:aB) :NT→NT
 | .nm p s n ks ps=>if 0<p then .nm (p-1) s n ks ps else if p=0 then .nm (-1) x n ks ps else .nm p s n ks ps
 | .nd o n s ks ps=>.nd o n s (aUl x ks) ps
def aUl (x:aB) :List NT→List NT
 | [] =>[]
 |k::ks=>unN x k::aUl x ks
end
mutual
theorem aBf (x:aB) :∀ (t:Term) (e:List aB),jM (x::e) t=shN x (jM e t) ∧jM e t=unN x (jM (x::e) t)
 | .mk o n s ks ps,e=>by
  rw [jM,jM];by_cases h4:o=4
  · rw [if_pos h4,if_pos h4,aKa,shN];by_cases h0:0≤aZ e s
    · rw [if_pos h0,if_pos h0,if_neg (show ¬aZ e s+1<0 by omega),if_neg (show ¬aZ e s<0 by omega),unN,if_pos (by omega)];exact⟨rfl,by rw [Int.add_sub_cancel]⟩
    · rw [if_neg h0,if_neg h0,if_pos (show aZ e s<0 by omega)];have hm:=zY (show aZ e s<0 by omega);by_cases hx:x=s
      · rw [if_pos hx,if_pos hx,if_neg (by omega),unN,if_neg (by omega),if_pos rfl,hm,hx];exact⟨rfl,rfl⟩
      · rw [if_neg hx,if_neg hx,if_pos (by omega),unN,if_neg (by omega),if_neg (by omega),hm];exact⟨rfl,rfl⟩
  · obtain⟨h1,h2⟩ :=aKb x o s ps ks 0 e;rw [if_neg h4,if_neg h4,shN,unN,←h1,←h2];exact⟨rfl,rfl⟩
theorem aKb (x:aB)(o:Int)(s:aB)(ps:List Pat) :∀ (ks:List Term) (i:Nat) (e:List aB),iV (x::e) o s ps i ks=aUk x (iV e o s ps i ks) ∧iV e o s ps i ks=aUl x (iV (x::e) o s ps i ks)
 | [],i,e=>by rw [iV,iV,aUk,aUl];exact⟨rfl,rfl⟩
 | k::ks,i,e=>by
  obtain⟨h1,h2⟩ :=aKb x o s ps ks (i+1) e;obtain⟨h3,h4⟩ :=aBf x k (e++aR o s ps i);rw [iV,iV,aUk,aUl,List.cons_append,←h1,←h2,←h3,←h4];exact⟨rfl,rfl⟩
end
theorem bF6 (x:aB)(t u:Term) :jM [x] t=jM [x] u↔jM [] t=jM [] u:=
 ⟨fun h=>by rw [(aBf x t []).2,(aBf x u []).2,h],fun h=>by rw [(aBf x t []).1,(aBf x u []).1,h]⟩
theorem aEH {s:aB}(h:dK s=true) :¬lT s:=by
 unfold dK at h;simp only [and_eq_true,decide_eq_true_eq]at h;cases s with
 |nil=>simp
 | cons c s=>
  have h:=h.1.2;simp only [eO,all_cons,and_eq_true,pH,decide_eq_true_eq]at h;intro e;have e: (c::s).head?=some 35:=e;rw [List.head?_cons,Option.some.injEq]at e;rw [e]at h;exact absurd h.1.1 (by decide)
theorem aKc {s:aB}(h:cD s=true) :¬lT s:=by
 cases s with
 |nil=>simp
 | cons c s=>
  simp only [cD,and_eq_true,decide_eq_true_eq]at h;intro e;have e: (c::s).head?=some 35:=e;rw [List.head?_cons,Option.some.injEq]at e;rw [e]at h;exact absurd h.1.1.2 (by decide)
theorem aEI {o n:Int}{s:aB}{k m:Nat}(h:aL o n s k m=true) :arO o k m∧ (o=4→n=0∧dK s=true) ∧ (bnd o→n=0∧dK s=true) ∧ (o=14→n=0∧cD s=true) ∧ (o≠4→¬bnd o→o≠14→s= []) :=by
 unfold aL at h;unfold arO bnd;by_cases c0:o=1
 · rw [if_pos c0]at h;simp only [aK,cF,and_eq_true,decide_eq_true_eq,Bool.true_or,Bool.false_or,and_true,true_and]at h;exact⟨⟨by omega,by omega,by omega,by omega,by omega⟩,(fun g=>by omega),(fun g=>by omega),(fun g=>by omega),(fun _ _ _=>by simp only [and_assoc]at h;first|exact h.2.1|exact h.2.2.1|exact h.2.2.2.1|exact h.2.2.2.2)⟩
 rw [if_neg c0]at h;by_cases c1:o=2
 · rw [if_pos c1]at h;simp only [aK,cF,and_eq_true,decide_eq_true_eq,Bool.true_or,Bool.false_or,and_true,true_and]at h;exact⟨⟨by omega,by omega,by omega,by omega,by omega⟩,(fun g=>by omega),(fun g=>by omega),(fun g=>by omega),(fun _ _ _=>by simp only [and_assoc]at h;first|exact h.2.1|exact h.2.2.1|exact h.2.2.2.1|exact h.2.2.2.2)⟩
 rw [if_neg c1]at h;by_cases c2:o=3∨o=21∨o=25∨o=28
 · rw [if_pos c2]at h;simp only [aK,cF,and_eq_true,decide_eq_true_eq,Bool.true_or,Bool.false_or,and_true,true_and]at h;exact⟨⟨by omega,by omega,by omega,by omega,by omega⟩,(fun g=>by omega),(fun g=>by omega),(fun g=>by omega),(fun _ _ _=>by simp only [and_assoc]at h;first|exact h.2.1|exact h.2.2.1|exact h.2.2.2.1|exact h.2.2.2.2)⟩
 rw [if_neg c2]at h;by_cases c3:o=4
 · rw [if_pos c3]at h;simp only [aK,cF,and_eq_true,decide_eq_true_eq,Bool.true_or,Bool.false_or,and_true,true_and]at h;exact⟨⟨by omega,by omega,by omega,by omega,by omega⟩,(fun _=> ⟨by omega,h.2⟩),(fun g=>by omega),(fun g=>by omega),(fun g1 g2 g3=>by omega)⟩
 rw [if_neg c3]at h;by_cases c4:o=5∨o=27
 · rw [if_pos c4]at h;simp only [aK,cF,and_eq_true,decide_eq_true_eq,Bool.true_or,Bool.false_or,and_true,true_and]at h;exact⟨⟨by omega,by omega,by omega,by omega,by omega⟩,(fun g=>by omega),(fun _=> ⟨by omega,h.2⟩),(fun g=>by omega),(fun g1 g2 g3=>by omega)⟩
 rw [if_neg c4]at h;by_cases c5:o=7
 · rw [if_pos c5]at h;simp only [aK,cF,and_eq_true,decide_eq_true_eq,Bool.true_or,Bool.false_or,and_true,true_and]at h;exact⟨⟨by omega,by omega,by omega,by omega,by omega⟩,(fun g=>by omega),(fun _=> ⟨by omega,h.2⟩),(fun g=>by omega),(fun g1 g2 g3=>by omega)⟩
 rw [if_neg c5]at h;by_cases c6:o=8
 · rw [if_pos c6]at h;simp only [aK,cF,and_eq_true,decide_eq_true_eq,Bool.true_or,Bool.false_or,and_true,true_and]at h;exact⟨⟨by omega,by omega,by omega,by omega,by omega⟩,(fun g=>by omega),(fun g=>by omega),(fun g=>by omega),(fun _ _ _=>by simp only [and_assoc]at h;first|exact h.2.1|exact h.2.2.1|exact h.2.2.2.1|exact h.2.2.2.2)⟩
 rw [if_neg c6]at h;by_cases c7:o=14
 · rw [if_pos c7]at h;simp only [aK,cF,and_eq_true,decide_eq_true_eq,Bool.true_or,Bool.false_or,and_true,true_and]at h;exact⟨⟨by omega,by omega,by omega,by omega,by omega⟩,(fun g=>by omega),(fun g=>by omega),(fun _=> ⟨by omega,h.2⟩),(fun g1 g2 g3=>by omega)⟩
 rw [if_neg c7]at h;by_cases c8:o=15
 · rw [if_pos c8]at h;simp only [aK,cF,and_eq_true,decide_eq_true_eq,Bool.true_or,Bool.false_or,and_true,true_and]at h;exact⟨⟨by omega,by omega,by omega,by omega,by omega⟩,(fun g=>by omega),(fun g=>by omega),(fun g=>by omega),(fun _ _ _=>by simp only [and_assoc]at h;first|exact h.2.1|exact h.2.2.1|exact h.2.2.2.1|exact h.2.2.2.2)⟩
 rw [if_neg c8]at h;by_cases c9:o=16∨o=17∨o=19∨o=20∨o=23∨o=26
 · rw [if_pos c9]at h;simp only [aK,cF,and_eq_true,decide_eq_true_eq,Bool.true_or,Bool.false_or,and_true,true_and]at h;exact⟨⟨by omega,by omega,by omega,by omega,by omega⟩,(fun g=>by omega),(fun g=>by omega),(fun g=>by omega),(fun _ _ _=>by simp only [and_assoc]at h;first|exact h.2.1|exact h.2.2.1|exact h.2.2.2.1|exact h.2.2.2.2)⟩
 rw [if_neg c9]at h;by_cases c10:o=24
 · rw [if_pos c10]at h;simp only [aK,cF,and_eq_true,decide_eq_true_eq,Bool.true_or,Bool.false_or,and_true,true_and]at h;exact⟨⟨by omega,by omega,by omega,by omega,by omega⟩,(fun g=>by omega),(fun g=>by omega),(fun g=>by omega),(fun _ _ _=>by simp only [and_assoc]at h;first|exact h.2.1|exact h.2.2.1|exact h.2.2.2.1|exact h.2.2.2.2)⟩
 rw [if_neg c10]at h;by_cases c11:o=6∨o=9∨o=10∨o=11∨o=12∨o=13∨o=18∨o=22
 · rw [if_pos c11]at h;simp only [aK,cF,and_eq_true,decide_eq_true_eq,Bool.true_or,Bool.false_or,and_true,true_and]at h;exact⟨⟨by omega,by omega,by omega,by omega,by omega⟩,(fun g=>by omega),(fun g=>by omega),(fun g=>by omega),(fun _ _ _=>by simp only [and_assoc]at h;first|exact h.2.1|exact h.2.2.1|exact h.2.2.2.1|exact h.2.2.2.2)⟩
 rw [if_neg c11]at h;cases h
theorem aBZ {f n:Int}{s:aB}{ps:List Pat}(h:bK f n s ps=true) : (f=2→ps= [] ∧n=0∧dK s=true) ∧ (f=6→n=0∧cD s=true) ∧ (f≠2→f≠6→s= []) :=by
 unfold bK at h
 repeat' split at h
 all_goals simp only [and_eq_true,decide_eq_true_eq,Bool.false_eq_true]at h
 ·exact⟨fun g=>by omega,fun g=>by omega,fun _ _=>h.2⟩
 ·exact⟨fun _=> ⟨List.length_eq_zero_iff.1 h.1.1,h.1.2,h.2⟩,fun g=>by omega,fun g=>by omega⟩
 ·exact⟨fun g=>by omega,fun g=>by omega,fun _ _=>h.1.2⟩
 ·exact⟨fun g=>by omega,fun g=>by omega,fun _ _=>h.1.2⟩
 ·exact⟨fun g=>by omega,fun _=> ⟨h.1.2,h.2⟩,fun _ g=>by omega⟩
mutual
theorem aND :∀p:Pat,uC p=true→pOk p∧∀y∈aO p,¬lT y
 | .mk f n s ps,h=>by
  rw [uC,and_eq_true]at h;obtain⟨h1,h2,h3⟩ :=aBZ h.1;obtain⟨g1,g2⟩ :=aKd ps h.2;rw [pOk,aO];refine⟨⟨fun g=> (h1 g).1,fun g=>?_,g1⟩,?_⟩
  · by_cases h6:f=6
    ·exact aKc (h2 h6).2
    ·rw [h3 g h6];simp
  · by_cases h2:f=2
    ·rw [if_pos h2];intro y hy;rw [List.mem_singleton.1 hy];exact aEH (h1 h2).2.2
    ·rw [if_neg h2];exact g2
theorem aKd :∀ps:List Pat,lL ps=true→tV ps∧∀y∈bY ps,¬lT y
 | [],_=> ⟨trivial,fun _ h=> (by cases h)⟩
 | p::ps,h=>by
  rw [lL,and_eq_true]at h;obtain⟨a1,a2⟩ :=aND p h.1;obtain⟨b1,b2⟩ :=aKd ps h.2;rw [tV,bY];exact⟨⟨a1,b1⟩,fun y hy=> (List.mem_append.1 hy).elim (a2 y) (b2 y)⟩
end
theorem bCJ {p:Pat}(h:sB p=true) :pOk p∧ (aO p).Nodup∧∀y∈aO p,¬lT y:=by
 simp only [sB,and_eq_true]at h;obtain⟨a,b⟩ :=aND p h.1.2;exact⟨a,(tO _ [] h.2).1,b⟩
mutual
theorem aKe :∀t:Term,fH t=true→nN t∧∀s∈nO t,¬lT s
 | .mk o n s ks ps,h=>by
  rw [fH,and_eq_true,and_eq_true,all_eq_true]at h;obtain⟨⟨h1,h2⟩,h3⟩ :=h;obtain⟨a1,a2,a3,a4,a5⟩ :=aEI h1;obtain⟨b1,b2⟩ :=aF8 ks h3;rw [nN,nO];refine⟨⟨a1,fun g=>?_,fun p hp=>bCJ (h2 p hp),b1⟩,?_⟩
  · by_cases hb:bnd o
    ·exact aEH (a3 hb).2
    · by_cases h14:o=14
      ·exact aKc (a4 h14).2
      ·rw [a5 g hb h14];simp
  · by_cases h4:o=4
    ·rw [if_pos h4];intro y hy;rw [List.mem_singleton.1 hy];exact aEH (a2 h4).2
    ·rw [if_neg h4];exact b2
theorem aF8 :∀ks:List Term,jK ks=true→gB ks∧∀s∈dM ks,¬lT s
 | [],_=> ⟨trivial,fun _ h=> (by cases h)⟩
 | k::ks,h=>by
  rw [jK,and_eq_true]at h;obtain⟨a1,a2⟩ :=aKe k h.1;obtain⟨b1,b2⟩ :=aF8 ks h.2;rw [gB,dM];exact⟨⟨a1,b1⟩,fun y hy=> (List.mem_append.1 hy).elim (a2 y) (b2 y)⟩
end
mutual
theorem bF7 (cs:List Con) :∀ (p q:Pat),erP p=erP q→pOk p→pOk q→pnP cs p=pnP cs q
 | .mk f n s ps,.mk f' n' s' ps',h,hp,hq=>by
  rw [pOk]at hp hq;rw [erP,erP,Pat.mk.injEq]at h;obtain⟨rfl,rfl,h1,h2⟩ :=h;rw [pnP,pnP,aH0 cs ps ps' h2 hp.2.2 hq.2.2];by_cases h6:f=6
  · rw [if_neg (by omega),if_neg (by omega)]at h1;rw [if_pos h6,if_pos h6,h1]
  ·rw [if_neg h6,if_neg h6]
theorem aH0 (cs:List Con) :∀ (ps qs:List Pat),fB ps=fB qs→tV ps→tV qs→pT cs ps=pT cs qs
 | [],[],_,_,_=>rfl
 | [],q::qs,h,_,_=>by rw [fB,fB]at h;cases h
 |p::ps,[],h,_,_=>by rw [fB,fB]at h;cases h
 | p::ps,q::qs,h,hp,hq=>by
  rw [tV]at hp hq;rw [fB,fB,List.cons.injEq]at h;rw [pT,pT,bF7 cs p q h.1 hp.1 hq.1,aH0 cs ps qs h.2 hp.2 hq.2]
end
section
variable (fs :List aB) (cs:List Con)
mutual
theorem aNE :∀ (t u:Term) (e e':List aB) (a:Nat),nN t→nN u→jM e t=jM e' u→fM fs cs t e a=fM fs cs u e' a
 | .mk o n s ks ps,.mk o' n' s' ks' ps',e,e',a,ht,hu,h=>by
  rw [jM,jM]at h;by_cases h4:o=4
  · by_cases h4':o'=4
    · subst h4 h4';obtain⟨rfl,rfl⟩ :=aOr ht;obtain⟨rfl,rfl⟩ :=aOr hu;rw [if_pos rfl,if_pos rfl,NT.nm.injEq]at h;obtain⟨e1,e2,e3,_,_⟩ :=h;rw [fM,fM,dW,dW];have:yJ fs cs e 4 n s=yJ fs cs e' 4 n' s':=by
       have n14:¬ (4:Int) =14:=by omega
       simp only [yJ,if_neg n14,if_true,e1];rw [e1]at e2;by_cases hp:aZ e' s'<0
       ·rw [if_pos hp,if_pos hp]at e2;rw [e2]
       ·rw [if_neg hp,if_neg hp]
      rw [this]
    ·rw [if_pos h4,if_neg h4']at h;cases h
  · by_cases h4':o'=4
    ·rw [if_neg h4,if_pos h4']at h;cases h
    · rw [if_neg h4,if_neg h4',NT.nd.injEq]at h;obtain⟨rfl,rfl,e3,e4,e5⟩ :=h;rw [nN]at ht hu;have hp:=aKf ks ks' o s s' ps ps' 0 e e' (a+1) ht.2.2.2 hu.2.2.2 e4;rw [fM,fM,hp,aH0 cs ps ps' e5 (aBc fun p hp=> (ht.2.2.1 p hp).1) (aBc fun p hp=> (hu.2.2.1 p hp).1)];have:yJ fs cs e o n s=yJ fs cs e' o n s':=by
       unfold yJ;rw [if_neg h4,if_neg h4];by_cases h14:o=14
       · rw [if_neg (show ¬bnd o by unfold bnd;omega),if_neg (show ¬bnd o by unfold bnd;omega)]at e3;rw [e3]
       ·rw [if_neg h14,if_neg h14]
      rw [this]
theorem aKf :∀ (ts us:List Term) (o:Int) (s s':aB) (ps ps':List Pat) (i:Nat) (e e':List aB) (a:Nat),gB ts→gB us→iV e o s ps i ts=iV e' o s' ps' i us→dW fs cs o s ps ts i e a=dW fs cs o s' ps' us i e' a
 | [],[],_,_,_,_,_,_,_,_,_,_,_,_=>by rw [dW,dW]
 | [],k::ks,_,_,_,_,_,_,_,_,_,_,_,h=>by rw [iV,iV]at h;cases h
 |k::ks,[],_,_,_,_,_,_,_,_,_,_,_,h=>by rw [iV,iV]at h;cases h
 | k::ks,k'::ks',o,s,s',ps,ps',i,e,e',a,h1,h2,h=>by
  rw [iV,iV,List.cons.injEq]at h;rw [gB]at h1 h2;have g1:=aNE k k' _ _ a h1.1 h2.1 h.1;have g2:=aKf ks ks' o s s' ps ps' (i+1) e e' (a+ (fM fs cs k' (e'++aR o s' ps' i) a).length) h1.2 h2.2 h.2;rw [dW,dW,g1,g2]
end
theorem aF9 {s:aB}(h:0≤eB s cs 0) :∃c,cs[(eB s cs 0).toNat]?=some c∧c.name=s:=by
 rcases kT s cs 0 (by omega)with e| ⟨_,_,d,hd,hn⟩
 ·omega
 ·rw [Int.sub_zero]at hd;exact⟨d,hd,hn⟩
theorem aGa {s s':aB}(h:0≤eB s cs 0)(e:eB s cs 0=eB s' cs 0) :s=s':=by
 obtain⟨c,h1,h2⟩ :=aF9 cs h;obtain⟨c',h3,h4⟩ :=aF9 cs (e ▸ h);rw [e,h3]at h1;cases h1;rw [←h2,h4]
theorem aUm {s:aB}{k:Int}(h:ckn cs s k=true) :0≤eB s cs 0:=by
 unfold ckn at h;simp only [and_eq_true,decide_eq_true_eq]at h;exact h.1
mutual
theorem bCK :∀ (p q:Pat),uC p=true→uC q=true→knP cs p=true→knP cs q=true→pnP cs p=pnP cs q→erP p=erP q
 | .mk f n s ps,.mk f' n' s' ps',hp,hq,kp,kq,h=>by
  rw [uC,and_eq_true]at hp hq;rw [knP,and_eq_true]at kp kq;rw [pnP,pnP,Pat.mk.injEq]at h;obtain⟨rfl,h1,_,h2⟩ :=h;obtain⟨a1,a2,a3⟩ :=aBZ hp.1;obtain⟨b1,b2,b3⟩ :=aBZ hq.1;rw [erP,erP,aEJ ps ps' hp.2 hq.2 kp.2 kq.2 h2];by_cases h6:f=6
  · rw [if_pos h6]at kp;rw [if_pos h6,if_pos h6]at h1;rw [aGa cs (aUm cs kp.1) h1,(a2 h6).1,(b2 h6).1]
  · rw [if_neg h6,if_neg h6]at h1;rw [h1];by_cases h2:f=2
    ·rw [if_pos h2,if_pos h2]
    ·rw [a3 h2 h6,b3 h2 h6]
theorem aEJ :∀ (ps qs:List Pat),lL ps=true→lL qs=true→aA3 cs ps=true→aA3 cs qs=true→pT cs ps=pT cs qs→fB ps=fB qs
 | [],[],_,_,_,_,_=>rfl
 | [],q::qs,_,_,_,_,h=>by rw [pT,pT]at h;cases h
 |p::ps,[],_,_,_,_,h=>by rw [pT,pT]at h;cases h
 | p::ps,q::qs,hp,hq,kp,kq,h=>by
  rw [lL,and_eq_true]at hp hq;rw [aA3,and_eq_true]at kp kq;rw [pT,pT,List.cons.injEq]at h;rw [fB,fB,bCK p q hp.1 hq.1 kp.1 kq.1 h.1,aEJ ps qs hp.2 hq.2 kp.2 kq.2 h.2]
end
theorem aB0 :∀ {ps:List Pat},(∀p∈ps,sB p=true) →lL ps=true
 | [],_=>rfl
 | p::ps,h=>by
  have:=h p (mem_cons_self ..);simp only [sB,and_eq_true]at this;rw [lL,this.1.2,aB0 fun q hq=>h q (mem_cons_of_mem _ hq)];rfl
mutual
theorem aNF (hfl:fs.length≤100000) :∀ (t u:Term) (e e':List aB) (a:Nat),fH t=true→fH u=true→knT fs cs t e=true→knT fs cs u e'=true→fM fs cs t e a=fM fs cs u e' a→jM e t=jM e' u
 | .mk o n s ks ps,.mk o' n' s' ks' ps',e,e',a,ht,hu,kt,ku,h=>by
  rw [fH,and_eq_true,and_eq_true,all_eq_true]at ht hu;obtain⟨⟨t1,t2⟩,t3⟩ :=ht;obtain⟨⟨u1,u2⟩,u3⟩ :=hu;obtain⟨a1,a2,a3,a4,a5⟩ :=aEI t1;obtain⟨b1,b2,b3,b4,b5⟩ :=aEI u1;rw [fM,fM,List.cons.injEq,Node.mk.injEq]at h;obtain⟨⟨rfl,h1,h2,h3⟩,h4⟩ :=h;rw [knT]at kt ku;rw [jM,jM];by_cases g4:o=4
  · rw [if_pos g4]at kt ku;rw [if_pos g4,if_pos g4,(a2 g4).1,(b2 g4).1,List.length_eq_zero_iff.1 (a1.2.2.2.2 g4),List.length_eq_zero_iff.1 (b1.2.2.2.2 g4),List.length_eq_zero_iff.1 (a1.2.2.2.1 (by omega)),List.length_eq_zero_iff.1 (b1.2.2.2.1 (by omega))];have n14:¬o=14:=by omega
    simp only [yJ,if_neg n14,if_pos g4]at h1
    have W:∀ {x:aB} {d:List aB},aZ d x<0→ (dA d x||dA fs x) =true→x∈fs∧IntKind.i64.wrap (-1-aZ fs x) = -1-aZ fs x:=fun {x d} hd hk=>by
     have hx:x∈fs:=by
      rw [or_eq_true]at hk;rcases hk with g|g
      ·have:=placeL_mem.2 (hasS_mem.1 g);omega
      ·exact hasS_mem.1 g
     have hr:=oK fs x fs.length;have hp:aZ fs x=bW fs x fs.length:=rfl;exact⟨hx,by apply wrap64<;>omega⟩
    by_cases p1:aZ e s<0
    · obtain⟨w1,w2⟩ :=W p1 kt;have m1:=placeL_mem.2 w1;by_cases p2:aZ e' s'<0
      · obtain⟨w3,w4⟩ :=W p2 ku;rw [if_pos p1,if_pos p2,w2,w4]at h1;have q1:=tW w1;have q2:=tW w3;rw [show aZ fs s=aZ fs s' by omega]at q1;rw [if_pos p1,if_pos p2,zY p1,zY p2,Option.some.inj (q1.symm.trans q2)]
      ·rw [if_pos p1,if_neg p2,w2]at h1;omega
    · by_cases p2:aZ e' s'<0
      · obtain⟨w3,w4⟩ :=W p2 ku;have m1:=placeL_mem.2 w3;rw [if_neg p1,if_pos p2,w4]at h1;omega
      · rw [if_neg p1,if_neg p2]at h1;rw [if_neg p1,if_neg p2,h1]
  · rw [if_neg g4,and_eq_true,and_eq_true,all_eq_true]at kt ku;have hk:=aKg hfl ks ks' o s s' ps ps' 0 e e' (a+1) t3 u3 kt.2 ku.2 (Prod.ext h2 h4);have hp:=aEJ cs ps ps' (aB0 t2) (aB0 u2) (by rw [aBe];exact List.all_eq_true.2 kt.1.2) (by rw [aBe];exact List.all_eq_true.2 ku.1.2) h3;rw [if_neg g4,if_neg g4,hk,hp];unfold yJ at h1;rw [if_neg g4,if_neg g4]at h1;by_cases h14:o=14
    · rw [if_pos h14,if_pos h14]at h1;rw [if_pos h14]at kt;rw [(a4 h14).1,(b4 h14).1,aGa cs (aUm cs kt.1.1) h1]
    · rw [if_neg h14,if_neg h14]at h1;rw [h1];by_cases hb:bnd o
      ·rw [if_pos hb,if_pos hb]
      ·rw [a5 g4 hb h14,b5 g4 hb h14]
theorem aKg (hfl:fs.length≤100000) :∀ (ts us:List Term) (o:Int) (s s':aB) (ps ps':List Pat) (i:Nat) (e e':List aB) (a:Nat),jK ts=true→jK us=true→aEb fs cs o s ps ts i e=true→aEb fs cs o s' ps' us i e'=true →
  dW fs cs o s ps ts i e a=dW fs cs o s' ps' us i e' a→iV e o s ps i ts=iV e' o s' ps' i us
 | [],[],_,_,_,_,_,_,_,_,_,_,_,_,_,_=>by rw [iV,iV]
 | [],k::ks,_,_,_,_,_,_,_,_,_,_,_,_,_,h=>by rw [dW,dW]at h;cases h
 |k::ks,[],_,_,_,_,_,_,_,_,_,_,_,_,_,h=>by rw [dW,dW]at h;cases h
 | k ::ks,k'::ks',o,s,s',ps,ps',i,e,e',a,t1,u1,kt,ku,h=>by
  rw [jK,and_eq_true]at t1 u1;rw [aEb,and_eq_true]at kt ku;rw [dW,dW,Prod.mk.injEq,List.cons.injEq]at h;obtain⟨⟨_,h1⟩,h2⟩ :=h;have hl: (fM fs cs k (e++aR o s ps i) a).length= (fM fs cs k' (e'++aR o s' ps' i) a).length:=by
   cases ks with
   | nil=>cases ks' with
    | nil=>
     simp only [dW,append_nil]at h2;rw [h2]
    |cons=>simp only [dW]at h1;cases h1
   | cons=>cases ks' with
    |nil=>simp only [dW]at h1;cases h1
    |cons=>simp only [dW,List.cons.injEq]at h1;omega
  rw [hl]at h1 h2;obtain⟨g1,g2⟩ :=List.append_inj h2 hl;rw [iV,iV,aNF hfl k k' _ _ a t1.1 u1.1 kt.1 ku.1 g1,aKg hfl ks ks' o s s' ps ps' (i+1) e e' _ t1.2 u1.2 kt.2 ku.2 (Prod.ext h1 g2)]
end
theorem aGb :∀ (l:List FunD) (i a:Nat) (n p:aB) (f g:Typ) (b b':Term),l[i]?=some (.mk n p f g b) → (∀a,fM fs cs b [p] a=fM fs cs b' [p] a) →hJ fs cs l a=hJ fs cs (l.set i (.mk n p f g b')) a
 | [],i,a,_,_,_,_,_,_,h,_=>by simp at h
 | d::l,0,a,n,p,f,g,b,b',h,he=>by
  simp only [getElem?_cons_zero,Option.some.injEq]at h;subst h;have e:=he a;rw [set_cons_zero,hJ,hJ];show(_:: (hJ fs cs l (a+ (fM fs cs b [p] a).length)).1,fM fs cs b [p] a++ (hJ fs cs l (a+ (fM fs cs b [p] a).length)).2) = (_:: (hJ fs cs l (a+ (fM fs cs b' [p] a).length)).1,fM fs cs b' [p] a++ (hJ fs cs l (a+ (fM fs cs b' [p] a).length)).2);rw [e]
 | d::l,i+1,a,n,p,f,g,b,b',h,he=>by
  rw [set_cons_succ,hJ,hJ,aGb l i _ n p f g b b' (by simpa using h) he]
theorem aKh :∀ (l:List FunD) (i a:Nat) (n p:aB) (f g:Typ) (b b':Term),l[i]?=some (.mk n p f g b) →hJ fs cs l a=hJ fs cs (l.set i (.mk n p f g b')) a→∃a,fM fs cs b [p] a=fM fs cs b' [p] a
 | [],i,a,_,_,_,_,_,_,h,_=>by simp at h
 | d ::l,0,a,n,p,f,g,b,b',h,he=>by
  simp only [getElem?_cons_zero,Option.some.injEq]at h;subst h;rw [set_cons_zero,hJ,hJ,Prod.mk.injEq,List.cons.injEq]at he;obtain⟨⟨_,h1⟩,h2⟩ :=he
  change (hJ fs cs l (a+ (fM fs cs b [p] a).length)).1= (hJ fs cs l (a+ (fM fs cs b' [p] a).length)).1 at h1
  change fM fs cs b [p] a++ (hJ fs cs l (a+ (fM fs cs b [p] a).length)).2=fM fs cs b' [p] a++ (hJ fs cs l (a+ (fM fs cs b' [p] a).length)).2 at h2
  have hl: (fM fs cs b [p] a).length= (fM fs cs b' [p] a).length:=by
   cases l with
   | nil=>
    simp only [hJ,append_nil]at h2;rw [h2]
   |cons=>simp only [hJ,List.cons.injEq]at h1;omega
  exact⟨a,(List.append_inj h2 hl).1⟩
 | d::l,i+1,a,n,p,f,g,b,b',h,he=>by
  rw [set_cons_succ,hJ,hJ,Prod.mk.injEq,List.cons.injEq]at he;exact aKh l i _ n p f g b b' (by simpa using h) (Prod.ext he.1.2 (List.append_cancel_left he.2))
end
mutual
theorem aB1 (x y:aB) :∀p:Pat,aV (tL x y p) =aV p
 | .mk f n s ps=>by rw [tL,aV,aV,aEK x y ps]
theorem aEK (x y:aB) :∀ps:List Pat,aM (lO x y ps) =aM ps
 | [] =>by rw [lO]
 |p::ps=>by rw [lO,aM,aM,aB1 x y p,aEK x y ps]
end
mutual
theorem aBg (x y:aB) :∀k:Term,uE (kW x y k) =uE k
 | .mk o n s ks ps=>by
  rw [kW];split
  ·rw [uE,uE]
  ·rw [uE,uE,aBW,aKi x y o s ps ks 0]
theorem aKi (x y:aB)(o:Int)(s:aB)(ps:List Pat) :∀ (ks:List Term) (i:Nat),lS (iT x y o s ps i ks) =lS ks
 | [],i=>by rw [iT]
 | k::ks,i=>by
  rw [iT,lS,lS,aKi x y o s ps ks (i+1)];split
  ·rfl
  ·rw [aBg x y k]
end
theorem aEL :∀ (b:List aB) (j:Nat) (k:Term),uE (renL b j k) =uE k
 | [],j,k=>rfl
 |x::b,j,k=>by rw [renL,aEL b,aBg]
theorem tX :∀ (b:List aB) (j:Nat) (p:Pat),aV (lW b j p) =aV p
 | [],j,k=>rfl
 |x::b,j,k=>by rw [lW,tX b,aB1]
theorem aBh :∀ {ks:List Term},lS ks=true↔∀k∈ks,uE k=true
 | [] =>by simp [lS]
 |k::ks=>by rw [lS,and_eq_true,aBh (ks:=ks)];simp
theorem aUn :∀ (ks:List Term) (ps:List Pat) (tk:List aB),ks.length=ps.length→lS ks=true→ (∀p∈ps,aV p≤1000) →lS (pU ks ps tk).1=true∧ (∀p∈ (pU ks ps tk).2.1,aV p≤1000) ∧ (pU ks ps tk).2.1.length=ps.length
 | [],[],tk,_,_,h=> ⟨rfl,h,rfl⟩
 | k ::ks,p::ps,tk,hl,hk,hp=>by
  rw [lS,and_eq_true]at hk;obtain⟨h1,h2,h3⟩ :=aUn ks ps (xN (aO p).length tk) (by simpa using hl) hk.2 (fun q hq=>hp q (mem_cons_of_mem _ hq));rw [pU];refine⟨?_,fun q hq=>?_,?_⟩
  ·simp only [lS,aEL,hk.1,h1,Bool.and_self]
  · rcases List.mem_cons.1 hq with rfl|hq
    ·rw [tX];exact hp p (mem_cons_self ..)
    ·exact h2 q hq
  ·simp only [length_cons,h3]
def AnS (f:Nat)(t:Term)(tk:List aB) :Prop:=
 aO5 PP (.enter 94 [Term.av t,.gl 0 1 0 (length tk) false]) (aG (SL tk) 1) (.ret (.tup [Term.av (eD f t tk).1,.gl 0 1 0 (length (eD f t tk).2) false])) (aG (SL (eD f t tk).2) 1)
abbrev rH (o n:Int)(s:aB)(ks:AV)(ps:List Pat) :AObj:=.cells (putCells .leaf 0 [(.int .i64 o),(.int .i64 n),(aA s),ks,(.ilst 4 (Pats.av ps) false)]) 5 [] false
abbrev rI :AObj:=.cells (putCells .leaf 0 [(.int .i64 0),(.int .i64 0),(.str 0 0),.nils,.nils]) 5 [] false
theorem aEM (tk:List aB) : (AObj.lst 1 (map aA tk)).kl:=bE _ (fun _=>rfl) _
theorem aLW (tk:List aB)(hl:tk.length≤1000000)(o n:Int)(s:aB)(ks:List Term)(ps:List Pat) :
  Spec PP (.enter 166 [.gl 0 1 0 (length tk) false]) (aG [(0,.lst 1 (map aA tk),true),(1,rH o n s (.ilst 5 (av ks) false) ps,false),(2,rI,false)] 3) (.ret (aA (kG tk)))
   (aG [(0,.lst 1 (map aA tk),true),(1,rH o n s (.ilst 5 (av ks) false) ps,false),(2,rI,false)] 3) :=
 aVd (ks:=[0]) (aTB tk hl) (by kernel_rfl) rfl (by kernel_rfl) (by kernel_rfl) ⟨aEM tk,trivial⟩ (by kernel_rfl) ⟨aEM tk,trivial⟩
theorem aOw {f:Nat}{y0 y1:Int}{y2:aB}{y3:List Term}{y4:List Pat}{tk:List aB}(h:AnS f (.mk y0 y1 y2 y3 y4) tk){z0 z1:Int}{z2:aB}{z3:List Term}{z4:List Pat}{tk':List aB}(e:eD f (.mk y0 y1 y2 y3 y4) tk= (.mk z0 z1 z2 z3 z4,tk'))
  (o n:Int) (s:aB) (l3:List Term) (ps:List Pat) :
  Spec PP (.enter 94 [Term.av (.mk y0 y1 y2 y3 y4),.gl 0 1 0 (length tk) false]) (aG [(0,.lst 1 (map aA tk),true),(1,rH o n s (.gl 3 5 0 (length l3) false) ps,false),(2,rI,false),(3,.lst 5 (av l3),true)] 4)
   (.ret (.tup [Term.av (.mk z0 z1 z2 z3 z4),.gl 4 1 0 (length tk') false]))
   (aG [(1,rH o n s (.gl 3 5 0 (length l3) false) ps,false),(2,rI,false),(3,.lst 5 (av l3),true),(4,.lst 1 (map aA tk'),true)] 5) :=by
 unfold AnS at h;rw [e]at h
 exact Eq.mp (by kernel_rfl) (aDK (ks:=[0]) (n2:=4) (lc:=[(0,.lst 1 (map aA tk),true),(1,rH o n s (.gl 3 5 0 (length l3) false) ps,false),(2,rI,false),(3,.lst 5 (av l3),true)])
  (x:=[(1,rH o n s (.gl 3 5 0 (length l3) false) ps,false),(2,rI,false),(3,.lst 5 (av l3),true)])
  (args':=[Term.av (.mk y0 y1 y2 y3 y4),.gl 0 1 0 (length tk) false])
  h (by kernel_rfl) (by kernel_rfl) (by kernel_rfl) ⟨aEM tk,trivial⟩ (by kernel_rfl) (by kernel_rfl) (by kernel_rfl) (by kernel_rfl) ⟨aEM _,trivial⟩ (by kernel_rfl))
theorem aBi {α:Type}:∀ {l:List α} {i:Nat} {x:α},l[i]?=some x→l.set i x=l
 | [],i,x,h=>by simp at h
 |y::l,0,x,h=>by simp at h;rw [h,set_cons_zero]
 |y::l,i+1,x,h=>by rw [set_cons_succ,aBi (by simpa using h)]
theorem aH1 :∀ (ks:List Term) (ps:List Pat) (tk:List aB),(pU ks ps tk).1.length=ks.length
 | [],[],tk=>rfl
 | [],_::_,tk=>rfl
 |_::_,[],tk=>rfl
 |k::ks,p::ps,tk=>by rw [pU,length_cons,aH1 ks ps,length_cons]
section
variable (l :List aB) (t0 t1:Int) (t2:aB) (t3:List Term) (t4:List Pat)
theorem aH2 (b:List aB)(k:Nat)(tk:List aB)(htk:tk.length<900000)(o n:Int)(s:aB)(ks:List Term)(ps:List Pat)(i:Nat)(x:aB)(hx:b[k]?=some x)(hk:k<900000)(hs:uE (.mk o n s ks ps) =true)(hi:i<ks.length)(hi1:o=15→1≤i)(hp:ps.length≤1000)
  {o' n':Int} {s':aB} {ks':List Term} {ps':List Pat} (e:aHK i x (bR tk.length) (.mk o n s ks ps) = .mk o' n' s' ks' ps') :
  LeadsM PP 0 (aBQ l t0 t1 t2 t3 t4 b (k:Int) tk o n s ks ps (i:Int)).as (aBQ l t0 t1 t2 t3 t4 b ((k+1:Nat) :Int) (tk++ [kG tk]) o' n' s' ks' ps' (i:Int)).as:=by
 have hkl:= (List.getElem?_eq_some_iff.1 hx).1;have h4:=aTj i x (bR tk.length) hs hi hi1 hp;rw [e]at h4;exact bBJ l t0 t1 t2 t3 t4 b k tk o n s ks ps i x (bR tk.length) o' n' s' ks' ps' (kG tk) sd sd (by simpa using hx) (aJq _ (by omega)) h4 (aLW tk (by omega) o' n' s' ks' ps') (by simp;omega) sd
theorem aUo (n:Int)(s:aB)(b:List aB)(j:Nat)(hj:j<1000) :∀ (rest:List aB) (k:Nat) (tk:List aB) (ks:List Term) (ps:List Pat) (q:Term) (p:Pat),b.drop k=rest→ks[j+1]?=some q→ps[j]?=some p→uE (.mk 15 n s ks ps) =true→ps.length≤1000→tk.length+rest.length<900000→k+rest.length<900000 →
  LeadsM PP 0 (aBQ l t0 t1 t2 t3 t4 b (k:Int) tk 15 n s ks ps ((j+1:Nat) :Int)).as (tN l t0 t1 t2 t3 t4 ((j+2:Nat) :Int) (xN rest.length tk) 15 n s (ks.set (j+1) (renL rest tk.length q)) (ps.set j (lW rest tk.length p))).as
 | [],k,tk,ks,ps,q,p,hb,hq,hp,hs,hpl,htk,hk=>by
  have hn:=bL hb;have e1:ks.set (j+1) q=ks:=aBi hq;have e2:ps.set j p=ps:=aBi hp;have:=xJ l t0 t1 t2 t3 t4 b k tk 15 n s ks ps ((j+1:Nat) :Int) sd sd;rw [renL,lW,e1,e2];exact this
 | x ::rest,k,tk,ks,ps,q,p,hb,hq,hp,hs,hpl,htk,hk=>by
  obtain⟨g1,g2,g3⟩ :=bH hb;have hi:= (List.getElem?_eq_some_iff.1 hq).1;have hi2:= (List.getElem?_eq_some_iff.1 hp).1;simp only [length_cons]at htk hk;have e:aHK (j+1) x (bR tk.length) (.mk 15 n s ks ps) = .mk 15 n s (ks.set (j+1) (kW x (bR tk.length) q)) (ps.set j (tL x (bR tk.length) p)) :=by
   unfold aHK;simp only [hq,if_true,Nat.add_sub_cancel,hp]
  have h0:=aH2 l t0 t1 t2 t3 t4 b k tk (by omega) 15 n s ks ps (j+1) x g1 (by omega) hs hi (by omega) hpl e;have hs2:uE (.mk 15 n s (ks.set (j+1) (kW x (bR tk.length) q)) (ps.set j (tL x (bR tk.length) p))) =true:=by
   obtain⟨a1,a2,a3,a4⟩ :=iM hs;have a1:=a1 rfl;rw [uE];simp only [and_eq_true,decide_eq_true_eq,all_eq_true,List.length_set,if_true];refine⟨⟨⟨a1,a2⟩,fun z hz=>?_⟩,?_⟩
   · rcases List.mem_or_eq_of_mem_set hz with g|rfl
     ·exact a3 z g
     ·rw [aB1];exact a3 p (mem_of_getElem? hp)
   · rw [aBh]at a4 ⊢;intro z hz;rcases List.mem_or_eq_of_mem_set hz with g|rfl
     ·exact a4 z g
     ·rw [aBg];exact a4 q (mem_of_getElem? hq)
  have h1:=aUo n s b j hj rest (k+1) (tk++ [kG tk]) _ _ _ _ g2 (by rw [List.getElem?_set_self hi]) (by rw [List.getElem?_set_self hi2]) hs2 (by rw [List.length_set];exact hpl) (by rw [length_append,List.length_singleton];omega) (by omega);rw [set_set,set_set,length_append]at h1;rw [renL,lW,length_cons,xN];exact h0.trans h1
theorem bES (n:Int)(s:aB)(k0:Term) :∀ (B:List Term) (PB:List Pat) (A:List Term) (PA:List Pat) (tk:List aB),A.length=PA.length→B.length=PB.length→uE (.mk 15 n s (k0:: (A++B)) (PA++PB)) =true→A.length+B.length<1000→tk.length+aM PB<800000 →
  LeadsM PP 0 (tN l t0 t1 t2 t3 t4 ((A.length+1:Nat) :Int) tk 15 n s (k0:: (A++B)) (PA++PB)).as
   (tN l t0 t1 t2 t3 t4 ((A.length+B.length+1:Nat) :Int) (pU B PB tk).2.2 15 n s (k0:: (A++ (pU B PB tk).1)) (PA++ (pU B PB tk).2.1)).as
 | [],[],A,PA,tk,_,_,_,_,_=>LeadsM.refl _
 | q ::B,p::PB,A,PA,tk,hA,hB,hs,hl,htk=>by
  simp only [length_cons]at hB hl;rw [aM]at htk;have hpl:=mK p;have hps:aV p≤1000:= (iM hs).2.2.1 p (by simp);have hb:aR 15 s (PA++p::PB) (A.length+1) =aO p:=by simp [aR,hA]
  have hbi:=tM hs (show A.length+1< (k0:: (A++q::B)).length by simp);rw [hb]at hbi;have h0:=xI l t0 t1 t2 t3 t4 ((A.length+1:Nat) :Int) tk 15 n s (k0:: (A++q::B)) (PA++p::PB) (aO p) (by simp;omega) hbi;have h1:=aUo l t0 t1 t2 t3 t4 n s (aO p) A.length (by omega) (aO p) 0 tk (k0:: (A++q::B)) (PA++p::PB) q p rfl (by simp) (by simp [hA]) hs (by simp;omega) (by omega) (by omega);have e1: (k0:: (A++q::B)).set (A.length+1) (renL (aO p) tk.length q) =k0:: ((A++ [renL (aO p) tk.length q]) ++B) :=by simp
  have e2: (PA++p::PB).set A.length (lW (aO p) tk.length p) = (PA++ [lW (aO p) tk.length p]) ++PB:=by simp [hA]
  rw [e1,e2]at h1;have hs2:uE (.mk 15 n s (k0:: ((A++ [renL (aO p) tk.length q]) ++B)) ((PA++ [lW (aO p) tk.length p]) ++PB)) =true:=by
   obtain⟨a1,a2,a3,a4⟩ :=iM hs;have a1:=a1 rfl;rw [aBh]at a4;rw [uE];simp only [and_eq_true,decide_eq_true_eq,all_eq_true,if_true,aBh];refine⟨⟨⟨by simp at a1 ⊢;omega,by simp at a2 ⊢;omega⟩,fun z hz=>?_⟩,fun z hz=>?_⟩
   · simp only [append_assoc,List.singleton_append,mem_append,mem_cons]at hz;rcases hz with g|rfl|g
     ·exact a3 z (by simp [g])
     ·rw [tX];exact hps
     ·exact a3 z (by simp [g])
   · simp only [append_assoc,List.singleton_append,mem_append,mem_cons]at hz;rcases hz with rfl|g|rfl|g
     ·exact a4 z (by simp)
     ·exact a4 z (by simp [g])
     ·rw [aEL];exact a4 q (by simp)
     ·exact a4 z (by simp [g])
  have h2:=bES n s k0 B PB (A++ [renL (aO p) tk.length q]) (PA++ [lW (aO p) tk.length p]) (xN (aO p).length tk) (by simp [hA]) (by omega) hs2 (by simp;omega) (by rw [eC];omega);rw [append_assoc A,append_assoc PA,append_assoc A,append_assoc PA,length_append]at h2;rw [pU,length_cons,show A.length+ (B.length+1) +1=A.length+ [renL (aO p) tk.length q].length+B.length+1 by simp;omega];rw [append_assoc A,append_assoc PA]at h1;exact(h0.trans h1).trans h2
theorem aUp {o n:Int}{s:aB}{ks:List Term}{ps:List Pat}(ht:nN (.mk o n s ks ps))(hs:uE (.mk o n s ks ps) =true)(tk:List aB)(htk:tk.length+aM ps+1<800000)(hkl:ks.length≤1000) :
  LeadsM PP 0 (tN l t0 t1 t2 t3 t4 0 tk o n s ks ps).as (zP l t0 t1 t2 t3 t4 0 (lR o s ks ps tk).tk (lR o s ks ps tk).ks o n (lR o s ks ps tk).s (lR o s ks ps tk).ps).as:=by
 have hc:=mP ht;unfold lR;have E:∀ (i:Nat) (tk':List aB) (s':aB) (ks':List Term) (ps':List Pat),i=ks'.length→ks'.length≤1000→LeadsM PP 0 (tN l t0 t1 t2 t3 t4 (i:Int) tk' o n s' ks' ps').as (zP l t0 t1 t2 t3 t4 0 tk' ks' o n s' ps').as:=fun i tk' s' ks' ps' hi hl=>
  bBI l t0 t1 t2 t3 t4 i tk' o n s' ks' ps' (by simp;omega) (by omega)
 rcases hc with⟨a,⟨k,rfl⟩,rfl⟩ | ⟨a,⟨k0,k1,rfl⟩,rfl⟩ | ⟨a,k0,kr,rfl,hl⟩ | ⟨a,b,c,rfl⟩
 · simp only [if_pos a];have hb:aR o s [] 0= [s] :=by rw [aR,if_pos a]
   have hbi:=tM hs (show 0< [k].length by simp);rw [hb]at hbi;have h0:=xI l t0 t1 t2 t3 t4 0 tk o n s [k] [] [s] (by simp) hbi;have e:aHK 0 s (bR tk.length) (.mk o n s [k] []) = .mk o n (bR tk.length) [kW s (bR tk.length) k] [] :=by
    unfold aHK;simp only [getElem?_cons_zero,if_neg (show ¬o=15 by omega),set_cons_zero]
   have h1:=aH2 l t0 t1 t2 t3 t4 [s] 0 tk (by omega) o n s [k] [] 0 s rfl (by omega) hs (by simp) (by omega) (by simp) e;have h2:=xJ l t0 t1 t2 t3 t4 [s] ((0+1:Nat) :Int) (tk++ [kG tk]) o n (bR tk.length) [kW s (bR tk.length) k] [] ((0:Nat) :Int) sd sd;exact((h0.trans h1).trans h2).trans (E 1 _ _ _ _ rfl (by simp))
 · simp only [if_neg (show ¬ (o=5∨o=27)by omega),if_pos a];have hb0:aR o s [] 0= [] :=by subst a;simp [aR]
   have hb1:aR o s [] 1= [s] :=by subst a;simp [aR]
   have hbi0:=tM hs (show 0< [k0,k1].length by simp);have hbi1:=tM hs (show 1< [k0,k1].length by simp);rw [hb0]at hbi0;rw [hb1]at hbi1;have g0:=xI l t0 t1 t2 t3 t4 0 tk o n s [k0,k1] [] [] (by simp) hbi0;have g1:=xJ l t0 t1 t2 t3 t4 [] 0 tk o n s [k0,k1] [] 0 (by simp) sd;have h0:=xI l t0 t1 t2 t3 t4 ((1:Nat) :Int) tk o n s [k0,k1] [] [s] (by simp) hbi1;have e:aHK 1 s (bR tk.length) (.mk o n s [k0,k1] []) = .mk o n (bR tk.length) [k0,kW s (bR tk.length) k1] [] :=by
    unfold aHK;simp only [List.getElem?_cons_succ,getElem?_cons_zero,if_neg (show ¬o=15 by omega),set_cons_succ,set_cons_zero]
   have h1:=aH2 l t0 t1 t2 t3 t4 [s] 0 tk (by omega) o n s [k0,k1] [] 1 s rfl (by omega) hs (by simp) (by omega) (by simp) e;have h2:=xJ l t0 t1 t2 t3 t4 [s] ((0+1:Nat) :Int) (tk++ [kG tk]) o n (bR tk.length) [k0,kW s (bR tk.length) k1] [] ((1:Nat) :Int) sd sd;exact(((g0.trans g1).trans h0).trans (h1.trans h2)).trans (E 2 _ _ _ _ rfl (by simp))
 · simp only [if_neg (show ¬ (o=5∨o=27)by omega),if_neg (show ¬o=7 by omega),if_pos a];subst a;have hb0:aR 15 s ps 0= [] :=by simp [aR]
   have hbi0:=tM hs (show 0< (k0::kr).length by simp);rw [hb0]at hbi0;have g0:=xI l t0 t1 t2 t3 t4 0 tk 15 n s (k0::kr) ps [] (by simp) hbi0;have g1:=xJ l t0 t1 t2 t3 t4 [] 0 tk 15 n s (k0::kr) ps 0 (by simp) sd;simp only [length_cons]at hkl;have h1:=bES l t0 t1 t2 t3 t4 n s k0 kr ps [] [] tk rfl hl hs (by simp;omega) (by omega);rw [nil_append,nil_append,nil_append,nil_append]at h1;exact((g0.trans g1).trans h1).trans (E _ _ _ _ _ (by simp [aH1]) (by simp [aH1];omega))
 · simp only [if_neg a,if_neg b,if_neg c];have hb:∀i,aR o s [] i= [] :=fun i=>by unfold aR;rw [if_neg a,if_neg b,if_neg c]
   have L:∀ (m i:Nat),i+m=ks.length→LeadsM PP 0 (tN l t0 t1 t2 t3 t4 (i:Int) tk o n s ks []).as (zP l t0 t1 t2 t3 t4 0 tk ks o n s []).as:=by
    intro m
    induction m with
    |zero=>intro i hi;exact E i _ _ _ _ (by omega) (by omega)
    | succ m ih=>
     intro i hi;have hbi:=tM hs (show i<ks.length by omega);rw [hb]at hbi;have g0:=xI l t0 t1 t2 t3 t4 i tk o n s ks [] [] (by simp;omega) hbi;have g1:=xJ l t0 t1 t2 t3 t4 [] 0 tk o n s ks [] i (by simp) sd;exact(g0.trans g1).trans (ih (i+1) (by omega))
   exact L ks.length 0 (by omega)
theorem aKj {f:Nat}(ih:∀k tk,bD k≤f→nN k→uE k=true→oM tk.length (nO k) →tk.length+fA k<700000→AnS f k tk)(o n:Int)(s:aB)(ps:List Pat) :∀ (B A:List Term) (tk:List aB),aY B≤f→gB B→lS B=true→oM tk.length (dM B) →tk.length+cZ B<700000→A.length+B.length≤1000 →
  Ends PP 0 (zP l t0 t1 t2 t3 t4 (A.length:Int) tk (A++B) o n s ps).as (.ret (.tup [Term.av (.mk o n s (A++ (rG (eD f) B tk).1) ps),.gl 0 1 0 (length (rG (eD f) B tk).2) false])) (aG (SL (rG (eD f) B tk).2) 1)
 | [],A,tk,_,_,_,_,_,_=>bBL l t0 t1 t2 t3 t4 A.length tk (A++ []) o n s ps (by simp)
 | k::B,A,tk,hz,ht,hs,hn,hl,hA=>by
  rw [gB]at ht;rw [lS,and_eq_true]at hs;rw [dM]at hn;rw [cZ]at hl;rw [aY]at hz;rw [length_cons]at hA;have hn1:oM tk.length (nO k) :=fun x hx=>hn x (mem_append_left _ hx);have h0:=ih k tk (by omega) ht.1 hs.1 hn1 (by omega);obtain⟨_,m,e2,e3⟩ :=qO f k tk ht.1 hn1;rw [rG];generalize hr:eD f k tk=r at e2 ⊢;obtain⟨⟨z0,z1,z2,z3,z4⟩,tk'⟩ :=r;simp only at e2;have hlen:tk'.length=tk.length+m:=by rw [e2,eC]
  have h2:=aKj ih o n s ps B (A++ [.mk z0 z1 z2 z3 z4]) tk' (by omega) ht.2 hs.2 (iG (j:=tk.length) (fun x hx=>hn x (mem_append_right _ hx)) (by omega)) (by omega) (by simp;omega);obtain⟨y0,y1,y2,y3,y4⟩ :=k;have h1:=bBK l t0 t1 t2 t3 t4 (A.length:Int) tk (A++ .mk y0 y1 y2 y3 y4::B) o n s ps y0 y1 y2 y3 y4 tk' z0 z1 z2 z3 z4 (by simp;omega) (by omega) (by simp;omega) (by simp) (aOw h0 hr o n s _ ps) sd;have e: (A++Term.mk y0 y1 y2 y3 y4::B).set (A.length:Int).toNat (.mk z0 z1 z2 z3 z4) = (A++ [.mk z0 z1 z2 z3 z4]) ++B:=by simp
  rw [e]at h1;rw [append_assoc,length_append]at h2;rw [append_assoc]at h1;rw [append_assoc A [Term.mk z0 z1 z2 z3 z4]]at h2;exact h1.ends h2
end
theorem bF8 {o n:Int}{s:aB}{ks:List Term}{ps:List Pat}(h:nN (.mk o n s ks ps))(hs:lS ks=true)(hp:∀p∈ps,aV p≤1000)(tk:List aB) :lS (lR o s ks ps tk).ks=true:=by
 have hc:=mP h;unfold lR;rcases hc with⟨a,⟨k,rfl⟩,rfl⟩ | ⟨a,⟨k0,k1,rfl⟩,rfl⟩ | ⟨a,k0,kr,rfl,hl⟩ | ⟨a,b,c,rfl⟩
 · rw [if_pos a];simpa only [map_cons,map_nil,lS,aBg]using hs
 · rw [if_neg (show ¬ (o=5∨o=27)by omega),if_pos a];simpa only [lS,aBg]using hs
 · rw [if_neg (show ¬ (o=5∨o=27)by omega),if_neg (show ¬o=7 by omega),if_pos a];rw [lS,and_eq_true]at hs;simp only [lS,hs.1,(aUn kr ps tk hl hs.2 hp).1,Bool.and_self]
 ·rw [if_neg a,if_neg b,if_neg c];exact hs
theorem aGc :∀ (f:Nat) (t:Term) (tk:List aB),bD t≤f→nN t→uE t=true→oM tk.length (nO t) →tk.length+fA t<700000→AnS f t tk
 |0,.mk ..,tk,h,_,_,_,_=>by rw [bD]at h;omega
 | f +1,.mk o n s ks ps,tk,hz,ht,hs,hn,hl=>by
  have hn':oM tk.length (dM ks) :=by
   by_cases h4:o=4
   · subst h4;obtain⟨rfl,rfl⟩ :=aOr ht;intro x hx;cases hx
   ·rw [nO,if_neg h4]at hn;exact hn
  obtain⟨s1,s2,s3,s4⟩ :=iM hs;obtain⟨h1,h2,h3,h4,h5,m,h6,h7⟩ :=aBX ht hn';rw [fA]at hl;rw [bD]at hz;have g1:=aUp tk o n s ks ps ht hs tk (by omega) s2;have g2:=aKj tk o n s ks ps (aGc f) o n (lR o s ks ps tk).s (lR o s ks ps tk).ps (lR o s ks ps tk).ks [] (lR o s ks ps tk).tk (by omega) h1 (bF8 ht s4 s3 tk) h2 (by rw [h6,eC];omega) (by simp;omega);have E:= ((bBH tk o n s ks ps).trans g1).ends g2;unfold AnS;rw [eD];exact⟨(bEk tk o n s ks ps).as.fr,by kernel_rfl,Eq.mp (by kernel_rfl) E⟩
theorem aNG :∀ (ks:List Term) (ps:List Pat) (tk:List aB),aM (pU ks ps tk).2.1=aM ps
 | [],[],tk=>rfl
 | [],_::_,tk=>rfl
 |_::_,[],tk=>rfl
 |k::ks,p::ps,tk=>by rw [pU,aM,aM,aNG ks ps,tX]
theorem bCL (o:Int)(s:aB)(ks:List Term)(ps:List Pat)(tk:List aB) :aM (lR o s ks ps tk).ps=aM ps:=by
 unfold lR;split
 ·rfl
 · split
   ·split<;>rfl
   · split
     · split
       ·exact aNG _ ps tk
       ·rfl
     ·rfl
theorem aKk {g:Term→List aB→Term×List aB}(hk:∀t tk,nN t→oM tk.length (nO t) → (∀e,jM e (g t tk).1=jM e t) ∧∃m,(g t tk).2=xN m tk∧m≤fA t)(hg:∀t tk,nN t→oM tk.length (nO t) →fA (g t tk).1=fA t) :
  ∀ (ks:List Term) (tk:List aB),gB ks→oM tk.length (dM ks) →cZ (rG g ks tk).1=cZ ks
 | [],tk,_,_=>rfl
 | k::ks,tk,ht,hn=>by
  rw [gB]at ht;rw [dM]at hn;have hn1:oM tk.length (nO k) :=fun x hx=>hn x (mem_append_left _ hx);obtain⟨_,m,e,_⟩ :=hk k tk ht.1 hn1;rw [rG];simp only [cZ,hg k tk ht.1 hn1];rw [aKk hk hg ks _ ht.2 (iG (j:=tk.length) (fun x hx=>hn x (mem_append_right _ hx)) (by rw [e,eC];omega))]
theorem aH3 :∀ (f:Nat) (t:Term) (tk:List aB),nN t→oM tk.length (nO t) →fA (eD f t tk).1=fA t
 |0,t,tk,_,_=>rfl
 | f +1,.mk o n s ks ps,tk,ht,hn=>by
  have hn':oM tk.length (dM ks) :=by
   by_cases h4:o=4
   · subst h4;obtain⟨rfl,rfl⟩ :=aOr ht;intro x hx;cases hx
   ·rw [nO,if_neg h4]at hn;exact hn
  obtain⟨h1,h2,h3,_⟩ :=aBX ht hn';rw [eD];simp only [fA,bCL,aKk (qO f) (aH3 f) _ _ h1 h2,h3]
theorem aKl (t:Term)(h:CanF t)(hs:uE t=true) :Pure PP 33 [Term.av t] (Term.av (pR t)) :=by
 obtain⟨o,n,s,ks,ps⟩ :=t;have hz:=h.sz;have hta:=h.ta;have hfl:=sG (.mk o n s ks ps);have hz':aY ks+1≤1000:=by rw [bD]at hz;exact hz
 have hn:oM (cK (.mk o n s ks ps)).length (nO (.mk o n s ks ps)) :=aEF h.lf;have h0:=aTx o n s ks ps hs (by omega);have h1:=aGc 1000 (.mk o n s ks ps) (cK (.mk o n s ks ps)) h.sz h.ok hs hn (by omega);obtain⟨_,m,e2,e3⟩ :=qO 1000 (.mk o n s ks ps) (cK (.mk o n s ks ps)) h.ok hn;have htl:=aH3 1000 (.mk o n s ks ps) (cK (.mk o n s ks ps)) h.ok hn;have hl2: (eD 1000 (.mk o n s ks ps) (cK (.mk o n s ks ps))).2.length= (cK (.mk o n s ks ps)).length+m:=by rw [e2,eC]
 have h2:=aJx (eD 1000 (.mk o n s ks ps) (cK (.mk o n s ks ps))).2 (by omega) (eD 1000 (.mk o n s ks ps) (cK (.mk o n s ks ps))).1 (by omega);clear e2 htl hl2;unfold AnS at h1;unfold bEs at h0;unfold pR;generalize eD 1000 (.mk o n s ks ps) (cK (.mk o n s ks ps)) =r at h1 h2 ⊢;generalize cK (.mk o n s ks ps) =fl at h0 h1;obtain⟨⟨z0,z1,z2,z3,z4⟩,tk'⟩ :=r;simp only at h1 h2 ⊢;unfold bBn at h2;generalize aFg tk' (.mk z0 z1 z2 z3 z4) =q at h2 ⊢;obtain⟨q0,q1,q2,q3,q4⟩ :=q;refine cB (s:=bEl o n s ks ps) (by kernel_rfl) (by kernel_rfl) (by simp [keylessL,keyless,dF]) (dF _) ?_;refine bBM o n s ks ps fl tk' z0 z1 z2 z3 z4 q0 q1 q2 q3 q4 ?_ ?_ h2
 · exact Eq.mp (by kernel_rfl) (aDK (ks:=[]) (n2:=3) (lc:=[(0,rH o n s (.ilst 5 (av ks) false) ps,false),(1,rI,false)]) (x:=[(0,rH o n s (.ilst 5 (av ks) false) ps,false),(1,rI,false)])
    (args':=[Term.av (.mk o n s ks ps)]) h0 (by kernel_rfl) (by kernel_rfl) (by kernel_rfl) trivial (by kernel_rfl) (by kernel_rfl) (by kernel_rfl) (by kernel_rfl) ⟨aEM fl,trivial⟩ (by kernel_rfl))
 · exact Eq.mp (by kernel_rfl) (aDK (ks:=[3]) (n2:=4) (lc:=[(0,rH o n s (.ilst 5 (av ks) false) ps,false),(1,rI,false),(3,.lst 1 (map aA fl),true)]) (x:=[(0,rH o n s (.ilst 5 (av ks) false) ps,false),(1,rI,false)])
    (args':=[Term.av (.mk o n s ks ps),.gl 3 1 0 (length fl) false]) h1 (by kernel_rfl) (by kernel_rfl) (by kernel_rfl) ⟨aEM fl,trivial⟩ (by kernel_rfl) (by kernel_rfl) (by kernel_rfl) (by kernel_rfl) ⟨aEM tk',trivial⟩ (by kernel_rfl))
def aH4(a b:List Int)(c:Int):TS:=⟨(tf 55 26 [(0,(iI a)),(1,(iI b)),(4,(bV false)),(5,(nI c))] [kc f55 116,kl f55 116,.inBlock 0,kc f55 15]),[],[],0⟩
def aH5(a b:Int)(c:aB)(d:List Pat)(e f:Int)(g:aB)(i:List Pat)(j:Int):TS:=⟨(tf 88 53 [kp 2 0,kp 3 1,(4,(bV false)),(5,(nI j))] [kc f88 116,kl f88 116,.inBlock 0,kc f88 15]),[],[oC 0 [(nI a),(nI b),(aA c),(iP d)],oC 1 [(nI e),(nI f),(aA g),(iP i)]],2⟩
def aH6(a b:Node)(c:Int):TS:=⟨(tf 56 54 [kp 2 0,kp 3 1,(4,(bV false)),(5,(nI c))] [kc f56 116,kl f56 116,.inBlock 0,kc f56 15]),[],[oC 0 [(nI a.op),(nI a.n),(iI a.kids),(iP a.pats)],oC 1 [(nI b.op),(nI b.n),(iI b.kids),(iP b.pats)]],2⟩
def aH7(a b:Prog)(c:Int):TS:=⟨(tf 12 75 [kp 2 0,kp 3 1,(4,(bV false)),(5,(nI c))] [kc f12 116,kl f12 116,.inBlock 0,kc f12 15]),[],[oC 0 [(iN a.nodes),(iI a.funs),(nI a.main),(iC a.cons)],oC 1 [(iN b.nodes),(iI b.funs),(nI b.main),(iC b.cons)]],2⟩
def aH8(a b:Prog)(c:Int):TS:=⟨(tf 12 75 [kp 2 0,kp 3 1,(4,(bV false)),(6,(nI c))] [kc f12 244,kl f12 244,.inBlock 2,kc f12 31]),[],[oC 0 [(iN a.nodes),(iI a.funs),(nI a.main),(iC a.cons)],oC 1 [(iN b.nodes),(iI b.funs),(nI b.main),(iC b.cons)]],2⟩
def bET(a b:List Int):=tT 0 (start PP 55 [(iI a),(iI b)])<|gl 8 aP a<|gl 1 aP b<|.b 2 10 ((a.length:Int) != (b.length:Int)) (gE 6 0 (bV false))<|.W 9 0 [] (aH4 a b 0)
def bCM:=fun a b c=>bET a b|>.t c tv
def bCN:=fun a b c=>bET a b|>.f c tv
def aUq(b c:List Int)(a:Int):=tT 0 (aH4 b c a)<|gl 5 aP b<|gd 2 14 (a< (b.length:Int)) (.y fun d:Int=>.y fun e:Int=>.i [rn 5,.reg (.d::.d::.ans (.idx (aP d))::rd 3 [.ans (.idx (aP e)),.d,.d])] [hA (0≤a),.a (((b)[a.toNat]?) =some d) (lH (f:=aP)),hA (0≤a),.a (((c)[a.toNat]?) =some e) (lH (f:=aP))]<|.b 0 25 (d != e) (gE 6 0 (bV false))<|gw 6 16 (a+1)<|.W 3 0 [] (aH4 b c (a+1)))<|gE 7 0 (bV true)
def bCO:=fun b c d e f g a i j k=>aUq b c d|>.t g e f a i a j|>.t k tv
def bCP:=fun b c d e f g a i j k l=>aUq b c d|>.t g e f a i a j|>.f k l tv
def bCQ:=fun a b c d=>aUq a b c|>.f d tv
def aKm(e f:Int)(a:aB)(b:List Pat)(g i:Int)(c:aB)(d:List Pat):=tT 0 (start PP 88 [(.agg [(nI e),(nI f),(aA a),(iP b)]),(.agg [(nI g),(nI i),(aA c),(iP d)])])<|.b 15 11 (e != g) (gE 29 2 (bV false))<|.b 7 18 (f != i) (gE 22 2 (bV false))<|.b 7 25 (!(bA a.length (aD a) c.length (aD c))) (gE 15 2 (bV false))<|gm 2 aJ b<|gm 2 aJ d<|.b 3 33 ((b.length:Int) != (d.length:Int)) (gE 6 2 (bV false))<|.W 9 2 [0,1] (aH5 e f a b g i c d 0)
def bCR:=fun a b c d e f g i j=>aKm a b c d e f g i|>.t j tv
def bCS:=fun a b c d e f g i j k=>aKm a b c d e f g i|>.f j|>.t k tv
def bCT:=fun a b c d e f g i j k l=>aKm a b c d e f g i|>.f j|>.f k|>.t l tv
def bCU:=fun a b c d e f g i j k l m=>aKm a b c d e f g i|>.f j|>.f k|>.f l|>.t m tv
def bCV:=fun a b c d e f g i j k l m=>aKm a b c d e f g i|>.f j|>.f k|>.f l|>.f m tv
def aUr(n o:Int)(p:aB)(b:List Pat)(q r:Int)(s:aB)(c:List Pat)(a:Int):=tT 0 (aH5 n o p b q r s c a)<|gm 6 aJ b<|gd 2 38 (a< (b.length:Int)) (.y fun d:Int=>.y fun e:Int=>.y fun f:aB=>.y fun g:List Pat=>.y fun i:Int=>.y fun j:Int=>.y fun k:aB=>.y fun l:List Pat=>.y fun m:Bool=>.i [rn 5,.reg (rd 3 (.ans (.idx (Pat.av (Pat.mk d e f g)))::rd 4 [.ans (.idx (Pat.av (Pat.mk i j k l))),.d,.pure (bV m),.d]))] [hA (0≤a),.a (((b)[a.toNat]?) =some (Pat.mk d e f g)) (eX aJ),hA (0≤a),.a (((c)[a.toNat]?) =some (Pat.mk i j k l)) (eX aJ),hA (Pure PP 88 [(.agg [(nI d),(nI e),(aA f),(iP g)]),(.agg [(nI i),(nI j),(aA k),(iP l)])] (bV m))]<|.b 0 52 (!m) (gE 6 2 (bV false))<|gw 6 40 (a+1)<|.W 3 2 [0,1] (aH5 n o p b q r s c (a+1)))<|gE 7 2 (bV true)
def bCW:=fun b c d e f g i j k l m n o p q r s t u a v w x y=>aUr b c d e f g i j k|>.t u l m n o p q r s t a v a w x|>.t y tv
def bCX:=fun b c d e f g i j k l m n o p q r s t u a v w x y z=>aUr b c d e f g i j k|>.t u l m n o p q r s t a v a w x|>.f y z tv
def bCY:=fun a b c d e f g i j k=>aUr a b c d e f g i j|>.f k tv
def aKn(a b:Node):=tT 0 (start PP 56 [(Node.av a),(Node.av b)])<|.b 15 11 (a.op != b.op) (gE 30 2 (bV false))<|.b 7 18 (a.n != b.n) (gE 23 2 (bV false))<|dR 4 55 [(iI a.kids),(iI b.kids)]<|fun c=>.b 3 26 (!c) (gE 15 2 (bV false))<|gm 2 aJ a.pats<|gm 2 aJ b.pats<|.b 3 34 ((a.pats.length:Int) != (b.pats.length:Int)) (gE 6 2 (bV false))<|.W 9 2 [0,1] (aH6 a b 0)
def bCZ:=fun a b c=>aKn a b|>.t c tv
def bC0:=fun a b c d=>aKn a b|>.f c|>.t d tv
def bC1:=fun a b c d e f g=>aKn a b|>.f d|>.f e c f|>.t g tv
def bC2:=fun a b c d e f g i=>aKn a b|>.f d|>.f e c f|>.f g|>.t i tv
def bC3:=fun a b c d e f g i=>aKn a b|>.f d|>.f e c f|>.f g|>.f i tv
def aUs(b c:Node)(a:Int):=tT 0 (aH6 b c a)<|gm 6 aJ b.pats<|gd 2 39 (a< (b.pats.length:Int)) (.y fun d:Int=>.y fun e:Int=>.y fun f:aB=>.y fun g:List Pat=>.y fun i:Int=>.y fun j:Int=>.y fun k:aB=>.y fun l:List Pat=>.y fun m:Bool=>.i [rn 5,.reg (rd 3 (.ans (.idx (Pat.av (Pat.mk d e f g)))::rd 4 [.ans (.idx (Pat.av (Pat.mk i j k l))),.d,.pure (bV m),.d]))] [hA (0≤a),.a (((b.pats)[a.toNat]?) =some (Pat.mk d e f g)) (eX aJ),hA (0≤a),.a (((c.pats)[a.toNat]?) =some (Pat.mk i j k l)) (eX aJ),hA (Pure PP 88 [(.agg [(nI d),(nI e),(aA f),(iP g)]),(.agg [(nI i),(nI j),(aA k),(iP l)])] (bV m))]<|.b 0 53 (!m) (gE 6 2 (bV false))<|gw 6 41 (a+1)<|.W 3 2 [0,1] (aH6 b c (a+1)))<|gE 7 2 (bV true)
def bC4:=fun b c d e f g i j k l m n o a p q r s=>aUs b c d|>.t o e f g i j k l m n a p a q r|>.t s tv
def bC5:=fun b c d e f g i j k l m n o a p q r s t=>aUs b c d|>.t o e f g i j k l m n a p a q r|>.f s t tv
def bC6:=fun a b c d=>aUs a b c|>.f d tv
def aKo(a b:Prog):=tT 0 (start PP 12 [(Prog.av a),(Prog.av b)])<|gl 11 Node.av a.nodes<|gl 2 Node.av b.nodes<|.b 2 14 ((a.nodes.length:Int) != (b.nodes.length:Int)) (gE 30 2 (bV false))<|dR 4 55 [(iI a.funs),(iI b.funs)]<|fun c=>.b 3 22 (!c) (gE 22 2 (bV false))<|.b 7 29 (a.main != b.main) (gE 15 2 (bV false))<|gl 2 Con.av a.cons<|gl 2 Con.av b.cons<|.b 3 37 ((a.cons.length:Int) != (b.cons.length:Int)) (gE 6 2 (bV false))<|.W 9 2 [0,1] (aH7 a b 0)
def bC7:=fun a b c=>aKo a b|>.t c tv
def bC8:=fun a b c d e f=>aKo a b|>.f d c e|>.t f tv
def bC9:=fun a b c d e f g=>aKo a b|>.f d c e|>.f f|>.t g tv
def bDa:=fun a b c d e f g i=>aKo a b|>.f d c e|>.f f|>.f g|>.t i tv
def bDb:=fun a b c d e f g i=>aKo a b|>.f d c e|>.f f|>.f g|>.f i tv
def aUt(b e:Prog)(a:Int):=tT 0 (aH7 b e a)<|gl 6 Con.av b.cons<|gd 2 42 (a< (b.cons.length:Int)) (.y fun c:Con=>.y fun d:Con=>.i [rn 5,.reg (rd 3 (.ans (.idx (Con.av c))::rd 4 [.ans (.idx (Con.av d)),.d,.d]))] [hA (0≤a),.a (((b.cons)[a.toNat]?) =some c) (lH (f:=Con.av)),hA (0≤a),.a (((e.cons)[a.toNat]?) =some d) (lH (f:=Con.av))]<|.b 0 55 (!((bA c.name.length (aD c.name) d.name.length (aD d.name)) && ((c.args==d.args) &&true))) (gE 6 2 (bV false))<|gw 6 44 (a+1)<|.W 3 2 [0,1] (aH7 b e (a+1)))<|.W 9 2 [0,1] (aH8 b e 0)
def bDc:=fun b c d e f g a i j k=>aUt b c d|>.t g e f a i a j|>.t k tv
def bDd:=fun b c d e f g a i j k l=>aUt b c d|>.t g e f a i a j|>.f k l tv
def bDe:=fun a b c d=>aUt a b c|>.f d tv
def aUu(b c:Prog)(a:Int):=tT 0 (aH8 b c a)<|gl 6 Node.av b.nodes<|gd 2 60 (a< (b.nodes.length:Int)) (.y fun d:Node=>.y fun e:Node=>.y fun f:Bool=>.i [rn 5,.reg (rd 3 (.ans (.idx (Node.av d))::rd 4 [.ans (.idx (Node.av e)),.d,.pure (bV f),.d]))] [hA (0≤a),.a (((b.nodes)[a.toNat]?) =some d) (lH (f:=Node.av)),hA (0≤a),.a (((c.nodes)[a.toNat]?) =some e) (lH (f:=Node.av)),hA (Pure PP 56 [(Node.av d),(Node.av e)] (bV f))]<|.b 0 74 (!f) (gE 6 2 (bV false))<|gw 6 62 (a+1)<|.W 3 2 [0,1] (aH8 b c (a+1)))<|gE 7 2 (bV true)
def bDf:=fun b c d e f g i a j k l m=>aUu b c d|>.t i e f g a j a k l|>.t m tv
def bDg:=fun b c d e f g i a j k l m n=>aUu b c d|>.t i e f g a j a k l|>.f m n tv
def bDh:=fun a b c d=>aUu a b c|>.f d tv
def kH (p:Prop) :Bool:= @decide p (Classical.propDecidable p)
theorem iQ {p:Prop}(h:p) :kH p=true:= @decide_eq_true p (Classical.propDecidable p) h
theorem dE {p:Prop}(h:¬p) :kH p=false:= @decide_eq_false p (Classical.propDecidable p) h
theorem sH {p q:Prop}(h:p↔q) :kH p=kH q:=by
 by_cases g:q
 ·rw [iQ g,iQ (h.2 g)]
 ·rw [dE g,dE (fun k=>g (h.1 k))]
theorem mQ {α:Type}{y z:α}{t t':List α}(h:y=z) :kH (y::t=z::t') =kH (t=t') :=sH (by simp [h])
theorem mR {α:Type}{y z:α}{t t':List α}(h:¬y=z) :kH (y::t=z::t') =false:=dE (by simp [h])
theorem aKp (a b:List Int)(ha:a.length<1000000) :∀ (t t':List Int) (i:Nat),a.drop i=t→b.drop i=t'→t.length=t'.length→Ends PP 0 (aH4 a b (i:Int)).as (.ret (.bool (kH (t=t')))) (aG [] 0)
 | [],[],i,h,_,_=>by
  have:=bL h;rw [iQ rfl];exact bCQ a b i sd
 | y ::t,z::t',i,h,h',hl=>by
  obtain⟨g1,g2,g3⟩ :=bH h;obtain⟨k1,k2,k3⟩ :=bH h';by_cases e:y=z
  · rw [mQ e];exact(bCP a b i y z sd sd sd sd (by simp [e]) sd).ends (aKp a b ha t t' (i+1) g2 k2 (by simpa using hl))
  · rw [mR e];exact bCO a b i y z sd sd sd sd (by simp [e])
theorem aKq (a b:List Int)(ha:a.length<1000000) :Pure PP 55 [.ilst 1 (map aP a) false,.ilst 1 (map aP b) false] (.bool (kH (a=b))) :=by
 refine bC (by kernel_rfl) rfl rfl ?_;by_cases h:a.length=b.length
 ·exact(bCN a b (by simp [h])).ends (aKp a b ha a b 0 rfl rfl h)
 · rw [dE (fun g=>h (by rw [g]))];exact bCM a b (by simp;omega)
abbrev SmP (p q:Pat) :Prop:=Pure PP 88 [Pat.av p,Pat.av q] (.bool (kH (p=q)))
theorem aKr (f n:Int)(s:aB)(ps:List Pat)(f' n':Int)(s':aB)(ps':List Pat)(hl:ps.length<1000000)(ih:∀p∈ps,∀q,SmP p q) :
  ∀ (t t':List Pat) (i:Nat),ps.drop i=t→ps'.drop i=t'→t.length=t'.length→Ends PP 0 (aH5 f n s ps f' n' s' ps' (i:Int)).as (.ret (.bool (kH (t=t')))) (aG [] 0)
 | [],[],i,h,_,_=>by
  have:=bL h;rw [iQ rfl];exact bCY f n s ps f' n' s' ps' i sd
 | y ::t,z::t',i,h,h',hz=>by
  obtain⟨g1,g2,g3⟩ :=bH h;obtain⟨k1,k2,k3⟩ :=bH h';have hp:=ih y (mem_of_getElem? g1) z;by_cases e:y=z
  · rw [mQ e];unfold SmP at hp;rw [iQ e]at hp;obtain⟨y0,y1,y2,y3⟩ :=y;obtain⟨z0,z1,z2,z3⟩ :=z;exact(bCX f n s ps f' n' s' ps' i y0 y1 y2 y3 z0 z1 z2 z3 true sd sd sd sd hp rfl sd).ends (aKr f n s ps f' n' s' ps' hl ih t t' (i+1) g2 k2 (by simpa using hz))
  · rw [mR e];unfold SmP at hp;rw [dE e]at hp;obtain⟨y0,y1,y2,y3⟩ :=y;obtain⟨z0,z1,z2,z3⟩ :=z;exact bCW f n s ps f' n' s' ps' i y0 y1 y2 y3 z0 z1 z2 z3 false sd sd sd sd hp rfl
mutual
theorem aUv :∀ (p q:Pat),aV p<1000000→SmP p q
 | .mk f n s ps,.mk f' n' s' ps',h=>by
  simp only [aV]at h;have:=cP ps;refine bC (by kernel_rfl) (by simp [keylessL,kB]) rfl ?_;by_cases h1:f=f'
  · by_cases h2:n=n'
    · by_cases h3:s=s'
      · by_cases h4:ps.length=ps'.length
        · rw [sH (q:=ps=ps') (by simp [h1,h2,h3])];exact(bCV f n s ps f' n' s' ps' (by simp [h1]) (by simp [h2]) (by rw [cA];simp [h3]) (by simp [h4])).ends (aKr f n s ps f' n' s' ps' (by omega) (aC6 ps (by omega)) ps ps' 0 rfl rfl h4)
        · rw [dE (fun g=>h4 (by cases g;rfl))];exact bCU f n s ps f' n' s' ps' (by simp [h1]) (by simp [h2]) (by rw [cA];simp [h3]) (by simp;omega)
      · rw [dE (fun g=>h3 (by cases g;rfl))];exact bCT f n s ps f' n' s' ps' (by simp [h1]) (by simp [h2]) (by rw [cA];simp [h3])
    · rw [dE (fun g=>h2 (by cases g;rfl))];exact bCS f n s ps f' n' s' ps' (by simp [h1]) (by simp [h2])
  · rw [dE (fun g=>h1 (by cases g;rfl))];exact bCR f n s ps f' n' s' ps' (by simp [h1])
theorem aC6 :∀ (ps:List Pat),aM ps<1000000→∀p∈ps,∀q,SmP p q
 | [],_,p,hp,_=>by cases hp
 | y::ps,h,p,hp,q=>by
  simp only [aM]at h;rcases List.mem_cons.1 hp with e|hp
  ·rw [e];exact aUv y q (by omega)
  ·exact aC6 ps (by omega) p hp q
end
theorem aKs (x y:Node)(hl:x.pats.length<1000000)(ih:∀p∈x.pats,∀q,SmP p q) :
  ∀ (t t':List Pat) (i:Nat),x.pats.drop i=t→y.pats.drop i=t'→t.length=t'.length→Ends PP 0 (aH6 x y (i:Int)).as (.ret (.bool (kH (t=t')))) (aG [] 0)
 | [],[],i,h,_,_=>by
  have:=bL h;rw [iQ rfl];exact bC6 x y i sd
 | a ::t,b::t',i,h,h',hz=>by
  obtain⟨g1,g2,g3⟩ :=bH h;obtain⟨k1,k2,k3⟩ :=bH h';have hp:=ih a (mem_of_getElem? g1) b;by_cases e:a=b
  · rw [mQ e];unfold SmP at hp;rw [iQ e]at hp;obtain⟨y0,y1,y2,y3⟩ :=a;obtain⟨z0,z1,z2,z3⟩ :=b;exact(bC5 x y i y0 y1 y2 y3 z0 z1 z2 z3 true sd sd sd sd hp rfl sd).ends (aKs x y hl ih t t' (i+1) g2 k2 (by simpa using hz))
  · rw [mR e];unfold SmP at hp;rw [dE e]at hp;obtain⟨y0,y1,y2,y3⟩ :=a;obtain⟨z0,z1,z2,z3⟩ :=b;exact bC4 x y i y0 y1 y2 y3 z0 z1 z2 z3 false sd sd sd sd hp rfl
theorem aUw {x y:Node}:x=y↔x.op=y.op∧x.n=y.n∧x.kids=y.kids∧x.pats=y.pats:=by
 obtain⟨a,b,c,d⟩ :=x;obtain⟨a',b',c',d'⟩ :=y;simp
theorem aUx (x y:Node)(h:aSU x) :Pure PP 56 [Node.av x,Node.av y] (.bool (kH (x=y))) :=by
 have:=cP x.pats;have h1:=h.1;have h2:=h.2;have hi:=aKq x.kids y.kids h.1;refine bC (by kernel_rfl) (by simp [keylessL,Node.av,keyless]) rfl ?_;by_cases e1:x.op=y.op
 · by_cases e2:x.n=y.n
   · by_cases e3:x.kids=y.kids
     · rw [iQ e3]at hi;by_cases e4:x.pats.length=y.pats.length
       · rw [sH (q:=x.pats=y.pats) (by rw [aUw];simp [e1,e2,e3])];exact(bC3 x y true (by simp [e1]) (by simp [e2]) hi rfl (by simp [e4])).ends (aKs x y (by omega) (aC6 x.pats h.2) x.pats y.pats 0 rfl rfl e4)
       · rw [dE (fun g=>e4 (by rw [g]))];exact bC2 x y true (by simp [e1]) (by simp [e2]) hi rfl (by simp;omega)
     · rw [dE e3]at hi;rw [dE (fun g=>e3 (by rw [g]))];exact bC1 x y false (by simp [e1]) (by simp [e2]) hi rfl
   · rw [dE (fun g=>e2 (by rw [g]))];exact bC0 x y (by simp [e1]) (by simp [e2])
 · rw [dE (fun g=>e1 (by rw [g]))];exact bCZ x y (by simp [e1])
theorem bEU (p q:Prog)(hp:FitP p) :∀ (t t':List Node) (i:Nat),p.nodes.drop i=t→q.nodes.drop i=t'→t.length=t'.length→Ends PP 0 (aH8 p q (i:Int)).as (.ret (.bool (kH (t=t')))) (aG [] 0)
 | [],[],i,h,_,_=>by
  have:=bL h;rw [iQ rfl];exact bDh p q i sd
 | a ::t,b::t',i,h,h',hz=>by
  obtain⟨g1,g2,g3⟩ :=bH h;obtain⟨k1,k2,k3⟩ :=bH h';have hn:=hp.nodes;have hx:=aUx a b (hp.node a (mem_of_getElem? g1));by_cases e:a=b
  · rw [mQ e];rw [iQ e]at hx;exact(bDg p q i a b true sd sd sd sd hx rfl sd).ends (bEU p q hp t t' (i+1) g2 k2 (by simpa using hz))
  · rw [mR e];rw [dE e]at hx;exact bDf p q i a b false sd sd sd sd hx rfl
theorem bDi {x y:Con}:x=y↔x.name=y.name∧x.args=y.args:=by
 obtain⟨a,b⟩ :=x;obtain⟨a',b'⟩ :=y;simp
theorem bEV (p q:Prog)(hp:FitP p)(hn:p.nodes.length=q.nodes.length) :∀ (t t':List Con) (i:Nat),p.cons.drop i=t→q.cons.drop i=t'→t.length=t'.length→Ends PP 0 (aH7 p q (i:Int)).as (.ret (.bool (kH (t=t') &&kH (p.nodes=q.nodes)))) (aG [] 0)
 | [],[],i,h,_,_=>by
  have:=bL h;rw [iQ rfl,Bool.true_and];exact(bDe p q i sd).ends (bEU p q hp p.nodes q.nodes 0 rfl rfl hn)
 | a ::t,b::t',i,h,h',hz=>by
  obtain⟨g1,g2,g3⟩ :=bH h;obtain⟨k1,k2,k3⟩ :=bH h';have hc:=hp.cons;by_cases e:a=b
  · rw [mQ e];exact(bDd p q i a b sd sd sd sd (by rw [cA];simp [e]) sd).ends (bEV p q hp hn t t' (i+1) g2 k2 (by simpa using hz))
  · rw [mR e,Bool.false_and];exact bDc p q i a b sd sd sd sd (by rw [cA];rw [bDi]at e;simp;exact Classical.not_and_iff_not_or_not.1 e)
theorem aUy {x y:Prog}:x=y↔x.nodes=y.nodes∧x.funs=y.funs∧x.main=y.main∧x.cons=y.cons:=by
 obtain⟨a,b,c,d⟩ :=x;obtain⟨a',b',c',d'⟩ :=y;simp
theorem aUz (p q:Prog)(hp:FitP p) :Pure PP 12 [Prog.av p,Prog.av q] (.bool (kH (p=q))) :=by
 have hi:=aKq p.funs q.funs hp.funs;refine bC (by kernel_rfl) (by simp [keylessL,Prog.av,keyless]) rfl ?_;by_cases e1:p.nodes.length=q.nodes.length
 · by_cases e2:p.funs=q.funs
   · rw [iQ e2]at hi;by_cases e3:p.main=q.main
     · by_cases e4:p.cons.length=q.cons.length
       · have E:kH (p=q) = (kH (p.cons=q.cons) &&kH (p.nodes=q.nodes)) :=by
          by_cases c:p.cons=q.cons
          ·rw [iQ c,Bool.true_and];exact sH (by rw [aUy];simp [e2,e3,c])
          ·rw [dE c,dE (fun g=>c (by rw [g]))];rfl
         rw [E];exact(bDb p q true (by simp [e1]) hi rfl (by simp [e3]) (by simp [e4])).ends (bEV p q hp e1 p.cons q.cons 0 rfl rfl e4)
       · rw [dE (fun g=>e4 (by rw [g]))];exact bDa p q true (by simp [e1]) hi rfl (by simp [e3]) (by simp;omega)
     · rw [dE (fun g=>e3 (by rw [g]))];exact bC9 p q true (by simp [e1]) hi rfl (by simp [e3])
   · rw [dE e2]at hi;rw [dE (fun g=>e2 (by rw [g]))];exact bC8 p q false (by simp [e1]) hi rfl
 · rw [dE (fun g=>e1 (by rw [g]))];exact bC7 p q (by simp;omega)
abbrev SmT (t u:Term) :Prop:=Pure PP 28 [Term.av t,Term.av u] (.bool (kH (t=u)))
section
variable (o n:Int) (s:aB) (ks:List Term) (ps:List Pat) (o' n':Int) (s':aB) (ks':List Term) (ps':List Pat)
theorem aKt (hl:ps.length<1000000)(ih:∀p∈ps,∀q,SmP p q)(b:Bool)(hb:Ends PP 0 (aEd o n s ks ps o' n' s' ks' ps' 0).as (.ret (.bool b)) (aG [] 0)) :
  ∀ (t t':List Pat) (i:Nat),ps.drop i=t→ps'.drop i=t'→t.length=t'.length→Ends PP 0 (aHB o n s ks ps o' n' s' ks' ps' (i:Int)).as (.ret (.bool (kH (t=t') &&b))) (aG [] 0)
 | [],[],i,h,_,_=>by
  have:=bL h;rw [iQ rfl,Bool.true_and];exact(bAD o n s ks ps o' n' s' ks' ps' i sd).ends hb
 | y ::t,z::t',i,h,h',hz=>by
  obtain⟨g1,g2,g3⟩ :=bH h;obtain⟨k1,k2,k3⟩ :=bH h';have hp:=ih y (mem_of_getElem? g1) z;unfold SmP at hp;by_cases e:y=z
  · rw [mQ e];rw [iQ e]at hp;obtain⟨y0,y1,y2,y3⟩ :=y;obtain⟨z0,z1,z2,z3⟩ :=z;exact(bAC o n s ks ps o' n' s' ks' ps' i y0 y1 y2 y3 z0 z1 z2 z3 true sd sd sd sd hp rfl sd).ends (aKt hl ih b hb t t' (i+1) g2 k2 (by simpa using hz))
  · rw [mR e,Bool.false_and];rw [dE e]at hp;obtain⟨y0,y1,y2,y3⟩ :=y;obtain⟨z0,z1,z2,z3⟩ :=z;exact bAB o n s ks ps o' n' s' ks' ps' i y0 y1 y2 y3 z0 z1 z2 z3 false sd sd sd sd hp rfl
theorem aKu (hl:ks.length<1000000)(ih:∀k∈ks,∀q,SmT k q) :
  ∀ (t t':List Term) (i:Nat),ks.drop i=t→ks'.drop i=t'→t.length=t'.length→Ends PP 0 (aEd o n s ks ps o' n' s' ks' ps' (i:Int)).as (.ret (.bool (kH (t=t')))) (aG [] 0)
 | [],[],i,h,_,_=>by
  have:=bL h;rw [iQ rfl];exact bAG o n s ks ps o' n' s' ks' ps' i sd
 | y ::t,z::t',i,h,h',hz=>by
  obtain⟨g1,g2,g3⟩ :=bH h;obtain⟨k1,k2,k3⟩ :=bH h';have hp:=ih y (mem_of_getElem? g1) z;unfold SmT at hp;by_cases e:y=z
  · rw [mQ e];rw [iQ e]at hp;obtain⟨y0,y1,y2,y3,y4⟩ :=y;obtain⟨z0,z1,z2,z3,z4⟩ :=z;exact(bAF o n s ks ps o' n' s' ks' ps' i y0 y1 y2 y3 y4 z0 z1 z2 z3 z4 true sd sd sd sd hp rfl sd).ends (aKu hl ih t t' (i+1) g2 k2 (by simpa using hz))
  · rw [mR e];rw [dE e]at hp;obtain⟨y0,y1,y2,y3,y4⟩ :=y;obtain⟨z0,z1,z2,z3,z4⟩ :=z;exact bAE o n s ks ps o' n' s' ks' ps' i y0 y1 y2 y3 y4 z0 z1 z2 z3 z4 false sd sd sd sd hp rfl
end
mutual
theorem aKv :∀ (t u:Term),fA t<1000000→SmT t u
 | .mk o n s ks ps,.mk o' n' s' ks' ps',h=>by
  simp only [fA]at h;have h1:=aJo ks;have h2:=cP ps;refine bC (by kernel_rfl) (by simp only [keylessL,dF];rfl) rfl ?_;by_cases e1:o=o'
  · by_cases e2:n=n'
    · by_cases e3:s=s'
      · by_cases e4:ks.length=ks'.length
        · by_cases e5:ps.length=ps'.length
          · have E:kH (Term.mk o n s ks ps= .mk o' n' s' ks' ps') = (kH (ps=ps') &&kH (ks=ks')) :=by
             by_cases c:ps=ps'
             ·rw [iQ c,Bool.true_and];exact sH (by simp [e1,e2,e3,c])
             ·rw [dE c,dE (fun g=>c (by cases g;rfl))];rfl
            rw [E]
            exact(bAA o n s ks ps o' n' s' ks' ps' (by simp [e1]) (by simp [e2]) (by rw [cA];simp [e3]) (by simp [e4]) (by simp [e5])).ends
             (aKt o n s ks ps o' n' s' ks' ps' (by omega) (aC6 ps (by omega)) _ (aKu o n s ks ps o' n' s' ks' ps' (by omega) (aNH ks (by omega)) ks ks' 0 rfl rfl e4) ps ps' 0 rfl rfl e5)
          · rw [dE (fun g=>e5 (by cases g;rfl))];exact bAz o n s ks ps o' n' s' ks' ps' (by simp [e1]) (by simp [e2]) (by rw [cA];simp [e3]) (by simp [e4]) (by simp;omega)
        · rw [dE (fun g=>e4 (by cases g;rfl))];exact bAy o n s ks ps o' n' s' ks' ps' (by simp [e1]) (by simp [e2]) (by rw [cA];simp [e3]) (by simp;omega)
      · rw [dE (fun g=>e3 (by cases g;rfl))];exact bAx o n s ks ps o' n' s' ks' ps' (by simp [e1]) (by simp [e2]) (by rw [cA];simp [e3])
    · rw [dE (fun g=>e2 (by cases g;rfl))];exact bAw o n s ks ps o' n' s' ks' ps' (by simp [e1]) (by simp [e2])
  · rw [dE (fun g=>e1 (by cases g;rfl))];exact bAv o n s ks ps o' n' s' ks' ps' (by simp [e1])
theorem aNH :∀ (ks:List Term),cZ ks<1000000→∀k∈ks,∀q,SmT k q
 | [],_,k,hk,_=>by cases hk
 | y::ks,h,k,hk,q=>by
  simp only [cZ]at h;rcases List.mem_cons.1 hk with e|hk
  ·rw [e];exact aKv y q (by omega)
  ·exact aNH ks (by omega) k hk q
end
theorem aUA (t u:Term)(ht:CanF t)(hu:CanF u)(st:uE t=true)(su:uE u=true)(hz:fA (pR t) <1000000) :Pure PP 16 [Term.av t,Term.av u] (.bool (kH (pR t=pR u))) :=by
 have h0:=aKl t ht st;have h1:=aKl u hu su;have h2:=aKv (pR t) (pR u) hz;unfold SmT at h2;generalize kH (pR t=pR u) =b at h2 ⊢;generalize pR t=x at *;generalize pR u=y at *;obtain⟨o,n,s,ks,ps⟩ :=t;obtain⟨o',n',s',ks',ps'⟩ :=u;obtain⟨x0,x1,x2,x3,x4⟩ :=x;obtain⟨y0,y1,y2,y3,y4⟩ :=y;exact bC (by kernel_rfl) (by simp only [keylessL,dF];rfl) rfl (bBN o n s ks ps o' n' s' ks' ps' x0 x1 x2 x3 x4 y0 y1 y2 y3 y4 b h0 h1 h2)
section
variable {H :Type} {enc:TypeId×Value→H} {w:World} {spare:Nat→Bool} {held:Bool}
theorem aC7 {l:List AV}{n:Nat}{cs:List Value}(h:Elt w n (.agg l) cs) :VRs (embOf w) l cs:=by
 obtain⟨_,u,h1,h2,_⟩ :=h;simp only [VR]at h2;obtain⟨vs,rfl,h3⟩ :=h2;have:vs=cs:=h1;rw [←this];exact h3
theorem three {α:Type}{cs:List α}(h:cs.length=3) :∃a b c,cs= [a,b,c] :=by
 match cs,h with
 | [a,b,c],_=>exact⟨a,b,c,rfl⟩
theorem five {α:Type}{cs:List α}(h:cs.length=5) :∃a b c d e,cs= [a,b,c,d,e] :=by
 match cs,h with
 | [a,b,c,d,e],_=>exact⟨a,b,c,d,e,rfl⟩
theorem fifteen {α:Type}{cs:List α}(h:cs.length=15) :∃a b c d e f g i j k l m n o p,cs= [a,b,c,d,e,f,g,i,j,k,l,m,n,o,p] :=by
 match cs,h with
 | [a,b,c,d,e,f,g,i,j,k,l,m,n,o,p],_=>exact⟨a,b,c,d,e,f,g,i,j,k,l,m,n,o,p,rfl⟩
section
theorem cells38 :Tryz.prog.cellsOf 38=1:=by kernel_rfl
theorem cells41 :Tryz.prog.cellsOf 41=5:=by kernel_rfl
theorem cells43 :Tryz.prog.cellsOf 43=1:=by kernel_rfl
theorem cells44 :Tryz.prog.cellsOf 44=1:=by kernel_rfl
theorem cells46 :Tryz.prog.cellsOf 46=4:=by kernel_rfl
theorem cells48 :Tryz.prog.cellsOf 48=15:=by kernel_rfl
theorem cells22 :Tryz.prog.cellsOf 22=1:=by kernel_rfl
theorem cells23 :Tryz.prog.cellsOf 23=1:=by kernel_rfl
theorem cells25 :Tryz.prog.cellsOf 25=3:=by kernel_rfl
theorem cells68 :Tryz.prog.cellsOf 68=1:=by kernel_rfl
theorem aNI :Tryz.prog.cellsOf 70=2:=by kernel_rfl
theorem aKw :Tryz.prog.cellsOf 154=2:=by kernel_rfl
theorem aEN :∀ (fuel:Nat) (cs:List Value) (x:DataW H×List MemPlace),DataW.trod enc Tryz.prog w 0 spare held fuel 46 cs=some x→∃p:Typ,Elt w 4 (Typ.av p) cs:=by
 intro fuel
 induction fuel using Nat.strongRecOn with
 | ind fuel ih=>
  intro cs x h;obtain⟨xs,m,rfl,rfl,hl,hlen,hf⟩ :=DataW.trod_struct Tryz.underlying46 h;rw [cells46]at hl;obtain⟨c0,c1,c2,c3,rfl⟩ :=four hl;have h0:DataW.trod enc Tryz.prog w 0 spare held m 43 (([c0,c1,c2,c3].drop 0).take (Tryz.prog.cellsOf 43)) =xs[0]?:=hf 0 _ rfl;have h1:DataW.trod enc Tryz.prog w 0 spare held m 3 (([c0,c1,c2,c3].drop 1).take (Tryz.prog.cellsOf 3)) =xs[1]?:=hf 1 _ rfl;have h2:DataW.trod enc Tryz.prog w 0 spare held m 9 (([c0,c1,c2,c3].drop 2).take (Tryz.prog.cellsOf 9)) =xs[2]?:=hf 2 _ rfl;have h3:DataW.trod enc Tryz.prog w 0 spare held m 44 (([c0,c1,c2,c3].drop 3).take (Tryz.prog.cellsOf 44)) =xs[3]?:=hf 3 _ rfl;simp only [cells43,cells3,cells9,cells44,drop,take]at h0 h1 h2 h3;obtain⟨x0,h0⟩ :=got h0 hlen (by decide);obtain⟨x1,h1⟩ :=got h1 hlen (by decide);obtain⟨x2,h2⟩ :=got h2 hlen (by decide);obtain⟨x3,h3⟩ :=got h3 hlen (by decide);obtain⟨f,e0⟩ :=sA Tryz.underlying43 h0;obtain⟨n,e1⟩ :=sA Tryz.underlying3 h1;obtain⟨s,c,e2,v2⟩ :=nH Tryz.underlying9 h2;obtain⟨ps,c',e3,v3⟩ :=jA Typ.av Tryz.underlying44 cells46 (by omega) h3 (fun fu hfu cs x hx=>ih fu (by omega) cs x hx);cases e0;cases e1;cases e2;cases e3;refine⟨.mk f n s ps,?_⟩;simp only [Typ.av,dD];refine xC (VRs.cons (by simp only [VR]) (VRs.cons (by simp only [VR]) (VRs.cons v2 (VRs.cons v3 (VRs.nil _))))) ?_;rfl
theorem aGd :∀ (fuel:Nat) (cs:List Value) (x:DataW H×List MemPlace),DataW.trod enc Tryz.prog w 0 spare held fuel 41 cs=some x→∃p:Term,Elt w 5 (Term.av p) cs:=by
 intro fuel
 induction fuel using Nat.strongRecOn with
 | ind fuel ih=>
  intro cs x h;obtain⟨xs,m,rfl,rfl,hl,hlen,hf⟩ :=DataW.trod_struct Tryz.underlying41 h;rw [cells41]at hl;obtain⟨c0,c1,c2,c3,c4,rfl⟩ :=five hl;have h0:DataW.trod enc Tryz.prog w 0 spare held m 37 (([c0,c1,c2,c3,c4].drop 0).take (Tryz.prog.cellsOf 37)) =xs[0]?:=hf 0 _ rfl;have h1:DataW.trod enc Tryz.prog w 0 spare held m 3 (([c0,c1,c2,c3,c4].drop 1).take (Tryz.prog.cellsOf 3)) =xs[1]?:=hf 1 _ rfl;have h2:DataW.trod enc Tryz.prog w 0 spare held m 9 (([c0,c1,c2,c3,c4].drop 2).take (Tryz.prog.cellsOf 9)) =xs[2]?:=hf 2 _ rfl;have h3:DataW.trod enc Tryz.prog w 0 spare held m 38 (([c0,c1,c2,c3,c4].drop 3).take (Tryz.prog.cellsOf 38)) =xs[3]?:=hf 3 _ rfl;have h4:DataW.trod enc Tryz.prog w 0 spare held m 39 (([c0,c1,c2,c3,c4].drop 4).take (Tryz.prog.cellsOf 39)) =xs[4]?:=hf 4 _ rfl;simp only [cells37,cells3,cells9,cells38,cells39,drop,take]at h0 h1 h2 h3 h4;obtain⟨x0,h0⟩ :=got h0 hlen (by decide);obtain⟨x1,h1⟩ :=got h1 hlen (by decide);obtain⟨x2,h2⟩ :=got h2 hlen (by decide);obtain⟨x3,h3⟩ :=got h3 hlen (by decide);obtain⟨x4,h4⟩ :=got h4 hlen (by decide);obtain⟨f,e0⟩ :=sA Tryz.underlying37 h0;obtain⟨n,e1⟩ :=sA Tryz.underlying3 h1;obtain⟨s,c,e2,v2⟩ :=nH Tryz.underlying9 h2;obtain⟨ks,c',e3,v3⟩ :=jA Term.av Tryz.underlying38 cells41 (by omega) h3 (fun fu hfu cs x hx=>ih fu (by omega) cs x hx);obtain⟨ps,c'',e4,v4⟩ :=jA Pat.av Tryz.underlying39 aDR (by omega) h4 (fun fu _ cs x hx=>aPg fu cs x hx);cases e0;cases e1;cases e2;cases e3;cases e4;refine⟨.mk f n s ks ps,?_⟩;simp only [Term.av,aU,aJ];refine xC (VRs.cons (by simp only [VR]) (VRs.cons (by simp only [VR]) (VRs.cons v2 (VRs.cons v3 (VRs.cons v4 (VRs.nil _)))))) ?_;rfl
theorem aOx (fuel:Nat)(cs:List Value)(x:DataW H×List MemPlace)(h:DataW.trod enc Tryz.prog w 0 spare held fuel 154 cs=some x) :∃p:ConD,Elt w 2 (ConD.av p) cs:=by
 obtain⟨xs,m,rfl,rfl,hl,hlen,hf⟩ :=DataW.trod_struct Tryz.underlying154 h;rw [aKw]at hl;obtain⟨c0,c1,rfl⟩ :=two hl;have h0:DataW.trod enc Tryz.prog w 0 spare held m 9 (([c0,c1].drop 0).take (Tryz.prog.cellsOf 9)) =xs[0]?:=hf 0 _ rfl;have h1:DataW.trod enc Tryz.prog w 0 spare held m 44 (([c0,c1].drop 1).take (Tryz.prog.cellsOf 44)) =xs[1]?:=hf 1 _ rfl;simp only [cells9,cells44,drop,take]at h0 h1;obtain⟨x0,h0⟩ :=got h0 hlen (by decide);obtain⟨x1,h1⟩ :=got h1 hlen (by decide);obtain⟨s,c,e0,v0⟩ :=nH Tryz.underlying9 h0;obtain⟨ts,c',e1,v1⟩ :=jA Typ.av Tryz.underlying44 cells46 (by omega) h1 (fun fu _ cs x hx=>aEN fu cs x hx);cases e0;cases e1;refine⟨⟨s,ts⟩,?_⟩;simp only [ConD.av,dD];refine xC (VRs.cons v0 (VRs.cons v1 (VRs.nil _))) ?_;rfl
theorem aOy (fuel:Nat)(cs:List Value)(x:DataW H×List MemPlace)(h:DataW.trod enc Tryz.prog w 0 spare held fuel 70 cs=some x) :∃p:DataD,Elt w 2 (DataD.av p) cs:=by
 obtain⟨xs,m,rfl,rfl,hl,hlen,hf⟩ :=DataW.trod_struct Tryz.underlying70 h;rw [aNI]at hl;obtain⟨c0,c1,rfl⟩ :=two hl;have h0:DataW.trod enc Tryz.prog w 0 spare held m 9 (([c0,c1].drop 0).take (Tryz.prog.cellsOf 9)) =xs[0]?:=hf 0 _ rfl;have h1:DataW.trod enc Tryz.prog w 0 spare held m 68 (([c0,c1].drop 1).take (Tryz.prog.cellsOf 68)) =xs[1]?:=hf 1 _ rfl;simp only [cells9,cells68,drop,take]at h0 h1;obtain⟨x0,h0⟩ :=got h0 hlen (by decide);obtain⟨x1,h1⟩ :=got h1 hlen (by decide);obtain⟨s,c,e0,v0⟩ :=nH Tryz.underlying9 h0;obtain⟨ts,c',e1,v1⟩ :=jA ConD.av Tryz.underlying68 aKw (by omega) h1 (fun fu _ cs x hx=>aOx fu cs x hx);cases e0;cases e1;refine⟨⟨s,ts⟩,?_⟩;simp only [DataD.av];refine xC (VRs.cons v0 (VRs.cons v1 (VRs.nil _))) ?_;rfl
theorem aOz (fuel:Nat)(cs:List Value)(x:DataW H×List MemPlace)(h:DataW.trod enc Tryz.prog w 0 spare held fuel 48 cs=some x) :∃p:FunD,Elt w 15 (FunD.av p) cs:=by
 obtain⟨xs,m,rfl,rfl,hl,hlen,hf⟩ :=DataW.trod_struct Tryz.underlying48 h;rw [cells48]at hl;obtain⟨c0,c1,c2,c3,c4,c5,c6,c7,c8,c9,c10,c11,c12,c13,c14,rfl⟩ :=fifteen hl;have h0:DataW.trod enc Tryz.prog w 0 spare held m 9 (([c0,c1,c2,c3,c4,c5,c6,c7,c8,c9,c10,c11,c12,c13,c14].drop 0).take (Tryz.prog.cellsOf 9)) =xs[0]?:=hf 0 _ rfl;have h1:DataW.trod enc Tryz.prog w 0 spare held m 9 (([c0,c1,c2,c3,c4,c5,c6,c7,c8,c9,c10,c11,c12,c13,c14].drop 1).take (Tryz.prog.cellsOf 9)) =xs[1]?:=hf 1 _ rfl;have h2:DataW.trod enc Tryz.prog w 0 spare held m 46 (([c0,c1,c2,c3,c4,c5,c6,c7,c8,c9,c10,c11,c12,c13,c14].drop 2).take (Tryz.prog.cellsOf 46)) =xs[2]?:=hf 2 _ rfl;have h3:DataW.trod enc Tryz.prog w 0 spare held m 46 (([c0,c1,c2,c3,c4,c5,c6,c7,c8,c9,c10,c11,c12,c13,c14].drop 6).take (Tryz.prog.cellsOf 46)) =xs[3]?:=hf 3 _ rfl;have h4:DataW.trod enc Tryz.prog w 0 spare held m 41 (([c0,c1,c2,c3,c4,c5,c6,c7,c8,c9,c10,c11,c12,c13,c14].drop 10).take (Tryz.prog.cellsOf 41)) =xs[4]?:=hf 4 _ rfl;simp only [cells9,cells46,cells41,drop,take]at h0 h1 h2 h3 h4;obtain⟨x0,h0⟩ :=got h0 hlen (by decide);obtain⟨x1,h1⟩ :=got h1 hlen (by decide);obtain⟨x2,h2⟩ :=got h2 hlen (by decide);obtain⟨x3,h3⟩ :=got h3 hlen (by decide);obtain⟨x4,h4⟩ :=got h4 hlen (by decide);obtain⟨s,c,e0,v0⟩ :=nH Tryz.underlying9 h0;obtain⟨q,c',e1,v1⟩ :=nH Tryz.underlying9 h1;obtain⟨⟨f0,f1,f2,f3⟩,v2⟩ :=aEN m _ _ h2;obtain⟨⟨g0,g1,g2,g3⟩,v3⟩ :=aEN m _ _ h3;obtain⟨⟨b0,b1,b2,b3,b4⟩,v4⟩ :=aGd m _ _ h4;cases e0;cases e1;refine⟨.mk s q (.mk f0 f1 f2 f3) (.mk g0 g1 g2 g3) (.mk b0 b1 b2 b3 b4),?_⟩;simp only [Typ.av]at v2 v3;simp only [Term.av]at v4;have V:=VRs.cons v0 (VRs.cons v1 ((aC7 v2).append ((aC7 v3).append (aC7 v4))));exact xC V rfl
theorem lift_mod (fuel:Nat)(cs:List Value)(x:DataW H×List MemPlace)(h:DataW.trod enc Tryz.prog w 0 spare held fuel 25 cs=some x) :∃p:Mod,VR (embOf w) (Mod.av p) (.agg ⟨cs⟩) :=by
 obtain⟨xs,m,rfl,rfl,hl,hlen,hf⟩ :=DataW.trod_struct Tryz.underlying25 h;rw [cells25]at hl;obtain⟨c0,c1,c2,rfl⟩ :=three hl;have h0:DataW.trod enc Tryz.prog w 0 spare held m 9 (([c0,c1,c2].drop 0).take (Tryz.prog.cellsOf 9)) =xs[0]?:=hf 0 _ rfl;have h1:DataW.trod enc Tryz.prog w 0 spare held m 22 (([c0,c1,c2].drop 1).take (Tryz.prog.cellsOf 22)) =xs[1]?:=hf 1 _ rfl;have h2:DataW.trod enc Tryz.prog w 0 spare held m 23 (([c0,c1,c2].drop 2).take (Tryz.prog.cellsOf 23)) =xs[2]?:=hf 2 _ rfl;simp only [cells9,cells22,cells23,drop,take]at h0 h1 h2;obtain⟨x0,h0⟩ :=got h0 hlen (by decide);obtain⟨x1,h1⟩ :=got h1 hlen (by decide);obtain⟨x2,h2⟩ :=got h2 hlen (by decide);obtain⟨s,c,e0,v0⟩ :=nH Tryz.underlying9 h0;obtain⟨ds,c',e1,v1⟩ :=jA DataD.av Tryz.underlying22 aNI (by omega) h1 (fun fu _ cs x hx=>aOy fu cs x hx);obtain⟨fs,c'',e2,v2⟩ :=jA FunD.av Tryz.underlying23 cells48 (by omega) h2 (fun fu _ cs x hx=>aOz fu cs x hx);cases e0;cases e1;cases e2;refine⟨⟨s,ds,fs⟩,?_⟩;simp only [Mod.av,VR];exact⟨_,rfl,VRs.cons v0 (VRs.cons v1 (VRs.cons v2 (VRs.nil _)))⟩
end
end
section
variable {P :Program}
def bF9 (P:Program)(is:List Ins)(s:TS) :Option (AV×Nat×List Prop) :=
 match vP P is s.as with
 | some (s1,ps) =>match s1.cs,s1.fr.kind,s1.fr.mode,s1.fr.roundOf,s1.fr.defers with
  | [],.normal,.ret,none,[] =>match P.funcs[s1.fr.fn]? with
   | some fd=>match kZ P s1.h s1.fr.tm fd.results.toList with
    |some [v] =>some (v,s1.fr.fn,ps)
    |_=>none
   |none=>none
  |_,_,_,_,_=>none
 |none=>none
theorem aCP {f : Nat} {args : List AV} {is : List Ins}{b:Bool}{ps:List Prop}{cargs:List Value}{t:TS}(hb:nA P f=true)(hk:keylessL args=true)(hl0:LeadsM P 0 (start P f args).as t.as)(h0:bF9 P is t=some (.bool b,f,ps))(hps:AllP ps)(w:World)(hv:VRs (embOf w) args cargs) :
  Calls P f ⟨cargs⟩ w fun e w'=>e= .returned (.bool b) ∧GrownO w w':=by
 intro base;unfold nA at hb;split at hb
 · rename_i fn hf;split at hb
   · rename_i c hc;have hg:eF P f args .normal=some ⟨f,hQ .leaf 0 args,max fn.ntmps args.length,[.code c],[],.run,.normal,none⟩ :=by simp [eF,hf,hc]
     have fr':FR (embOf w) _ (Frame.enter P f ⟨cargs⟩ .normal) :=jF hg hv;have f1:FR (embOf w) (start P f args).as.fr (Frame.enter P f ⟨cargs⟩ .normal) :=by
      have e1: (start P f args).as.fr= ⟨f,vQ ((List.range args.length).zip args),max fn.ntmps args.length,[.code c],[],.run,.normal,none⟩ :=by simp [start,hf,hc,TS.as,TF.fr]
      rw [e1];refine⟨fr'.fn,⟨fr'.tm.1,fun t a e=>?_⟩,fr'.todo,fr'.defers,fr'.mode,fr'.kind,fr'.round⟩;have h1:=aDI (yZ e);have hlt:= (List.getElem?_eq_some_iff.1 h1).1;have h2: (hQ .leaf 0 args).at t=some a:=by
       unfold hQ;rw [dS,if_pos hlt];exact h1
      exact fr'.tm.2 t a h2
     have e2 : (start P f args).as.cs = [] := by unfold start;split; · split<;>rfl
                                                 ·rfl
     have e3 : (start P f args).as.h = ⟨.leaf, 0⟩ := by unfold start;split; · split<;>rfl
                                                        ·rfl
     unfold bF9 at h0;split at h0
     · rename_i s1 qs h1;split at h0
       · rename_i hcs hkd hmo hro hde;split at h0
         · rename_i fd hfd;split at h0
           · rename_i v hrs;simp only [Option.some.injEq,Prod.mk.injEq]at h0;obtain⟨rfl,hfn,rfl⟩ :=h0;have hl:LeadsM P 0 (start P f args).as s1:=hl0.trans (iZ h1 (fun p hpp=>hps.mem p hpp));obtain⟨E',g,ccs,w',s2,f2,fs2,r2,x⟩ :=hl (by rw [e3];exact le_refl _) (embOf w) _ [] w base f1 (by rw [e2];rfl) (by rw [e3];exact aN1 w);rw [hcs]at fs2;have:=fs2.nil_inv;subst this;obtain⟨cv,g1,g2⟩ :=vJ r2 f2.tm hrs;simp only [aBm,VR]at g2;subst g2;have fm:=f2.mode;rw [hmo]at fm;simp only [MR]at fm;have fdd:=f2.defers;rw [hde]at fdd;rw [e3]at x;have hno:∀ {b o},¬ (⟨.leaf,0⟩ :Hp).look b=some o:=fun {b o} e=>by simp [Hp.look,T.at_leaf]at e
             refine⟨.returned (.bool b),w',g,⟨rfl,⟨x.os,x.output,fun i hi=>?_⟩,x.froz,x.size⟩,s2,by rw [f2.fn,hfn],fm,fdd.nil_inv,by rw [f2.kind,hkd],fd,by rw [f2.fn];exact hfd,g1⟩;have:=x.keep i hi (fun b o L e=>absurd e hno);rw [this];cases w.heap[i]? with
             |none=>rfl
             |some ob=>cases ob<;>simp
           ·cases h0
         ·cases h0
       ·cases h0
     ·cases h0
   ·cases hb
 ·cases hb
theorem cL {f:Nat}{args:List AV}{b:Bool}{cargs:List Value}{t:TS}(hl:LeadsM P 0 (start P f args).as t.as)(L:List Pf)(is:List Ins)(w:World)(hv:VRs (embOf w) args cargs)(hb:nA P f=true:=by kernel_rfl)(hk:keylessL args=true:=by kernel_rfl)(h0:bF9 P is t=some (.bool b,f,L.map Pf.p) :=by kernel_rfl) :
    Calls P f ⟨cargs⟩ w fun e w'=>e= .returned (.bool b) ∧GrownO w w':=aCP hb hk hl h0 (bDz L) w hv
end
end
end Go.Hb
