/-
  OWN WORK (V127, V128, V129, V130, V131, V132, V133, V134, V135, H18, V49, V50, V60, V61, V62, V63, V64, V65, V66, V136, V137, H48): a machine on abstract values, its soundness, ways through the text (the ways WRITTEN BY A PROGRAM), plain laws.
-/
import Derived.Test.YtabmpnmmkeieiaaGreatHF
import Derived.Test.YtabmpnmmkeieiaaGreatHG
import Derived.Test.YtabmpnmmkeieiaaGreatHK
import Derived.Test.YtabmpnmmkeieiaaGreatHL
set_option linter.defProp false
set_option linter.unusedVariables false
set_option linter.unusedSimpArgs false
set_option linter.unusedSectionVars false
set_option maxRecDepth 100000
namespace Go.Hb
open Go.Proofs
set_option maxHeartbeats 4000000
noncomputable section
abbrev aCo :aE:=strOf [109,97,105,110]
def pZ (mn:Int) :Nat→List aE→List aE
 |_,[] =>[]
 |i,s::t=> (if(i:Int) =mn then aCo else s) ::pZ mn (i+1) t
theorem aBL {c:Nat}(hg:dE (eX c) =false)(hc:c≤900000000) :c<lZ 6:=by
 refine Classical.byContradiction fun h=>?_;have h8:lZ 8=217180147158:=by kernel_rfl
 rw [aBK (by omega) (by rw [h8];omega)]at hg;cases hg
theorem wT (f i:Nat) :fZ f i 0= [] :=by cases f<;>rfl
theorem aED (p:Prog)(n:Nat)(l1:List aE)(hn:n≤1000000) :∀ (f c m t:Nat) (l2:List aE),(lZ 6-c) + (m+1) ≤f→c+f≤900000000→l2.length=t→t+ (m+1) =n →
  Ends PP 0 (aIf p (n:Int) (c:Int) (t:Int) l1 l2).as (.ret (.tup [.ilst 1 (List.map aC l1) false,.ilst 1 (List.map aC (l2++fZ f c (m+1))) false])) (aG [] 0)
 |0,c,m,t,l2,h,_,_,_=>by omega
 | f +1,c,m,t,l2,h,hb,hl,ht=>by
  have hp:=aKO c (by omega);have hn':=iV (eX c);rw [fZ];cases hg:dE (eX c)with
  | true=>
   rw [hg]at hn';refine(bDr p n c t l1 l2 (eX c) true hp sd hn' rfl (by simp;omega) sd).ends ?_;cases m with
   | zero=>
    simp only [cond,wT];exact aO4 p n _ l1 _ (l2++ [eX c]) (by simp;omega)
   | succ m=>
    refine(aO3 p n _ l1 _ (l2++ [eX c]) (by simp;omega)).ends ?_;have:=aED p n l1 hn f (c+1) m (t+1) (l2++ [eX c]) (by omega) (by omega) (by simp;omega) (by omega);rw [List.append_assoc]at this;exact this
  | false=>
   rw [hg]at hn';have hi:=aBL hg (by omega);refine(bDs p n c t l1 l2 (eX c) false hp sd hn' rfl).ends ?_;exact aED p n l1 hn f (c+1) m t l2 (by omega) (by omega) hl ht
theorem bDy (p:Prog)(n:Nat)(l1:List aE)(hn:n≤1000000)(f c:Nat)(h: (lZ 6-c) +n≤f)(hb:c+f≤900000000) :
  Ends PP 0 (aIe p (n:Int) (c:Int) l1 0 ([] :List aE)).as (.ret (.tup [.ilst 1 (List.map aC l1) false,.ilst 1 (List.map aC (fZ f c n)) false])) (aG [] 0) :=by
 cases n with
 | zero=>
  rw [wT];exact aO4 p _ _ l1 0 [] (by simp)
 | succ n=>
  exact(aO3 p _ _ l1 0 [] (by rw [decide_eq_true_eq];omega)).ends (aED p (n+1) l1 hn f c n 0 [] (by omega) hb rfl (by omega))
theorem aEE (p:Prog)(n:Nat)(hn:n≤500000)(hf:p.funs.length≤500000) :∀ (f c k i:Nat) (l1:List aE),(lZ 6-c) + (k+n+1) ≤f→c+f≤900000000→l1.length=i→i+ (k+1) =p.funs.length →
  Ends PP 0 (aEC p (n:Int) (c:Int) (i:Int) (i:Int) l1).as (.ret (.tup [.ilst 1 (List.map aC (l1++pZ p.main i ((fZ f c (k+n+1)).take (k+1)))) false,.ilst 1 (List.map aC ((fZ f c (k+n+1)).drop (k+1))) false])) (aG [] 0)
 |0,c,k,i,l1,h,_,_,_=>by omega
 | f + 1,c,k,i,l1,h,hb,hl,ht=>by
  have hp:=aKO c (by omega);have hn':=iV (eX c);rw [fZ];cases hg:dE (eX c)with
  | true=>
   rw [hg]at hn';simp only [cond,List.take_succ_cons,List.drop_succ_cons,pZ];have st:LeadsM PP 0 (aEC p (n:Int) (c:Int) (i:Int) (i:Int) l1).as (aEB p (n:Int) ((i:Int) +1) ((c:Int) +1) (l1++ [if(i:Int) =p.main then aCo else eX c])).as:=by
    by_cases hm: (i:Int) =p.main
    · rw [if_pos hm];exact bDo p n c i i l1 (eX c) true hp sd hn' rfl (by simp [hm]) (by simp;omega) sd
    · rw [if_neg hm];exact bDp p n c i i l1 (eX c) true hp sd hn' rfl (by simp [hm]) (by simp;omega) sd
   refine st.ends ?_;cases k with
   | zero=>
    refine(bDn p n _ _ _ (by simp;omega)).ends ?_;have:=bDy p n (l1++ [if(i:Int) =p.main then aCo else eX c]) (by omega) f (c+1) (by omega) (by omega);simp only [List.take_zero,pZ,List.drop_zero,Nat.zero_add];exact this
   | succ k=>
    refine(aO2 p n _ _ _ (by simp;omega)).ends ?_;have:=aEE p n hn hf f (c+1) k (i+1) (l1++ [if(i:Int) =p.main then aCo else eX c]) (by omega) (by omega) (by simp;omega) (by omega);rw [List.append_assoc]at this;rw [show k+1+n=k+n+1 by omega];exact this
  | false=>
   rw [hg]at hn';have hi:=aBL hg (by omega);refine(bDq p n c i i l1 (eX c) false hp sd hn' rfl).ends ?_;exact aEE p n hn hf f (c+1) k i l1 (by omega) (by omega) hl ht
theorem aWU (p:Prog)(n:Nat)(hn:n≤400000)(h1:1≤p.funs.length)(hf:p.funs.length≤400000) :
  Pure PP 142 [PA p,.int .i64 (n:Int)] (.tup [.ilst 1 (List.map aC (pZ p.main 0 ((dW (p.funs.length+n)).take p.funs.length))) false,.ilst 1 (List.map aC ((dW (p.funs.length+n)).drop p.funs.length)) false]) :=by
 have h6:lZ 6=321272406:=by kernel_rfl
 obtain⟨k,hk⟩ :∃k,p.funs.length=k+1:= ⟨p.funs.length-1,by omega⟩;have h:=aEE p n (by omega) (by omega) (lZ 6+ (k+n+1)) 0 k 0 [] (by omega) (by rw [h6];omega) rfl (by omega);refine bM (s:=bFD p n) (by kernel_rfl) (by kernel_rfl) (by simp [AV.keyless,AV.keylessL]) (by simp [AV.keyless,AV.keylessL]) ?_;unfold dW;rw [show p.funs.length+n=k+n+1 by omega,hk];exact((bDm p n).trans (aO2 p n 0 0 [] (by rw [decide_eq_true_eq];omega))).ends h
end
end Go.Hb
namespace Go.Hb
open Go.Proofs
set_option maxHeartbeats 4000000
noncomputable section
theorem wU :∀ (f f' i m m':Nat),(lZ 6-i) +m≤f→f≤f'→i+f≤900000000→m≤m'→ (fZ f' i m').take m=fZ f i m
 |f,f',i,0,m',_,_,_,_=>by rw [wT,List.take_zero]
 |0,f',i,m+1,m',h,_,_,_=>by omega
 |f+1,0,i,m+1,m',_,h,_,_=>by omega
 |f+1,f'+1,i,m+1,0,_,_,_,h=>by omega
 | f+1,f'+1,i,m+1,m'+1,h,hf,hb,hm=>by
  rw [fZ,fZ];cases hg:dE (eX i)with
  | true=>
   simp only [cond,List.take_succ_cons];rw [wU f f' (i+1) m m' (by omega) (by omega) (by omega) (by omega)]
  | false=>
   have hi:=aBL hg (by omega);simp only [cond];exact wU f f' (i+1) (m+1) (m'+1) (by omega) (by omega) (by omega) (by omega)
theorem qX {m m':Nat}(h:m≤m')(hm:m≤1000000) : (dW m').take m=dW m:=by
 have h6:lZ 6=321272406:=by kernel_rfl
 exact wU _ _ 0 m m' (by omega) (by omega) (by rw [h6];omega) h
theorem aEF {m m' i:Nat}(hm:m≤1000000)(hm':m'≤1000000)(h1:i<m)(h2:i<m') : (dW m)[i]?= (dW m')[i]?:=by
 rcases Nat.le_total m m' with h|h
 ·rw [←qX h hm,List.getElem?_take];simp [h1]
 ·rw [←qX h hm',List.getElem?_take];simp [h2]
theorem aEG (mn:Int) :∀ (l:List aE) (i j:Nat),(pZ mn i l)[j]?= (l[j]?).map fun s=>if((i+j:Nat) :Int) =mn then aCo else s
 | [],i,j=>by simp [pZ]
 |s::t,i,0=>by simp [pZ]
 | s::t,i,j+1=>by
  rw [pZ,List.getElem?_cons_succ,List.getElem?_cons_succ,aEG mn t (i+1) j,show i+1+j=i+ (j+1)by omega]
theorem aNE {mn:Int}{l:List aE}(h:0≤mn)(h2:mn<l.length) :pZ mn 0 l=l.set mn.toNat aCo:=by
 apply List.ext_getElem?;intro j;rw [aEG,List.getElem?_set];by_cases e:mn.toNat=j
 · subst e;have:mn.toNat<l.length:=by omega
   rw [List.getElem?_eq_getElem this];simp [this];omega
 · rw [if_neg e];cases l[j]? with
   |none=>rfl
   | some s=>
    have:¬ ((j:Nat) :Int) =mn:=by omega
    simp [this]
end
end Go.Hb
namespace Go.Hb
open Go.Proofs
set_option maxHeartbeats 4000000
noncomputable section
def aRa (l l':List aE) :Prop:=∀ (i:Nat) (s:aE),l[i]?=some s→l'[i]?=some s
theorem aWV {cl:List Con}{pl pl':List aE}(h:aRa pl pl'){f n k:Int}{r}(h0:hdN cl pl f n k=some r) :hdN cl pl' f n k=some r:=by
 unfold hdN at h0 ⊢;by_cases h2:f=2
 · rw [if_pos h2]at h0 ⊢;by_cases hk:0≤k
   · rw [if_pos hk]at h0 ⊢;cases hs:pl[k.toNat]? with
     |none=>rw [hs]at h0;cases h0
     |some y=>rw [hs]at h0;rw [h _ _ hs];exact h0
   ·rw [if_neg hk]at h0;cases h0
 ·rw [if_neg h2]at h0 ⊢;exact h0
mutual
theorem aGg {cl:List Con}{pl pl':List aE}(h:aRa pl pl') :∀ (q:Pat) (k:Int) (r:Pat×Int),zX cl pl q k=some r→zX cl pl' q k=some r
 | .mk f n s ps,k,r,h0=>by
  rw [zX]at h0 ⊢;cases hh:hdN cl pl f n k with
  |none=>rw [hh]at h0;cases h0
  | some y=>
   rw [hh]at h0;rw [aWV h hh];simp only at h0 ⊢;cases hp:kN cl pl ps y.2.2 with
   |none=>rw [hp]at h0;cases h0
   |some z=>rw [hp]at h0;rw [aEH h ps _ z hp];exact h0
theorem aEH {cl:List Con}{pl pl':List aE}(h:aRa pl pl') :∀ (ps:List Pat) (k:Int) (r:List Pat×Int),kN cl pl ps k=some r→kN cl pl' ps k=some r
 | [],k,r,h0=>by rw [kN]at h0 ⊢;exact h0
 | p::ps,k,r,h0=>by
  rw [kN]at h0 ⊢;cases hh:zX cl pl p k with
  |none=>rw [hh]at h0;cases h0
  | some y=>
   rw [hh]at h0;rw [aGg h p k y hh];simp only at h0 ⊢;cases hp:kN cl pl ps y.2 with
   |none=>rw [hp]at h0;cases h0
   |some z=>rw [hp]at h0;rw [aEH h ps _ z hp];exact h0
end
theorem aEI {cl:List Con}{pl pl':List aE}(h:aRa pl pl'){sz:Int}:∀ {ps qs:List Pat},kO cl pl sz ps=some qs→kO cl pl' sz ps=some qs
 | [],qs,h0=>by rw [kO]at h0 ⊢;exact h0
 | p::ps,qs,h0=>by
  rw [kO]at h0 ⊢;cases hh:zX cl pl p sz with
  |none=>rw [hh]at h0;cases h0
  | some y=>
   rw [hh]at h0;rw [aGg h p sz y hh];simp only at h0 ⊢;cases hp:kO cl pl sz ps with
   |none=>rw [hp]at h0;cases h0
   |some z=>rw [hp]at h0;rw [aEI h hp];exact h0
theorem aWW {p:Prog}{fl pl pl':List aE}(h:aRa pl pl'){x:Node}{sz:Int}{r}(h0:hdT p fl pl x sz=some r) :hdT p fl pl' x sz=some r:=by
 unfold hdT at h0 ⊢;by_cases h4:x.op=4
 · rw [if_pos h4]at h0 ⊢;by_cases hn:x.n<0
   ·rw [if_pos hn]at h0 ⊢;exact h0
   · rw [if_neg hn]at h0 ⊢;cases hs:pl[x.n.toNat]? with
     |none=>rw [hs]at h0;cases h0
     |some y=>rw [hs]at h0;rw [h _ _ hs];exact h0
 · rw [if_neg h4]at h0 ⊢;by_cases h14:x.op=14
   ·rw [if_pos h14]at h0 ⊢;exact h0
   · rw [if_neg h14]at h0 ⊢;by_cases h3:x.op=5∨x.op=27∨x.op=7
     · rw [if_pos h3]at h0 ⊢;cases hs:pl[sz.toNat]? with
       |none=>rw [hs]at h0;cases h0
       |some y=>rw [hs]at h0;rw [h _ _ hs];exact h0
     ·rw [if_neg h3]at h0 ⊢;exact h0
theorem aEJ {g g':Int→Int→Option Term}(h:∀c sz t,g c sz=some t→g' c sz=some t){x:Node}{sz:Int}:∀ {cs:List Int} {i:Nat} {ts:List Term},kP g x sz cs i=some ts→kP g' x sz cs i=some ts
 | [],i,ts,h0=>by rw [kP]at h0 ⊢;exact h0
 | c::cs,i,ts,h0=>by
  rw [kP]at h0 ⊢;cases hh:g c (sz+bJ x i)with
  |none=>rw [hh]at h0;cases h0
  | some y=>
   rw [hh]at h0;rw [h _ _ _ hh];simp only at h0 ⊢;cases hp:kP g x sz cs (i+1)with
   |none=>rw [hp]at h0;cases h0
   |some z=>rw [hp]at h0;rw [aEJ h hp];exact h0
theorem aGh {p:Prog}{fl pl pl':List aE}(h:aRa pl pl') :∀ (d:Nat) (a sz:Int) (t:Term),gV p fl pl d a sz=some t→gV p fl pl' d a sz=some t
 |0,a,sz,t,h0=>by rw [gV]at h0;cases h0
 | d + 1,a,sz,t,h0=>by
  rw [gV]at h0 ⊢;split at h0
  · rename_i hr;rw [if_pos hr];cases hx:p.nodes[a.toNat]? with
    |none=>rw [hx]at h0;cases h0
    | some x=>
     rw [hx]at h0;simp only at h0 ⊢;cases hh:hdT p fl pl x sz with
     |none=>rw [hh]at h0;cases h0
     | some y=>
      rw [hh]at h0;rw [aWW h hh];simp only at h0 ⊢;cases hp:kO p.cons pl sz x.pats with
      |none=>rw [hp]at h0;cases h0
      | some z=>
       rw [hp]at h0;rw [aEI h hp];simp only at h0 ⊢;cases hk:kP (gV p fl pl d) x sz x.kids 0 with
       |none=>rw [hk]at h0;cases h0
       |some w=>rw [hk]at h0;rw [aEJ (fun c sz t e=>aGh h d c sz t e) hk];exact h0
  ·cases h0
end
end Go.Hb
namespace Go.Hb
open Go.Proofs
set_option maxHeartbeats 4000000
noncomputable section
theorem aK1 (o n:Int)(s:aE)(ks:List Term)(ps:List Pat)(hl:ps.length<1000000)(ih:∀p∈ps,Pure PP 88 [Pat.av p,Pat.av p] (.bool true)) :
  ∀ (t:List Pat) (i:Nat),ps.drop i=t→LeadsM PP 0 (aIb o n s ks ps o n s ks ps (i:Int)).as (aEx o n s ks ps o n s ks ps 0).as
 | [],i,h=>by
  have:=bD h;exact bC4 o n s ks ps o n s ks ps i sd
 | .mk a1 a2 a3 a4::t,i,h=>by
  obtain⟨g1,g2,g3⟩ :=bB h;exact(bC3 o n s ks ps o n s ks ps i a1 a2 a3 a4 a1 a2 a3 a4 true sd sd sd sd (ih _ (List.mem_of_getElem? g1)) rfl sd).trans (aK1 o n s ks ps hl ih t (i+1) g2)
theorem aK2 (o n:Int)(s:aE)(ks:List Term)(ps:List Pat)(hl:ks.length<1000000)(ih:∀k∈ks,Pure PP 28 [Term.av k,Term.av k] (.bool true)) :
  ∀ (t:List Term) (i:Nat),ks.drop i=t→Ends PP 0 (aEx o n s ks ps o n s ks ps (i:Int)).as (.ret (.bool true)) (aG [] 0)
 | [],i,h=>by
  have:=bD h;exact bC6 o n s ks ps o n s ks ps i sd
 | .mk a1 a2 a3 a4 a5::t,i,h=>by
  obtain⟨g1,g2,g3⟩ :=bB h;exact(bC5 o n s ks ps o n s ks ps i a1 a2 a3 a4 a5 a1 a2 a3 a4 a5 true sd sd sd sd (ih _ (List.mem_of_getElem? g1)) rfl sd).ends (aK2 o n s ks ps hl ih t (i+1) g2)
theorem aK3 :∀ks:List Term,ks.length≤lK ks
 | [] =>Nat.zero_le _
 | k::ks=>by
  have:=aK3 ks;obtain⟨_,_,_,_,_⟩ :=k;simp only [lK,mY,List.length_cons];omega
mutual
theorem aEK :∀ (t:Term),mY t<1000000→Pure PP 28 [Term.av t,Term.av t] (.bool true)
 | .mk o n s ks ps,h=>by
  simp only [mY]at h;have h1:=aK3 ks;have h2:=cL ps;refine aM (by kernel_rfl) (by simp only [AV.keylessL,eF];rfl) rfl ?_;refine(bC2 o n s ks ps o n s ks ps (by simp) (by simp) (by rw [iW];rfl) (by simp) (by simp)).ends ?_;exact(aK1 o n s ks ps (by omega) (aH8 ps (by omega)) ps 0 rfl).ends (aK2 o n s ks ps (by omega) (aO5 ks (by omega)) ks 0 rfl)
theorem aO5 :∀ (ks:List Term),lK ks<1000000→∀k∈ks,Pure PP 28 [Term.av k,Term.av k] (.bool true)
 | [],_,k,hk=>by cases hk
 | q::ks,h,k,hk=>by
  simp only [lK]at h;rcases List.mem_cons.1 hk with e|hk
  ·rw [e];exact aEK q (by omega)
  ·exact aO5 ks (by omega) k hk
end
end
end Go.Hb
namespace Go.Hb
open Go.Proofs
set_option maxHeartbeats 4000000
noncomputable section
theorem bHa {cons:List Con}{f n:Int}{s:aE}{ps:List Pat}(h:dA cons f n s ps.length=true)(hf:f=6) :0≤n∧n<cons.length:=by
 subst hf;simp [dA,aW]at h;omega
mutual
theorem aGi (cl:List Con)(pl:List aE) :∀ (q:Pat) (k:Int),cT cl q=true→0≤k→k+rnm q≤pl.length→∃r,zX cl pl q k=some r∧r.2=k+rnm q
 | .mk f n s ps,k,h,hk,hb=>by
  simp only [cT,Bool.and_eq_true]at h;have h1:=xW ps;rw [rnm]at hb ⊢;rw [zX];unfold hdN;by_cases h2:f=2
  · rw [if_pos h2]at hb ⊢;rw [if_pos h2,if_pos hk,List.getElem?_eq_getElem (show k.toNat<pl.length by omega)];obtain⟨r,e1,e2⟩ :=aAa cl pl ps (k+1) h.2 (by omega) (by omega);simp only [e1];exact⟨_,rfl,by rw [e2];omega⟩
  · rw [if_neg h2]at hb ⊢;rw [if_neg h2];obtain⟨r,e1,e2⟩ :=aAa cl pl ps k h.2 hk (by omega);by_cases h6:f=6
    · obtain⟨g1,g2⟩ :=bHa h.1 h6;rw [if_pos h6,if_pos g1,List.getElem?_eq_getElem (show n.toNat<cl.length by omega)];simp only [e1];exact⟨_,rfl,by rw [e2];omega⟩
    · rw [if_neg h6];simp only [e1];exact⟨_,rfl,by rw [e2];omega⟩
theorem aAa (cl:List Con)(pl:List aE) :∀ (ps:List Pat) (k:Int),cB cl ps=true→0≤k→k+wR ps≤pl.length→∃r,kN cl pl ps k=some r∧r.2=k+wR ps
 | [],k,_,_,_=> ⟨_,by rw [kN],by simp [wR]⟩
 | p::ps,k,h,hk,hb=>by
  simp only [cB,Bool.and_eq_true]at h;rw [wR]at hb ⊢;have h1:=aNC p;have h2:=xW ps;obtain⟨q,e1,e2⟩ :=aGi cl pl p k h.1 hk (by omega);obtain⟨r,e3,e4⟩ :=aAa cl pl ps q.2 h.2 (by omega) (by omega);rw [kN,e1];simp only [e3];exact⟨_,rfl,by rw [e4];omega⟩
end
end
end Go.Hb
namespace Go.Hb
open Go.Proofs
set_option maxHeartbeats 4000000
noncomputable section
theorem aEL (cl:List Con)(pl:List aE){sz:Int}(h0:0≤sz) :∀ (ps:List Pat),(∀q∈ps,cT cl q=true∧sz+rnm q≤pl.length) →∃qs,kO cl pl sz ps=some qs
 | [],_=> ⟨_,by rw [kO]⟩
 | p::ps,h=>by
  obtain⟨g1,g2⟩ :=h p (List.mem_cons_self ..);obtain⟨r,e1,_⟩ :=aGi cl pl p sz g1 h0 g2;obtain⟨qs,e2⟩ :=aEL cl pl h0 ps (fun q hq=>h q (List.mem_cons_of_mem _ hq));rw [kO,e1];simp only [e2];exact⟨_,rfl⟩
theorem aEM {g:Int→Int→Option Term}{x:Node}{sz:Int}:∀ (cs:List Int) (i:Nat),(∀ (j:Nat) (c:Int),cs[j]?=some c→∃t,g c (sz+bJ x ((i+j:Nat) :Int)) =some t) →∃ts,kP g x sz cs i=some ts
 | [],_,_=> ⟨_,by rw [kP]⟩
 | c::cs,i,h=>by
  obtain⟨t,e1⟩ :=h 0 c rfl
  obtain⟨ts,e2⟩ :=aEM cs (i+1) (fun j c' hc=>by
   have:=h (j+1) c' (by simpa using hc);rw [show i+1+j=i+ (j+1)by omega];exact this)
  rw [Nat.add_zero]at e1;rw [kP,e1];simp only [e2];exact⟨_,rfl⟩
theorem aGj {p:Prog}{fl pl:List aE}{R:Int→Int→Prop}
  (H:∀a sz,R a sz→0≤a∧0≤sz∧sz≤1000000000∧∃x,p.nodes[a.toNat]?=some x∧ (∃h,hdT p fl pl x sz=some h) ∧ (∀q∈x.pats,cT p.cons q=true∧sz+rnm q≤pl.length) ∧
   ∀ (i:Nat) (c:Int),x.kids[i]?=some c→a<c∧R c (sz+bJ x (i:Int))) :
  ∀ (d:Nat) (a sz:Int),R a sz→ (p.nodes.length:Int) -a≤d→∃t,gV p fl pl d a sz=some t
 | 0,a,sz,h,hd=>by
  obtain⟨h1,_,_,x,hx,_⟩ :=H a sz h;have:= (List.getElem?_eq_some_iff.1 hx).1;omega
 | d+1,a,sz,h,hd=>by
  obtain⟨h1,h2,h3,x,hx,⟨y,hy⟩,hq,hk⟩ :=H a sz h;obtain⟨qs,e1⟩ :=aEL p.cons pl h2 x.pats hq
  obtain⟨ts,e2⟩ :=aEM (g:=gV p fl pl d) (x:=x) (sz:=sz) x.kids 0 (fun j c hc=>by
   obtain⟨g1,g2⟩ :=hk j c hc;rw [Nat.zero_add];exact aGj H d c _ g2 (by omega))
  rw [gV,if_pos ⟨h1,h2,h3⟩,hx];simp only [hy,e1,e2];exact⟨_,rfl⟩
end
end Go.Hb
namespace Go.Hb
open Go.Proofs
set_option maxHeartbeats 4000000
noncomputable section
theorem bHb {p:Prog}{f:Int}(hl:p.funs.length≤1000000)(hi:aW f 0 ((p.funs.length:Int) -1) =true){fl pl:List aE}(h10:Pure PP 32 [PA p] (.int .i64 0))
  (hc:Pure PP 78 [PA p] (XV p fl pl)) (hb:TB p fl pl 141) {a:Int} (ha:p.funs[f.toNat]?=some a) {d:Nat} {t:Term} (ht:gV p fl pl d a 1=some t) (hta:mY t<1000000) (hg:lF t=true) :
  Pure PP 24 [PA p,.int .i64 f] (.tup [Term.av t,.int .i64 0]) :=by
 have h3:=bSt_pure p fl pl hb d a 1 t ht;have h4:=aEg t hta;rw [if_pos hg]at h4;have h0:= (inB_iff ..).1 hi;have hk:=eF t;obtain⟨t1,t2,t3,t4,t5⟩ :=t;refine bM (s:=aKZ p f) (by kernel_rfl) (by kernel_rfl) (by simp [AV.keylessL,AV.keyless]) (by simp only [AV.keyless,AV.keylessL,hk];rfl) ?_;exact bDw p f 0 ⟨p,fl,pl⟩ a t1 t2 t3 t4 t5 0 h10 (by simp) sd (by simp;omega) (by simp;omega) hc h0.1 ha h3 h4 (by simp)
end
end Go.Hb
namespace Go.Hb
open Go.Proofs
set_option maxHeartbeats 4000000
noncomputable section
abbrev ZT :Term:=.mk 0 0 [] [] []
theorem aO6 {E:Emb}{e:Nat}{cv:Value}(hv:VR E .nils cv) :VR E (.ilst e [] true) cv:=by
 simp only [VR]at hv ⊢;exact⟨[],VRs.nil _,fun _ hu=>by(cases hu),.inl ⟨rfl,none,0,hv,fun _=>rfl,fun _=>rfl⟩⟩
theorem aO7 {E:Emb}{v1 v2:AV}(w1:∀cv,VR E v1 cv→VR E (.ilst 5 [] false) cv)(w2:∀cv,VR E v2 cv→VR E (.ilst 4 [] false) cv){x:AV}{cv:Value}
  (h:VR E (.tup [.agg [.int .i64 0,.int .i64 0,.str 0 0,v1,v2],x]) cv) :VR E (.tup [Term.av ZT,x]) cv:=by
 rw [VR]at h;obtain⟨us,rfl,h⟩ :=h;obtain⟨u,us1,rfl,g1,g2⟩ :=h.cons_inv;rw [VR];refine⟨_,rfl,VRs.cons ?_ g2⟩;rw [VR]at g1;obtain⟨bs,rfl,g1⟩ :=g1;obtain⟨a0,bs,rfl,k0,g1⟩ :=g1.cons_inv;obtain⟨a1,bs,rfl,k1,g1⟩ :=g1.cons_inv;obtain⟨a2,bs,rfl,k2,g1⟩ :=g1.cons_inv;obtain⟨a3,bs,rfl,k3,g1⟩ :=g1.cons_inv;obtain⟨a4,bs,rfl,k4,g1⟩ :=g1.cons_inv;show VR E (.agg [.int .i64 0,.int .i64 0,.str 0 0,.ilst 5 [] false,.ilst 4 [] false]) _;rw [VR];exact⟨_,rfl,VRs.cons k0 (VRs.cons k1 (VRs.cons k2 (VRs.cons (w1 _ k3) (VRs.cons (w2 _ k4) g1))))⟩
theorem aBM {E:Emb}{x:AV}{cv:Value}(h:VR E (.tup [TZ,x]) cv) :VR E (.tup [Term.av ZT,x]) cv:=
 aO7 (fun _ k=>hR (aO6 k)) (fun _ k=>hR (aO6 k)) h
theorem xX {E:Emb}{x:AV}{cv:Value}(h:VR E (.tup [.agg [.int .i64 0,.int .i64 0,.str 0 0,.ilst 5 [] true,.ilst 4 [] true],x]) cv) :VR E (.tup [Term.av ZT,x]) cv:=
 aO7 (fun _ k=>hR k) (fun _ k=>hR k) h
theorem bDz {p:Prog}{f:Int}(h10:Pure PP 32 [PA p] (.int .i64 2)) :Pure PP 24 [PA p,.int .i64 f] (.tup [Term.av ZT,.int .i64 2]) :=
 bM (s:=aKZ p f) (by kernel_rfl) (by kernel_rfl) (by simp [AV.keylessL,AV.keyless]) (by simp [AV.keyless,AV.keylessL,eF]) (Ends.val (bDt p f 2 h10 (by simp)) (fun E cv=>xX))
end
end Go.Hb
namespace Go.Hb
open Go.Proofs
set_option maxHeartbeats 4000000
noncomputable section
theorem bDA {p:Prog}{f:Int}(hl:p.funs.length≤1000000)(h10:Pure PP 32 [PA p] (.int .i64 0))(hi:aW f 0 ((p.funs.length:Int) -1) =false) :Pure PP 24 [PA p,.int .i64 f] (.tup [Term.av ZT,.int .i64 2]) :=by
 refine bM (s:=aKZ p f) (by kernel_rfl) (by kernel_rfl) (by simp [AV.keylessL,AV.keyless]) (by simp [AV.keyless,AV.keylessL,eF]) ?_;by_cases h0:f≥0
 · have h1:¬f≤ (p.funs.length:Int) -1:=fun g=>by
    have:=inB_iff.2 (show(0:Int) ≤f∧f≤ (p.funs.length:Int) -1 from⟨h0,g⟩);rw [hi]at this;cases this
   exact Ends.val (bDu p f 0 h10 (by simp) sd (by simp;omega) (by simp;omega)) (fun E cv=>xX)
 ·exact Ends.val (bDx p f 0 h10 (by simp) sd (by simp;omega)) (fun E cv=>xX)
theorem aWX {p:Prog}{f:Int}(hl:p.funs.length≤1000000)(hi:aW f 0 ((p.funs.length:Int) -1) =true){fl pl:List aE}(h10:Pure PP 32 [PA p] (.int .i64 0))
  (hc:Pure PP 78 [PA p] (XV p fl pl)) (hb:TB p fl pl 141) {a:Int} (ha:p.funs[f.toNat]?=some a) {d:Nat} {t:Term} (ht:gV p fl pl d a 1=some t) (hta:mY t<1000000) (hg:lF t=false) :
  Pure PP 24 [PA p,.int .i64 f] (.tup [Term.av ZT,.int .i64 3]) :=by
 have h3:=bSt_pure p fl pl hb d a 1 t ht;have h4:=aEg t hta;rw [if_neg (by rw [hg];simp)]at h4;have h0:=inB_iff.1 hi;obtain⟨t1,t2,t3,t4,t5⟩ :=t;refine bM (s:=aKZ p f) (by kernel_rfl) (by kernel_rfl) (by simp [AV.keylessL,AV.keyless]) (by simp [AV.keyless,AV.keylessL,eF]) ?_;exact Ends.val (bDv p f 0 ⟨p,fl,pl⟩ a t1 t2 t3 t4 t5 2 h10 (by simp) sd (by simp;omega) (by simp;omega) hc h0.1 ha h3 h4 (by simp)) (fun E cv=>xX)
end
end Go.Hb
namespace Go.Hb
open Go.Proofs
noncomputable section
open Go.Proofs Tryz
abbrev aWY(a:Prog):Nat ×AObj×Bool:=oC 0 [(iN a.nodes),(iI a.funs),(nI a.main),(iC a.cons)]
abbrev aWZ(a:List Node)(b:List Int)(c:Int)(d:List Con):Nat×AObj×Bool:=oC 2 [(.gl 4 4 0 a.length false),(.gl 5 1 0 b.length false),(nI c),(.gl 6 2 0 d.length false)]
abbrev aW0:Nat ×AObj×Bool:=oC 1 [.nils,.nils,(nI 0),.nils]
abbrev aW1:Nat ×AObj×Bool:=oC 3 [(.map 7),(.map 8)]
abbrev aW2(a:List (Int×Int)):Nat×AObj×Bool:=(8,(.map (aV dF dF 0 a) a.length),true)
abbrev aW3(a:List (Int×Int)):Nat×AObj×Bool:=(7,(.map (aV dF dF 0 a) a.length),true)
def aW4(j a:Prog)(e:Int)(b:List Node)(c:List Int)(d:List Con)(f:List (Int×Int))(g:Int)(i:List (Int×Int)):TS:=⟨(tf 39 131 [kp 3 0,kp 4 1,(5,(nI 0)),kp 9 2,kp 11 3,(57,(iC a.cons)),(58,(nI (a.cons.length:Int))),(59,(nI g))] [kc f39 1012,kl f39 1012,.inBlock 4,kc f39 127]),[],[aWY a,aW0,aWZ b c e d,aW1,oL 4 4 (jN b),oL 5 1 (jI c),oL 6 2 (jC d),aW3 f,aW2 i],9⟩
def bHc(i d:Prog)(e:Int)(a:List Node)(b:List Int)(c:List Con)(f g:List (Int×Int)):TS:=⟨(tf 39 131 [kp 3 0,kp 4 1,(5,(nI 0)),kp 9 2,kp 11 3] [kc f39 254,kc f39 255]),[],[aWY d,aW0,aWZ a b e c,aW1,oL 4 4 (jN a),oL 5 1 (jI b),oL 6 2 (jC c),aW3 f,aW2 g],9⟩
end
end Go.Hb
namespace Go.Hb
open Go.Proofs
set_option maxHeartbeats 2000000
noncomputable section
section
variable (p q:Prog) (mn:Int) (zn:List Node) (zu:List Int)
def FindGoal (zc:List Con)(c:Con)(mf:List (Int×Int))(i:Int)(m:List (Int×Int))(s:TS)(r:Int) :Prop:=
 if r<0 then LeadsM PP 0 s.as (aW4 p q mn zn zu (zc++ [c]) mf (i+1) (fB i ((zc.length:Nat) :Int) m)).as
 else match zc[r.toNat]? with
  | some d=>if d.args=c.args then LeadsM PP 0 s.as (aW4 p q mn zn zu zc mf (i+1) (fB i r m)).as
   else Ends PP 0 s.as (.ret (.tup [aOT,.int .i64 7])) (aG [] 0)
  |none=>True
theorem FindGoal.of {zc:List Con}{c:Con}{mf:List (Int×Int)}{i:Int}{m:List (Int×Int)}{s s':TS}{r:Int}(h:LeadsM PP 0 s'.as s.as)(g:FindGoal p q mn zn zu zc c mf i m s r) :FindGoal p q mn zn zu zc c mf i m s' r:=by
 unfold FindGoal at g ⊢;split
 · rename_i hr;rw [if_pos hr]at g;exact h.trans g
 · rename_i hr;rw [if_neg hr]at g;split
   · rename_i d hd;rw [hd]at g;simp only at g;split
     · rename_i e;rw [if_pos e]at g;exact h.trans g
     · rename_i e;rw [if_neg e]at g;exact h.ends g
   ·trivial
def ConsB (mf:List (Int×Int))(s:TS) :Option (List Con×List (Int×Int)) →Prop
 |none=>Ends PP 0 s.as (.ret (.tup [aOT,.int .i64 7])) (aG [] 0)
 |some r=>LeadsM PP 0 s.as (bHc p q mn zn zu r.1 mf r.2).as
theorem ConsB.of {mf:List (Int×Int)}{s s':TS}(h:LeadsM PP 0 s'.as s.as) :∀ {r:Option (List Con×List (Int×Int))},ConsB p q mn zn zu mf s r→ConsB p q mn zn zu mf s' r
 |none,g=>h.ends g
 |some _,g=>h.trans g
end
end
end Go.Hb
namespace Go.Hb
open Go.Proofs
theorem hasS_mem {l:List aE}{s:aE}:jG l s=true↔s∈l:=by
 simp [jG]
theorem aBa :∀ (l pre:List aE),dK pre l=true→l.Nodup∧∀x∈l,x∉pre
 | [],pre,_=> ⟨List.nodup_nil,fun x hx=>by cases hx⟩
 | x::t,pre,h=>by
  simp only [dK,Bool.and_eq_true,Bool.not_eq_true']at h;obtain⟨h1,h2⟩ :=aBa t (pre++ [x]) h.2
  have hx:x∉pre:=fun hm=>by
   have:=hasS_mem.2 hm;rw [h.1]at this;cases this
  refine⟨List.nodup_cons.2 ⟨fun hm=>h2 x hm (by simp),h1⟩,fun y hy=>?_⟩;rcases List.mem_cons.1 hy with rfl|hy
  ·exact hx
  ·exact fun hm=>h2 y hy (List.mem_append_left _ hm)
structure Fm (p:Prog) :Prop where
 fine:FineP p
 cons:p.cons.length≤25
 dup: ((p.funs.map (pre p p.nodes.length)).flatten).Nodup
 len: ((p.funs.map (pre p p.nodes.length)).flatten).length=p.nodes.length
 into:∀x∈ (p.funs.map (pre p p.nodes.length)).flatten,0≤x∧x<p.nodes.length
 node:∀ (i:Nat) (x:Node),p.nodes[i]?=some x→cO p x=true∧x.pats.length≤10
 names: (p.cons.map Con.name).Nodup
theorem aNF {p:Prog}(hs:aN p=true)(hf:bC p=true) :Fm p:=by
 have hss:=hs;simp only [aN,Bool.and_eq_true,decide_eq_true_eq]at hss;obtain⟨⟨⟨⟨s1,s2⟩,s3⟩,_⟩,s5⟩ :=hss;obtain⟨a,b,c,d⟩ :=aNn hs hf;refine⟨qV hs hf,s3,a,b,c,fun i x hx=> ⟨d i x hx,?_⟩,?_⟩
 · have h10:=List.all_eq_true.1 s5 x (List.mem_of_getElem? hx);simp only [bQ,Bool.and_eq_true,decide_eq_true_eq]at h10;omega
 · simp only [bC,Bool.and_eq_true,zK]at hf;exact(aBa _ _ hf.1.2.2).1
end Go.Hb
namespace Go.Hb
open Go.Proofs
def nodeAt (p:Prog)(k:Int) :Node:= (p.nodes[k.toNat]?).getD ⟨0,0,[],[]⟩
theorem aBN {p:Prog}{k:Int}{x:Node}(h:p.nodes[k.toNat]?=some x) :nodeAt p k=x:=by unfold nodeAt;rw [h];rfl
def uR (p:Prog) :List Int:= (p.funs.map (pre p p.nodes.length)).flatten
def KidsAfter (p:Prog)(l:List Int) :Prop:=∀ (i:Nat) (k c:Int),l[i]?=some k→c∈fE p k→∃j,i<j∧l[j]?=some c
theorem KidsAfter.append {p:Prog}{l m:List Int}(h1:KidsAfter p l)(h2:KidsAfter p m) :KidsAfter p (l++m) :=fun i k c hi hc=>by
 by_cases h:i<l.length
 · rw [List.getElem?_append_left h]at hi;obtain⟨j,hj,e⟩ :=h1 i k c hi hc;exact⟨j,hj,by rw [List.getElem?_append_left (List.getElem?_eq_some_iff.1 e).1];exact e⟩
 · rw [List.getElem?_append_right (by omega)]at hi;obtain⟨j,hj,e⟩ :=h2 _ k c hi hc;exact⟨l.length+j,by omega,by rw [List.getElem?_append_right (by omega),show l.length+j-l.length=j by omega];exact e⟩
theorem KidsAfter.flatten {p:Prog}:∀ {L:List (List Int)},(∀l∈L,KidsAfter p l) →KidsAfter p L.flatten
 | [],_=>fun i k c hi _=>by simp at hi
 | l::L,h=>by
  rw [List.flatten_cons];exact(h l (List.mem_cons_self ..)).append (KidsAfter.flatten fun m hm=>h m (List.mem_cons_of_mem _ hm))
theorem aK4 {p:Prog}(h:Fm p){k:Int}(h0:0≤k)(h1:k<p.nodes.length) :∃i:Nat,(uR p)[i]?=some k:=by
 refine List.mem_iff_getElem?.1 ?_;have hd: ((uR p).map Int.toNat).Nodup:=by
  have hd:=h.dup;rw [List.nodup_iff_pairwise_ne]at hd ⊢;refine List.pairwise_map.2 (hd.imp_of_mem (fun {a b} ha hb hne e=>?_));have:=h.into a ha;have:=h.into b hb;exact hne (by omega)
 by_cases hm:k∈uR p
 ·exact hm
 · have h2:=xR (p.nodes.length) (k.toNat:: (uR p).map Int.toNat) (List.nodup_cons.2 ⟨fun hm2=>by
    obtain⟨y,hy,e⟩ :=List.mem_map.1 hm2;have:=h.into y hy;exact hm ((show y=k by omega) ▸ hy),hd⟩) (fun x hx=>by
    rcases List.mem_cons.1 hx with rfl|hx
    ·omega
    · obtain⟨y,hy,rfl⟩ :=List.mem_map.1 hx;have:=h.into y hy;omega)
   rw [List.length_cons,List.length_map]at h2;have:=h.len;unfold uR at h2;omega
structure Laid (a:Prog) (off:Nat) (p:Prog) (mf mc:List (Int×Int)) (to:List Int) :Prop where
 node:∀ (i:Nat) (k:Int),(uR p)[i]?=some k→a.nodes[off+i]?=some (aCf mf mc to (nodeAt p k))
 to:∀ (i:Nat) (k:Int),(uR p)[i]?=some k→aHQ to k= ((off+i:Nat) :Int)
section
variable {a p:Prog} {off:Nat} {mf mc:List (Int×Int)} {to:List Int}
theorem Laid.at (h:Laid a off p mf mc to)(hp:Fm p){k:Int}(h0:0≤k)(h1:k<p.nodes.length) :0≤aHQ to k∧a.nodes[(aHQ to k).toNat]?=some (aCf mf mc to (nodeAt p k)) :=by
 obtain⟨i,hi⟩ :=aK4 hp h0 h1;have e:=h.to i k hi;rw [e,Int.toNat_natCast];exact⟨by omega,h.node i k hi⟩
theorem Laid.pre (h:Laid a off p mf mc to)(hp:Fm p) :∀ (f:Nat) (k:Int),0≤k→k<p.nodes.length→p.nodes.length-k.toNat≤f→pre a f (aHQ to k) = (pre p f k).map (aHQ to)
 |0,k,h0,h1,h2=>by omega
 | f+1,k,h0,h1,h2=>by
  obtain⟨x,hx⟩ :∃x,p.nodes[k.toNat]?=some x:= ⟨_,List.getElem?_eq_getElem (by omega)⟩;obtain⟨g0,g1⟩ :=h.at hp h0 h1;rw [aBN hx]at g1;rw [Go.Hb.pre,Go.Hb.pre,hx,g1];simp only [List.map_cons,List.map_flatten,List.map_map,aCf];congr 2
  exact List.map_congr_left (fun c hc=>by
   have:= (hp.fine.node _ _ hx).2.2 c hc;exact h.pre hp f c (by omega) (by omega) (by omega))
end
end Go.Hb
namespace Go.Hb
open Go.Proofs
mutual
theorem aNG (mc:List (Int×Int)) :∀q:Pat,nL (nA mc q) =nL q
 | .mk f n s ps=>by rw [nA,nL,nL,aCp mc ps]
theorem aCp (mc:List (Int×Int)) :∀ps:List Pat,nZ (eO mc ps) =nZ ps
 | [] =>rfl
 |q::ps=>by rw [eO,nZ,nZ,aNG mc q,aCp mc ps]
end
structure MapsOk (p a:Prog) (mf mc:List (Int×Int)) :Prop where
 funs:∀i:Int,0≤i→i<p.funs.length→0≤uQ mf i∧uQ mf i<a.funs.length
 cons:∀ (i:Nat) (d:Con),p.cons[i]?=some d→0≤uQ mc (i:Int) ∧a.cons[(uQ mc (i:Int)).toNat]?=some d
section
variable {p a:Prog} {mf mc:List (Int×Int)}
theorem MapsOk.at (h:MapsOk p a mf mc){n:Int}(h0:0≤n)(h1:n<p.cons.length) :0≤uQ mc n∧uQ mc n<a.cons.length∧eU a.cons (uQ mc n) =eU p.cons n∧a.cons[(uQ mc n).toNat]?=p.cons[n.toNat]?:=by
 have e:p.cons[n.toNat]?=some p.cons[n.toNat] :=List.getElem?_eq_getElem (by omega);obtain⟨g0,g1⟩ :=h.cons n.toNat _ e;rw [show((n.toNat:Nat) :Int) =n by omega]at g0 g1;have:= (List.getElem?_eq_some_iff.1 g1).1;refine⟨g0,by omega,?_,by rw [g1,e]⟩;unfold eU;rw [g1,e]
theorem aGk (mc:List (Int×Int)) :∀ps:List Pat,(eO mc ps).length=ps.length
 | [] =>rfl
 |p::ps=>by rw [eO,List.length_cons,List.length_cons,aGk mc ps]
mutual
theorem bDB (h:MapsOk p a mf mc) :∀q:Pat,cT p.cons q=true→cT a.cons (nA mc q) =true
 | .mk f n s ps,g=>by
  rw [cT,Bool.and_eq_true]at g;rw [nA,cT,aK5 h ps g.2,Bool.and_true,aGk];have g1:=g.1;by_cases hf:f=6
  · subst hf;unfold dA at g1 ⊢;simp [aW]at g1 ⊢;obtain⟨⟨⟨a0,a1⟩,a2⟩,a3⟩ :=g1;obtain⟨b0,b1,b2,b3⟩ :=h.at a0 (by omega);exact⟨⟨⟨b0,by omega⟩,by rw [b2];exact a2⟩,a3⟩
  · rw [if_neg hf];unfold dA at g1 ⊢;rw [if_neg hf]at g1 ⊢;exact g1
theorem aK5 (h:MapsOk p a mf mc) :∀ps:List Pat,cB p.cons ps=true→cB a.cons (eO mc ps) =true
 | [],_=>rfl
 | q::ps,g=>by
  rw [cB,Bool.and_eq_true]at g;rw [eO,cB,bDB h q g.1,aK5 h ps g.2];rfl
end
end
end Go.Hb
namespace Go.Hb
open Go.Proofs
end Go.Hb
namespace Go.Hb
open Go.Proofs
def toL (p:Prog)(off:Nat) :List Int:=aWk (List.replicate p.nodes.length 0) off (uR p)
section
variable {p :Prog}
theorem aW5 (h:Fm p) : (uR p).length=p.nodes.length:=h.len
end
end Go.Hb
namespace Go.Hb
open Go.Proofs
structure Fs (p:Prog) :Prop extends Fm p where
 sm:aN p=true
 fo:bC p=true
theorem Fs.of {p:Prog}(hs:aN p=true)(hf:bC p=true) :Fs p:={aNF hs hf with sm:=hs,fo:=hf}
theorem Fs.head {p:Prog}(h:Fs p) :p.nodes.length≤300∧1≤p.funs.length∧p.funs.length≤p.nodes.length∧0≤p.main∧p.main<p.funs.length∧p.cons.length≤20∧ (∀c∈p.cons,gI c=true) :=by
 have:=h.fo;simp only [bC,Bool.and_eq_true,eM,zK,decide_eq_true_eq]at this;obtain⟨⟨⟨⟨a1,a2⟩,a3⟩,⟨a4,a5⟩,_⟩,_⟩ :=this;simp [aW]at a2 a3;exact⟨a1,by omega,by omega,by omega,by omega,a5,fun c hc=>List.all_eq_true.1 a4 c hc⟩
section
variable {a :Prog} {N:Nat}
end
section
variable {p a:Prog} {off:Nat} {mf mc:List (Int×Int)} {to:List Int}
end
section
variable {p q:Prog}
end
end Go.Hb
namespace Go.Hb
open Go.Proofs
mutual
theorem aRb {cons:List Con}{mc mc' mc2:List (Int×Int)}(h:∀n:Int,0≤n→n<cons.length→uQ mc2 n=uQ mc' (uQ mc n)) :∀q:Pat,cT cons q=true→nA mc' (nA mc q) =nA mc2 q
 | .mk f n s ps,g=>by
  rw [cT,Bool.and_eq_true]at g;rw [nA,nA,nA,aAb h ps g.2];by_cases hf:f=6
  · subst hf;have g1:=g.1;unfold dA at g1;simp [aW]at g1;rw [if_pos rfl,if_pos rfl,if_pos rfl,h n g1.1.1.1 (by omega)]
  ·rw [if_neg hf,if_neg hf,if_neg hf]
theorem aAb {cons:List Con}{mc mc' mc2:List (Int×Int)}(h:∀n:Int,0≤n→n<cons.length→uQ mc2 n=uQ mc' (uQ mc n)) :∀ps:List Pat,cB cons ps=true→eO mc' (eO mc ps) =eO mc2 ps
 | [],_=>rfl
 | q::ps,g=>by
  rw [cB,Bool.and_eq_true]at g;rw [eO,eO,eO,aRb h q g.1,aAb h ps g.2]
end
theorem aW6 {p:Prog}{x:Node}(h:cO p x=true) : (x.op=4→ -(p.funs.length:Int) ≤x.n) ∧ (x.op=14→0≤x.n∧x.n<p.cons.length) ∧cB p.cons x.pats=true:=by
 simp only [cO,mX,Bool.and_eq_true]at h;obtain⟨⟨⟨h1,_⟩,h2⟩,_⟩ :=h;refine⟨fun e=>?_,fun e=>?_,aEl fun q hq=>?_⟩
 · rw [e]at h1;simp [eG,aW]at h1;omega
 · rw [e]at h1;simp [eG,aW]at h1;omega
 · have:=List.all_eq_true.1 h2 q hq;simp only [jK,Bool.and_eq_true]at this;exact this.2
structure Comp (p:Prog) (mf mc:List (Int×Int)) (to:List Int) (mf' mc':List (Int×Int)) (to':List Int) (mf2 mc2:List (Int×Int)) (to2:List Int) :Prop where
 f0:∀i:Int,0≤i→i<p.funs.length→0≤uQ mf i
 f:∀i:Int,0≤i→i<p.funs.length→uQ mf2 i=uQ mf' (uQ mf i)
 c:∀i:Int,0≤i→i<p.cons.length→uQ mc2 i=uQ mc' (uQ mc i)
 t:∀ (i:Nat) (k:Int),(uR p)[i]?=some k→aHQ to2 k=aHQ to' (aHQ to k)
theorem Comp.node {p:Prog}{mf mc mf' mc' mf2 mc2:List (Int×Int)}{to to' to2:List Int}(h:Comp p mf mc to mf' mc' to' mf2 mc2 to2)(hp:Fm p){k:Int}(hk:k∈uR p) :aCf mf' mc' to' (aCf mf mc to (nodeAt p k)) =aCf mf2 mc2 to2 (nodeAt p k) :=by
 have hr:=hp.into k hk;obtain⟨x,hx⟩ :∃x,p.nodes[k.toNat]?=some x:= ⟨_,List.getElem?_eq_getElem (by omega)⟩;rw [aBN hx];obtain⟨h4,h14,hps⟩ :=aW6 (hp.node _ x hx).1;unfold aCf;simp only [Node.mk.injEq,List.map_map,true_and];refine⟨?_,List.map_congr_left fun c hc=>?_,aAb h.c _ hps⟩
 · unfold bN;by_cases e4:x.op=4
   · rw [if_pos e4,if_pos e4,if_pos e4];by_cases hn:0≤x.n
     ·rw [if_pos hn,if_pos hn,if_pos hn]
     · have:=h4 e4;have h0:=h.f0 (-1-x.n) (by omega) (by omega);have h1:=h.f (-1-x.n) (by omega) (by omega);rw [if_neg hn,if_neg hn,if_neg (by omega),h1];congr 2;omega
   · rw [if_neg e4,if_neg e4,if_neg e4];by_cases e14:x.op=14
     · have:=h14 e14;rw [if_pos e14,if_pos e14,if_pos e14,h.c x.n this.1 this.2]
     ·rw [if_neg e14,if_neg e14,if_neg e14]
 · have:= (hp.fine.node _ _ hx).2.2 c hc;obtain⟨i,hi⟩ :=aK4 hp (k:=c) (by omega) (by omega);exact(h.t i c hi).symm
theorem Laid.slice {a p:Prog}{off:Nat}{mf mc:List (Int×Int)}{to:List Int}(h:Laid a off p mf mc to)(F:Node→Node) : ((List.range (uR p).length).map fun i=>F (nodeAt a ((off+i:Nat) :Int))) = (uR p).map fun k=>F (aCf mf mc to (nodeAt p k)) :=by
 refine List.ext_getElem? (fun i=>?_);rw [List.getElem?_map,List.getElem?_map];by_cases hi:i< (uR p).length
 · have e: (uR p)[i]?=some (uR p)[i] :=List.getElem?_eq_getElem hi;rw [List.getElem?_range hi,e];simp only [Option.map_some];rw [aBN (p:=a) (k:= ((off+i:Nat) :Int)) (by rw [Int.toNat_natCast];exact h.node i _ e)]
 ·rw [List.getElem?_eq_none (by simp;omega),List.getElem?_eq_none (by omega)];rfl
section
variable {p q r:Prog}
end
end Go.Hb
namespace Go.Hb
open Go.Proofs
mutual
def aK6 (l:List Con) :Pat→Pat
 | .mk f n s ps=>match(if f=6∧0≤n∧n<l.length then l[n.toNat]? else none)with
  |some c=>.mk f 0 c.name (aAc l ps)
  |none=>.mk f n s (aAc l ps)
def aAc (l:List Con) :List Pat→List Pat
 | [] =>[]
 |p::ps=>aK6 l p::aAc l ps
end
mutual
theorem aNH {cons l l':List Con}{mc mc':List (Int×Int)}(h:∀n:Int,0≤n→n<cons.length→∃d,0≤uQ mc n∧0≤uQ mc' n∧l[(uQ mc n).toNat]?=some d∧l'[(uQ mc' n).toNat]?=some d) :∀q:Pat,cT cons q=true→aK6 l (nA mc q) =aK6 l' (nA mc' q)
 | .mk f n s ps,g=>by
  rw [cT,Bool.and_eq_true]at g;rw [nA,nA,aK6,aK6,aCq h ps g.2];by_cases hf:f=6
  · subst hf;have g1:=g.1;unfold dA at g1;simp [aW]at g1;obtain⟨d,h0,h1,h2,h3⟩ :=h n g1.1.1.1 (by omega);have l2:= (List.getElem?_eq_some_iff.1 h2).1;have l3:= (List.getElem?_eq_some_iff.1 h3).1;rw [if_pos rfl,if_pos rfl,if_pos ⟨rfl,h0,by omega⟩,if_pos ⟨rfl,h1,by omega⟩,h2,h3]
  ·rw [if_neg hf,if_neg hf,if_neg (fun h=>hf h.1),if_neg (fun h=>hf h.1)]
theorem aCq {cons l l':List Con}{mc mc':List (Int×Int)}(h:∀n:Int,0≤n→n<cons.length→∃d,0≤uQ mc n∧0≤uQ mc' n∧l[(uQ mc n).toNat]?=some d∧l'[(uQ mc' n).toNat]?=some d) :∀ps:List Pat,cB cons ps=true→aAc l (eO mc ps) =aAc l' (eO mc' ps)
 | [],_=>rfl
 | q::ps,g=>by
  rw [cB,Bool.and_eq_true]at g;rw [eO,eO,aAc,aAc,aNH h q g.1,aCq h ps g.2]
end
end Go.Hb
namespace Go.Hb
open Go.Proofs
set_option maxHeartbeats 4000000
noncomputable section
theorem aAd {p:Prog}(hs:aN p=true)(hf:bC p=true) :∀ (m:Nat) (s:Int),(fD p)[m]?=some s→1≤s∧s≤12* (m:Int) +1:=by
 obtain⟨hp,hS,hC⟩ :=uI hs hf;intro m
 induction m using Nat.strongRecOn with
 | ind m ih=>
  intro s h;have hm:= (List.getElem?_eq_some_iff.1 h).1;rw [hS.len]at hm;rcases hC m hm with⟨f,h1,h2⟩ | ⟨i,x,k,h1,h2,h3,h4⟩
  · have:=hS.root f h1;rw [h2,h]at this;cases this;omega
  · obtain⟨d,hd⟩ :=List.getElem?_of_mem h2;obtain⟨s',e1,e2⟩ :=hS.kid i x d k h1 hd;rw [h3,h]at e2;cases e2;have:=ih i h4 s' e1;have:=sH (hp.node i x h1).1 (d:Int);omega
theorem aK7 :∀ (t:List Int) (n y:Int),y∈t→y≤aFi t n
 | [],_,_,h=>by cases h
 | a ::t,n,y,h=>by
  rw [aFi];rcases List.mem_cons.1 h with e|h
  · subst e;have:=aId t (if y>n then y else n);have:y≤ (if y>n then y else n) :=by split<;>omega
    omega
  ·exact aK7 t _ y h
theorem aO8 :∀ (t:List Int) (n b:Int),n≤b→ (∀y∈t,y≤b) →aFi t n≤b
 | [],_,_,h,_=>h
 | a::t,n,b,h,ha=>by
  rw [aFi];refine aO8 t _ b ?_ (fun y hy=>ha y (List.mem_cons_of_mem _ hy));split
  ·exact ha a (List.mem_cons_self ..)
  ·exact h
theorem uM {p:Prog}(h:Fs p) :lL p≤4000:=by
 refine aO8 _ _ _ (by omega) (fun y hy=>?_);obtain⟨m,hm⟩ :=List.getElem?_of_mem hy;have:=aAd h.sm h.fo m y hm;have h2:= (List.getElem?_eq_some_iff.1 hm).1;rw [zU]at h2;have:=h.fine.small;omega
structure PlOk (p:Prog) (n:Nat) :Prop where
 low:30≤n
 big:n≤900000
 kid:∀ (a:Nat) (x:Node) (sz:Int) (i:Nat),(fD p)[a]?=some sz→p.nodes[a]?=some x→i<x.kids.length→sz+bJ x i≤n
 own:∀ (a:Nat) (x:Node) (sz:Int),(fD p)[a]?=some sz→p.nodes[a]?=some x→x.op=5∨x.op=27∨x.op=7→sz<n
theorem aW7 {p:Prog}(h:Fs p) :PlOk p ((lL p).toNat+30) :=by
 have h0:=aKX p;have h1:=uM h;have hd:∀ (a:Nat) (sz:Int),(fD p)[a]?=some sz→sz≤lL p:=fun a sz e=>aK7 _ _ _ (List.mem_of_getElem? e);refine⟨by omega,by omega,fun a x sz i e hx hi=>?_,fun a x sz e hx _=>?_⟩
 · have:=hd a sz e;have:=sH (h.fine.node a x hx).1 (i:Int);omega
 · have:=hd a sz e;omega
theorem aK8 {p:Prog}(h:Fs p){i:Nat}{x:Node}(hx:p.nodes[i]?=some x) :
  (x.op=4→ -(p.funs.length:Int) ≤x.n∧x.n≤29) ∧ (x.op=14→0≤x.n∧x.n<p.cons.length) ∧ (∀ (j:Nat) (q:Pat),x.pats[j]?=some q→x.op=15∧cT p.cons q=true∧x.kids.length=1+x.pats.length) :=by
 have hn:= (h.node i x hx).1;have hf:= (h.fine.node i x hx).1;simp only [cO,Bool.and_eq_true,mX]at hn;obtain⟨⟨⟨h1,h15⟩,_⟩,_⟩ :=hn;refine⟨fun e=>?_,fun e=>?_,fun j q hq=>?_⟩
 · rw [e]at h1;simp [eG,aW]at h1;omega
 · rw [e]at h1;simp [eG,aW]at h1;omega
 · have hm:=List.mem_of_getElem? hq;have e15:x.op=15:=by
    refine Classical.byContradiction fun g=>?_;rw [if_neg g,decide_eq_true_eq]at h15;rw [List.eq_nil_of_length_eq_zero h15]at hm;cases hm
   exact⟨e15,(hf.pats q hm).2,hf.mat e15⟩
theorem aW8 {p:Prog}(h:Fs p){fl pl:List aE}(hfl:fl.length=p.funs.length)(hpl:PlOk p pl.length) :∀f∈p.funs,∃t,gV p fl pl p.nodes.length f 1=some t:=by
 intro f hf;obtain⟨hp,hS,hC⟩ :=uI h.sm h.fo;obtain⟨f0,f1⟩ :=hp.funs f hf;refine aGj (R:=fun a sz=>0≤a∧ (fD p)[a.toNat]?=some sz) ?_ p.nodes.length f 1 ⟨f0,hS.root f hf⟩ (by omega);intro a sz ⟨ha,hz⟩;have hr:=aAd h.sm h.fo _ _ hz;have hlt:= (List.getElem?_eq_some_iff.1 hz).1;rw [hS.len]at hlt;have hsm:=hp.small;obtain⟨x,hx⟩ :∃x,p.nodes[a.toNat]?=some x:= ⟨_,List.getElem?_eq_getElem hlt⟩;obtain⟨r4,r14,rq⟩ :=aK8 h hx;have hks:= (hp.node _ _ hx).2.2;refine⟨ha,by omega,by omega,x,hx,?_,fun q hq=>?_,fun i c hc=>?_⟩
 · unfold hdT;by_cases h4:x.op=4
   · rw [if_pos h4];have:=r4 h4;have:=hpl.low;by_cases hn:x.n<0
     ·rw [if_pos hn,List.getElem?_eq_getElem (show(-1-x.n).toNat<fl.length by omega)];exact⟨_,rfl⟩
     ·rw [if_neg hn,List.getElem?_eq_getElem (show x.n.toNat<pl.length by omega)];exact⟨_,rfl⟩
   · rw [if_neg h4];by_cases h14:x.op=14
     · have:=r14 h14;rw [if_pos h14,if_pos this.1,List.getElem?_eq_getElem (show x.n.toNat<p.cons.length by omega)];exact⟨_,rfl⟩
     · rw [if_neg h14];by_cases h3:x.op=5∨x.op=27∨x.op=7
       · have:=hpl.own _ x sz hz hx h3;rw [if_pos h3,List.getElem?_eq_getElem (show sz.toNat<pl.length by omega)];exact⟨_,rfl⟩
       ·rw [if_neg h3];exact⟨_,rfl⟩
 · obtain⟨j,hj⟩ :=List.getElem?_of_mem hq;obtain⟨e15,hok,hl⟩ :=rq j q hj;have hjl:= (List.getElem?_eq_some_iff.1 hj).1;have:=hpl.kid _ x sz (j+1) hz hx (by omega);rw [aBG e15 (by omega) (q:=q) (by rw [show(((j+1:Nat) :Int) -1).toNat=j by omega];exact hj),aWL p.cons q hok]at this;exact⟨hok,this⟩
 · have hk:=hks c (List.mem_of_getElem? hc);obtain⟨s',e1,e2⟩ :=hS.kid a.toNat x i c hx hc;rw [hz]at e1;cases e1;exact⟨by omega,by omega,e2⟩
theorem aK9 {p:Prog}{f:Int}(hf:f∈p.funs) : (pre p p.nodes.length f).length≤ (uR p).length:=by
 unfold uR;have:∀ (l:List Int),f∈l→ (pre p p.nodes.length f).length≤ ((l.map (pre p p.nodes.length)).flatten).length:=by
  intro l
  induction l with
  |nil=>intro h;cases h
  | cons a l ih=>
   intro h;simp only [List.map_cons,List.flatten_cons,List.length_append];rcases List.mem_cons.1 h with e|h
   ·subst e;omega
   ·have:=ih h;omega
 exact this p.funs hf
mutual
theorem aGl {cl:List Con}{pl:List aE}:∀ (q:Pat) (k:Int) (r:Pat×Int),zX cl pl q k=some r→aP r.1=aP q
 | .mk f n _ ps,k,r,h=>by
  rw [zX]at h;split at h
  · split at h
    · rename_i r' hr;cases h;simp only [aP,aEN ps _ r' hr]
    ·cases h
  ·cases h
theorem aEN {cl:List Con}{pl:List aE}:∀ (ps:List Pat) (k:Int) (r:List Pat×Int),kN cl pl ps k=some r→aK r.1=aK ps
 | [],k,r,h=>by rw [kN]at h;cases h;rfl
 | p ::ps,k,r,h=>by
  rw [kN]at h;split at h
  · rename_i q hq;split at h
    · rename_i r' hr;cases h;simp only [aK,aGl p k q hq,aEN ps _ r' hr]
    ·cases h
  ·cases h
end
theorem aEO {cl:List Con}{pl:List aE}{sz:Int}:∀ {ps qs:List Pat},kO cl pl sz ps=some qs→aK qs=aK ps
 | [],qs,h=>by rw [kO]at h;cases h;rfl
 | p ::ps,qs,h=>by
  rw [kO]at h;split at h
  · rename_i q hq;split at h
    · rename_i r' hr;cases h;simp only [aK,aGl p sz q hq,aEO hr]
    ·cases h
  ·cases h
theorem aEP {g:Int→Int→Option Term}{x:Node}{sz:Int}{P:Int→List Int}(hg:∀c sz t,g c sz=some t→mY t≤121* (P c).length) :∀ {cs:List Int} {i:Nat} {ts:List Term},kP g x sz cs i=some ts→lK ts≤121* ((cs.map P).flatten).length
 | [],i,ts,h=>by rw [kP]at h;cases h;simp [lK]
 | c ::cs,i,ts,h=>by
  rw [kP]at h;split at h
  · rename_i t ht;split at h
    · rename_i ts' hts;cases h;have h1:=hg _ _ _ ht;have h2:=aEP (P:=P) hg hts;simp only [lK,List.map_cons,List.flatten_cons,List.length_append];omega
    ·cases h
  ·cases h
theorem aGm {p:Prog}(h:Fs p){fl pl:List aE}:∀ (d:Nat) (a sz:Int) (t:Term),gV p fl pl d a sz=some t→mY t≤121* (pre p d a).length
 |0,_,_,_,h0=>by rw [gV]at h0;cases h0
 | d + 1, a,sz,t,h0=>by
  rw [gV]at h0;split at h0
  · cases hx:p.nodes[a.toNat]? with
    |none=>rw [hx]at h0;cases h0
    | some x=>
     rw [hx]at h0;simp only at h0;split at h0
     · split at h0
       · rename_i qs hq;split at h0
         · rename_i ts hk;cases h0;have h1:=aEP (P:=pre p d) (aGm h d) hk;have h2:=aEO hq;have h3:aK x.pats≤12*x.pats.length:=aF7 (fun q hq=> ((h.fine.node _ x hx).1.pats q hq).1);have h4:= (h.node _ x hx).2;simp only [mY,pre,hx,List.length_cons];omega
         ·cases h0
       ·cases h0
     ·cases h0
  ·cases h0
theorem aRc {p:Prog}(h:Fs p){fl pl:List aE}{f:Int}(hf:f∈p.funs){sz:Int}{t:Term}(ht:gV p fl pl p.nodes.length f sz=some t) :mY t<1000000:=by
 have h1:=aGm h _ _ _ _ ht;have h2:=aK9 hf;have h4:=aW5 h.toFm;have h3:=h.fine.small;omega
theorem aW9 {p:Prog}(h:Fs p){fl:List aE}(hfl:fl.length=p.funs.length){n m:Nat}(hn:PlOk p n)(hm:PlOk p m) :∀f∈p.funs,∃t,
  gV p fl ((dW (p.funs.length+n)).drop p.funs.length) p.nodes.length f 1=some t∧gV p fl ((dW (p.funs.length+m)).drop p.funs.length) p.nodes.length f 1=some t:=by
 have hfs:=h.fine.fsmall
 have key:∀ {n m:Nat},n≤m→PlOk p n→PlOk p m→∀f∈p.funs,∃t,
   gV p fl ((dW (p.funs.length+n)).drop p.funs.length) p.nodes.length f 1=some t∧gV p fl ((dW (p.funs.length+m)).drop p.funs.length) p.nodes.length f 1=some t:=by
  intro n m hnm hn hm f hf;have b1:=hn.big;have b2:=hm.big;have hm2:=hm;obtain⟨t,ht⟩ :=aW8 h (fl:=fl) (pl:= (dW (p.funs.length+n)).drop p.funs.length) hfl (by rw [List.length_drop,gB _ (by omega),Nat.add_sub_cancel_left];exact hn) f hf;refine⟨t,ht,aGh (fun i s hs=>?_) _ _ _ _ ht⟩;rw [List.getElem?_drop]at hs ⊢;have hlt:= (List.getElem?_eq_some_iff.1 hs).1;rw [gB _ (by omega)]at hlt;rw [←hs];exact aEF (by omega) (by omega) (by omega) (by omega)
 rcases Nat.le_total n m with g|g
 ·exact key g hn hm
 · intro f hf;obtain⟨t,a,b⟩ :=key g hm hn f hf;exact⟨t,b,a⟩
end
end Go.Hb
namespace Go.Hb
open Go.Proofs
set_option maxHeartbeats 4000000
noncomputable section
def aBO (x:Node)(sz:Int) :Nat→Nat→Int→Int
 |_,0,m=>m
 |i,n+1,m=>aBO x sz (i+1) n (if sz+bJ x i>m then sz+bJ x i else m)
def yV (g:Int→Int→Int→Int)(x:Node)(sz:Int) :Nat→List Int→Int→Int
 |_,[],m=>m
 |j,k::ks,m=>yV g x sz (j+1) ks (g k (sz+bJ x j) m)
def jP (p:Prog) :Nat→Int→Int→Int→Int
 |0,_,_,m=>m
 | f+1,a,sz,m=>match p.nodes[a.toNat]? with
  |some x=>yV (jP p f) x sz 0 x.kids (aBO x sz 0 x.kids.length m)
  |none=>m
def qA (p:Prog) :List Int→Int→Int
 | [],m=>m
 |a::t,m=>qA p t (jP p p.nodes.length a 1 m)
theorem aIg (x:Node)(sz:Int) :∀ (n i:Nat) (m:Int),m≤aBO x sz i n m
 |0,_,m=>Int.le_refl _
 | n+1,i,m=>by
  rw [aBO];have:=aIg x sz n (i+1) (if sz+bJ x i>m then sz+bJ x i else m);have:m≤ (if sz+bJ x i>m then sz+bJ x i else m) :=by split<;>omega
  omega
theorem aLa (x:Node)(sz:Int) :∀ (n i:Nat) (m:Int) (j:Nat),i≤j→j<i+n→sz+bJ x j≤aBO x sz i n m
 |0,i,m,j,h1,h2=>by omega
 | n +1,i,m,j,h1,h2=>by
  rw [aBO];by_cases e:i=j
  · subst e;have:=aIg x sz n (i+1) (if sz+bJ x i>m then sz+bJ x i else m);have:sz+bJ x i≤ (if sz+bJ x i>m then sz+bJ x i else m) :=by split<;>omega
    omega
  ·exact aLa x sz n (i+1) _ j (by omega) (by omega)
theorem aO9 (x:Node)(sz b:Int) :∀ (n i:Nat) (m:Int),m≤b→ (∀j:Nat,i≤j→j<i+n→sz+bJ x j≤b) →aBO x sz i n m≤b
 |0,_,m,h,_=>h
 | n+1,i,m,h,hj=>by
  rw [aBO];refine aO9 x sz b n (i+1) _ ?_ (fun j h1 h2=>hj j (by omega) (by omega));split
  ·exact hj i (by omega) (by omega)
  ·exact h
theorem aFj {p:Prog}(hc:aOO p) :∀m,m<p.nodes.length→∃f∈p.funs,Reach p f.toNat m:=by
 intro m
 induction m using Nat.strongRecOn with
 | ind m ih=>
  intro hm;rcases hc m hm with⟨f,h1,h2⟩ | ⟨i,x,k,h1,h2,h3,h4⟩
  ·exact⟨f,h1,h2 ▸ Reach.refl _⟩
  · obtain⟨f,g1,g2⟩ :=ih i h4 (by omega);exact⟨f,g1,h3 ▸ g2.step h1 h2⟩
def KidLe (p:Prog)(b:Int)(P:Nat→Prop) :Prop:=∀ (c:Nat) (x:Node) (s:Int) (i:Nat),P c→ (fD p)[c]?=some s→p.nodes[c]?=some x→i<x.kids.length→s+bJ x i≤b
theorem KidLe.mono {p:Prog}{b b':Int}{P:Nat→Prop}(h:KidLe p b P)(hb:b≤b') :KidLe p b' P:=fun c x s i a1 a2 a3 a4=>by
 have:=h c x s i a1 a2 a3 a4;omega
theorem aEQ {p:Prog}(hp:FineP p)(hS:Sprop p (fD p)) :∀ (f a:Nat) (s m:Int),a<p.nodes.length→p.nodes.length-a≤f→ (fD p)[a]?=some s →
  m≤jP p f (a:Int) s m∧ (∀b,KidLe p b (fun _=>True) →m≤b→jP p f (a:Int) s m≤b) ∧KidLe p (jP p f (a:Int) s m) (Reach p a)
 |0,a,s,m,ha,hf,_=>by omega
 | f +1,a,s,m,ha,hf,hs=>by
  obtain⟨x,hx⟩ :∃x,p.nodes[a]?=some x:= ⟨_,List.getElem?_eq_getElem ha⟩;obtain⟨_,_,hks⟩ :=hp.node a x hx;have e:jP p (f+1) (a:Int) s m=yV (jP p f) x s 0 x.kids (aBO x s 0 x.kids.length m) :=by
   rw [jP];simp only [Int.toNat_natCast,hx]
  have fold:∀ (t:List Int) (j:Nat) (m:Int),x.kids.drop j=t →
    m≤yV (jP p f) x s j t m∧ (∀b,KidLe p b (fun _=>True) →m≤b→yV (jP p f) x s j t m≤b) ∧∀k∈t,KidLe p (yV (jP p f) x s j t m) (Reach p k.toNat) :=by
   intro t
   induction t with
   |nil=>intro j m _;exact⟨Int.le_refl _,fun b _ h=>h,fun k hk=> (by cases hk)⟩
   | cons k t ih=>
    intro j m h;obtain⟨g1,g2,g3⟩ :=bB h;have hk:=hks k (List.mem_of_getElem? g1);obtain⟨s',c1,c2⟩ :=hS.kid a x j k hx g1;rw [hs]at c1;cases c1;have hkn: ((k.toNat:Nat) :Int) =k:=by omega
    obtain⟨w1,w2,w3⟩ :=aEQ hp hS f k.toNat (s+bJ x j) m (by omega) (by omega) c2;rw [hkn]at w1 w2 w3;obtain⟨i1,i2,i3⟩ :=ih (j+1) (jP p f k (s+bJ x j) m) g2;rw [yV];refine⟨by omega,fun b hb hm=>i2 b hb (w2 b hb hm),fun q hq=>?_⟩;rcases List.mem_cons.1 hq with rfl|hq
    ·exact w3.mono i1
    ·exact i3 q hq
  obtain⟨f1,f2,f3⟩ :=fold x.kids 0 (aBO x s 0 x.kids.length m) rfl;have o1:=aIg x s x.kids.length 0 m;rw [e];refine⟨by omega,fun b hb hm=>f2 b hb (aO9 x s b _ 0 m hm (fun j _ hj=>hb a x s j trivial hs hx (by omega))),fun c y s' i hr h1 h2 h3=>?_⟩;rcases hr.first with rfl| ⟨y',k,g1,g2,g3⟩
  · rw [hs]at h1;cases h1;rw [hx]at h2;cases h2;have:=aLa x s x.kids.length 0 m i (by omega) (by omega);omega
  · rw [hx]at g1;cases g1;exact f3 k g2 c y s' i g3 h1 h2 h3
theorem aCr {p:Prog}(hp:FineP p)(hS:Sprop p (fD p)) :∀ (t:List Int) (m:Int),(∀f∈t,f∈p.funs) →
  m≤qA p t m∧ (∀b,KidLe p b (fun _=>True) →m≤b→qA p t m≤b) ∧∀k∈t,KidLe p (qA p t m) (Reach p k.toNat)
 | [],m,_=> ⟨Int.le_refl _,fun b _ h=>h,fun k hk=> (by cases hk)⟩
 | a::t,m,ht=>by
  have ha:=hp.funs a (ht a (List.mem_cons_self ..));have han: ((a.toNat:Nat) :Int) =a:=by omega
  obtain⟨w1,w2,w3⟩ :=aEQ hp hS p.nodes.length a.toNat 1 m (by omega) (by omega) (hS.root a (ht a (List.mem_cons_self ..)));rw [han]at w1 w2 w3;obtain⟨i1,i2,i3⟩ :=aCr hp hS t (jP p p.nodes.length a 1 m) (fun f hf=>ht f (List.mem_cons_of_mem _ hf));rw [qA];refine⟨by omega,fun b hb hm=>i2 b hb (w2 b hb hm),fun q hq=>?_⟩;rcases List.mem_cons.1 hq with rfl|hq
  ·exact w3.mono i1
  ·exact i3 q hq
def sM (p:Prog) :Int:=qA p p.funs 30
theorem aBP {p:Prog}(h:Fs p) :30≤sM p∧sM p≤5000∧PlOk p ((sM p).toNat+1) :=by
 obtain⟨hp,hS,hC⟩ :=uI h.sm h.fo;obtain⟨w1,w2,w3⟩ :=aCr hp hS p.funs 30 (fun f hf=>hf);have e:qA p p.funs 30=sM p:=rfl;rw [e]at w1 w2 w3
 have hb:=w2 5000 (fun c x s i _ h1 h2 h3=>by
  have:=aAd h.sm h.fo c s h1;have:=sH (hp.node c x h2).1 (i:Int);have:= (List.getElem?_eq_some_iff.1 h2).1;have:=hp.small;omega) (by omega)
 have hk:∀ (a:Nat) (x:Node) (sz:Int) (i:Nat),(fD p)[a]?=some sz→p.nodes[a]?=some x→i<x.kids.length→sz+bJ x i≤sM p:=fun a x sz i h1 h2 h3=>by
  obtain⟨f,g1,g2⟩ :=aFj hC a (List.getElem?_eq_some_iff.1 h2).1;exact w3 f g1 a x sz i g2 h1 h2 h3
 refine⟨w1,hb,by omega,by omega,fun a x sz i h1 h2 h3=>?_,fun a x sz h1 h2 h3=>?_⟩
 · have:=hk a x sz i h1 h2 h3;omega
 · have hn:= (h.node a x h2).1;simp only [cO,Bool.and_eq_true,decide_eq_true_eq]at hn;obtain⟨_,hkn⟩ :=hn;rcases h3 with g|g|g
   · have:x.kids.length=1:=by rw [g]at hkn;simp [dH]at hkn;omega
     have:=hk a x sz 0 h1 h2 (by omega);simp [bJ,g]at this;omega
   · have:x.kids.length=1:=by rw [g]at hkn;simp [dH]at hkn;omega
     have:=hk a x sz 0 h1 h2 (by omega);simp [bJ,g]at this;omega
   · have:= (hp.node a x h2).1.let2 g;have:=hk a x sz 1 h1 h2 (by omega);simp [bJ,g]at this;omega
end
end Go.Hb
namespace Go.Hb
open Go.Proofs
noncomputable section
open Go.Proofs Tryz
def bFH(a:Prog):TS:=bW PP 78 [(Prog.av a)] [] 0
def aIh(a:Prog)(b c:Int):TS:=⟨(tf 153 23 [kp 3 0,(9,(iI a.funs)),(10,(nI (a.funs.length:Int))),(11,(nI b))] [kc f153 124,kl f153 124,.inBlock 0]),[(tf 78 49 [kp 1 1,kp 2 2,kp 3 3] [.inRF 4,.inBlock 0,kc f78 15] (defers:=[.col 5]))],[oC 0 [(.func 154 [] [(.ptr 6 0),(.ptr 7 0),(.ptr 0 0)])],oC 1 [(iN a.nodes),(iI a.funs),(nI a.main),(iC a.cons)],oC 2 [.nils,.nils,(nI 0),.nils,.nils,.nils],oC 3 [(nI c)],(4,(.loop .ready none 78 (yC [kp 1 1,kp 3 3]) 49 [10] (kd f78 116) (kd f78 117) 5),false),(5,(.defd false),false),oC 6 [(.yield 4)],oC 7 [(iN a.nodes),(iI a.funs),(nI a.main),(iC a.cons)]],8⟩
def aLb(a:Prog)(b c d e:Int):TS:=bW PP 154 [(.agg [(nI c),(nI d),(nI e)]),(.ptr 6 0),(.ptr 7 0),(.ptr 0 0)] [oC 0 [(.func 154 [] [(.ptr 6 0),(.ptr 7 0),(.ptr 0 0)])],oC 1 [(iN a.nodes),(iI a.funs),(nI a.main),(iC a.cons)],oC 2 [.nils,.nils,(nI 0),.nils,.nils,.nils],oC 3 [(nI b)],(4,(.loop .ready none 78 (yC [kp 1 1,kp 3 3]) 49 [10] (kd f78 116) (kd f78 117) 5),false),(5,(.defd false),false),oC 6 [(.yield 4)],oC 7 [(iN a.nodes),(iI a.funs),(nI a.main),(iC a.cons)]] 8
def aIi(a:Prog)(i b c d e f g:Int):TS:=⟨(tf 78 49 [kp 1 1,kp 3 3,kp 4 8,(19,(nI e)),(20,(nI f))] [kc f78 1876,kl f78 1876,.inBlock 2,.inBlock 1] (roundOf:=some 4)),[(tf 154 46 [kp 2 7,kp 3 0,kp 4 9,(5,(bV false)),(8,(.yield 4)),(9,(.agg [(nI b),(nI c),(nI d)]))] [ko f154 12 2,kc f154 13,kc f154 7])],[oC 0 [(.func 154 [] [(.ptr 6 0),(.ptr 7 0),(.ptr 0 0)])],oC 1 [(iN a.nodes),(iI a.funs),(nI a.main),(iC a.cons)],oC 2 [.nils,.nils,(nI 0),.nils,.nils,.nils],oC 3 [(nI g)],(4,(.loop .busy none 78 (yC [kp 1 1,kp 3 3]) 49 [10] (kd f78 116) (kd f78 117) 5),false),(5,(.defd false),false),oC 6 [(.yield 4)],oC 7 [(iN a.nodes),(iI a.funs),(nI a.main),(iC a.cons)],oC 8 [(nI b),(nI c),(nI d)],oC 9 [(nI b),(nI c),(nI d)]],10⟩
def aER(a:Prog)(j b c d:Int)(e:List Int)(f g i:Int):TS:=⟨(tf 154 46 [kp 2 7,kp 3 0,kp 4 8,(5,(bV false)),(19,(iI e)),(20,(nI f)),(21,(nI i))] [kc f154 116,kl f154 116,.inBlock 0,kc f154 15]),[],[oC 0 [(.func 154 [] [(.ptr 6 0),(.ptr 7 0),(.ptr 0 0)])],oC 1 [(iN a.nodes),(iI a.funs),(nI a.main),(iC a.cons)],oC 2 [.nils,.nils,(nI 0),.nils,.nils,.nils],oC 3 [(nI g)],(4,(.loop .ready none 78 (yC [kp 1 1,kp 3 3]) 49 [10] (kd f78 116) (kd f78 117) 5),false),(5,(.defd false),false),oC 6 [(.yield 4)],oC 7 [(iN a.nodes),(iI a.funs),(nI a.main),(iC a.cons)],oC 8 [(nI b),(nI c),(nI d)]],9⟩
def bDC (a:Prog):=(tT 0 (bFH a)<|.i [rn 30,.lkeep 5 [1,3]] []<|gl 18 dF a.funs<|.W 4 8 [7,0,1,2,5,4,6,3] (aIh a 0 30)) tv
def bFI(a:Prog)(b c:Int):=tT 0 (aIh a b c)<|gd 5 12 (b< (a.funs.length:Int)) (gX dF 7 a.funs b<|fun d=>.y fun e:Int=>gk 10 (.enter 154 [(.agg [(nI d),(nI b),(nI 1)]),(.ptr 6 0),(.ptr 7 0),(.ptr 0 0)]) [oC 0 [(.func 154 [] [(.ptr 6 0),(.ptr 7 0),(.ptr 0 0)])],oC 1 [(iN a.nodes),(iI a.funs),(nI a.main),(iC a.cons)],oC 2 [.nils,.nils,(nI 0),.nils,.nils,.nils],oC 3 [(nI c)],(4,(.loop .ready none 78 (yC [kp 1 1,kp 3 3]) 49 [10] (kd f78 116) (kd f78 117) 5),false),(5,(.defd false),false),oC 6 [(.yield 4)],oC 7 [(iN a.nodes),(iI a.funs),(nI a.main),(iC a.cons)]] 8 (bV true) [oC 0 [(.func 154 [] [(.ptr 6 0),(.ptr 7 0),(.ptr 0 0)])],oC 1 [(iN a.nodes),(iI a.funs),(nI a.main),(iC a.cons)],oC 2 [.nils,.nils,(nI 0),.nils,.nils,.nils],oC 3 [(nI e)],(4,(.loop .ready none 78 (yC [kp 1 1,kp 3 3]) 49 [10] (kd f78 116) (kd f78 117) 5),false),(5,(.defd false),false),oC 6 [(.yield 4)],oC 7 [(iN a.nodes),(iI a.funs),(nI a.main),(iC a.cons)]] 8<|gw 7 22 (b+1)<|.W 3 8 [0,1,2,3,4,5,6,7] (aIh a (b+1) e))<|gw 11 41 (c+1)<|.y fun d:List aE=>.y fun f:List aE=>gp 0 142 [(Prog.av a),(nI (c+1))] (.tup [(iS d),(iS f)])<|gE 16 8 (.agg [(iN a.nodes),(iI a.funs),(nI a.main),(iC a.cons),(iS d),(iS f)])
def bDD:=fun a b c d e f g i j k=>bFI a b c|>.t f d g i e j k tv
def bDE:=fun a b c d e f g i=>bFI a b c|>.f f g d e i tv
def bDF (b:Prog)(c d e f:Int):=fun a g i=>(tT 8 (aLb b c d e f)<|gX Node.av 24 b.nodes d<|fun a=>gl 2 dF a.kids<|.W 4 10 [9,8] (aIi b c d e f (a.kids.length:Int) 0 c)) a g i tv
def bFJ(e:Prog)(i c j a k f d:Int):=tT 8 (aIi e i c j a k f d)<|gd 5 21 (f<k) (.y fun b:Node=>.y fun g:Int=>.i [rn 9,.reg (rd 8 (.ans (.idx (Node.av b))::.d::.d::.pure (nI g)::rd 3 []))] [hA (0≤c),.a (((e.nodes)[c.toNat]?) =some b) (cN (f:=Node.av)),hA (Pure PP 141 [(Node.av b),(nI f)] (nI g)),hr (nI a),hr (nI a),hr (nI d),hr (nI d)]<|gw 3 37 (f+1)<|.W 3 10 [8,9] (aIi e i c j a k (f+1) (if(IntKind.i64.wrap (a+g)) >d then(IntKind.i64.wrap (a+g))else d)))<|gX Node.av 16 e.nodes c<|fun b=>gl 2 dF b.kids<|.W 4 10 [9] (aER e i c j a b.kids (b.kids.length:Int) d 0)
def bDG:=fun a b c d e f g i j k l m n o p=>bFJ a b c d e f g i|>.t l j k m n o p tv
def bDH:=fun a b c d e f g i j k l m=>bFJ a b c d e f g i|>.f k j l m tv
def bFK(a:Prog)(m d b c:Int)(f:List Int)(g i e:Int):=tT 8 (aER a m d b c f g i e)<|gd 5 22 (e<g) (gX dF 7 f e<|fun n=>.y fun j:Node=>.y fun k:Int=>.y fun l:Int=>.i [rn 5,.reg (rd 11 [.ans (.idx (Node.av j)),.d,.d,.pure (nI k),.d,.d,.call (bV true) (aG [oC 0 [(.func 154 [] [(.ptr 6 0),(.ptr 7 0),(.ptr 0 0)])],oC 1 [(iN a.nodes),(iI a.funs),(nI a.main),(iC a.cons)],oC 2 [.nils,.nils,(nI 0),.nils,.nils,.nils],oC 3 [(nI l)],(4,(.loop .ready none 78 (yC [kp 1 1,kp 3 3]) 49 [10] (kd f78 116) (kd f78 117) 5),false),(5,(.defd false),false),oC 6 [(.yield 4)],oC 7 [(iN a.nodes),(iI a.funs),(nI a.main),(iC a.cons)],oC 8 [(nI d),(nI b),(nI c)]] 9),.d])] [hA (0≤d),.a (((a.nodes)[d.toNat]?) =some j) (cN (f:=Node.av)),hA (Pure PP 141 [(Node.av j),(nI e)] (nI k)),hA (Spec PP (.enter 154 [(.agg [(nI n),(nI b),(nI (IntKind.i64.wrap (c+k)))]),(.ptr 6 0),(.ptr 7 0),(.ptr 0 0)]) (aG [oC 0 [(.func 154 [] [(.ptr 6 0),(.ptr 7 0),(.ptr 0 0)])],oC 1 [(iN a.nodes),(iI a.funs),(nI a.main),(iC a.cons)],oC 2 [.nils,.nils,(nI 0),.nils,.nils,.nils],oC 3 [(nI i)],(4,(.loop .ready none 78 (yC [kp 1 1,kp 3 3]) 49 [10] (kd f78 116) (kd f78 117) 5),false),(5,(.defd false),false),oC 6 [(.yield 4)],oC 7 [(iN a.nodes),(iI a.funs),(nI a.main),(iC a.cons)],oC 8 [(nI d),(nI b),(nI c)]] 9) (.ret (bV true)) (aG [oC 0 [(.func 154 [] [(.ptr 6 0),(.ptr 7 0),(.ptr 0 0)])],oC 1 [(iN a.nodes),(iI a.funs),(nI a.main),(iC a.cons)],oC 2 [.nils,.nils,(nI 0),.nils,.nils,.nils],oC 3 [(nI l)],(4,(.loop .ready none 78 (yC [kp 1 1,kp 3 3]) 49 [10] (kd f78 116) (kd f78 117) 5),false),(5,(.defd false),false),oC 6 [(.yield 4)],oC 7 [(iN a.nodes),(iI a.funs),(nI a.main),(iC a.cons)],oC 8 [(nI d),(nI b),(nI c)]] 9)),hr (nI c),hr (nI c),hr (nI b),hr (nI b),hr (AV.func 154 [] [(.ptr 6 0),(.ptr 7 0),(.ptr 0 0)]),hr (AV.func 154 [] [(.ptr 6 0),(.ptr 7 0),(.ptr 0 0)])]<|gw 5 45 (e+1)<|.W 3 9 [8] (aER a m d b c f g l (e+1)))<|.E 7 9 [] (bV true) [oC 0 [(.func 154 [] [(.ptr 6 0),(.ptr 7 0),(.ptr 0 0)])],oC 1 [(iN a.nodes),(iI a.funs),(nI a.main),(iC a.cons)],oC 2 [.nils,.nils,(nI 0),.nils,.nils,.nils],oC 3 [(nI i)],(4,(.loop .ready none 78 (yC [kp 1 1,kp 3 3]) 49 [10] (kd f78 116) (kd f78 117) 5),false),(5,(.defd false),false),oC 6 [(.yield 4)],oC 7 [(iN a.nodes),(iI a.funs),(nI a.main),(iC a.cons)]] 8
def bDI:=fun a b c d e f g i j k l m n o p q r s t u v=>bFK a b c d e f g i j|>.t o k p q l m n r s t u v tv
def bDJ:=fun a b c d e f g i j k=>bFK a b c d e f g i j|>.f k tv
end
end Go.Hb
