/-
  OWN WORK (V72, V73, V30, H8, H9, V31, V32, V33, H10, V34, H13, V39, H24, V74, V8b, H25, H26, V82, V83): a machine on abstract values, its soundness, ways through the text (the ways WRITTEN BY A PROGRAM), plain laws.
-/
import Derived.Test.YtabmpnmmkeieiaaGreatHF
import Derived.Test.YtabmpnmmkeieiaaGreatHG
import Derived.Test.YtabmpnmmkeieiaaGreatHI
set_option linter.unusedVariables false
set_option linter.unusedSimpArgs false
set_option linter.unusedSectionVars false
set_option maxRecDepth 100000
namespace Go.Hb
open Go.Proofs
set_option maxHeartbeats 2000000
noncomputable section
abbrev MB (m:List (Int×Bool)) :AObj:=.map (aG aB eH 0 m) (List.length m)
theorem aAY (m:List (Int×Bool)) : (MB m).kl:=aC (fun _=>rfl) (fun _=>rfl) _ _ _
abbrev aCW (a fn sz:Int) :List AV:=[aM7 a fn sz,.ptr 11 0,.ptr 12 0,.ptr 4 0]
section
variable (p :Prog) (mf mc:List (Int×Int)) (ml:List (Int×Bool))
def zI (a fn sz:Int)(s s':List Int×Int) :Prop:=Spec PP (.enter 154 (aCW a fn sz)) (aA (HTA p mf mc ml s.1 s.2) 15) (.ret (.bool true)) (aA (HTA p mf mc ml s'.1 s'.2) 15)
variable {p mf mc ml}
theorem aEf {s s':List Int×Int}{a fn sz b gn tz:Int}(h:zI p mf mc ml a fn sz s s') :
  Spec PP (.enter 154 (aCW a fn sz)) (aA (HTA p mf mc ml s.1 s.2++boxS 15 b gn tz) 16) (.ret (.bool true)) (aA (HTA p mf mc ml s'.1 s'.2++boxS 15 b gn tz) 16) :=
 pG h (by kernel_rfl) (by rfl) (by rfl) (by kernel_rfl) (by kernel_rfl) ⟨cT mf,cT mc,aAY ml,aD _ (fun _=>rfl) _,trivial⟩ (by kernel_rfl) (by kernel_rfl) (by kernel_rfl)
theorem aNc {l:List Int}{n a fn sz:Int}{s':List Int×Int}(h:Ends PP 15 (aM9 p mf mc ml l n a fn sz).as (.ret (.bool true)) (aA (HTA p mf mc ml s'.1 s'.2) 15)) :zI p mf mc ml a fn sz (l,n) s':=
 ⟨(aM9 p mf mc ml l n a fn sz).as.fr,by kernel_rfl,Eq.mp (by kernel_rfl) h⟩
theorem aGa (hp:FineP p){f:Nat}{a fn sz:Int}(l0:List Int)(n0:Int){x:Node}(ha:0≤a)(hx:p.nodes[a.toNat]?=some x)(hs0:0≤sz)(hs:sz≤1000* (a+1))
  (ih:∀ (k tz:Int) (s s':List Int×Int),a<k→k<p.nodes.length→s.1.length=p.nodes.length→0≤tz→tz≤1000* (k+1) →wA p f k s=some s'→zI p mf mc ml k fn tz s s') :
  ∀ (t:List Int) (j:Nat) (s s':List Int×Int),s.1.length=p.nodes.length→x.kids.drop j=t→wAs (wA p f) t s=some s'→Ends PP 15 (aAV p mf mc ml l0 n0 a fn sz x.kids ((List.length x.kids:Nat) :Int) (j:Int) s.1 s.2).as (.ret (.bool true)) (aA (HTA p mf mc ml s'.1 s'.2) 15)
 | [],j,s,s',hl,h,hw=>by
  have:=cD h
  cases hw
  exact aR0 p mf mc ml l0 n0 a fn sz x.kids _ j s.1 s.2 sd
 | k ::t,j,s,s',hl,h,hw=>by
  obtain⟨g1,g2,g3⟩ :=cA h
  obtain⟨hf,hk10,hks⟩ :=hp.node _ _ hx
  have hk:=hks k (List.mem_of_getElem? g1)
  have hb:=pM hf (j:Int)
  have hn:=hp.small
  have ew:IntKind.i64.wrap (sz+dF x j) =sz+dF x j:=wrap64 (by omega) (by omega)
  simp only [wAs]at hw
  split at hw
  · rename_i s1 h1
    have hsp:Spec PP (.enter 154 (aCW k fn (IntKind.i64.wrap (sz+dF x j)))) (aA (HTA p mf mc ml s.1 s.2++boxS 15 a fn sz) 16) (.ret (.bool true)) (aA (HTA p mf mc ml s1.1 s1.2++boxS 15 a fn sz) 16) :=by
     rw [ew]
     exact aEf (ih k (sz+dF x j) s s1 (by omega) (by omega) hl (by omega) (by omega) h1)
    have hstep:=aRZ p mf mc ml l0 n0 a fn sz x.kids ((List.length x.kids:Nat) :Int) j s.1 s.2 k x _ s1.1 s1.2 sd sd sd ha hx (jL hf (by omega) (by omega) hk10) hsp sd
    exact hstep.ends (aGa hp l0 n0 ha hx hs0 hs ih t (j+1) s1 s' (by rw [aM8 p f k s s1 h1,hl]) g2 hw)
  ·cases hw
theorem aGb (hp:FineP p)(fn:Int)(hT:bF fn ml=some true) :∀ (f:Nat) (a sz:Int) (s s':List Int×Int),0≤a→a<p.nodes.length→s.1.length=p.nodes.length→0≤sz→sz≤1000* (a+1) →wA p f a s=some s'→zI p mf mc ml a fn sz s s'
 |0,a,sz,s,s',ha,hn,hl,_,_,h=>by cases h
 | f + 1,a,sz,(l,n),s',ha,hn,hl,h0,h1,h=>by
  have hl:l.length=p.nodes.length:=hl
  simp only [wA]at h
  split at h
  · rename_i hr
    split at h
    · rename_i x hx
      obtain⟨y,hy⟩ :∃y,l[a.toNat]?=some y:= ⟨_,List.getElem?_eq_getElem (by omega)⟩
      refine aNc ?_
      refine(aRY p mf mc ml l n a fn sz y x hT ha hn hy sd hx).ends ?_
      exact aGa hp l n ha hx h0 h1 (fun k tz s s' hk hkn hl ht0 ht hw=>aGb hp fn hT f k tz s s' (by omega) hkn hl ht0 ht hw) x.kids 0 (l.set a.toNat n,n+1) s' (by simpa using hl) rfl h
    ·cases h
  ·cases h
theorem aNd {l:List Int}{n a fn sz:Int}{s':List Int×Int}(h:Ends PP 15 (aNa p mf mc ml l n a fn sz).as (.ret (.bool true)) (aA (HTA p mf mc ml s'.1 s'.2) 15)) :zI p mf mc ml a fn sz (l,n) s':=
 ⟨(aNa p mf mc ml l n a fn sz).as.fr,by kernel_rfl,Eq.mp (by kernel_rfl) h⟩
theorem aGc (hp:FineP p){f:Nat}{a fn sz:Int}(l:List Int)(n:Int){x:Node}(ha:0≤a)(hx:p.nodes[a.toNat]?=some x)(hs0:0≤sz)(hs:sz≤1000* (a+1))
  (ih:∀ (k tz:Int),a<k→k<p.nodes.length→0≤tz→tz≤1000* (k+1) →p.nodes.length-k.toNat≤f→zI p mf mc ml k fn tz (l,n) (l,n)) (hf':p.nodes.length-a.toNat≤f+1) :
  ∀ (t:List Int) (j:Nat),x.kids.drop j=t→Ends PP 15 (aAW p mf mc ml l n a fn sz x.kids ((List.length x.kids:Nat) :Int) (j:Int)).as (.ret (.bool true)) (aA (HTA p mf mc ml l n) 15)
 | [],j,h=>by
  have:=cD h
  exact aR3 p mf mc ml l n a fn sz x.kids _ j sd
 | k::t,j,h=>by
  obtain⟨g1,g2,g3⟩ :=cA h
  obtain⟨hf,hk10,hks⟩ :=hp.node _ _ hx
  have hk:=hks k (List.mem_of_getElem? g1)
  have hb:=pM hf (j:Int)
  have hn:=hp.small
  have ew:IntKind.i64.wrap (sz+dF x j) =sz+dF x j:=wrap64 (by omega) (by omega)
  have hsp:Spec PP (.enter 154 (aCW k fn (IntKind.i64.wrap (sz+dF x j)))) (aA (HTA p mf mc ml l n++boxS 15 a fn sz) 16) (.ret (.bool true)) (aA (HTA p mf mc ml l n++boxS 15 a fn sz) 16) :=by
   rw [ew]
   exact aEf (s:= (l,n)) (s':= (l,n)) (ih k (sz+dF x j) (by omega) (by omega) (by omega) (by omega) (by omega))
  have hstep:=aR2 p mf mc ml l n a fn sz x.kids ((List.length x.kids:Nat) :Int) j k x _ sd sd sd ha hx (jL hf (by omega) (by omega) hk10) hsp sd
  exact hstep.ends (aGc hp l n ha hx hs0 hs ih hf' t (j+1) g2)
theorem aGd (hp:FineP p)(fn:Int)(hN:bF fn ml=none) :∀ (f:Nat) (a sz:Int) (s:List Int×Int),0≤a→a<p.nodes.length→p.nodes.length-a.toNat≤f→0≤sz→sz≤1000* (a+1) →zI p mf mc ml a fn sz s s
 |0,a,sz,s,ha,hn,hf,_,_=>by omega
 | f+1,a,sz,(l,n),ha,hn,hf,h0,h1=>by
  obtain⟨x,hx⟩ :∃x,p.nodes[a.toNat]?=some x:= ⟨_,List.getElem?_eq_getElem (by omega)⟩
  refine aNd ?_
  refine(aR1 p mf mc ml l n a fn sz x hN ha hx).ends ?_
  exact aGc hp (f:=f) l n ha hx h0 h1 (fun k tz hk hkn ht0 ht hkf=>aGd hp fn hN f k tz (l,n) (by omega) hkn hkf ht0 ht) hf x.kids 0 rfl
end
abbrev aCX (a fn sz:Int) :List AV:=[aM7 a fn sz,.ptr 12 0,.ptr 13 0,.ptr 4 0]
section
variable (p :Prog) (mf mc:List (Int×Int)) (ml:List (Int×Bool)) (to:List Int)
def aH6 (a fn sz:Int)(l l':List Node) :Prop:=aI7 PP 17 (.enter 154 (aCX a fn sz)) (aA (HTB p mf mc ml to l) 17) (.ret (.bool true)) (aA (aWI p mf mc ml to l') 18)
variable {p mf mc ml to}
theorem aNe {l l':List Node}{a fn sz:Int}(h:Ends PP 17 (vX p mf mc ml to l a fn sz).as (.ret (.bool true)) (aA (aWI p mf mc ml to l') 18)) :aH6 p mf mc ml to a fn sz l l':=
 ⟨(vX p mf mc ml to l a fn sz).as.fr,by kernel_rfl,Eq.mp (by kernel_rfl) h⟩
theorem aGe (hp:FineP p){f:Nat}{a fn sz:Int}(l0:List Node){x:Node}(ha:0≤a)(hx:p.nodes[a.toNat]?=some x)(hs0:0≤sz)(hs:sz≤1000* (a+1))(hto:to.length=p.nodes.length)
  (ih:∀ (k tz:Int) (l:List Node),a<k→k<p.nodes.length→0≤tz→tz≤1000* (k+1) →l.length+ (wB p mf mc to f k).length≤1000000→aH6 p mf mc ml to k fn tz l (l++wB p mf mc to f k)) :
  ∀ (t:List Int) (j:Nat) (l:List Node),x.kids.drop j=t→l.length+ ((t.map (wB p mf mc to f)).flatten).length≤1000000→Ends PP 17 (nJ p mf mc ml to l0 a fn sz x.kids ((List.length x.kids:Nat) :Int) l (j:Int)).as (.ret (.bool true)) (aA (aWI p mf mc ml to (l++ (t.map (wB p mf mc to f)).flatten)) 18)
 | [],j,l,h,hb=>by
  have:=cD h
  rw [List.map_nil,List.flatten_nil,List.append_nil]
  exact aSb p mf mc ml to l0 a fn sz x.kids _ l j sd
 | k ::t,j,l,h,hlen=>by
  obtain⟨g1,g2,g3⟩ :=cA h
  obtain⟨hf,hk10,hks⟩ :=hp.node _ _ hx
  have hk:=hks k (List.mem_of_getElem? g1)
  have hb:=pM hf (j:Int)
  have hn:=hp.small
  have ew:IntKind.i64.wrap (sz+dF x j) =sz+dF x j:=wrap64 (by omega) (by omega)
  simp only [List.map_cons,List.flatten_cons,List.length_append]at hlen
  have hw:aH6 p mf mc ml to k fn (IntKind.i64.wrap (sz+dF x j)) l (l++wB p mf mc to f k) :=by
   rw [ew]
   exact ih k (sz+dF x j) l (by omega) (by omega) (by omega) (by omega) (by omega)
  have hstep:=aSa p mf mc ml to l0 a fn sz x.kids ((List.length x.kids:Nat) :Int) l j k x _ (wB p mf mc to f k) sd sd sd ha hx (jL hf (by omega) (by omega) hk10)
   (rT (m:=17) (ks:=[0,1,2,3,4,5,6,7,8,9,10,11,12,13,14,18,16]) hw (by rfl) (by rfl) (by kernel_rfl) (by rfl) (by rfl) (by kernel_rfl) (by kernel_rfl)
    ⟨cT mf,cT mc,aAY ml,aD _ (fun _=>rfl) _,aD _ (fun _=>rfl) _,trivial⟩ (by kernel_rfl) ⟨cT mf,cT mc,aAY ml,aD _ (fun _=>rfl) _,aD _ (fun _=>rfl) _,trivial⟩
    (by kernel_rfl) (by kernel_rfl) (by kernel_rfl) (by kernel_rfl) (by kernel_rfl) (by kernel_rfl) (by kernel_rfl)) sd
  have h2:=aGe hp l0 ha hx hs0 hs hto ih t (j+1) (l++wB p mf mc to f k) g2 (by rw [List.length_append];omega)
  rw [List.map_cons,List.flatten_cons,←List.append_assoc]
  exact hstep.ends h2
theorem aGf (hp:FineP p)(hok:∀ (i:Nat) (x:Node),p.nodes[i]?=some x→nOk mf x)(hto:to.length=p.nodes.length)(fn:Int)(hT:bF fn ml=some true) :∀ (f:Nat) (a sz:Int) (l:List Node),0≤a→a<p.nodes.length→p.nodes.length-a.toNat≤f→0≤sz→sz≤1000* (a+1) →l.length+ (wB p mf mc to f a).length≤1000000→aH6 p mf mc ml to a fn sz l (l++wB p mf mc to f a)
 |0,a,sz,l,ha,hn,hf,_,_,_=>by omega
 | f + 1,a,sz,l,ha,hn,hf,h0,h1,hb=>by
  obtain⟨x,hx⟩ :∃x,p.nodes[a.toNat]?=some x:= ⟨_,List.getElem?_eq_getElem (by omega)⟩
  obtain⟨hfx,hk10,hks⟩ :=hp.node _ _ hx
  obtain⟨hps,hnn⟩ :=hok _ _ hx
  have e:wB p mf mc to (f+1) a=cU mf mc to x:: (x.kids.map (wB p mf mc to f)).flatten:=by rw [wB,hx]
  rw [e]at hb ⊢
  simp only [List.length_cons]at hb
  have hC:=aGe (mf:=mf) (mc:=mc) (ml:=ml) (to:=to) (fn:=fn) hp (f:=f) l ha hx h0 h1 hto (fun k tz l hk hkn ht0 ht hl=>aGf hp hok hto fn hT f k tz l (by omega) hkn (by omega) ht0 ht hl) x.kids 0 (l++ [cU mf mc to x]) rfl (by simp only [List.length_append,List.length_cons,List.length_nil];omega)
  rw [List.append_assoc,List.singleton_append]at hC
  have hI:=aO9 x.kids to p.nodes.length (by omega) hto (fun k hk=>by have:=hks k hk;omega)
  have hM:=aO8 mf mc x.pats hps
  have hlen:∀y:Node,List.length (l++ [y]) ≤1000000:=fun y=>by rw [List.length_append];simp only [List.length_cons,List.length_nil];omega
  refine aNe ?_
  by_cases h4:x.op=4
  · by_cases hN:0≤x.n
    · have eN:cU mf mc to x= ⟨x.op,x.n,x.kids.map (cB to),bS mc x.pats⟩ :=by unfold cU bN;rw [if_pos h4,if_pos hN]
      rw [eN]at hC ⊢
      exact(aR4 p mf mc ml to l a fn sz x _ _ hT ha hx (by simp [h4]) (by simp;omega) (fS (ks:=[7,14]) hI (by kernel_rfl) rfl (by kernel_rfl) (by kernel_rfl) ⟨aD _ (fun _=>rfl) _,trivial⟩ (by kernel_rfl) ⟨aD _ (fun _=>rfl) _,trivial⟩ (by kernel_rfl) (by kernel_rfl) (by kernel_rfl) (by kernel_rfl) (by kernel_rfl) (by kernel_rfl) (by kernel_rfl) (by kernel_rfl)) (fS (ks:=[0,1,16]) hM (by kernel_rfl) rfl (by kernel_rfl) (by kernel_rfl) ⟨cT mf,cT mc,trivial⟩ (by kernel_rfl) ⟨cT mf,cT mc,trivial⟩ (by kernel_rfl) (by kernel_rfl) (by kernel_rfl) (by kernel_rfl) (by kernel_rfl) (by kernel_rfl) (by kernel_rfl) (by kernel_rfl)) (hlen _)).ends hC
    · obtain⟨r1,r2,r3⟩ :=hnn h4 (by omega)
      cases hm:bF (-1-x.n) mf with
      | some y=>
       have em:eX mf (-1-x.n) =y:=by unfold eX;rw [hm];rfl
       have eN:cU mf mc to x= ⟨x.op,-1-y,x.kids.map (cB to),bS mc x.pats⟩ :=by unfold cU bN;rw [if_pos h4,if_neg hN,em]
       rw [em]at r2 r3
       rw [eN]at hC ⊢
       exact(aR5 p mf mc ml to l a fn sz x y _ _ hT ha hx (by simp [h4]) (by simp;omega) sd hm sd (fS (ks:=[7,14]) hI (by kernel_rfl) rfl (by kernel_rfl) (by kernel_rfl) ⟨aD _ (fun _=>rfl) _,trivial⟩ (by kernel_rfl) ⟨aD _ (fun _=>rfl) _,trivial⟩ (by kernel_rfl) (by kernel_rfl) (by kernel_rfl) (by kernel_rfl) (by kernel_rfl) (by kernel_rfl) (by kernel_rfl) (by kernel_rfl)) (fS (ks:=[0,1,16]) hM (by kernel_rfl) rfl (by kernel_rfl) (by kernel_rfl) ⟨cT mf,cT mc,trivial⟩ (by kernel_rfl) ⟨cT mf,cT mc,trivial⟩ (by kernel_rfl) (by kernel_rfl) (by kernel_rfl) (by kernel_rfl) (by kernel_rfl) (by kernel_rfl) (by kernel_rfl) (by kernel_rfl)) (hlen _)).ends hC
      | none=>
       have em:eX mf (-1-x.n) =0:=by unfold eX;rw [hm];rfl
       have eN:cU mf mc to x= ⟨x.op,-1,x.kids.map (cB to),bS mc x.pats⟩ :=by unfold cU bN;rw [if_pos h4,if_neg hN,em];rfl
       rw [eN]at hC ⊢
       exact(aR6 p mf mc ml to l a fn sz x _ _ hT ha hx (by simp [h4]) (by simp;omega) sd hm (fS (ks:=[7,14]) hI (by kernel_rfl) rfl (by kernel_rfl) (by kernel_rfl) ⟨aD _ (fun _=>rfl) _,trivial⟩ (by kernel_rfl) ⟨aD _ (fun _=>rfl) _,trivial⟩ (by kernel_rfl) (by kernel_rfl) (by kernel_rfl) (by kernel_rfl) (by kernel_rfl) (by kernel_rfl) (by kernel_rfl) (by kernel_rfl)) (fS (ks:=[0,1,16]) hM (by kernel_rfl) rfl (by kernel_rfl) (by kernel_rfl) ⟨cT mf,cT mc,trivial⟩ (by kernel_rfl) ⟨cT mf,cT mc,trivial⟩ (by kernel_rfl) (by kernel_rfl) (by kernel_rfl) (by kernel_rfl) (by kernel_rfl) (by kernel_rfl) (by kernel_rfl) (by kernel_rfl)) (hlen _)).ends hC
  · by_cases h14:x.op=14
    · cases hm:bF x.n mc with
      | some y=>
       have eN:cU mf mc to x= ⟨x.op,y,x.kids.map (cB to),bS mc x.pats⟩ :=by unfold cU bN;rw [if_neg h4,if_pos h14];unfold eX;rw [hm];rfl
       rw [eN]at hC ⊢
       exact(aR7 p mf mc ml to l a fn sz x y _ _ hT ha hx (by simp [h4]) (by simp [h14]) hm (fS (ks:=[7,14]) hI (by kernel_rfl) rfl (by kernel_rfl) (by kernel_rfl) ⟨aD _ (fun _=>rfl) _,trivial⟩ (by kernel_rfl) ⟨aD _ (fun _=>rfl) _,trivial⟩ (by kernel_rfl) (by kernel_rfl) (by kernel_rfl) (by kernel_rfl) (by kernel_rfl) (by kernel_rfl) (by kernel_rfl) (by kernel_rfl)) (fS (ks:=[0,1,16]) hM (by kernel_rfl) rfl (by kernel_rfl) (by kernel_rfl) ⟨cT mf,cT mc,trivial⟩ (by kernel_rfl) ⟨cT mf,cT mc,trivial⟩ (by kernel_rfl) (by kernel_rfl) (by kernel_rfl) (by kernel_rfl) (by kernel_rfl) (by kernel_rfl) (by kernel_rfl) (by kernel_rfl)) (hlen _)).ends hC
      | none=>
       have eN:cU mf mc to x= ⟨x.op,0,x.kids.map (cB to),bS mc x.pats⟩ :=by unfold cU bN;rw [if_neg h4,if_pos h14];unfold eX;rw [hm];rfl
       rw [eN]at hC ⊢
       exact(aR8 p mf mc ml to l a fn sz x _ _ hT ha hx (by simp [h4]) (by simp [h14]) hm (fS (ks:=[7,14]) hI (by kernel_rfl) rfl (by kernel_rfl) (by kernel_rfl) ⟨aD _ (fun _=>rfl) _,trivial⟩ (by kernel_rfl) ⟨aD _ (fun _=>rfl) _,trivial⟩ (by kernel_rfl) (by kernel_rfl) (by kernel_rfl) (by kernel_rfl) (by kernel_rfl) (by kernel_rfl) (by kernel_rfl) (by kernel_rfl)) (fS (ks:=[0,1,16]) hM (by kernel_rfl) rfl (by kernel_rfl) (by kernel_rfl) ⟨cT mf,cT mc,trivial⟩ (by kernel_rfl) ⟨cT mf,cT mc,trivial⟩ (by kernel_rfl) (by kernel_rfl) (by kernel_rfl) (by kernel_rfl) (by kernel_rfl) (by kernel_rfl) (by kernel_rfl) (by kernel_rfl)) (hlen _)).ends hC
    · have eN:cU mf mc to x= ⟨x.op,x.n,x.kids.map (cB to),bS mc x.pats⟩ :=by unfold cU bN;rw [if_neg h4,if_neg h14]
      rw [eN]at hC ⊢
      exact(aR9 p mf mc ml to l a fn sz x _ _ hT ha hx (by simp [h4]) (by simp [h14]) (fS (ks:=[7,14]) hI (by kernel_rfl) rfl (by kernel_rfl) (by kernel_rfl) ⟨aD _ (fun _=>rfl) _,trivial⟩ (by kernel_rfl) ⟨aD _ (fun _=>rfl) _,trivial⟩ (by kernel_rfl) (by kernel_rfl) (by kernel_rfl) (by kernel_rfl) (by kernel_rfl) (by kernel_rfl) (by kernel_rfl) (by kernel_rfl)) (fS (ks:=[0,1,16]) hM (by kernel_rfl) rfl (by kernel_rfl) (by kernel_rfl) ⟨cT mf,cT mc,trivial⟩ (by kernel_rfl) ⟨cT mf,cT mc,trivial⟩ (by kernel_rfl) (by kernel_rfl) (by kernel_rfl) (by kernel_rfl) (by kernel_rfl) (by kernel_rfl) (by kernel_rfl) (by kernel_rfl)) (hlen _)).ends hC
def aH7 (p:Prog)(mf mc:List (Int×Int))(ml:List (Int×Bool))(to:List Int)(a fn sz:Int)(l:List Node) :Prop:=Spec PP (.enter 154 (aCX a fn sz)) (aA (HTB p mf mc ml to l) 17) (.ret (.bool true)) (aA (HTB p mf mc ml to l) 17)
theorem aNf {l:List Node}{a fn sz b gn tz:Int}(h:aH7 p mf mc ml to a fn sz l) :
  Spec PP (.enter 154 (aCX a fn sz)) (aA (HTB p mf mc ml to l++boxS 17 b gn tz) 18) (.ret (.bool true)) (aA (HTB p mf mc ml to l++boxS 17 b gn tz) 18) :=
 pG h (by kernel_rfl) (by rfl) (by rfl) (by kernel_rfl) (by kernel_rfl) ⟨cT mf,cT mc,aAY ml,aD _ (fun _=>rfl) _,aD _ (fun _=>rfl) _,trivial⟩ (by kernel_rfl) (by kernel_rfl) (by kernel_rfl)
theorem aNg {l:List Node}{a fn sz:Int}(h:Ends PP 17 (aNb p mf mc ml to l a fn sz).as (.ret (.bool true)) (aA (HTB p mf mc ml to l) 17)) :aH7 p mf mc ml to a fn sz l:=
 ⟨(aNb p mf mc ml to l a fn sz).as.fr,by kernel_rfl,Eq.mp (by kernel_rfl) h⟩
theorem aGg (hp:FineP p){f:Nat}{a fn sz:Int}(l:List Node){x:Node}(ha:0≤a)(hx:p.nodes[a.toNat]?=some x)(hs0:0≤sz)(hs:sz≤1000* (a+1))
  (ih:∀ (k tz:Int),a<k→k<p.nodes.length→0≤tz→tz≤1000* (k+1) →p.nodes.length-k.toNat≤f→aH7 p mf mc ml to k fn tz l) (hf':p.nodes.length-a.toNat≤f+1) :
  ∀ (t:List Int) (j:Nat),x.kids.drop j=t→Ends PP 17 (aAX p mf mc ml to l a fn sz x.kids ((List.length x.kids:Nat) :Int) (j:Int)).as (.ret (.bool true)) (aA (HTB p mf mc ml to l) 17)
 | [],j,h=>by
  have:=cD h
  exact aSe p mf mc ml to l a fn sz x.kids _ j sd
 | k::t,j,h=>by
  obtain⟨g1,g2,g3⟩ :=cA h
  obtain⟨hf,hk10,hks⟩ :=hp.node _ _ hx
  have hk:=hks k (List.mem_of_getElem? g1)
  have hb:=pM hf (j:Int)
  have hn:=hp.small
  have ew:IntKind.i64.wrap (sz+dF x j) =sz+dF x j:=wrap64 (by omega) (by omega)
  have hsp:Spec PP (.enter 154 (aCX k fn (IntKind.i64.wrap (sz+dF x j)))) (aA (HTB p mf mc ml to l++boxS 17 a fn sz) 18) (.ret (.bool true)) (aA (HTB p mf mc ml to l++boxS 17 a fn sz) 18) :=by
   rw [ew]
   exact aNf (ih k (sz+dF x j) (by omega) (by omega) (by omega) (by omega) (by omega))
  have hstep:=aSd p mf mc ml to l a fn sz x.kids ((List.length x.kids:Nat) :Int) j k x _ sd sd sd ha hx (jL hf (by omega) (by omega) hk10) hsp sd
  exact hstep.ends (aGg hp l ha hx hs0 hs ih hf' t (j+1) g2)
theorem aGh (hp:FineP p)(fn:Int)(hN:bF fn ml=none) :∀ (f:Nat) (a sz:Int) (l:List Node),0≤a→a<p.nodes.length→p.nodes.length-a.toNat≤f→0≤sz→sz≤1000* (a+1) →aH7 p mf mc ml to a fn sz l
 |0,a,sz,l,ha,hn,hf,_,_=>by omega
 | f+1,a,sz,l,ha,hn,hf,h0,h1=>by
  obtain⟨x,hx⟩ :∃x,p.nodes[a.toNat]?=some x:= ⟨_,List.getElem?_eq_getElem (by omega)⟩
  refine aNg ?_
  refine(aSc p mf mc ml to l a fn sz x hN ha hx).ends ?_
  exact aGg hp (f:=f) l ha hx h0 h1 (fun k tz hk hkn ht0 ht hkf=>aGh hp fn hN f k tz l (by omega) hkn hkf ht0 ht) hf x.kids 0 rfl
end
end
end Go.Hb
namespace Go.Hb
open Go.Proofs
set_option maxHeartbeats 2000000
noncomputable section
def iE {α:Type}(ml:List (Int×Bool)) :Nat→List α→List α
 |_,[] =>[]
 |i,k::ks=>if(bF (i:Int) ml).isSome=true then k::iE ml (i+1) ks else iE ml (i+1) ks
def xR (ml:List (Int×Bool)) :Prop:=∀ (k:Int) (v:Bool),bF k ml=some v→v=true
def aSf (p:Prog)(ml:List (Int×Bool))(frm:Int)(f:Nat) :Option (List Int×Int) :=wAs (wA p f) (iE ml 0 p.funs) (List.replicate p.nodes.length (0:Int),frm)
def oC (p:Prog)(ml:List (Int×Bool))(mf mc:List (Int×Int))(to:List Int)(f:Nat) :List Node:= ((iE ml 0 p.funs).map (wB p mf mc to f)).flatten
section
variable {p :Prog} {mf mc:List (Int×Int)} {ml:List (Int×Bool)}
abbrev aUq (p:Prog)(ml:List (Int×Bool))(mf mc:List (Int×Int))(to:List Int)(f:Nat) :AV:=.tup [.ilst 4 (List.map Node.av (oC p ml mf mc to f)) false,.ilst 1 (List.map aB ((iE ml 0 p.funs).map (cB to))) false]
theorem aSg (hp:FineP p)(hml:xR ml)(frm:Int)(to:List Int)(l:List Node)(hto:to.length=p.nodes.length) :∀ (t:List Int) (i:Nat) (acc:List Int),p.funs.drop i=t→acc.length≤i→i≤p.funs.length →
  LeadsM PP 4 (qW p mf mc ml frm to l (i:Int) acc).as (qW p mf mc ml frm to l ((p.funs.length:Nat) :Int) (acc++ (iE ml i t).map (cB to))).as
 | [],i,acc,h,ha,hi=>by
  have:=cD h
  obtain rfl:i=p.funs.length:=by omega
  rw [iE,List.map_nil,List.append_nil]
  exact LeadsM.refl _
 | k::t,i,acc,h,ha,hi=>by
  obtain⟨g1,g2,g3⟩ :=cA h
  have hfs:=hp.fsmall
  obtain⟨k0,k1⟩ :=hp.funs k (List.mem_of_getElem? g1)
  have hg:to[k.toNat]?=some (cB to k) :=by
   unfold cB
   rw [List.getD_eq_getElem?_getD,List.getElem?_eq_getElem (by omega)];rfl
  rw [iE]
  cases hm:bF (i:Int) ml with
  | none=>
   have h0:=aUo p mf mc ml frm to l i acc k sd sd sd hm sd
   exact h0.trans (aSg hp hml frm to l hto t (i+1) acc g2 (by omega) (by omega))
  | some v=>
   obtain rfl:=hml _ _ hm
   have h0:=aUn p mf mc ml frm to l i acc k _ sd sd sd hm k0 k1 hg (by simp;omega) sd
   have h1:=aSg hp hml frm to l hto t (i+1) (acc++ [cB to k]) g2 (by simp;omega) (by omega)
   rw [if_pos (show(some true).isSome=true from rfl),List.map_cons,show acc++cB to k::List.map (cB to) (iE ml (i+1) t) = (acc++ [cB to k]) ++List.map (cB to) (iE ml (i+1) t)by simp]
   exact h0.trans h1
theorem aSh (hp:FineP p)(hml:xR ml)(hok:∀ (i:Nat) (x:Node),p.nodes[i]?=some x→nOk mf x)(frm:Int)(to:List Int)(f:Nat)(hf:p.nodes.length≤f)(hto:to.length=p.nodes.length) :∀ (t:List Int) (i:Nat) (l:List Node),p.funs.drop i=t→l.length+ (((iE ml i t).map (wB p mf mc to f)).flatten).length≤1000000 →
  LeadsM PP 4 (zH p mf mc ml frm to (i:Int) l).as (qW p mf mc ml frm to (l++ ((iE ml i t).map (wB p mf mc to f)).flatten) ((p.funs.length:Nat) :Int) ((iE ml 0 p.funs).map (cB to))).as
 | [],i,l,h,hb=>by
  have:=cD h
  rw [iE,List.map_nil,List.flatten_nil,List.append_nil]
  exact(aUm p mf mc ml frm to i l sd).trans (aSg hp hml frm to l hto p.funs 0 [] rfl (Nat.zero_le _) (Nat.zero_le _))
 | k::t,i,l,h,hb=>by
  obtain⟨g1,g2,g3⟩ :=cA h
  have hfs:=hp.fsmall
  obtain⟨k0,k1⟩ :=hp.funs k (List.mem_of_getElem? g1)
  rw [iE]at hb ⊢
  cases hm:bF (i:Int) ml with
  | none=>
   rw [hm]at hb
   have hw:=aGh (mf:=mf) (mc:=mc) (to:=to) hp (i:Int) hm f k 1 l k0 k1 (by omega) (by omega) (by omega)
   have h0:=aUk p mf mc ml frm to i l k sd sd sd hw sd
   exact h0.trans (aSh hp hml hok frm to f hf hto t (i+1) l g2 hb)
  | some v=>
   obtain rfl:=hml _ _ hm
   rw [hm,if_pos (show(some true).isSome=true from rfl)]at hb
   simp only [List.map_cons,List.flatten_cons,List.length_append]at hb
   have hw:=aGf (mf:=mf) (mc:=mc) (to:=to) hp hok hto (i:Int) hm f k 1 l k0 k1 (by omega) (by omega) (by omega) (by omega)
   have h0:=aUl p mf mc ml frm to i l k (wB p mf mc to f k) sd sd sd hw sd
   have h1:=aSh hp hml hok frm to f hf hto t (i+1) (l++wB p mf mc to f k) g2 (by rw [List.length_append];omega)
   rw [if_pos (show(some true).isSome=true from rfl),List.map_cons,List.flatten_cons,←List.append_assoc]
   exact h0.trans h1
theorem aSi (hp:FineP p)(hml:xR ml)(hok:∀ (i:Nat) (x:Node),p.nodes[i]?=some x→nOk mf x)(frm:Int)(f:Nat)(hf:p.nodes.length≤f)(to:List Int)(n:Int)(hb: (oC p ml mf mc to f).length≤1000000) :∀ (t:List Int) (i:Nat) (s:List Int×Int),s.1.length=p.nodes.length→p.funs.drop i=t→wAs (wA p f) (iE ml i t) s=some (to,n) →
  LeadsM PP 4 (zG p mf mc ml frm (i:Int) s.1 s.2).as (qW p mf mc ml frm to (oC p ml mf mc to f) ((p.funs.length:Nat) :Int) ((iE ml 0 p.funs).map (cB to))).as
 | [],i,s,hl,h,hw=>by
  have:=cD h
  rw [iE]at hw
  cases hw
  have h1:=aSh (mf:=mf) (mc:=mc) hp hml hok frm to f hf hl p.funs 0 [] rfl (by simpa [oC]using hb)
  rw [List.nil_append]at h1
  exact(aUj p mf mc ml frm i to n sd).trans h1
 | k ::t,i,s,hl,h,hw=>by
  obtain⟨g1,g2,g3⟩ :=cA h
  have hfs:=hp.fsmall
  obtain⟨k0,k1⟩ :=hp.funs k (List.mem_of_getElem? g1)
  rw [iE]at hw
  cases hm:bF (i:Int) ml with
  | none=>
   rw [hm]at hw
   have hwk:=aGd (mf:=mf) (mc:=mc) hp (i:Int) hm f k 1 s k0 k1 (by omega) (by omega) (by omega)
   have h0:=aUh p mf mc ml frm i s.1 s.2 k sd sd sd hwk sd
   exact h0.trans (aSi hp hml hok frm f hf to n hb t (i+1) s hl g2 hw)
  | some v=>
   obtain rfl:=hml _ _ hm
   rw [hm,if_pos (show(some true).isSome=true from rfl)]at hw
   simp only [wAs]at hw
   split at hw
   · rename_i s1 h1
     have hwk:=aGb (mf:=mf) (mc:=mc) hp (i:Int) hm f k 1 s s1 k0 k1 hl (by omega) (by omega) h1
     have h0:=aUi p mf mc ml frm i s.1 s.2 k s1.1 s1.2 sd sd sd hwk sd
     exact h0.trans (aSi hp hml hok frm f hf to n hb t (i+1) s1 (by rw [aM8 p f k s s1 h1,hl]) g2 hw)
   ·cases hw
theorem aFr (hp:FineP p)(hml:xR ml)(hok:∀ (i:Nat) (x:Node),p.nodes[i]?=some x→nOk mf x)(frm:Int)(f:Nat)(hf:p.nodes.length≤f)(to:List Int)(n:Int)(hb: (oC p ml mf mc to f).length≤1000000)(hw:aSf p ml frm f=some (to,n)) :
  Spec PP (.enter 72 [.agg [(.ilst 4 (List.map Node.av p.nodes) false),(.ilst 1 (List.map aB p.funs) false),(.int .i64 p.main),(.ilst 2 (List.map Con.av p.cons) false)],.int .i64 frm,.func 73 [] [.ptr 2 0],.agg [.map 0,.map 1]])
   (aA [(0,MO mf,true),(1,MO mc,true),(2,.cells (putCells .leaf 0 [.map 3]) 1 [] false,false),(3,MB ml,true)] 4) (.ret (aUq p ml mf mc to f))
   (aA [(0,MO mf,true),(1,MO mc,true),(2,.cells (putCells .leaf 0 [.map 3]) 1 [] false,false),(3,MB ml,true)] 4) :=
 have hs:=hp.small
 ⟨(aV2 p mf mc ml frm).as.fr,by kernel_rfl,Eq.mp (by kernel_rfl) (((aUg p mf mc ml frm (by omega)).trans (aSi hp hml hok frm f hf to n hb p.funs 0 (List.replicate p.nodes.length (0:Int),frm) (by simp) rfl hw)).ends (aUp p mf mc ml frm to _ _ _ (by simp)))⟩
end
end
end Go.Hb
namespace Go.Hb
open Go.Proofs
noncomputable section
inductive KV where
 |row (l:List Int)
 |nil
 |val (u:Value)
def KV.av :KV→AV
 | .row l=>.ilst 1 (List.map aB l) false
 | .nil=>.nils
 | .val u=>.val u
structure ONode where
 op:Int
 n:Int
 kv:KV
 pats:List Pat
def ONode.av (x:ONode) :AV:=.agg [.int .i64 x.op,.int .i64 x.n,x.kv.av,.ilst 4 (Pats.av x.pats) false]
def Node.o (x:Node) :ONode:= ⟨x.op,x.n,.row x.kids,x.pats⟩
theorem aN7 (l:List Node) :List.map ONode.av (List.map Node.o l) =List.map Node.av l:=by
 rw [List.map_map];rfl
theorem aXj :∀k:KV,AV.keyless k.av=true
 | .row l=>by simp only [KV.av,AV.keyless]
 | .nil=>rfl
 | .val u=>rfl
theorem iR (x:ONode) :AV.keyless x.av=true:=by
 simp only [ONode.av,AV.keyless,AV.keylessL,aXj,aAM,Bool.and_true]
theorem aH8 {E:Emb}{x y:AV}(hv:∀v,VR E x v→VR E y v) :∀ {xs:List AV} {i:Nat},xs[i]?=some x→∀vs,VRs E xs vs→VRs E (xs.set i y) vs
 | [],i,h,vs,hvs=>by simp at h
 | a::xs,0,h,vs,hvs=>by
  simp only [VRs]at hvs
  obtain⟨u,us,rfl,h1,h2⟩ :=hvs
  simp at h;subst h
  simp only [List.set_cons_zero,VRs]
  exact⟨u,us,rfl,hv u h1,h2⟩
 | a::xs,i+1,h,vs,hvs=>by
  simp only [VRs]at hvs
  obtain⟨u,us,rfl,h1,h2⟩ :=hvs
  simp only [List.getElem?_cons_succ]at h
  simp only [List.set_cons_succ,VRs]
  exact⟨u,us,rfl,h1,aH8 hv h us h2⟩
theorem aKy {E:Emb}{x:ONode}{k:KV}(hk:∀v,VR E x.kv.av v→VR E k.av v) :∀v,VR E x.av v→VR E (ONode.av ⟨x.op,x.n,k,x.pats⟩) v:=fun v h=>by
 simp only [ONode.av,VR,VRs]at h ⊢
 obtain⟨us,rfl,u1,r1,rfl,q1,u2,r2,rfl,q2,u3,r3,rfl,q3,q4⟩ :=h
 exact⟨_,rfl,_,_,rfl,q1,_,_,rfl,q2,_,_,rfl,hk _ q3,q4⟩
theorem aNh {E:Emb}:∀v,VR E KV.nil.av v→VR E (KV.row []).av v:=fun v h=>by
 simp only [KV.av,VR]at h
 simp only [KV.av,VR,List.map_nil]
 exact⟨[],VRs.nil _,fun _ hu=>by(cases hu),.inl ⟨rfl,none,0,h,fun _=>rfl,fun _=>rfl⟩⟩
theorem aWJ {l:List ONode}{i:Nat}{y:ONode}(h:l[i]?=some y)(hk:y.kv= .nil) :VW (List.map ONode.av l) (List.map ONode.av (l.set i ⟨y.op,y.n,.row [],y.pats⟩)) :=fun E vs hvs=>by
 have h1: (List.map ONode.av l)[i]?=some y.av:=by rw [List.getElem?_map,h];rfl
 rw [List.map_set]
 exact aH8 (aKy (by rw [hk];exact aNh)) h1 vs hvs
theorem aWK {l:List ONode}{i:Nat}{y:ONode}{u:Value}{ks:List Int}(h:l[i]?=some y)(hk:y.kv= .val u) :VQ u 1 (List.map aB ks) (List.map ONode.av l) (List.map ONode.av (l.set i ⟨y.op,y.n,.row ks,y.pats⟩)) :=fun E vs hu hvs=>by
 have h1: (List.map ONode.av l)[i]?=some y.av:=by rw [List.getElem?_map,h];rfl
 rw [List.map_set]
 refine aH8 (aKy (fun v hv=>?_)) h1 vs hvs
 rw [hk]at hv
 simp only [KV.av,VR]at hv
 subst hv
 exact hu
theorem aSj {α:Type}{f:α→AV}{l:List α}{i:Nat}{y:α}(h:l[i]?=some y) :List.map f l≠ [] :=fun e=>by
 cases l with
 |nil=>simp at h
 |cons _ _=>cases e
end
end Go.Hb
namespace Go.Hb
open Go.Proofs
noncomputable abbrev aCk (p:Prog) :Nat×AObj×Bool:= (1,(.cells (putCells .leaf 0 [(iN p.nodes),(iI p.funs),(nI p.main),(iC p.cons)]) 4 [] false),false)
noncomputable abbrev aN8 (ua:Option Addr)(un uc:Nat)(l2:List Int) :Nat×AObj×Bool:= (2,(.lstv (Value.slice ua un uc) 1 (jI l2)),true)
noncomputable def aGi (p:Prog)(l:List ONode)(at0:Int)(funs cons:List Int) :TS:=eU PP 139 [(.gl 0 4 0 l.length false),(Prog.av p),(nI at0),(iI funs),(iI cons)] [(0,(.lst 4 (List.map ONode.av l)),true)] 1
noncomputable def vY (p:Prog)(l:List ONode)(at0:Int)(funs cons:List Int)(c2_0 vy2:Int)(c2_2:List Int)(c2_3:List Pat)(i14:Int)(l3:List Pat) :TS:=
 {fr:={fn:=139,nt:=104,sl:=[(0,(.gl 0 4 0 l.length false)),(3,(iI funs)),(4,(iI cons)),(6,(.ptr 1 0)),(10,.nils),(11,(.ptr 2 0)),(12,(nI ((l.length:Nat) :Int))),(13,(.gl 3 4 0 l3.length false)),(14,(nI i14))],todo:=[.code (cd Tryz.f139 [1,1,1,1,1,1,0,1,0,0]),.inLoop (cd Tryz.f139 [1,1,1,1,1,1,0,1,0,0]),.inBlock 0,.code (cd Tryz.f139 [1,1,1,1,1,1,1])]},cs:=[],hp:=[(0,(.lst 4 (List.map ONode.av l)),true),aCk p,(2,(.cells (putCells .leaf 0 [(nI c2_0),(nI vy2),(iI c2_2),(iP c2_3)]) 4 [] false),false),(3,(.lst 4 (Pats.av l3)),true)],nb:=4}
noncomputable def aEg (p:Prog)(l:List ONode)(at0:Int)(funs cons c2_2:List Int)(l0:List ONode) :TS:=
 {fr:={fn:=139,nt:=104,sl:=[(0,(.gl 0 4 0 l0.length false)),(3,(iI funs)),(4,(iI cons)),(6,(.ptr 1 0)),(10,.nils),(12,(nI ((l.length:Nat) :Int))),(15,(iI c2_2)),(16,(nI 0))],todo:=[.code (cd Tryz.f139 [1,1,1,1,1,1,1,1,1,1,1,0,1,0,0]),.inLoop (cd Tryz.f139 [1,1,1,1,1,1,1,1,1,1,1,0,1,0,0]),.inBlock 2,.code (cd Tryz.f139 [1,1,1,1,1,1,1,1,1,1,1,1])]},cs:=[],hp:=[(0,(.lst 4 (List.map ONode.av l0)),true),aCk p],nb:=2}
noncomputable def vZ (p:Prog)(l:List ONode)(at0:Int)(funs cons c2_2:List Int)(vl0:List ONode)(l2:List Int)(i16:Int) :TS:=
 {fr:={fn:=139,nt:=104,sl:=[(0,(.gl 0 4 0 vl0.length false)),(3,(iI funs)),(4,(iI cons)),(6,(.ptr 1 0)),(10,.nils),(12,(nI ((l.length:Nat) :Int))),(15,(iI c2_2)),(16,(nI i16)),(91,(.gl 2 1 0 l2.length false)),(93,(.ep 0 4 (0+ ((l.length:Nat) :Int).toNat) 2))],todo:=[mH Tryz.f139 [1,1,1,1,1,1,1,1,1,1,1,0,1,0,0,1,0,0,0] 13,.code (cd Tryz.f139 [1,1,1,1,1,1,1,1,1,1,1,0,1,0,0,1,0,0,1]),.inBlock 3,.code (cd Tryz.f139 [1,1,1,1,1,1,1,1,1,1,1,0,1,0,0,1,1]),.inLoop (cd Tryz.f139 [1,1,1,1,1,1,1,1,1,1,1,0,1,0,0]),.inBlock 2,.code (cd Tryz.f139 [1,1,1,1,1,1,1,1,1,1,1,1])]},cs:=[],hp:=[(0,(.lst 4 (List.map ONode.av vl0)),true),aCk p,(2,(.lst 1 (jI l2)),true)],nb:=3}
noncomputable def aH9 (p:Prog)(l:List ONode)(at0:Int)(funs cons c2_2:List Int)(vl0:List ONode)(l2:List Int)(i16:Int)(ua:Option Addr)(un uc:Nat) :TS:=
 {fr:={fn:=139,nt:=104,sl:=[(0,(.gl 0 4 0 vl0.length false)),(3,(iI funs)),(4,(iI cons)),(6,(.ptr 1 0)),(10,.nils),(12,(nI ((l.length:Nat) :Int))),(15,(iI c2_2)),(16,(nI i16)),(91,(.val (Value.slice ua un uc))),(93,(.ep 0 4 (0+ ((l.length:Nat) :Int).toNat) 2))],todo:=[mH Tryz.f139 [1,1,1,1,1,1,1,1,1,1,1,0,1,0,0,1,0,0,0] 13,.code (cd Tryz.f139 [1,1,1,1,1,1,1,1,1,1,1,0,1,0,0,1,0,0,1]),.inBlock 3,.code (cd Tryz.f139 [1,1,1,1,1,1,1,1,1,1,1,0,1,0,0,1,1]),.inLoop (cd Tryz.f139 [1,1,1,1,1,1,1,1,1,1,1,0,1,0,0]),.inBlock 2,.code (cd Tryz.f139 [1,1,1,1,1,1,1,1,1,1,1,1])]},cs:=[],hp:=[(0,(.lst 4 (List.map ONode.av vl0)),true),aCk p,aN8 ua un uc l2],nb:=3}
noncomputable def aEh (p:Prog)(l:List ONode)(at0:Int)(funs cons c2_2:List Int)(l0:List ONode)(k2:List Int)(u2:Value)(i16:Int) :TS:=
 {fr:={fn:=139,nt:=104,sl:=[(0,(.gl 0 4 0 l0.length false)),(3,(iI funs)),(4,(iI cons)),(6,(.ptr 1 0)),(10,.nils),(12,(nI ((l.length:Nat) :Int))),(15,(iI c2_2)),(16,(nI i16))],todo:=[.code (cd Tryz.f139 [1,1,1,1,1,1,1,1,1,1,1,0,1,0,0]),.inLoop (cd Tryz.f139 [1,1,1,1,1,1,1,1,1,1,1,0,1,0,0]),.inBlock 2,.code (cd Tryz.f139 [1,1,1,1,1,1,1,1,1,1,1,1])]},cs:=[],hp:=[(0,(.lst 4 (List.map ONode.av l0)),true),aCk p,(2,(.lstv u2 1 (jI k2)),true)],nb:=3}
theorem aUr (p:Prog)(l:List ONode)(at0:Int)(funs cons:List Int)(y0:Node)(y1:Int)(h0:0≤at0)(h1: ((p.nodes)[at0.toNat]?) =some y0)(h2: (y0.op== (4:Int)) =true)(h3:decide (y0.n< (0:Int)) =true)(h4: (IntKind.i64.wrap ((-1:Int) -y0.n)) = ((-1:Int) -y0.n))(h5:0≤ ((-1:Int) -y0.n))(h6: ((funs)[((-1:Int) -y0.n).toNat]?) =some y1)(h7: (IntKind.i64.wrap ((-1:Int) -y1)) = ((-1:Int) -y1))(h8: (y0.op== (14:Int)) =false) :
  LeadsM PP 0 (aGi p l at0 funs cons).as (vY p l at0 funs cons y0.op ((-1:Int) -y1) y0.kids y0.pats 0 ([] :List Pat)).as:=
 wW 4 [0,1,2,3] [qp h0,qg Node.av h1,qp h2,qp h3,qp (congrArg (AV.int .i64) h4),qp h5,qg aB h6,qp (congrArg (AV.int .i64) h7),qp h8,qp (p:= ([] :List AV) = (Pats.av ([] :List Pat))) rfl,qp (p:= (AV.gl 3 4 0 0 false) = (.gl 3 4 0 ([] :List Pat).length false)) rfl] [rn 10,aI (Node.av y0),rn 17,bt 27,rn 5,bt 31,rn 6,sI 35 ((-1:Int) -y0.n),aI (aB y1),rn 2,sI 38 ((-1:Int) -y1),rn 10,bf 42,rn 13,.nilL 13 4,.lset 3 (Pats.av ([] :List Pat)),.set 13 (.gl 3 4 0 ([] :List Pat).length false)] ⟨(aD _ (fun _=>iR _) _),⟨fE,trivial⟩⟩
theorem aUs (p:Prog)(l:List ONode)(at0:Int)(funs cons:List Int)(y0:Node)(h0:0≤at0)(h1: ((p.nodes)[at0.toNat]?) =some y0)(h2: (y0.op== (4:Int)) =true)(h3:decide (y0.n< (0:Int)) =false)(h4: (y0.op== (14:Int)) =false) :
  LeadsM PP 0 (aGi p l at0 funs cons).as (vY p l at0 funs cons y0.op y0.n y0.kids y0.pats 0 ([] :List Pat)).as:=
 wW 4 [0,1,2,3] [qp h0,qg Node.av h1,qp h2,qp h3,qp h4,qp (p:= ([] :List AV) = (Pats.av ([] :List Pat))) rfl,qp (p:= (AV.gl 3 4 0 0 false) = (.gl 3 4 0 ([] :List Pat).length false)) rfl] [rn 10,aI (Node.av y0),rn 17,bt 27,rn 5,bf 31,rn 9,bf 42,rn 13,.nilL 13 4,.lset 3 (Pats.av ([] :List Pat)),.set 13 (.gl 3 4 0 ([] :List Pat).length false)] ⟨(aD _ (fun _=>iR _) _),⟨fE,trivial⟩⟩
theorem aUt (p:Prog)(l:List ONode)(at0:Int)(funs cons:List Int)(y0:Node)(y1:Int)(h0:0≤at0)(h1: ((p.nodes)[at0.toNat]?) =some y0)(h2: (y0.op== (4:Int)) =false)(h3: (y0.op== (14:Int)) =true)(h4:0≤y0.n)(h5: ((cons)[y0.n.toNat]?) =some y1) :
  LeadsM PP 0 (aGi p l at0 funs cons).as (vY p l at0 funs cons y0.op y1 y0.kids y0.pats 0 ([] :List Pat)).as:=
 wW 4 [0,1,2,3] [qp h0,qg Node.av h1,qp h2,qp h3,qp h4,qg aB h5,qp (p:= ([] :List AV) = (Pats.av ([] :List Pat))) rfl,qp (p:= (AV.gl 3 4 0 0 false) = (.gl 3 4 0 ([] :List Pat).length false)) rfl] [rn 10,aI (Node.av y0),rn 17,bf 27,rn 14,bt 42,rn 5,aI (aB y1),rn 15,.nilL 13 4,.lset 3 (Pats.av ([] :List Pat)),.set 13 (.gl 3 4 0 ([] :List Pat).length false)] ⟨(aD _ (fun _=>iR _) _),⟨fE,trivial⟩⟩
theorem aUu (p:Prog)(l:List ONode)(at0:Int)(funs cons:List Int)(y0:Node)(h0:0≤at0)(h1: ((p.nodes)[at0.toNat]?) =some y0)(h2: (y0.op== (4:Int)) =false)(h3: (y0.op== (14:Int)) =false) :
  LeadsM PP 0 (aGi p l at0 funs cons).as (vY p l at0 funs cons y0.op y0.n y0.kids y0.pats 0 ([] :List Pat)).as:=
 wW 4 [0,1,2,3] [qp h0,qg Node.av h1,qp h2,qp h3,qp (p:= ([] :List AV) = (Pats.av ([] :List Pat))) rfl,qp (p:= (AV.gl 3 4 0 0 false) = (.gl 3 4 0 ([] :List Pat).length false)) rfl] [rn 10,aI (Node.av y0),rn 17,bf 27,rn 14,bf 42,rn 13,.nilL 13 4,.lset 3 (Pats.av ([] :List Pat)),.set 13 (.gl 3 4 0 ([] :List Pat).length false)] ⟨(aD _ (fun _=>iR _) _),⟨fE,trivial⟩⟩
theorem aUv (p:Prog)(l:List ONode)(at0:Int)(funs cons:List Int)(c2_0 vy2:Int)(c2_2:List Int)(c2_3:List Pat)(i14:Int)(l3:List Pat)(y_form0 y_n1:Int)(y_text2:aX)(y_parts3:List Pat)(y_form4 y_n5:Int)(y_text6:aX)(y_parts7:List Pat)(h0:decide (i14< (c2_3.length:Int)) =true)(h1:0≤i14)(h2: ((c2_3)[i14.toNat]?) =some (Pat.mk y_form0 y_n1 y_text2 y_parts3))(h3:aE PP 194 [(.agg [(nI y_form0),(nI y_n1),(bO y_text2),(iP y_parts3)]),(iI cons)] (.agg [(nI y_form4),(nI y_n5),(bO y_text6),(iP y_parts7)]))(h4:List.length (l3++ [(Pat.mk y_form4 y_n5 y_text6 y_parts7)]) ≤1000000)(h5: (IntKind.i64.wrap (i14+ (1:Int))) = (i14+ (1:Int))) :
  LeadsM PP 0 (vY p l at0 funs cons c2_0 vy2 c2_2 c2_3 i14 l3).as (vY p l at0 funs cons c2_0 vy2 c2_2 c2_3 (i14+ (1:Int)) (l3++ [(Pat.mk y_form4 y_n5 y_text6 y_parts7)])).as:=
 wW 6 [0,1,2,5] [fU c2_3,qp h0,qp h1,qgP h2,qp h3,qp (p:=0+l3.length≤List.length (Pats.av l3)) (aCS dK _),qp h4,qp (p:=List.take l3.length (List.drop 0 (Pats.av l3)) ++ (Pats.av [(Pat.mk y_form4 y_n5 y_text6 y_parts7)]) = (Pats.av (l3++ [(Pat.mk y_form4 y_n5 y_text6 y_parts7)]))) (aCT dK _ _),qp (p:=l3.length+List.length (Pats.av [(Pat.mk y_form4 y_n5 y_text6 y_parts7)]) =List.length (l3++ [(Pat.mk y_form4 y_n5 y_text6 y_parts7)])) (aCU dK _ _),qp (congrArg (AV.int .i64) h5)] [rn 6,aL c2_3,rn 2,bt 53,rn 9,aI (Pat.av (Pat.mk y_form0 y_n1 y_text2 y_parts3)),rn 2,.pure (.agg [(nI y_form4),(nI y_n5),(bO y_text6),(iP y_parts7)]),rn 1,.app (Pats.av (l3++ [(Pat.mk y_form4 y_n5 y_text6 y_parts7)])) (l3++ [(Pat.mk y_form4 y_n5 y_text6 y_parts7)]).length,rn 6,sI 55 (i14+ (1:Int)),rn 3] ⟨(aD _ (fun _=>iR _) _),⟨fE,trivial⟩⟩
theorem aUw (p:Prog)(l:List ONode)(at0:Int)(funs cons:List Int)(c2_0 vy2:Int)(c2_2:List Int)(c2_3:List Pat)(i14:Int)(l3:List Pat)(h0:decide (i14< (c2_3.length:Int)) =false)(h1:List.length (l++ [(ONode.mk c2_0 vy2 KV.nil l3)]) ≤1000000) :
  LeadsM PP 0 (vY p l at0 funs cons c2_0 vy2 c2_2 c2_3 i14 l3).as (aEg p l at0 funs cons c2_2 (l++ [(ONode.mk c2_0 vy2 KV.nil l3)])).as:=
 wW 6 [5,1] [fU c2_3,qp h0,qp (p:=AV.keylessL (Pats.av l3) =true) fE,qp (p:=AV.frzOk 3 4 (Pats.av l3) (Pats.av l3) (.gl 3 4 0 l3.length false)) (tA dK _),qp (gK ONode.av l),qp h1,qp (gP ONode.av l [(ONode.mk c2_0 vy2 KV.nil l3)]),qp (gQ ONode.av l [(ONode.mk c2_0 vy2 KV.nil l3)])] [rn 6,aL c2_3,rn 2,bf 53,rn 6,.frz 66 3 (Pats.av l3),rn 18,.app (List.map ONode.av (l++ [(ONode.mk c2_0 vy2 KV.nil l3)])) (l++ [(ONode.mk c2_0 vy2 KV.nil l3)]).length,rn 9] ⟨(aD _ (fun _=>iR _) _),trivial⟩
theorem aUx (p:Prog)(l:List ONode)(at0:Int)(funs cons c2_2:List Int)(l0:List ONode)(y0:ONode)(h0:decide ((0:Int) < (c2_2.length:Int)) =true)(h1:0≤ ((l.length:Nat) :Int))(h2: ((l.length:Nat) :Int) < ((l0.length:Nat) :Int))(h3: ((l0)[((l.length:Nat) :Int).toNat]?) =some y0)(h4:y0.kv=KV.nil)(h5:List.length (([] :List Int) ++ [((l0.length:Nat) :Int)]) ≤1000000) :
  LeadsM PP 0 (aEg p l at0 funs cons c2_2 l0).as (vZ p l at0 funs cons c2_2 l0 (([] :List Int) ++ [((l0.length:Nat) :Int)]) 0).as:=
 wW 5 [0,1,4] [ql aB c2_2,qp h0,qp h1,qp h2,qh ONode.av h3,qp (congrArg KV.av h4),qp (p:= ([] :List AV) = (jI ([] :List Int))) rfl,qp (p:= (AV.gl 3 1 0 0 false) = (.gl 3 1 0 ([] :List Int).length false)) rfl,qp (gK aB ([] :List Int)),qp h5,qp (gP aB ([] :List Int) [((l0.length:Nat) :Int)]),qp (gQ aB ([] :List Int) [((l0.length:Nat) :Int)]),qp h1,qp h2] [rn 5,aL c2_2,rn 2,bt 78,rn 10,.ans (.ix),rn 1,aI (ONode.av y0),.set 87 .nils,rn 3,.nilL 87 1,.lset 3 (jI ([] :List Int)),.set 87 (.gl 3 1 0 ([] :List Int).length false),.app (jI (([] :List Int) ++ [((l0.length:Nat) :Int)])) (([] :List Int) ++ [((l0.length:Nat) :Int)]).length,.ans (.ix),rn 1] ⟨(aD _ (fun _=>iR _) _),⟨kk,trivial⟩⟩
theorem aUy (p:Prog)(l:List ONode)(at0:Int)(funs cons c2_2:List Int)(l0:List ONode)(y0:ONode)(h0:decide ((0:Int) < (c2_2.length:Int)) =false)(h1:l0[l.length]?=some y0)(h2:y0.kv=KV.nil) :
  Ends PP 0 (aEg p l at0 funs cons c2_2 l0).as (.ret (.gl 0 4 0 (List.set l0 l.length (ONode.mk y0.op y0.n (KV.row []) y0.pats)).length false)) (aA [(0,(.lst 4 (List.map ONode.av (List.set l0 l.length (ONode.mk y0.op y0.n (KV.row []) y0.pats)))),true)] 1) :=
 wE 2 [0] [ql aB c2_2,qp h0,qp (p:= (List.map ONode.av l0) ≠ []) (aSj h1),qp (p:=VW (List.map ONode.av l0) (List.map ONode.av (List.set l0 l.length (ONode.mk y0.op y0.n (KV.row []) y0.pats)))) (aWJ h1 h2),qs 0 4 0 l0 l.length (ONode.mk y0.op y0.n (KV.row []) y0.pats) false,qs 0 4 0 l0 l.length (ONode.mk y0.op y0.n (KV.row []) y0.pats) false,qs 0 4 0 l0 l.length (ONode.mk y0.op y0.n (KV.row []) y0.pats) false] [rn 5,aL c2_2,rn 2,bf 78,rn 8,.lw 0 (List.map ONode.av (List.set l0 l.length (ONode.mk y0.op y0.n (KV.row []) y0.pats))),.set 0 (.gl 0 4 0 (List.set l0 l.length (ONode.mk y0.op y0.n (KV.row []) y0.pats)).length false),.set 10 (.gl 0 4 0 (List.set l0 l.length (ONode.mk y0.op y0.n (KV.row []) y0.pats)).length false),.set 103 (.gl 0 4 0 (List.set l0 l.length (ONode.mk y0.op y0.n (KV.row []) y0.pats)).length false)] ⟨(aD _ (fun _=>iR _) _),trivial⟩
theorem aUz (p:Prog)(l:List ONode)(at0:Int)(funs cons c2_2:List Int)(vl0:List ONode)(l2:List Int)(i16:Int)(ua:Option Addr)(un uc:Nat)(y0:ONode)(y1:Int)(m2:List Node)(h0: ((vl0)[((l.length:Nat) :Int).toNat]?) =some y0)(h1:0≤i16)(h2: ((c2_2)[i16.toNat]?) =some y1)(h3:Spec PP (.enter 139 [(.gl 0 4 0 (List.set vl0 (((l.length:Nat) :Int).toNat) (ONode.mk y0.op y0.n (KV.val (Value.slice ua un uc)) y0.pats)).length false),(Prog.av p),(nI y1),(iI funs),(iI cons)]) (aA [(0,(.lst 4 (List.map ONode.av (List.set vl0 (((l.length:Nat) :Int).toNat) (ONode.mk y0.op y0.n (KV.val (Value.slice ua un uc)) y0.pats)))),true),aCk p,aN8 ua un uc l2] 3) (.ret (.gl 3 4 0 ((List.set vl0 (((l.length:Nat) :Int).toNat) (ONode.mk y0.op y0.n (KV.val (Value.slice ua un uc)) y0.pats)) ++List.map Node.o m2).length false)) (aA [aCk p,aN8 ua un uc l2,(3,(.lst 4 (List.map ONode.av ((List.set vl0 (((l.length:Nat) :Int).toNat) (ONode.mk y0.op y0.n (KV.val (Value.slice ua un uc)) y0.pats)) ++List.map Node.o m2))),true)] 4))(h4: (IntKind.i64.wrap (i16+ (1:Int))) = (i16+ (1:Int))) :
  LeadsM PP 0 (aH9 p l at0 funs cons c2_2 vl0 l2 i16 ua un uc).as (aEh p l at0 funs cons c2_2 ((List.set vl0 (((l.length:Nat) :Int).toNat) (ONode.mk y0.op y0.n (KV.val (Value.slice ua un uc)) y0.pats)) ++List.map Node.o m2) l2 (Value.slice ua un uc) (i16+ (1:Int))).as:=
 wW 4 [3,1,2] [qh ONode.av h0,qp (p:=jS (ONode.av y0) 2 [(.val (Value.slice ua un uc))] =some (ONode.av (ONode.mk y0.op y0.n (KV.val (Value.slice ua un uc)) y0.pats))) rfl,qp (p:= (List.map ONode.av vl0).set (0+ ((l.length:Nat) :Int).toNat) (ONode.av (ONode.mk y0.op y0.n (KV.val (Value.slice ua un uc)) y0.pats)) = (List.map ONode.av (List.set vl0 (((l.length:Nat) :Int).toNat) (ONode.mk y0.op y0.n (KV.val (Value.slice ua un uc)) y0.pats)))) (pH _ _ _ _),qs 0 4 0 vl0 (((l.length:Nat) :Int).toNat) (ONode.mk y0.op y0.n (KV.val (Value.slice ua un uc)) y0.pats) false,qp h1,qg aB h2,qp h3,qp (congrArg (AV.int .i64) h4)] [.st (ONode.av y0) (ONode.av (ONode.mk y0.op y0.n (KV.val (Value.slice ua un uc)) y0.pats)),.lset 0 (List.map ONode.av (List.set vl0 (((l.length:Nat) :Int).toNat) (ONode.mk y0.op y0.n (KV.val (Value.slice ua un uc)) y0.pats))),.set 0 (.gl 0 4 0 (List.set vl0 (((l.length:Nat) :Int).toNat) (ONode.mk y0.op y0.n (KV.val (Value.slice ua un uc)) y0.pats)).length false),rn 1,.reg [.d,.d,.d,.d,.ans (.idx (aB y1)),.d,.d,.d,.call (.gl 3 4 0 ((List.set vl0 (((l.length:Nat) :Int).toNat) (ONode.mk y0.op y0.n (KV.val (Value.slice ua un uc)) y0.pats)) ++List.map Node.o m2).length false) (aA [aCk p,aN8 ua un uc l2,(3,(.lst 4 (List.map ONode.av ((List.set vl0 (((l.length:Nat) :Int).toNat) (ONode.mk y0.op y0.n (KV.val (Value.slice ua un uc)) y0.pats)) ++List.map Node.o m2))),true)] 4),.d],rn 4,sI 80 (i16+ (1:Int)),rn 3] ⟨(aD _ (fun _=>iR _) _),⟨kk,trivial⟩⟩
theorem aUA (p:Prog)(l:List ONode)(at0:Int)(funs cons c2_2:List Int)(l0:List ONode)(k2:List Int)(u2:Value)(i16:Int)(y0:ONode)(h0:decide (i16< (c2_2.length:Int)) =true)(h1:0≤ ((l.length:Nat) :Int))(h2: ((l.length:Nat) :Int) < ((l0.length:Nat) :Int))(h3: ((l0)[((l.length:Nat) :Int).toNat]?) =some y0)(h4:y0.kv=KV.val u2)(h5:List.length (k2++ [((l0.length:Nat) :Int)]) ≤1000000) :
  LeadsM PP 0 (aEh p l at0 funs cons c2_2 l0 k2 u2 i16).as (vZ p l at0 funs cons c2_2 l0 (k2++ [((l0.length:Nat) :Int)]) i16).as:=
 wW 5 [0,1,4] [ql aB c2_2,qp h0,qp h1,qp h2,qh ONode.av h3,qp (congrArg KV.av h4),qr u2,qp (p:= (AV.gl 2 1 0 (jI k2).length false) = (.gl 2 1 0 k2.length false)) (aDF (List.length_map ..)),qp (gK aB k2),qp h5,qp (gP aB k2 [((l0.length:Nat) :Int)]),qp (gQ aB k2 [((l0.length:Nat) :Int)]),qp h1,qp h2] [rn 5,aL c2_2,rn 2,bt 78,rn 10,.ans (.ix),rn 1,aI (ONode.av y0),.set 87 (.val u2),.unname 87 2,.set 87 (.gl 2 1 0 k2.length false),rn 3,.app (jI (k2++ [((l0.length:Nat) :Int)])) (k2++ [((l0.length:Nat) :Int)]).length,.ans (.ix),rn 1] ⟨(aD _ (fun _=>iR _) _),⟨kk,trivial⟩⟩
theorem aUB (p:Prog)(l:List ONode)(at0:Int)(funs cons c2_2:List Int)(l0:List ONode)(k2:List Int)(u2:Value)(i16:Int)(y0:ONode)(h0:decide (i16< (c2_2.length:Int)) =false)(h1:l0[l.length]?=some y0)(h2:y0.kv=KV.val u2) :
  Ends PP 0 (aEh p l at0 funs cons c2_2 l0 k2 u2 i16).as (.ret (.gl 0 4 0 (List.set l0 l.length (ONode.mk y0.op y0.n (KV.row k2) y0.pats)).length false)) (aA [(0,(.lst 4 (List.map ONode.av (List.set l0 l.length (ONode.mk y0.op y0.n (KV.row k2) y0.pats)))),true)] 1) :=
 wE 3 [0] [ql aB c2_2,qp h0,qp (p:= (List.map ONode.av l0) ≠ []) (aSj h1),qp (p:=AV.keylessL (jI k2) =true) (aD _ (fun _=>rfl) _),qp (p:=VQ u2 1 (jI k2) (List.map ONode.av l0) (List.map ONode.av (List.set l0 l.length (ONode.mk y0.op y0.n (KV.row k2) y0.pats)))) (aWK h1 h2),qs 0 4 0 l0 l.length (ONode.mk y0.op y0.n (KV.row k2) y0.pats) false,qs 0 4 0 l0 l.length (ONode.mk y0.op y0.n (KV.row k2) y0.pats) false,qs 0 4 0 l0 l.length (ONode.mk y0.op y0.n (KV.row k2) y0.pats) false] [rn 5,aL c2_2,rn 2,bf 78,rn 8,.vfrz 2 0 (List.map ONode.av (List.set l0 l.length (ONode.mk y0.op y0.n (KV.row k2) y0.pats))),.set 0 (.gl 0 4 0 (List.set l0 l.length (ONode.mk y0.op y0.n (KV.row k2) y0.pats)).length false),.set 10 (.gl 0 4 0 (List.set l0 l.length (ONode.mk y0.op y0.n (KV.row k2) y0.pats)).length false),.set 103 (.gl 0 4 0 (List.set l0 l.length (ONode.mk y0.op y0.n (KV.row k2) y0.pats)).length false)] ⟨(aD _ (fun _=>iR _) _),trivial⟩
end Go.Hb
namespace Go.Hb
open Go.Proofs
noncomputable def xG (q_form q_n:Int)(q_text:aX)(q_parts:List Pat)(cons:List Int)(vy0 i6:Int)(l2:List Pat) :TS:=
 {fr:={fn:=194,nt:=36,sl:=[(1,(iI cons)),(2,(.ptr 0 0)),(4,(.ptr 1 0)),(5,(.gl 2 4 0 l2.length false)),(6,(nI i6))],todo:=[.code (cd Tryz.f194 [1,1,1,0,1,0,0]),.inLoop (cd Tryz.f194 [1,1,1,0,1,0,0]),.inBlock 0,.code (cd Tryz.f194 [1,1,1,1])]},cs:=[],hp:=[(0,(.cells (putCells .leaf 0 [(nI q_form),(nI vy0),(bO q_text),(iP q_parts)]) 4 [] false),false),(1,(.cells (putCells .leaf 0 [(nI 0),(nI 0),(.str 0 0),.nils]) 4 [] false),false),(2,(.lst 4 (Pats.av l2)),true)],nb:=3}
theorem aSk (q_form q_n:Int)(q_text:aX)(q_parts:List Pat)(cons:List Int)(y0:Int)(h0: (q_form== (6:Int)) =true)(h1:0≤q_n)(h2: ((cons)[q_n.toNat]?) =some y0) :
  LeadsM PP 0 (start PP 194 [(.agg [(nI q_form),(nI q_n),(bO q_text),(iP q_parts)]),(iI cons)]).as (xG q_form q_n q_text q_parts cons y0 0 ([] :List Pat)).as:=
 wW 3 [0,1,2] [qp h0,qp h1,qg aB h2,qp (p:= ([] :List AV) = (Pats.av ([] :List Pat))) rfl,qp (p:= (AV.gl 2 4 0 0 false) = (.gl 2 4 0 ([] :List Pat).length false)) rfl] [rn 12,bt 9,rn 5,aI (aB y0),rn 15,.nilL 5 4,.lset 2 (Pats.av ([] :List Pat)),.set 5 (.gl 2 4 0 ([] :List Pat).length false)] ⟨fE,trivial⟩
theorem aSl (q_form q_n:Int)(q_text:aX)(q_parts:List Pat)(cons:List Int)(h0: (q_form== (6:Int)) =false) :
  LeadsM PP 0 (start PP 194 [(.agg [(nI q_form),(nI q_n),(bO q_text),(iP q_parts)]),(iI cons)]).as (xG q_form q_n q_text q_parts cons q_n 0 ([] :List Pat)).as:=
 wW 3 [0,1,2] [qp h0,qp (p:= ([] :List AV) = (Pats.av ([] :List Pat))) rfl,qp (p:= (AV.gl 2 4 0 0 false) = (.gl 2 4 0 ([] :List Pat).length false)) rfl] [rn 12,bf 9,rn 13,.nilL 5 4,.lset 2 (Pats.av ([] :List Pat)),.set 5 (.gl 2 4 0 ([] :List Pat).length false)] ⟨fE,trivial⟩
theorem aSm (q_form q_n:Int)(q_text:aX)(q_parts:List Pat)(cons:List Int)(vy0 i6:Int)(l2:List Pat)(y_form0 y_n1:Int)(y_text2:aX)(y_parts3:List Pat)(y_form4 y_n5:Int)(y_text6:aX)(y_parts7:List Pat)(h0:decide (i6< (q_parts.length:Int)) =true)(h1:0≤i6)(h2: ((q_parts)[i6.toNat]?) =some (Pat.mk y_form0 y_n1 y_text2 y_parts3))(h3:aE PP 194 [(.agg [(nI y_form0),(nI y_n1),(bO y_text2),(iP y_parts3)]),(iI cons)] (.agg [(nI y_form4),(nI y_n5),(bO y_text6),(iP y_parts7)]))(h4:List.length (l2++ [(Pat.mk y_form4 y_n5 y_text6 y_parts7)]) ≤1000000)(h5: (IntKind.i64.wrap (i6+ (1:Int))) = (i6+ (1:Int))) :
  LeadsM PP 0 (xG q_form q_n q_text q_parts cons vy0 i6 l2).as (xG q_form q_n q_text q_parts cons vy0 (i6+ (1:Int)) (l2++ [(Pat.mk y_form4 y_n5 y_text6 y_parts7)])).as:=
 wW 5 [0,1,4] [fU q_parts,qp h0,qp h1,qgP h2,qp h3,qp (p:=0+l2.length≤List.length (Pats.av l2)) (aCS dK _),qp h4,qp (p:=List.take l2.length (List.drop 0 (Pats.av l2)) ++ (Pats.av [(Pat.mk y_form4 y_n5 y_text6 y_parts7)]) = (Pats.av (l2++ [(Pat.mk y_form4 y_n5 y_text6 y_parts7)]))) (aCT dK _ _),qp (p:=l2.length+List.length (Pats.av [(Pat.mk y_form4 y_n5 y_text6 y_parts7)]) =List.length (l2++ [(Pat.mk y_form4 y_n5 y_text6 y_parts7)])) (aCU dK _ _),qp (congrArg (AV.int .i64) h5)] [rn 6,aL q_parts,rn 2,bt 20,rn 9,aI (Pat.av (Pat.mk y_form0 y_n1 y_text2 y_parts3)),rn 2,.pure (.agg [(nI y_form4),(nI y_n5),(bO y_text6),(iP y_parts7)]),rn 1,.app (Pats.av (l2++ [(Pat.mk y_form4 y_n5 y_text6 y_parts7)])) (l2++ [(Pat.mk y_form4 y_n5 y_text6 y_parts7)]).length,rn 6,sI 22 (i6+ (1:Int)),rn 3] ⟨fE,trivial⟩
theorem aSn (q_form q_n:Int)(q_text:aX)(q_parts:List Pat)(cons:List Int)(vy0 i6:Int)(l2:List Pat)(h0:decide (i6< (q_parts.length:Int)) =false) :
  Ends PP 0 (xG q_form q_n q_text q_parts cons vy0 i6 l2).as (.ret (.agg [(nI q_form),(nI vy0),(bO q_text),(iP l2)])) (aA [] 0) :=
 wE 3 [] [fU q_parts,qp h0,qp (p:=AV.keylessL (Pats.av l2) =true) fE,qp (p:=AV.frzOk 2 4 (Pats.av l2) (Pats.av l2) (.gl 2 4 0 l2.length false)) (tA dK _)] [rn 6,aL q_parts,rn 2,bf 20,rn 6,.frz 33 2 (Pats.av l2),rn 8] trivial
noncomputable def aAZ (from0 n i6:Int)(l0:List Int) :TS:=
 {fr:={fn:=140,nt:=19,sl:=[(0,(nI from0)),(1,(nI n)),(4,.nils),(5,(.gl 0 1 0 l0.length false)),(6,(nI i6))],todo:=[.code (cd Tryz.f140 [1,1,0,1,0,0]),.inLoop (cd Tryz.f140 [1,1,0,1,0,0]),.inBlock 0,.code (cd Tryz.f140 [1,1,1])]},cs:=[],hp:=[(0,(.lst 1 (jI l0)),true)],nb:=1}
theorem aSo (from0 n:Int) :
  LeadsM PP 0 (start PP 140 [(nI from0),(nI n)]).as (aAZ from0 n 0 ([] :List Int)).as:=
 wW 1 [0] [qp (p:= ([] :List AV) = (jI ([] :List Int))) rfl,qp (p:= (AV.gl 0 1 0 0 false) = (.gl 0 1 0 ([] :List Int).length false)) rfl] [rn 15,.nilL 5 1,.lset 0 (jI ([] :List Int)),.set 5 (.gl 0 1 0 ([] :List Int).length false)] ⟨kk,trivial⟩
theorem aSp (from0 n i6:Int)(l0:List Int)(h0:decide (i6<n) =true)(h1: (IntKind.i64.wrap (from0+i6)) = (from0+i6))(h2:List.length (l0++ [(from0+i6)]) ≤1000000)(h3: (IntKind.i64.wrap (i6+ (1:Int))) = (i6+ (1:Int))) :
  LeadsM PP 0 (aAZ from0 n i6 l0).as (aAZ from0 n (i6+ (1:Int)) (l0++ [(from0+i6)])).as:=
 wW 3 [2] [qp h0,qp (congrArg (AV.int .i64) h1),qp (gK aB l0),qp h2,qp (gP aB l0 [(from0+i6)]),qp (gQ aB l0 [(from0+i6)]),qp (congrArg (AV.int .i64) h3)] [rn 7,bt 9,rn 9,sI 15 (from0+i6),rn 1,.app (jI (l0++ [(from0+i6)])) (l0++ [(from0+i6)]).length,rn 6,sI 11 (i6+ (1:Int)),rn 3] ⟨kk,trivial⟩
theorem aSq (from0 n i6:Int)(l0:List Int)(h0:decide (i6<n) =false) :
  Ends PP 0 (aAZ from0 n i6 l0).as (.ret (iI l0)) (aA [] 0) :=
 wE 1 [] [qp h0,qp (p:=AV.keylessL (jI l0) =true) (aD _ (fun _=>rfl) _),qp (p:=AV.frzOk 0 1 (jI l0) (jI l0) (.gl 0 1 0 l0.length false)) (eA _ _)] [rn 7,bf 9,rn 8,.frz 4 0 (jI l0)] trivial
end Go.Hb
namespace Go.Hb
open Go.Proofs
def aN9 (cons:List Int)(f n:Int) :Option Int:=if f=6 then(if 0≤n then cons[n.toNat]? else none)else some n
mutual
def aNi (cons:List Int) :Pat→Option Pat
 | .mk f n t ps=>match aN9 cons f n with
  | some n'=>match tY cons ps with
   |some ps'=>some (.mk f n' t ps')
   |none=>none
  |none=>none
def tY (cons:List Int) :List Pat→Option (List Pat)
 | [] =>some []
 | p::ps=>match aNi cons p with
  | some p'=>match tY cons ps with
   |some ps'=>some (p'::ps')
   |none=>none
  |none=>none
end
theorem aGj (f n:Int)(s:aX)(ps:List Pat)(cons:List Int)(n':Int)(hl:ps.length<1000000)(ih:∀p∈ps,∀p',aNi cons p=some p'→aE PP 194 [Pat.av p,.ilst 1 (List.map aB cons) false] (Pat.av p')) :
  ∀ (t:List Pat) (i:Nat) (acc t':List Pat),ps.drop i=t→acc.length=i→tY cons t=some t'→Ends PP 0 (xG f n s ps cons n' (i:Int) acc).as (.ret (Pat.av (.mk f n' s (acc++t')))) (aA [] 0)
 | [],i,acc,t',h,ha,ht=>by
  have:=cD h
  cases ht
  rw [List.append_nil]
  exact aSn f n s ps cons n' i acc sd
 | .mk f1 n1 s1 ps1::t,i,acc,t',h,ha,ht=>by
  obtain⟨g1,g2,g3⟩ :=cA h
  simp only [tY]at ht
  split at ht
  · rename_i p' hp'
    split at ht
    · rename_i t1 ht1
      cases ht
      obtain⟨f2,n2,s2,ps2⟩ :=p'
      refine(aSm f n s ps cons n' i acc f1 n1 s1 ps1 f2 n2 s2 ps2 sd sd sd (ih (.mk f1 n1 s1 ps1) (List.mem_of_getElem? g1) _ hp') (by simp;omega) sd).ends ?_
      have:=aGj f n s ps cons n' hl ih t (i+1) (acc++ [.mk f2 n2 s2 ps2]) t1 g2 (by simp [ha]) ht1
      rw [List.append_assoc]at this
      exact this
    ·cases ht
  ·cases ht
mutual
theorem aP9 (cons:List Int) :∀ (p:Pat),dL p<1000000→∀p',aNi cons p=some p'→aE PP 194 [Pat.av p,.ilst 1 (List.map aB cons) false] (Pat.av p')
 | .mk f n s ps,h,p',hp'=>by
  refine bK (by kernel_rfl) (by simp [AV.keylessL,kT,AV.keyless]) (kT _) ?_
  simp only [dL]at h
  have:=fA ps
  simp only [aNi]at hp'
  split at hp'
  · rename_i n' hn'
    split at hp'
    · rename_i ps' hps'
      cases hp'
      have hloop:=aGj f n s ps cons n' (by omega) (aEi cons ps (by omega)) ps 0 [] ps' rfl rfl hps'
      unfold aN9 at hn'
      split at hn'
      · rename_i hf
        split at hn'
        · rename_i h0
          exact(aSk f n s ps cons n' (by simp [hf]) h0 hn').ends hloop
        ·cases hn'
      · rename_i hf
        cases hn'
        exact(aSl f n s ps cons (by simp [hf])).ends hloop
    ·cases hp'
  ·cases hp'
theorem aEi (cons:List Int) :∀ (ps:List Pat),bP ps<1000000→∀p∈ps,∀p',aNi cons p=some p'→aE PP 194 [Pat.av p,.ilst 1 (List.map aB cons) false] (Pat.av p')
 | [],_,p,hp=>by cases hp
 | q::ps,h,p,hp=>by
  simp only [bP]at h
  rcases List.mem_cons.1 hp with e|hp
  ·rw [e];exact aP9 cons q (by omega)
  ·exact aEi cons ps (by omega) p hp
end
end Go.Hb
namespace Go.Hb
open Go.Proofs
noncomputable section
def mN (funs cons:List Int)(op n:Int) :Option Int:=
 if op=4∧n<0 then
  match funs[(-1-n).toNat]? with
  |some g=>if -1000000000≤n∧ -1000000000≤g∧g≤1000000000 then some (-1-g)else none
  |none=>none
 else if op=14 then(if 0≤n then cons[n.toNat]? else none)else some n
def tZ (f:Nat→Int→Option (List Node)) :Nat→List Int→Option (List Int×List Node)
 |_,[] =>some ([],[])
 | len,c::cs=>match f len c with
  | some ns=>match tZ f (len+ns.length) cs with
   |some (ks,r) =>some ((len:Int) ::ks,ns++r)
   |none=>none
  |none=>none
def kZ (p:Prog)(funs cons:List Int) :Nat→Nat→Int→Option (List Node)
 |0,_,_=>none
 | k+1, len,at0=>if 0≤at0∧len<1000000 then
   match p.nodes[at0.toNat]? with
   | some y=>if y.kids.length<1000000∧bP y.pats<1000000 then
     match mN funs cons y.op y.n with
     | some n'=>match tY cons y.pats with
      | some ps'=>match tZ (kZ p funs cons k) (len+1) y.kids with
       |some (ks,r) =>some (⟨y.op,n',ks,ps'⟩ ::r)
       |none=>none
      |none=>none
     |none=>none
    else none
   |none=>none
  else none
abbrev PA (p:Prog) :AV:=.agg [(.ilst 4 (List.map Node.av p.nodes) false),(.ilst 1 (List.map aB p.funs) false),(.int .i64 p.main),(.ilst 2 (List.map Con.av p.cons) false)]
abbrev lO (p:Prog) :AObj:=.cells (putCells .leaf 0 [(.ilst 4 (List.map Node.av p.nodes) false),(.ilst 1 (List.map aB p.funs) false),(.int .i64 p.main),(.ilst 2 (List.map Con.av p.cons) false)]) 4 [] false
abbrev OL (L:List ONode) :AObj:=.lst 4 (List.map ONode.av L)
abbrev EndsL (s:TS)(L:List ONode) :Prop:=Ends PP 0 s.as (.ret (.gl 0 4 0 (List.length L) false)) (aA [(0,OL L,true)] 1)
def aA0 (p:Prog)(funs cons:List Int)(c:Int)(L:List ONode)(ns:List Node) :Prop:=
 aI5 PP (.enter 139 [.gl 0 4 0 (List.length L) false,PA p,.int .i64 c,.ilst 1 (List.map aB funs) false,.ilst 1 (List.map aB cons) false]) (aA [(0,OL L,true)] 1)
  (.ret (.gl 0 4 0 (List.length (L++List.map Node.o ns)) false)) (aA [(0,OL (L++List.map Node.o ns),true)] 1)
theorem aV3 (L:List ONode) : (OL L).kl:=aD _ (fun _=>iR _) _
theorem aSr {p:Prog}{funs cons:List Int}{c:Int}{L:List ONode}{ns:List Node}(h:aA0 p funs cons c L ns)(u:Value)(l2:List Int) :
  Spec PP (.enter 139 [.gl 0 4 0 (List.length L) false,PA p,.int .i64 c,.ilst 1 (List.map aB funs) false,.ilst 1 (List.map aB cons) false])
   (aA [(0,OL L,true),(1,lO p,false),(2,.lstv u 1 (List.map aB l2),true)] 3)
   (.ret (.gl 3 4 0 (List.length (L++List.map Node.o ns)) false))
   (aA [(1,lO p,false),(2,.lstv u 1 (List.map aB l2),true),(3,OL (L++List.map Node.o ns),true)] 4) :=
 Eq.mp (by kernel_rfl) (aAK (ks:=[0]) (n2:=3) (lc:=[(0,OL L,true),(1,lO p,false),(2,.lstv u 1 (List.map aB l2),true)])
  (x:=[(1,lO p,false),(2,.lstv u 1 (List.map aB l2),true)])
  (args':=[.gl 0 4 0 (List.length L) false,PA p,.int .i64 c,.ilst 1 (List.map aB funs) false,.ilst 1 (List.map aB cons) false])
  h (by kernel_rfl) (by kernel_rfl) (by kernel_rfl) ⟨aV3 L,trivial⟩ (by kernel_rfl) (by kernel_rfl) (by kernel_rfl) (by kernel_rfl) ⟨aV3 _,trivial⟩ (by kernel_rfl))
theorem aQa (p:Prog)(l:List ONode)(at0:Int)(funs cons c2_2:List Int)(vl0:List ONode)(l2:List Int)(i16:Int)(ua:Option Addr)(un uc:Nat) :
  (⟨{(vZ p l at0 funs cons c2_2 vl0 l2 i16).as.fr with tm:= (vZ p l at0 funs cons c2_2 vl0 l2 i16).as.fr.tm.put 91 (.val (.slice ua un uc))},(vZ p l at0 funs cons c2_2 vl0 l2 i16).as.cs,(vZ p l at0 funs cons c2_2 vl0 l2 i16).as.h.set 2 (.lstv (.slice ua un uc) 1 (List.map aB l2))⟩ :AS) = (aH9 p l at0 funs cons c2_2 vl0 l2 i16 ua un uc).as:=by kernel_rfl
theorem aSs {p:Prog}{l:List ONode}{at0:Int}{funs cons c2_2:List Int}{vl0:List ONode}{l2:List Int}{i16:Int}{L:List ONode}(h0:0<l2.length)
  (hk:∀ua un uc,EndsL (aH9 p l at0 funs cons c2_2 vl0 l2 i16 ua un uc) L) :EndsL (vZ p l at0 funs cons c2_2 vl0 l2 i16) L:=by
 refine aOG (j:=91) (b:=2) (e:=1) (n:=List.length l2) (ex:=false) (xs:=List.map aB l2) (by kernel_rfl) (by kernel_rfl) (List.length_map ..) h0 (fun ua un uc=>?_)
 have:=hk ua un uc
 unfold EndsL at this
 rw [←aQa]at this
 exact this
end
end Go.Hb
namespace Go.Hb
open Go.Proofs
noncomputable section
theorem aIa (l:List ONode)(y:ONode)(r:List ONode) : (l++y::r)[((List.length l:Nat) :Int).toNat]?=some y:=by simp
theorem aKz (l:List ONode)(y:ONode)(r:List ONode) : (l++y::r)[List.length l]?=some y:=by simp
theorem aOa (l:List ONode)(y z:ONode)(r:List ONode) :List.set (l++y::r) (((List.length l:Nat) :Int).toNat) z=l++z::r:=by simp
theorem aKA (l:List ONode)(y z:ONode)(r:List ONode) :List.set (l++y::r) (List.length l) z=l++z::r:=by simp
theorem EndsL.of {s:TS}{L L':List ONode}(h:EndsL s L)(e:L=L') :EndsL s L':=e ▸ h
section
variable (p :Prog) (funs cons:List Int) (k:Nat) (ih:∀ (L:List ONode) (c:Int) (ns:List Node),kZ p funs cons k L.length c=some ns→aA0 p funs cons c L ns)
 (l:List ONode) (at0 op n':Int) (ps':List Pat) (kids:List Int) (hkids:kids.length<1000000)
include ih hkids
theorem aOb (c:Int)(i:Nat)(kv:KV)(r0:List Node)(l2:List Int)(ns:List Node)(L:List ONode)(hc:kids[i]?=some c)(h0:0<l2.length)(hns:kZ p funs cons k (l++ ⟨op,n',kv,ps'⟩ ::List.map Node.o r0).length c=some ns)
  (hk:∀u,EndsL (aEh p l at0 funs cons kids (l++ ⟨op,n',.val u,ps'⟩ ::List.map Node.o (r0++ns)) l2 u ((i+1:Nat) :Int)) L) :
  EndsL (vZ p l at0 funs cons kids (l++ ⟨op,n',kv,ps'⟩ ::List.map Node.o r0) l2 (i:Int)) L:=by
 have hi:= (List.getElem?_eq_some_iff.1 hc).1
 refine aSs h0 (fun ua un uc=>?_)
 have hs:=ih (l++ ⟨op,n',.val (.slice ua un uc),ps'⟩ ::List.map Node.o r0) c ns (by rw [←hns];simp)
 have hcall:=aSr hs (.slice ua un uc) l2
 have h1:=aUz p l at0 funs cons kids (l++ ⟨op,n',kv,ps'⟩ ::List.map Node.o r0) l2 i ua un uc ⟨op,n',kv,ps'⟩ c ns (aIa ..) sd (by simpa using hc) (by rw [aOa];exact hcall) sd
 rw [aOa]at h1
 refine h1.ends ?_
 have:=hk (.slice ua un uc)
 rw [List.map_append]at this
 rw [show(l++ ⟨op,n',.val (.slice ua un uc),ps'⟩ ::List.map Node.o r0) ++List.map Node.o ns=l++ ⟨op,n',.val (.slice ua un uc),ps'⟩ :: (List.map Node.o r0++List.map Node.o ns)by simp]
 exact this
theorem aKB :∀ (cs:List Int) (i:Nat) (u:Value) (r0:List Node) (ks0 ks:List Int) (r:List Node),kids.drop i=cs→ks0.length=i→0<i →
  tZ (kZ p funs cons k) (l.length+1+r0.length) cs=some (ks,r) →
  EndsL (aEh p l at0 funs cons kids (l++ ⟨op,n',.val u,ps'⟩ ::List.map Node.o r0) ks0 u (i:Int)) (l++List.map Node.o (⟨op,n',ks0++ks,ps'⟩ :: (r0++r)))
 | [],i,u,r0,ks0,ks,r,h,hl,hi,hm=>by
  have:=cD h
  cases hm
  have h1:=aUB p l at0 funs cons kids (l++ ⟨op,n',.val u,ps'⟩ ::List.map Node.o r0) ks0 u i ⟨op,n',.val u,ps'⟩ sd (aKz ..) rfl
  rw [aKA]at h1
  rw [List.append_nil,List.append_nil]
  exact h1
 | c ::cs,i,u,r0,ks0,ks,r,h,hl,hi,hm=>by
  obtain⟨g1,g2,g3⟩ :=cA h
  simp only [tZ]at hm
  split at hm
  · rename_i ns hns
    split at hm
    · rename_i ks1 r1 hm1
      cases hm
      have hlen: (l++ (⟨op,n',.val u,ps'⟩ :ONode) ::List.map Node.o r0).length=l.length+1+r0.length:=by simp;omega
      refine(aUA p l at0 funs cons kids (l++ ⟨op,n',.val u,ps'⟩ ::List.map Node.o r0) ks0 u i ⟨op,n',.val u,ps'⟩ sd (by omega) (by rw [hlen];omega) (aIa ..) rfl (by simp;omega)).ends ?_
      refine aOb p funs cons k ih l at0 op n' ps' kids hkids c i (.val u) r0 _ ns _ g1 (by simp) (by rw [hlen];exact hns) (fun u'=>?_)
      have:=aKB cs (i+1) u' (r0++ns) (ks0++ [((l.length+1+r0.length:Nat) :Int)]) ks1 r1 g2 (by simp [hl]) (by omega) (by rw [List.length_append,←Nat.add_assoc];exact hm1)
      rw [hlen]
      exact this.of (by simp)
    ·cases hm
  ·cases hm
theorem aSt (ks:List Int)(r:List Node)(hm:tZ (kZ p funs cons k) (l.length+1) kids=some (ks,r)) :
  EndsL (aEg p l at0 funs cons kids (l++ [⟨op,n',.nil,ps'⟩])) (l++List.map Node.o (⟨op,n',ks,ps'⟩ ::r)) :=by
 cases kids with
 | nil=>
  cases hm
  have h1:=aUy p l at0 funs cons [] (l++ [⟨op,n',.nil,ps'⟩]) ⟨op,n',.nil,ps'⟩ sd (aKz ..) rfl
  rw [aKA]at h1
  exact h1
 | cons c cs=>
  simp only [tZ]at hm
  split at hm
  · rename_i ns hns
    split at hm
    · rename_i ks1 r1 hm1
      cases hm
      have hlen: (l++ [(⟨op,n',.nil,ps'⟩ :ONode)]).length=l.length+1:=by simp
      refine(aUx p l at0 funs cons (c::cs) (l++ [⟨op,n',.nil,ps'⟩]) ⟨op,n',.nil,ps'⟩ (by simp<;>omega) (by omega) (by rw [hlen];omega) (aIa ..) rfl (by simp)).ends ?_
      refine aOb p funs cons k ih l at0 op n' ps' (c::cs) hkids c 0 .nil [] _ ns _ rfl (by simp) (by simpa using hns) (fun u'=>?_)
      have:=aKB p funs cons k ih l at0 op n' ps' (c::cs) hkids cs 1 u' ns [((l.length+1:Nat) :Int)] ks1 r1 rfl rfl (by omega) hm1
      rw [hlen]
      exact this.of (by simp)
    ·cases hm
  ·cases hm
end
theorem aKC (p:Prog)(funs cons:List Int)(l:List ONode)(at0 op n':Int)(kids:List Int)(ps:List Pat)(hps:bP ps<1000000)(hl:l.length<1000000)(L:List ONode) :∀ (t:List Pat) (i:Nat) (acc t':List Pat),ps.drop i=t→acc.length=i→tY cons t=some t' →
  EndsL (aEg p l at0 funs cons kids (l++ [⟨op,n',.nil,acc++t'⟩])) L→EndsL (vY p l at0 funs cons op n' kids ps (i:Int) acc) L
 | [],i,acc,t',h,ha,ht,hk=>by
  have:=cD h
  cases ht
  rw [List.append_nil]at hk
  exact(aUw p l at0 funs cons op n' kids ps i acc sd (by simp;omega)).ends hk
 | .mk f1 n1 s1 ps1::t,i,acc,t',h,ha,ht,hk=>by
  obtain⟨g1,g2,g3⟩ :=cA h
  have:=fA ps
  simp only [tY]at ht
  split at ht
  · rename_i p' hp'
    split at ht
    · rename_i t1 ht1
      cases ht
      obtain⟨f2,n2,s2,ps2⟩ :=p'
      rw [show acc++ .mk f2 n2 s2 ps2::t1= (acc++ [.mk f2 n2 s2 ps2]) ++t1 by simp]at hk
      have h2:=aKC p funs cons l at0 op n' kids ps hps hl L t (i+1) (acc++ [.mk f2 n2 s2 ps2]) t1 g2 (by simp [ha]) ht1 hk
      have h1:=aUv p l at0 funs cons op n' kids ps i acc f1 n1 s1 ps1 f2 n2 s2 ps2 sd sd sd (aEi cons ps hps (.mk f1 n1 s1 ps1) (List.mem_of_getElem? g1) _ hp') (by simp;omega) sd
      exact h1.ends h2
    ·cases ht
  ·cases ht
theorem aQb (p:Prog)(l:List ONode)(at0:Int)(funs cons:List Int){L:List ONode}{ns:List Node}(e:L=l++List.map Node.o ns)(h:EndsL (aGi p l at0 funs cons) L) :aA0 p funs cons at0 l ns:=by
 subst e
 exact⟨(aGi p l at0 funs cons).as.fr,by kernel_rfl,Eq.mp (by kernel_rfl) h⟩
theorem aSu {n:Int}(h0: -1000000000≤n)(h1:n≤1000000000) :IntKind.i64.wrap (-1-n) = -1-n:=sd
theorem aEj (p:Prog)(funs cons:List Int) :∀ (k:Nat) (l:List ONode) (at0:Int) (ns:List Node),kZ p funs cons k l.length at0=some ns→aA0 p funs cons at0 l ns
 |0,l,at0,ns,h=>by cases h
 | k+1, l, at0, ns, h=>by
  simp only [kZ]at h
  split at h
  · rename_i hh
    obtain⟨hat,hlen⟩ :=hh
    split at h
    · rename_i y hy
      split at h
      · rename_i hb
        split at h
        · rename_i n' hn'
          split at h
          · rename_i ps' hps'
            split at h
            · rename_i ks r hks
              cases h
              have hC:=aKC p funs cons l at0 y.op n' y.kids y.pats hb.2 hlen _ y.pats 0 [] ps' rfl rfl hps' (aSt p funs cons k (aEj p funs cons k) l at0 y.op n' ps' y.kids hb.1 ks r hks)
              refine aQb p l at0 funs cons rfl ?_
              unfold mN at hn'
              split at hn'
              · rename_i h4
                have ho: (y.op== (14:Int)) =false:=by rw [h4.1];rfl
                split at hn'
                · rename_i g hg
                  split at hn'
                  · rename_i hr
                    cases hn'
                    exact(aUr p l at0 funs cons y g hat hy (by simp [h4.1]) (by simp [h4.2]) (aSu (by omega) (by omega)) (by omega) hg (aSu (by omega) (by omega)) ho).ends hC
                  ·cases hn'
                ·cases hn'
              · rename_i h4
                split at hn'
                · rename_i h14
                  split at hn'
                  · rename_i h0
                    exact(aUt p l at0 funs cons y n' hat hy (by simp [h14]) (by simp [h14]) h0 hn').ends hC
                  ·cases hn'
                · rename_i h14
                  cases hn'
                  by_cases ho:y.op=4
                  ·exact(aUs p l at0 funs cons y hat hy (by simp [ho]) (by simp;omega) (by simp [ho])).ends hC
                  ·exact(aUu p l at0 funs cons y hat hy (by simp [ho]) (by simp [h14])).ends hC
            ·cases h
          ·cases h
        ·cases h
      ·cases h
    ·cases h
  ·cases h
end
end Go.Hb
namespace Go.Hb
open Go.Proofs
noncomputable abbrev aEk (p:Prog) :Nat×AObj×Bool:= (0,(.cells (putCells .leaf 0 [(iN p.nodes),(iI p.funs),(nI p.main),(iC p.cons)]) 4 [] false),false)
noncomputable abbrev aEl (l3:List Node)(l4:List Int)(mn0:Int)(cs1:List Con) :Nat×AObj×Bool:= (2,(.cells (putCells .leaf 0 [(.gl 3 4 0 l3.length false),(.gl 4 1 0 l4.length false),(nI mn0),(iC cs1)]) 4 [] false),false)
noncomputable abbrev aEm  :Nat×AObj×Bool:= (1,(.cells (putCells .leaf 0 [.nils,.nils,(nI 0),.nils]) 4 [] false),false)
noncomputable def aV4 (p:Prog) :TS:=eU PP 138 [(Prog.av p)] [] 0
theorem aUC (p:Prog)(h0:List.length p.cons≤1000000) :
  Ends PP 0 (aV4 p).as (.ret (.agg [.nils,.nils,(nI p.main),(iC p.cons)])) (aA [] 0) :=
 wE 3 [] [qp h0,qr (jC p.cons),qp (p:=List.length (jC p.cons) =List.length p.cons) (List.length_map ..),qr (nI p.main),qr (nI p.main),qp (p:=AV.keylessL (jC p.cons) =true) (aD _ (fun _=>rfl) _),qp (p:=AV.frzOk 2 2 (jC p.cons) (jC p.cons) (.gl 2 2 0 p.cons.length false)) (eA _ _)] [rn 6,.reg [.d,.d,.d,.d,.app (jC p.cons) p.cons.length,.d,.d],rn 1,.cfrz 1 3 2 (jC p.cons)] trivial
noncomputable def aV5 (p:Prog) :TS:=eU PP 76 [(Prog.av p)] [] 0
noncomputable def aBE (p:Prog)(mn0:Int)(cs1:List Con)(i4:Int)(l3:List Node)(l4:List Int) :TS:=
 {fr:={fn:=76,nt:=41,sl:=[(1,(.ptr 0 0)),(2,(.ptr 1 0)),(3,(.ptr 2 0)),(4,(nI i4))],todo:=[.code (cd Tryz.f76 [1,1,0,1,0,0]),.inLoop (cd Tryz.f76 [1,1,0,1,0,0]),.inBlock 0,.code (cd Tryz.f76 [1,1,1])]},cs:=[],hp:=[aEk p,aEm,aEl l3 l4 mn0 cs1,(3,(.lst 4 (jN l3)),true),(4,(.lst 1 (jI l4)),true)],nb:=5}
noncomputable def aSv (p:Prog)(mn0:Int)(cs1:List Con)(i4:Int)(l3:List Node)(l4:List Int) :TS:=
 {fr:={fn:=76,nt:=41,sl:=[(1,(.ptr 0 0)),(2,(.ptr 1 0)),(3,(.ptr 2 0)),(4,(nI i4))],todo:=[.code (cd Tryz.f76 [1,1,0,1,0,0,1,0,0,1]),.inBlock 1,.code (cd Tryz.f76 [1,1,0,1,0,0,1,1]),.inLoop (cd Tryz.f76 [1,1,0,1,0,0]),.inBlock 0,.code (cd Tryz.f76 [1,1,1])]},cs:=[],hp:=[aEk p,aEm,aEl l3 l4 mn0 cs1,(3,(.lst 4 (jN l3)),true),(4,(.lst 1 (jI l4)),true)],nb:=5}
theorem aUD (p:Prog)(mn0:Int)(cs1:List Con)(h0:aE PP 138 [(Prog.av p)] (.agg [.nils,.nils,(nI mn0),(iC cs1)])) :
  LeadsM PP 0 (aV5 p).as (aBE p mn0 cs1 0 ([] :List Node) ([] :List Int)).as:=
 wW 5 [0,1,2,3,4] [qp h0,qp (p:= ([] :List AV) = (jN ([] :List Node))) rfl,qp (p:= (AV.gl 3 4 0 0 false) = (.gl 3 4 0 ([] :List Node).length false)) rfl,qp (p:= ([] :List AV) = (jI ([] :List Int))) rfl,qp (p:= (AV.gl 4 1 0 0 false) = (.gl 4 1 0 ([] :List Int).length false)) rfl] [rn 8,.pure (.agg [.nils,.nils,(nI mn0),(iC cs1)]),rn 10,.cnil 2 0 4,.lset 3 (jN ([] :List Node)),.cset 2 0 (.gl 3 4 0 ([] :List Node).length false),.cnil 2 1 1,.lset 4 (jI ([] :List Int)),.cset 2 1 (.gl 4 1 0 ([] :List Int).length false)] ⟨kk,⟨kk,trivial⟩⟩
theorem aUE (p:Prog)(mn0:Int)(cs1:List Con)(i4:Int)(l3:List Node)(l4:List Int)(h0:decide (i4< (p.funs.length:Int)) =true)(h1:List.length (l4++ [((l3.length:Nat) :Int)]) ≤1000000) :
  LeadsM PP 0 (aBE p mn0 cs1 i4 l3 l4).as (aSv p mn0 cs1 i4 l3 (l4++ [((l3.length:Nat) :Int)])).as:=
 wW 7 [0,1,2,3,6] [ql aB p.funs,qp h0,qp (gK aB l4),qp h1,qp (gP aB l4 [((l3.length:Nat) :Int)]),qp (gQ aB l4 [((l3.length:Nat) :Int)])] [rn 6,aL p.funs,rn 2,bt 11,rn 12,.app (jI (l4++ [((l3.length:Nat) :Int)])) (l4++ [((l3.length:Nat) :Int)]).length,rn 3] ⟨kk,⟨kk,trivial⟩⟩
theorem aUF (p:Prog)(mn0:Int)(cs1:List Con)(i4:Int)(l3:List Node)(l4:List Int)(h0:decide (i4< (p.funs.length:Int)) =false) :
  Ends PP 0 (aBE p mn0 cs1 i4 l3 l4).as (.ret (.agg [(iN l3),(iI l4),(nI mn0),(iC cs1)])) (aA [] 0) :=
 wE 5 [] [ql aB p.funs,qp h0,qp (p:=AV.keylessL (jN l3) =true) (aD _ (fun _=>rfl) _),qp (p:=AV.frzOk 3 4 (jN l3) (jN l3) (.gl 3 4 0 l3.length false)) (eA _ _),qp (p:=AV.keylessL (jI l4) =true) (aD _ (fun _=>rfl) _),qp (p:=AV.frzOk 4 1 (jI l4) (jI l4) (.gl 4 1 0 l4.length false)) (eA _ _)] [rn 6,aL p.funs,rn 2,bf 11,rn 8,.cfrz 1 0 3 (jN l3),.cfrz 1 1 4 (jI l4)] trivial
theorem aUG (p:Prog)(mn0:Int)(cs1:List Con)(i4:Int)(l3:List Node)(l4:List Int)(y0:Int)(y1 y2:List Int)(m3:List Node)(h0:0≤i4)(h1: ((p.funs)[i4.toNat]?) =some y0)(h2:aE PP 140 [(nI 0),(nI (p.funs.length:Int))] (iI y1))(h3:aE PP 140 [(nI 0),(nI (p.cons.length:Int))] (iI y2))(h4:Spec PP (.enter 139 [(.gl 3 4 0 l3.length false),(Prog.av p),(nI y0),(iI y1),(iI y2)]) (aA [aEk p,aEm,aEl l3 l4 mn0 cs1,(3,(.lst 4 (jN l3)),true),(4,(.lst 1 (jI l4)),true)] 5) (.ret (.gl 5 4 0 (l3++m3).length false)) (aA [aEk p,aEm,aEl l3 l4 mn0 cs1,(4,(.lst 1 (jI l4)),true),(5,(.lst 4 (jN (l3++m3))),true)] 6))(h5: (IntKind.i64.wrap (i4+ (1:Int))) = (i4+ (1:Int))) :
  LeadsM PP 0 (aSv p mn0 cs1 i4 l3 l4).as (aBE p mn0 cs1 (i4+ (1:Int)) (l3++m3) l4).as:=
 wW 6 [0,1,2,5,4] [qp h0,qg aB h1,ql aB p.funs,qp h2,ql Con.av p.cons,qp h3,qp h4,qp (congrArg (AV.int .i64) (aJa Con.av p.cons)),qp (congrArg (AV.int .i64) (aJa Con.av p.cons)),qr (AV.ilst 2 (jC p.cons) false),qr (AV.ilst 2 (jC p.cons) false),qr (nI y0),qr (nI y0),qr (nI y0),qr (AV.ilst 1 (jI p.funs) false),qr (AV.ilst 1 (jI p.funs) false),qr (AV.ilst 1 (jI p.funs) false),qr (Prog.av p),qr (Prog.av p),qr (Prog.av p),qr (AV.gl 3 4 0 l3.length false),qr (AV.gl 3 4 0 l3.length false),qr (AV.gl 3 4 0 l3.length false),qp (congrArg (AV.int .i64) h5)] [.reg [.d,.d,.d,.d,.d,.d,.ans (.idx (aB y0)),.d,.d,.d,.ans (.len (p.funs.length:Int)),.pure (iI y1),.d,.d,.ans (.len (p.cons.length:Int)),.pure (iI y2),.call (.gl 5 4 0 (l3++m3).length false) (aA [aEk p,aEm,aEl l3 l4 mn0 cs1,(4,(.lst 1 (jI l4)),true),(5,(.lst 4 (jN (l3++m3))),true)] 6),.d,.d],rn 4,sI 13 (i4+ (1:Int)),rn 3] ⟨kk,⟨kk,trivial⟩⟩
end Go.Hb
namespace Go.Hb
open Go.Proofs
noncomputable section
def numsL (a:Int) :Nat→List Int
 |0=>[]
 |n+1=>numsL a n++ [a+ (n:Int)]
theorem rU (a:Int) :∀n,(numsL a n).length=n
 |0=>rfl
 |n+1=>by simp [numsL,rU a n]
theorem aGk (a:Int) :∀ {n i:Nat},i<n→ (numsL a n)[i]?=some (a+ (i:Int))
 | n+1,i,h=>by
  rw [numsL]
  by_cases hi:i<n
  ·rw [List.getElem?_append_left (by rw [rU];exact hi),aGk a hi]
  · have:i=n:=by omega
    subst this
    rw [List.getElem?_append_right (by rw [rU];omega),rU]
    simp
theorem aGl (a:Int)(n:Nat)(hn:n<1000000)(ha: -1000000000≤a)(hb:a≤1000000000) :∀ (j i:Nat),i+j=n→Ends PP 0 (aAZ a (n:Int) (i:Int) (numsL a i)).as (.ret (.ilst 1 (List.map aB (numsL a n)) false)) (aA [] 0)
 | 0,i,h=>by
  have:i=n:=by omega
  subst this
  exact aSq a i i _ sd
 | j+1,i,h=>by
  have h1:=aSp a n i (numsL a i) sd sd (by rw [List.length_append,rU];simp;omega) sd
  exact h1.ends (aGl a n hn ha hb j (i+1) (by omega))
theorem aGm (a:Int)(n:Nat)(hn:n<1000000)(ha: -1000000000≤a)(hb:a≤1000000000) :aE PP 140 [.int .i64 a,.int .i64 (n:Int)] (.ilst 1 (List.map aB (numsL a n)) false) :=
 bK (by kernel_rfl) rfl rfl ((aSo a n).ends (aGl a n hn ha hb n 0 (by omega)))
theorem rV {f:Nat}{args:List AV}{v:AV}{s:TS}(e: (start PP f args).as=s.as)(hb:tD PP f=true)(hk:AV.keylessL args=true)(hv:AV.keyless v=true)(he:Ends PP 0 s.as (.ret v) (aA [] 0)) :aE PP f args v:=
 bK hb hk hv (by rw [e];exact he)
theorem aSw {p:Prog}(h:p.cons.length≤1000000) :aE PP 138 [PA p] (.agg [.nils,.nils,.int .i64 p.main,.ilst 2 (List.map Con.av p.cons) false]) :=
 rV (s:=aV4 p) (by kernel_rfl) (by kernel_rfl) (by simp [AV.keylessL,AV.keyless]) (by simp [AV.keylessL,AV.keyless]) (aUC p h)
theorem aQc {p:Prog}{funs cons:List Int}{k:Nat}{l ns:List Node}{c:Int}(h:kZ p funs cons k l.length c=some ns) :
  aI5 PP (.enter 139 [.gl 0 4 0 (List.length l) false,PA p,.int .i64 c,.ilst 1 (List.map aB funs) false,.ilst 1 (List.map aB cons) false]) (aA [(0,.lst 4 (List.map Node.av l),true)] 1)
   (.ret (.gl 0 4 0 (List.length (l++ns)) false)) (aA [(0,.lst 4 (List.map Node.av (l++ns)),true)] 1) :=by
 have:=aEj p funs cons k (List.map Node.o l) c ns (by rw [List.length_map];exact h)
 unfold aA0 OL at this
 rw [←List.map_append,aN7,aN7,List.length_map,List.length_map]at this
 exact this
theorem aSx {p:Prog}{funs cons:List Int}{k:Nat}{l ns:List Node}{c:Int}(h:kZ p funs cons k l.length c=some ns)(mn:Int)(cs:List Con)(fs:List Int) :
  Spec PP (.enter 139 [.gl 3 4 0 (List.length l) false,PA p,.int .i64 c,.ilst 1 (List.map aB funs) false,.ilst 1 (List.map aB cons) false])
   (aA [(0,lO p,false),(1,.cells (putCells .leaf 0 [.nils,.nils,.int .i64 0,.nils]) 4 [] false,false),(2,.cells (putCells .leaf 0 [.gl 3 4 0 (List.length l) false,.gl 4 1 0 (List.length fs) false,.int .i64 mn,.ilst 2 (List.map Con.av cs) false]) 4 [] false,false),(3,.lst 4 (List.map Node.av l),true),(4,.lst 1 (List.map aB fs),true)] 5)
   (.ret (.gl 5 4 0 (List.length (l++ns)) false))
   (aA [(0,lO p,false),(1,.cells (putCells .leaf 0 [.nils,.nils,.int .i64 0,.nils]) 4 [] false,false),(2,.cells (putCells .leaf 0 [.gl 3 4 0 (List.length l) false,.gl 4 1 0 (List.length fs) false,.int .i64 mn,.ilst 2 (List.map Con.av cs) false]) 4 [] false,false),(4,.lst 1 (List.map aB fs),true),(5,.lst 4 (List.map Node.av (l++ns)),true)] 6) :=
 Eq.mp (by kernel_rfl) (aAK (ks:=[3]) (n2:=5) (lc:=[(0,lO p,false),(1,.cells (putCells .leaf 0 [.nils,.nils,.int .i64 0,.nils]) 4 [] false,false),(2,.cells (putCells .leaf 0 [.gl 3 4 0 (List.length l) false,.gl 4 1 0 (List.length fs) false,.int .i64 mn,.ilst 2 (List.map Con.av cs) false]) 4 [] false,false),(3,.lst 4 (List.map Node.av l),true),(4,.lst 1 (List.map aB fs),true)])
  (x:=[(0,lO p,false),(1,.cells (putCells .leaf 0 [.nils,.nils,.int .i64 0,.nils]) 4 [] false,false),(2,.cells (putCells .leaf 0 [.gl 3 4 0 (List.length l) false,.gl 4 1 0 (List.length fs) false,.int .i64 mn,.ilst 2 (List.map Con.av cs) false]) 4 [] false,false),(4,.lst 1 (List.map aB fs),true)])
  (args':=[.gl 3 4 0 (List.length l) false,PA p,.int .i64 c,.ilst 1 (List.map aB funs) false,.ilst 1 (List.map aB cons) false])
  (aQc h) (by kernel_rfl) (by kernel_rfl) (by kernel_rfl) ⟨aD _ (fun _=>rfl) _,trivial⟩ (by kernel_rfl) (by kernel_rfl) (by kernel_rfl) (by kernel_rfl) ⟨aD _ (fun _=>rfl) _,trivial⟩ (by kernel_rfl))
theorem aKD (p:Prog)(k:Nat)(mn:Int)(cs:List Con)(hf:p.funs.length<1000000)(hc:p.cons.length<1000000) :∀ (t:List Int) (i:Nat) (l:List Node) (fs ks:List Int) (r:List Node),p.funs.drop i=t→fs.length=i→i≤p.funs.length →
  tZ (kZ p (numsL 0 p.funs.length) (numsL 0 p.cons.length) k) l.length t=some (ks,r) →
  LeadsM PP 0 (aBE p mn cs (i:Int) l fs).as (aBE p mn cs ((p.funs.length:Nat) :Int) (l++r) (fs++ks)).as
 | [],i,l,fs,ks,r,h,hl,hi,hm=>by
  have:=cD h
  obtain rfl:i=p.funs.length:=by omega
  cases hm
  rw [List.append_nil,List.append_nil]
  exact LeadsM.refl _
 | c ::t,i,l,fs,ks,r,h,hl,hi,hm=>by
  obtain⟨g1,g2,g3⟩ :=cA h
  simp only [tZ]at hm
  split at hm
  · rename_i ns hns
    split at hm
    · rename_i ks1 r1 hm1
      cases hm
      have h1:=aUE p mn cs i l fs sd (by simp;omega)
      have h2:=aUG p mn cs i l (fs++ [((l.length:Nat) :Int)]) c _ _ ns sd (by simpa using g1) (aGm 0 p.funs.length hf (by omega) (by omega)) (aGm 0 p.cons.length hc (by omega) (by omega)) (aSx hns mn cs _) sd
      have h3:=aKD p k mn cs hf hc t (i+1) (l++ns) (fs++ [((l.length:Nat) :Int)]) ks1 r1 g2 (by simp [hl]) (by omega) (by rw [List.length_append];exact hm1)
      rw [show fs++ ((l.length:Nat) :Int) ::ks1= (fs++ [((l.length:Nat) :Int)]) ++ks1 by simp,←List.append_assoc l ns r1]
      exact h1.trans (h2.trans h3)
    ·cases hm
  ·cases hm
def aCY (p:Prog)(k:Nat) :Option Prog:=match tZ (kZ p (numsL 0 p.funs.length) (numsL 0 p.cons.length) k) 0 p.funs with
 |some (ks,r) =>some ⟨r,ks,p.main,p.cons⟩
 |none=>none
theorem aNj {p q:Prog}{k:Nat}(hf:p.funs.length<1000000)(hc:p.cons.length<1000000)(h:aCY p k=some q) :aE PP 76 [PA p] (PA q) :=by
 unfold aCY at h
 split at h
 · rename_i ks r hm
   cases h
   refine rV (s:=aV5 p) (by kernel_rfl) (by kernel_rfl) (by simp [AV.keylessL,AV.keyless]) (by simp [AV.keylessL,AV.keyless]) ?_
   exact((aUD p p.main p.cons (aSw (by omega))).trans (aKD p k p.main p.cons hf hc p.funs 0 [] [] ks r rfl rfl (Nat.zero_le _) hm)).ends (aUF p p.main p.cons _ _ _ (by simp))
 ·cases h
end
end Go.Hb
namespace Go.Hb
open Go.Proofs
noncomputable def aV6 (a b:Int) :TS:=eU PP 69 [(nI a),(nI b)] [] 0
noncomputable def aEn (a b t12:Int)(m2:List (Int×Int)) :TS:=
 {fr:={fn:=69,nt:=30,sl:=[(1,(nI b)),(4,(.ptr 0 0)),(5,(.ptr 1 0)),(11,(nI a)),(12,(nI t12))],todo:=[.code (cd Tryz.f69 [1,1,0,1,0,0]),.inLoop (cd Tryz.f69 [1,1,0,1,0,0]),.inBlock 0,.code (cd Tryz.f69 [1,1,1])]},cs:=[],hp:=[(0,(.cells (putCells .leaf 0 [.nilm,.nilm]) 2 [] false),false),(1,(.cells (putCells .leaf 0 [(.map 2),(.map 3)]) 2 [] false),false),(2,(.map (aG aB aB 0 m2) m2.length),true),(3,(.map (aG aB aB 0 ([] :List (Int×Int))) ([] :List (Int×Int)).length),true)],nb:=4}
noncomputable def aEo (a b:Int)(m2:List (Int×Int))(t21:Int)(m3:List (Int×Int)) :TS:=
 {fr:={fn:=69,nt:=30,sl:=[(4,(.ptr 0 0)),(5,(.ptr 1 0)),(20,(nI b)),(21,(nI t21))],todo:=[.code (cd Tryz.f69 [1,1,1,0,1,0,0]),.inLoop (cd Tryz.f69 [1,1,1,0,1,0,0]),.inBlock 2,.code (cd Tryz.f69 [1,1,1,1])]},cs:=[],hp:=[(0,(.cells (putCells .leaf 0 [.nilm,.nilm]) 2 [] false),false),(1,(.cells (putCells .leaf 0 [(.map 2),(.map 3)]) 2 [] false),false),(2,(.map (aG aB aB 0 m2) m2.length),true),(3,(.map (aG aB aB 0 m3) m3.length),true)],nb:=4}
theorem aUH (a b:Int) :
  LeadsM PP 0 (aV6 a b).as (aEn a b 0 ([] :List (Int×Int))).as:=
 wW 4 [0,3,1,2] [qp (p:= ([] :List (AV×AV×Nat)) = (aG aB aB 0 ([] :List (Int×Int)))) rfl,qp (p:=0=List.length ([] :List (Int×Int))) rfl,qp (p:= ([] :List (AV×AV×Nat)) = (aG aB aB 0 ([] :List (Int×Int)))) rfl,qp (p:=0=List.length ([] :List (Int×Int))) rfl] [rn 7,.mset 1 (aG aB aB 0 ([] :List (Int×Int))) ([] :List (Int×Int)).length,rn 1,.mset 2 (aG aB aB 0 ([] :List (Int×Int))) ([] :List (Int×Int)).length,rn 12] ⟨aC (fun _=>rfl) (fun _=>rfl) _ _ _,⟨aC (fun _=>rfl) (fun _=>rfl) _ _ _,trivial⟩⟩
theorem aUI (a b t12:Int)(m2:List (Int×Int))(h0:decide (t12<a) =true)(h1: (IntKind.i64.wrap (t12+ (1:Int))) = (t12+ (1:Int))) :
  LeadsM PP 0 (aEn a b t12 m2).as (aEn a b (t12+ (1:Int)) (cM t12 t12 m2)).as:=
 wW 4 [0,1,2,3] [qp h0,qp (p:=jD (aG aB aB 0 m2) m2.length (aB t12) (aB t12) =some ((aG aB aB 0 (cM t12 t12 m2)),List.length (cM t12 t12 m2))) (wY cE _ _ _),qp (congrArg (AV.int .i64) h1)] [rn 5,bt 13,rn 14,.mput (aG aB aB 0 (cM t12 t12 m2)) (cM t12 t12 m2).length,rn 4,sI 19 (t12+ (1:Int)),rn 3] ⟨aC (fun _=>rfl) (fun _=>rfl) _ _ _,⟨aC (fun _=>rfl) (fun _=>rfl) _ _ _,trivial⟩⟩
theorem aUJ (a b t12:Int)(m2:List (Int×Int))(h0:decide (t12<a) =false) :
  LeadsM PP 0 (aEn a b t12 m2).as (aEo a b m2 0 ([] :List (Int×Int))).as:=
 wW 4 [0,1,2,3] [qp h0] [rn 5,bf 13,rn 10] ⟨aC (fun _=>rfl) (fun _=>rfl) _ _ _,⟨aC (fun _=>rfl) (fun _=>rfl) _ _ _,trivial⟩⟩
theorem aUK (a b:Int)(m2:List (Int×Int))(t21:Int)(m3:List (Int×Int))(h0:decide (t21<b) =true)(h1: (IntKind.i64.wrap (t21+ (1:Int))) = (t21+ (1:Int))) :
  LeadsM PP 0 (aEo a b m2 t21 m3).as (aEo a b m2 (t21+ (1:Int)) (cM t21 t21 m3)).as:=
 wW 4 [0,1,2,3] [qp h0,qp (p:=jD (aG aB aB 0 m3) m3.length (aB t21) (aB t21) =some ((aG aB aB 0 (cM t21 t21 m3)),List.length (cM t21 t21 m3))) (wY cE _ _ _),qp (congrArg (AV.int .i64) h1)] [rn 5,bt 22,rn 14,.mput (aG aB aB 0 (cM t21 t21 m3)) (cM t21 t21 m3).length,rn 4,sI 28 (t21+ (1:Int)),rn 3] ⟨aC (fun _=>rfl) (fun _=>rfl) _ _ _,⟨aC (fun _=>rfl) (fun _=>rfl) _ _ _,trivial⟩⟩
theorem aUL (a b:Int)(m2:List (Int×Int))(t21:Int)(m3:List (Int×Int))(h0:decide (t21<b) =false) :
  Ends PP 0 (aEo a b m2 t21 m3).as (.ret (.agg [(.map 0),(.map 1)])) (aA [(0,(.map (aG aB aB 0 m2) m2.length),true),(1,(.map (aG aB aB 0 m3) m3.length),true)] 2) :=
 wE 4 [2,3] [qp h0] [rn 5,bf 22,rn 8] ⟨aC (fun _=>rfl) (fun _=>rfl) _ _ _,⟨aC (fun _=>rfl) (fun _=>rfl) _ _ _,trivial⟩⟩
noncomputable def aV7 (xs:List Con) :TS:=eU PP 75 [(iC xs)] [] 0
noncomputable def aXk (xs:List Con) :TS:=
 {fr:={fn:=75,nt:=8,sl:=[(0,(iC xs)),(2,.nils),(3,(iC xs))],todo:=[mH Tryz.f75 [1,0,0] 1,.code (cd Tryz.f75 [1,0,1]),.code (cd Tryz.f75 [1,1])]},cs:=[],hp:=[],nb:=0}
theorem aXl (xs:List Con) :
  LeadsM PP 0 (aV7 xs).as (aXk xs).as:=
 wW 0 [] [] [rn 8] trivial
noncomputable def aWL (xs:List Con) :TS:=
 {fr:={fn:=75,nt:=8,sl:=[(0,(iC xs)),(2,.nils),(3,.nils)],todo:=[mH Tryz.f75 [1,0,0] 1,.code (cd Tryz.f75 [1,0,1]),.code (cd Tryz.f75 [1,1])]},cs:=[],hp:=[],nb:=0}
theorem aXm (xs:List Con) :
  Ends PP 0 (aWL xs).as (.ret (.ilst 2 (jC ([] :List Con)) true)) (aA [] 0) :=
 wE 0 [] [] [rn 8,.nilI 2 2] trivial
noncomputable def aWM (xs:List Con)(a:Addr)(n c:Nat) :TS:=
 {fr:={fn:=75,nt:=8,sl:=[(0,(iC xs)),(2,.nils),(3,(.val (Value.slice (some a) n c)))],todo:=[mH Tryz.f75 [1,0,0] 1,.code (cd Tryz.f75 [1,0,1]),.code (cd Tryz.f75 [1,1])]},cs:=[],hp:=[],nb:=0}
theorem aXn (xs:List Con)(a:Addr)(n c:Nat)(h0:List.length (([] :List Con) ++xs) ≤1000000) :
  Ends PP 0 (aWM xs a n c).as (.ret (iC (([] :List Con) ++xs))) (aA [] 0) :=
 wE 2 [] [qp (p:=getCells (putCells .leaf 0 []) 0 (0*2) =some []) rfl,qp (p:=cV [] =true) rfl,qp (p:=[] = (jC ([] :List Con))) rfl,qp (p:= (AV.gl 0 2 0 0 true) = (.gl 0 2 0 ([] :List Con).length true)) rfl,qp (gK Con.av ([] :List Con)),qp h0,qp (gP Con.av ([] :List Con) xs),qp (gQ Con.av ([] :List Con) xs),qp (p:=AV.keylessL (jC (([] :List Con) ++xs)) =true) (aD _ (fun _=>rfl) _),qp (p:=AV.frzOk 1 2 (jC (([] :List Con) ++xs)) (jC (([] :List Con) ++xs)) (.gl 1 2 0 (([] :List Con) ++xs).length false)) (eA _ _)] [rn 8,.toL 5 true [],.lset 0 (jC ([] :List Con)),.set 5 (.gl 0 2 0 ([] :List Con).length true),.app (jC (([] :List Con) ++xs)) (([] :List Con) ++xs).length,rn 3,.frz 2 1 (jC (([] :List Con) ++xs))] trivial
end Go.Hb
namespace Go.Hb
open Go.Proofs
set_option maxHeartbeats 2000000
noncomputable section
def sM :Nat→List (Int×Int)
 |0=>[]
 |n+1=>cM (n:Int) (n:Int) (sM n)
theorem jM {α β:Type}[DecidableEq α](k k':α)(v:β) :∀ (l:List (α×β)),bF k (cM k' v l) =if k=k' then some v else bF k l
 | [] =>by simp [cM,bF]
 | e ::l=>by
  simp only [cM]
  split
  · rename_i h
    subst h
    simp only [bF]
    split<;>rfl
  · rename_i h
    simp only [bF,jM k k' v l]
    by_cases h1:k=e.1
    · subst h1
      rw [if_pos rfl,if_pos rfl,if_neg (fun e=>h e.symm)]
    ·rw [if_neg h1,if_neg h1]
theorem aSy :∀ (n:Nat) (i:Int),0≤i→i<n→bF i (sM n) =some i
 |0,i,h0,h1=>by omega
 | n+1,i,h0,h1=>by
  rw [sM,jM]
  by_cases h:i= (n:Int)
  ·rw [if_pos h,h]
  ·rw [if_neg h];exact aSy n i h0 (by omega)
theorem aEp {n:Nat}{i:Int}(h0:0≤i)(h1:i<n) :eX (sM n) i=i:=by unfold eX;rw [aSy n i h0 h1];rfl
theorem aV8 (a b:Nat)(hb:b<1000000) :∀ (j i:Nat),i+j=b→Ends PP 0 (aEo (a:Int) (b:Int) (sM a) (i:Int) (sM i)).as (.ret (.agg [.map 0,.map 1])) (aA [(0,MO (sM a),true),(1,MO (sM b),true)] 2)
 | 0,i,h=>by
  have:i=b:=by omega
  subst this
  exact aUL a i (sM a) i (sM i) sd
 | j+1,i,h=>by
  exact(aUK a b (sM a) i (sM i) sd sd).ends (aV8 a b hb j (i+1) (by omega))
theorem aV9 (a b:Nat)(ha:a<1000000)(hb:b<1000000) :∀ (j i:Nat),i+j=a→Ends PP 0 (aEn (a:Int) (b:Int) (i:Int) (sM i)).as (.ret (.agg [.map 0,.map 1])) (aA [(0,MO (sM a),true),(1,MO (sM b),true)] 2)
 | 0,i,h=>by
  have:i=a:=by omega
  subst this
  exact(aUJ i b i (sM i) sd).ends (aV8 i b hb b 0 (by omega))
 | j+1,i,h=>by
  exact(aUI a b i (sM i) sd sd).ends (aV9 a b ha hb j (i+1) (by omega))
theorem aQd (a b:Nat)(ha:a<1000000)(hb:b<1000000) :aI5 PP (.enter 69 [.int .i64 (a:Int),.int .i64 (b:Int)]) (aA [] 0) (.ret (.agg [.map 0,.map 1])) (aA [(0,MO (sM a),true),(1,MO (sM b),true)] 2) :=
 ⟨(aV6 a b).as.fr,by kernel_rfl,Eq.mp (by kernel_rfl) ((aUH a b).ends (aV9 a b ha hb a 0 (by omega)))⟩
theorem aQe {P:Program}{m:Nat}{s:AS}{v v':AV}{h':Hp}(h:Ends P m s (.ret v) h')(hv:∀ (E:Emb) (cv:Value),VR E v cv→VR E v' cv) :Ends P m s (.ret v') h':=fun hm E fr ccs w f fs r cl base=>by
 obtain⟨cl',w',E',s1,⟨cv,rfl,g2⟩,r2,x2⟩ :=h hm E fr ccs w f fs r cl base
 exact⟨_,w',E',s1,⟨cv,rfl,hv E' cv g2⟩,r2,x2⟩
theorem aIb {E:Emb}{e:Nat}{xs:List AV}{cv:Value}(h:VR E (.ilst e xs true) cv) :VR E (.ilst e xs false) cv:=by
 simp only [VR]at h ⊢
 obtain⟨vs,h1,h2,h3⟩ :=h
 refine⟨vs,h1,h2,?_⟩
 rcases h3 with⟨rfl,a,cap,rfl,g,_⟩ | ⟨k,a,cap,C,g1,g2,g3,_,g5⟩
 ·exact .inl ⟨rfl,a,cap,rfl,g,fun hh=>by cases hh⟩
 ·exact .inr ⟨k,a,cap,C,g1,g2,g3,(fun hh=>by cases hh),g5⟩
theorem aNk (xs:List Con)(h:xs.length≤1000000) :aE PP 75 [.ilst 2 (List.map Con.av xs) false] (.ilst 2 (List.map Con.av xs) false) :=by
 refine rV (s:=aV7 xs) (by kernel_rfl) (by kernel_rfl) (by simp [AV.keylessL,AV.keyless]) (by simp [AV.keyless]) ((aXl xs).ends ?_)
 refine aQP (j:=3) (e:=2) (ex:=false) (xs:=List.map Con.av xs) (by kernel_rfl) (fun hx=>?_) (fun a n c=>?_)
 · have hx:xs= [] :=by simpa using hx
   subst hx
   have h1:=aQe (aXm []) (fun E cv hv=>aIb hv)
   exact Eq.mp (by kernel_rfl) h1
 · have h1:=aXn xs a n c (by simpa using h)
   rw [List.nil_append]at h1
   exact Eq.mp (by kernel_rfl) h1
section
variable {p :Prog}
end
end
end Go.Hb
namespace Go.Hb
open Go.Proofs
noncomputable def aIc (ml: (List (Int×Bool)))(mn: (List (Int× (List Int))))(f0:Int) :TS:=eU PP 128 [(nI f0),(.ptr 0 0),(.ptr 1 0),(.ptr 2 0)] [(0,(.cells (putCells .leaf 0 [(.map 3)]) 1 [] false),false),(1,(.cells (putCells .leaf 0 [(.map 4)]) 1 [] false),false),(2,(.cells (putCells .leaf 0 [(.func 128 [] [(.ptr 0 0),(.ptr 1 0),(.ptr 2 0)])]) 1 [] false),false),(3,(.map (aG aB eH 0 ml) ml.length),true),(4,(.map (aG aB (mC 1 aB) 0 mn) mn.length),true)] 5
noncomputable def aA1 (ml: (List (Int×Bool)))(mn: (List (Int× (List Int))))(f0:Int)(vy0:List Int)(t15 t16:Int)(m3: (List (Int×Bool))) :TS:=
 {fr:={fn:=128,nt:=24,sl:=[(3,(.ptr 2 0)),(14,(iI vy0)),(15,(nI t15)),(16,(nI t16))],todo:=[.code (cd Tryz.f128 [1,1,1,0,0]),.inLoop (cd Tryz.f128 [1,1,1,0,0]),.inBlock 0]},cs:=[],hp:=[(0,(.cells (putCells .leaf 0 [(.map 3)]) 1 [] false),false),(1,(.cells (putCells .leaf 0 [(.map 4)]) 1 [] false),false),(2,(.cells (putCells .leaf 0 [(.func 128 [] [(.ptr 0 0),(.ptr 1 0),(.ptr 2 0)])]) 1 [] false),false),(3,(.map (aG aB eH 0 m3) m3.length),true),(4,(.map (aG aB (mC 1 aB) 0 mn) mn.length),true)],nb:=5}
theorem aSz (ml: (List (Int×Bool)))(mn: (List (Int× (List Int))))(f0:Int)(h0:bF f0 ml=some true) :
  Ends PP 5 (aIc ml mn f0).as (.ret (.tup [])) (aA [(0,(.cells (putCells .leaf 0 [(.map 3)]) 1 [] false),false),(1,(.cells (putCells .leaf 0 [(.map 4)]) 1 [] false),false),(2,(.cells (putCells .leaf 0 [(.func 128 [] [(.ptr 0 0),(.ptr 1 0),(.ptr 2 0)])]) 1 [] false),false),(3,(.map (aG aB eH 0 ml) ml.length),true),(4,(.map (aG aB (mC 1 aB) 0 mn) mn.length),true)] 5) :=
 wE 5 [] [qp (p:=cR (aB f0) (aG aB eH 0 ml) 0=some (some (jJ f0 ml,(eH true)))) (eJ cE h0)] [rn 5,.ans (.look (some (jJ f0 ml,(eH true)))),rn 3] ⟨aC (fun _=>rfl) (fun _=>rfl) _ _ _,⟨aC (fun _=>rfl) (fun _=>rfl) _ _ _,trivial⟩⟩
theorem aSA (ml: (List (Int×Bool)))(mn: (List (Int× (List Int))))(f0:Int)(y0:List Int)(h0:bF f0 ml=none)(h1:bF f0 mn=some y0) :
  LeadsM PP 5 (aIc ml mn f0).as (aA1 ml mn f0 y0 (y0.length:Int) 0 (cM f0 true ml)).as:=
 wW 5 [] [qp (p:=cR (aB f0) (aG aB eH 0 ml) 0=some none) (gR cE h0),qp (p:=jD (aG aB eH 0 ml) ml.length (aB f0) (eH true) =some ((aG aB eH 0 (cM f0 true ml)),List.length (cM f0 true ml))) (wY cE _ _ _),qp (p:=cR (aB f0) (aG aB (mC 1 aB) 0 mn) 0=some (some (jJ f0 mn,((mC 1 aB) y0)))) (eJ cE h1),ql aB y0] [rn 5,.ans (.look none),rn 7,.mput (aG aB eH 0 (cM f0 true ml)) (cM f0 true ml).length,rn 5,.ans (.look (some (jJ f0 mn,((mC 1 aB) y0)))),aL y0,rn 4] ⟨aC (fun _=>rfl) (fun _=>rfl) _ _ _,⟨aC (fun _=>rfl) (fun _=>rfl) _ _ _,trivial⟩⟩
theorem aSB (ml: (List (Int×Bool)))(mn: (List (Int× (List Int))))(f0:Int)(vy0:List Int)(t15 t16:Int)(m3: (List (Int×Bool)))(y0:Int)(zl1: (List (Int×Bool)))(h0:decide (t16<t15) =true)(h1:0≤t16)(h2: ((vy0)[t16.toNat]?) =some y0)(h3:Spec PP (.enter 128 [(nI y0),(.ptr 0 0),(.ptr 1 0),(.ptr 2 0)]) (aA [(0,(.cells (putCells .leaf 0 [(.map 3)]) 1 [] false),false),(1,(.cells (putCells .leaf 0 [(.map 4)]) 1 [] false),false),(2,(.cells (putCells .leaf 0 [(.func 128 [] [(.ptr 0 0),(.ptr 1 0),(.ptr 2 0)])]) 1 [] false),false),(3,(.map (aG aB eH 0 m3) m3.length),true),(4,(.map (aG aB (mC 1 aB) 0 mn) mn.length),true)] 5) (.ret (.tup [])) (aA [(0,(.cells (putCells .leaf 0 [(.map 3)]) 1 [] false),false),(1,(.cells (putCells .leaf 0 [(.map 4)]) 1 [] false),false),(2,(.cells (putCells .leaf 0 [(.func 128 [] [(.ptr 0 0),(.ptr 1 0),(.ptr 2 0)])]) 1 [] false),false),(3,(.map (aG aB eH 0 zl1) zl1.length),true),(4,(.map (aG aB (mC 1 aB) 0 mn) mn.length),true)] 5))(h4: (IntKind.i64.wrap (t16+ (1:Int))) = (t16+ (1:Int))) :
  LeadsM PP 5 (aA1 ml mn f0 vy0 t15 t16 m3).as (aA1 ml mn f0 vy0 t15 (t16+ (1:Int)) zl1).as:=
 wW 5 [] [qp h0,qp h1,qg aB h2,qp h3,qp (congrArg (AV.int .i64) h4)] [rn 5,bt 17,rn 6,aI (aB y0),rn 6,.call (.tup []) (aA [(0,(.cells (putCells .leaf 0 [(.map 3)]) 1 [] false),false),(1,(.cells (putCells .leaf 0 [(.map 4)]) 1 [] false),false),(2,(.cells (putCells .leaf 0 [(.func 128 [] [(.ptr 0 0),(.ptr 1 0),(.ptr 2 0)])]) 1 [] false),false),(3,(.map (aG aB eH 0 zl1) zl1.length),true),(4,(.map (aG aB (mC 1 aB) 0 mn) mn.length),true)] 5),rn 4,sI 23 (t16+ (1:Int)),rn 3] ⟨aC (fun _=>rfl) (fun _=>rfl) _ _ _,⟨aC (fun _=>rfl) (fun _=>rfl) _ _ _,trivial⟩⟩
theorem aSC (ml: (List (Int×Bool)))(mn: (List (Int× (List Int))))(f0:Int)(vy0:List Int)(t15 t16:Int)(m3: (List (Int×Bool)))(h0:decide (t16<t15) =false) :
  Ends PP 5 (aA1 ml mn f0 vy0 t15 t16 m3).as (.ret (.tup [])) (aA [(0,(.cells (putCells .leaf 0 [(.map 3)]) 1 [] false),false),(1,(.cells (putCells .leaf 0 [(.map 4)]) 1 [] false),false),(2,(.cells (putCells .leaf 0 [(.func 128 [] [(.ptr 0 0),(.ptr 1 0),(.ptr 2 0)])]) 1 [] false),false),(3,(.map (aG aB eH 0 m3) m3.length),true),(4,(.map (aG aB (mC 1 aB) 0 mn) mn.length),true)] 5) :=
 wE 5 [] [qp h0] [rn 5,bf 17,rn 3] ⟨aC (fun _=>rfl) (fun _=>rfl) _ _ _,⟨aC (fun _=>rfl) (fun _=>rfl) _ _ _,trivial⟩⟩
noncomputable def aNl (ml: (List (Int×Bool)))(mn: (List (Int× (List Int))))(f0:Int) :TS:=eU PP 128 [(nI f0),(.ptr 0 0),(.ptr 1 0),(.ptr 2 0)] [(0,(.cells (putCells .leaf 0 [(.map 3)]) 1 [] false),false),(1,(.cells (putCells .leaf 0 [(.map 4)]) 1 [] false),false),(2,(.cells (putCells .leaf 0 [(.func 128 [] [(.ptr 0 0),(.ptr 1 0),(.ptr 2 0)])]) 1 [] false),false),(3,(.map (aG aB eH 0 ml) ml.length),true),(4,(.map (aG aB (mC 1 aB) 0 mn) mn.length),true)] 5
noncomputable def aOc (ml: (List (Int×Bool)))(mn: (List (Int× (List Int))))(f0:Int)  :TS:=
 {fr:={fn:=128,nt:=24,sl:=[(3,(.ptr 2 0)),(14,.nils),(15,(nI 0)),(16,(nI 0))],todo:=[.code (cd Tryz.f128 [1,1,1,0,0]),.inLoop (cd Tryz.f128 [1,1,1,0,0]),.inBlock 0]},cs:=[],hp:=[(0,(.cells (putCells .leaf 0 [(.map 3)]) 1 [] false),false),(1,(.cells (putCells .leaf 0 [(.map 4)]) 1 [] false),false),(2,(.cells (putCells .leaf 0 [(.func 128 [] [(.ptr 0 0),(.ptr 1 0),(.ptr 2 0)])]) 1 [] false),false),(3,(.map (aG aB eH 0 (cM f0 true ml)) (cM f0 true ml).length),true),(4,(.map (aG aB (mC 1 aB) 0 mn) mn.length),true)],nb:=5}
theorem aSD (ml: (List (Int×Bool)))(mn: (List (Int× (List Int))))(f0:Int)(h0:bF f0 ml=none)(h1:bF f0 mn=none) :
  LeadsM PP 5 (aNl ml mn f0).as (aOc ml mn f0).as:=
 wW 5 [] [qp (p:=cR (aB f0) (aG aB eH 0 ml) 0=some none) (gR cE h0),qp (p:=jD (aG aB eH 0 ml) ml.length (aB f0) (eH true) =some ((aG aB eH 0 (cM f0 true ml)),List.length (cM f0 true ml))) (wY cE _ _ _),qp (p:=cR (aB f0) (aG aB (mC 1 aB) 0 mn) 0=some none) (gR cE h1)] [rn 5,.ans (.look none),rn 7,.mput (aG aB eH 0 (cM f0 true ml)) (cM f0 true ml).length,rn 5,.ans (.look none),rn 5] ⟨aC (fun _=>rfl) (fun _=>rfl) _ _ _,⟨aC (fun _=>rfl) (fun _=>rfl) _ _ _,trivial⟩⟩
theorem aSE (ml: (List (Int×Bool)))(mn: (List (Int× (List Int))))(f0:Int) :
  Ends PP 5 (aOc ml mn f0).as (.ret (.tup [])) (aA [(0,(.cells (putCells .leaf 0 [(.map 3)]) 1 [] false),false),(1,(.cells (putCells .leaf 0 [(.map 4)]) 1 [] false),false),(2,(.cells (putCells .leaf 0 [(.func 128 [] [(.ptr 0 0),(.ptr 1 0),(.ptr 2 0)])]) 1 [] false),false),(3,(.map (aG aB eH 0 (cM f0 true ml)) (cM f0 true ml).length),true),(4,(.map (aG aB (mC 1 aB) 0 mn) mn.length),true)] 5) :=
 wE 5 [] [] [rn 8] ⟨aC (fun _=>rfl) (fun _=>rfl) _ _ _,⟨aC (fun _=>rfl) (fun _=>rfl) _ _ _,trivial⟩⟩
end Go.Hb
namespace Go.Hb
open Go.Proofs
set_option maxHeartbeats 2000000
noncomputable section
def qH (g:Int→List (Int×Bool) →Option (List (Int×Bool))) :List Int→List (Int×Bool) →Option (List (Int×Bool))
 | [],m=>some m
 | k::t,m=>match g k m with
  |some m'=>qH g t m'
  |none=>none
def hQ (mn:List (Int×List Int)) :Nat→Int→List (Int×Bool) →Option (List (Int×Bool))
 |0,_,_=>none
 | k+1,f,ml=>match bF f ml with
  |some _=>some ml
  |none=>qH (hQ mn k) ((bF f mn).getD []) (cM f true ml)
theorem aKE {ml:List (Int×Bool)}(h:xR ml)(f:Int) :xR (cM f true ml) :=fun k v e=>by
 rw [jM]at e
 split at e
 ·cases e;rfl
 ·exact h k v e
theorem aEq {g:Int→List (Int×Bool) →Option (List (Int×Bool))}(hg:∀k m m',xR m→g k m=some m'→xR m') :∀ (t:List Int) (m m':List (Int×Bool)),xR m→qH g t m=some m'→xR m'
 | [],m,m',h,e=>by cases e;exact h
 | k ::t,m,m',h,e=>by
  simp only [qH]at e
  split at e
  · rename_i m1 h1
    exact aEq hg t m1 m' (hg k m m1 h h1) e
  ·cases e
theorem wC (mn:List (Int×List Int)) :∀ (k:Nat) (f:Int) (m m':List (Int×Bool)),xR m→hQ mn k f m=some m'→xR m'
 |0,_,_,_,_,e=>by cases e
 | k+1,f,m,m',h,e=>by
  simp only [hQ]at e
  split at e
  ·cases e;exact h
  ·exact aEq (wC mn k) _ _ _ (aKE h f) e
abbrev aXo (m:List (Int×List Int)) :AObj:=.map (aG aB (mC 1 aB) 0 m) (List.length m)
theorem aSF (m:List (Int×List Int)) : (aXo m).kl:=aC (fun _=>rfl) (fun l=>by simp only [mC,AV.keyless]) _ _ _
abbrev RH (ml:List (Int×Bool))(mn:List (Int×List Int)) :List (Nat×AObj×Bool) :=[(0,(.cells (putCells .leaf 0 [(.map 3)]) 1 [] false),false),(1,(.cells (putCells .leaf 0 [(.map 4)]) 1 [] false),false),(2,(.cells (putCells .leaf 0 [(.func 128 [] [(.ptr 0 0),(.ptr 1 0),(.ptr 2 0)])]) 1 [] false),false),(3,MB ml,true),(4,aXo mn,true)]
abbrev aXp (f:Int) :List AV:=[.int .i64 f,.ptr 0 0,.ptr 1 0,.ptr 2 0]
def aOd (mn:List (Int×List Int))(f:Int)(ml ml':List (Int×Bool)) :Prop:=Spec PP (.enter 128 (aXp f)) (aA (RH ml mn) 5) (.ret (.tup [])) (aA (RH ml' mn) 5)
theorem aEr {mn:List (Int×List Int)}{ml ml':List (Int×Bool)}{f:Int}(h:Ends PP 5 (aIc ml mn f).as (.ret (.tup [])) (aA (RH ml' mn) 5)) :aOd mn f ml ml':=
 ⟨(aIc ml mn f).as.fr,by kernel_rfl,Eq.mp (by kernel_rfl) h⟩
theorem aNm {mn:List (Int×List Int)}{ml ml':List (Int×Bool)}{f:Int}(h:Ends PP 5 (aNl ml mn f).as (.ret (.tup [])) (aA (RH ml' mn) 5)) :aOd mn f ml ml':=
 ⟨(aNl ml mn f).as.fr,by kernel_rfl,Eq.mp (by kernel_rfl) h⟩
theorem aKF {mn:List (Int×List Int)}{k:Nat}(ml:List (Int×Bool))(f:Int)(row:List Int)(hrow:row.length≤1000000)
  (ih:∀ (g:Int) (m m':List (Int×Bool)),xR m→hQ mn k g m=some m'→aOd mn g m m') :∀ (t:List Int) (j:Nat) (m m':List (Int×Bool)),xR m→row.drop j=t→qH (hQ mn k) t m=some m' →
  Ends PP 5 (aA1 ml mn f row ((List.length row:Nat) :Int) (j:Int) m).as (.ret (.tup [])) (aA (RH m' mn) 5)
 | [],j,m,m',hm,h,e=>by
  have:=cD h
  cases e
  exact aSC ml mn f row _ j m sd
 | g ::t,j,m,m',hm,h,e=>by
  obtain⟨g1,g2,g3⟩ :=cA h
  simp only [qH]at e
  split at e
  · rename_i m1 h1
    have h0:=aSB ml mn f row ((List.length row:Nat) :Int) j m g m1 sd sd sd (ih g m m1 hm h1) sd
    exact h0.ends (aKF ml f row hrow ih t (j+1) m1 m' (wC mn k g m m1 hm h1) g2 e)
  ·cases e
theorem aEs {mn:List (Int×List Int)}(hrow:∀ (f:Int) (row:List Int),bF f mn=some row→row.length≤1000000) :∀ (k:Nat) (f:Int) (m m':List (Int×Bool)),xR m→hQ mn k f m=some m'→aOd mn f m m'
 |0,_,_,_,_,e=>by cases e
 | k +1,f,m,m',hm,e=>by
  simp only [hQ]at e
  split at e
  · rename_i v hv
    obtain rfl:=hm _ _ hv
    cases e
    exact aEr (aSz m mn f hv)
  · rename_i hv
    cases hr:bF f mn with
    | none=>
     rw [hr]at e
     cases e
     exact aNm ((aSD m mn f hv hr).ends (aSE m mn f))
    | some row=>
     rw [hr]at e
     exact aEr ((aSA m mn f row hv hr).ends (aKF m f row (hrow f row hr) (fun g m m'=>aEs hrow k g m m') row 0 _ m' (aKE hm f) rfl e))
end
end Go.Hb
namespace Go.Hb
theorem aGn {α β:Type}[DecidableEq α]{f:α→AV}{g:β→AV}(hf:aCF f)(k:α)(r:List (AV×AV×Nat)) :∀ (l:List (α×β)) (n i:Nat),bF k l=none→cR (f k) (aG f g n l++r) i=cR (f k) r (i+l.length)
 | [],n,i,_=>rfl
 | e ::l,n,i,h=>by
  unfold bF at h
  split at h
  ·cases h
  · rename_i hk
    simp only [aG,cR,hf k e.1,decide_eq_false hk,List.cons_append,List.length_cons]
    rw [aGn hf k r l (n+1) (Nat.succ i) h,show Nat.succ i+l.length=i+ (l.length+1)by omega]
theorem aGo {α β:Type}[DecidableEq α]{f:α→AV}{g:β→AV}(hf:aCF f){k:α}{l:List (α×β)}(h:bF k l=none)(v:AV)(c:Nat) :cR (f k) (aG f g 0 l++ [(f k,v,c)]) 0=some (some (List.length l,v)) :=by
 rw [aGn hf k _ l 0 0 h]
 simp [cR,hf k k]
theorem aKG {k v w:AV}{c:Nat}:∀ (es:List (AV×AV×Nat)),setE k v (es++ [(k,w,c)]) es.length=es++ [(k,v,c)]
 | [] =>rfl
 |e::es=>by simp only [List.cons_append,List.length_cons,setE,aKG es]
theorem aSG {α β:Type}[DecidableEq α]{f:α→AV}{g:β→AV}(hf:aCF f){k:α}{l:List (α×β)}(h:bF k l=none)(v w:AV)(c n:Nat) :jD (aG f g 0 l++ [(f k,w,c)]) n (f k) v=some (aG f g 0 l++ [(f k,v,c)],n) :=by
 unfold jD
 rw [aGo hf h]
 simp only
 have:=aKG (k:=f k) (v:=v) (w:=w) (c:=c) (aG f g 0 l)
 rw [aHy]at this
 rw [this]
theorem aQf {α β:Type}[DecidableEq α]{f:α→AV}{g:β→AV}(hf:aCF f){k:α}{l:List (α×β)}(h:bF k l=none)(v:AV) :jD (aG f g 0 l) (List.length l) (f k) v=some (aG f g 0 l++ [(f k,v,List.length l)],Nat.succ (List.length l)) :=by
 unfold jD
 rw [tB hf k l 0 0 h]
theorem aWa {α β:Type}{f:α→AV}{g:β→AV}(hf:∀a,AV.keyless (f a) =true)(hg:∀a,AV.keyless (g a) =true)(l:List (α×β)) :KL (aG f g 0 l) :=tC hf hg l 0
theorem aQg {α β:Type}[DecidableEq α]{f:α→AV}{g:β→AV}{k:α}{l:List (α×β)}(h:bF k l=none)(v:β) :aG f g 0 l++ [(f k,g v,List.length l)] =aG f g 0 (cM k v l) :=by
 have:= (aAN f g k v l 0 h).1
 rwa [Nat.zero_add]at this
theorem aNn {α β:Type}[DecidableEq α]{k:α}{l:List (α×β)}(h:bF k l=none)(v:β) :Nat.succ (List.length l) =List.length (cM k v l) := (aAN (fun _=>AV.nils) (fun _=>AV.nils) k v l 0 h).2.symm
theorem aCl (k:Int) :AV.keyless (aB k) =true:=rfl
theorem aCm (l:List Int) :AV.keyless (mC 1 aB l) =true:=by simp only [mC,AV.keyless]
end Go.Hb
namespace Go.Hb
open Go.Proofs
noncomputable abbrev qX (p:Prog) :Nat×AObj×Bool:= (1,(.cells (putCells .leaf 0 [(iN p.nodes),(iI p.funs),(nI p.main),(iC p.cons)]) 4 [] false),false)
noncomputable abbrev qY (p:Prog) :Nat×AObj×Bool:= (6,(.cells (putCells .leaf 0 [(iN p.nodes),(iI p.funs),(nI p.main),(iC p.cons)]) 4 [] false),false)
noncomputable abbrev aNo  :Nat×AObj×Bool:= (3,(.loop .exhausted none 68 (mkT [(1,(.ptr 1 0)),(3,(.ptr 2 0))]) 47 [11] (cd Tryz.f68 [1,1,0,1,0,0]) (cd Tryz.f68 [1,1,0,1,0,1]) 4),false)
noncomputable abbrev zJ  :Nat×AObj×Bool:= (3,(.loop .ready none 68 (mkT [(1,(.ptr 1 0)),(3,(.ptr 2 0))]) 47 [11] (cd Tryz.f68 [1,1,0,1,0,0]) (cd Tryz.f68 [1,1,0,1,0,1]) 4),false)
noncomputable abbrev aNp  :Nat×AObj×Bool:= (10,(.cells (putCells .leaf 0 [(.func 128 [] [(.ptr 9 0),(.ptr 2 0),(.ptr 10 0)])]) 1 [] false),false)
noncomputable abbrev qZ  :Nat×AObj×Bool:= (0,(.cells (putCells .leaf 0 [(.func 154 [] [(.ptr 5 0),(.ptr 6 0),(.ptr 0 0)])]) 1 [] false),false)
noncomputable abbrev rA  :Nat×AObj×Bool:= (5,(.cells (putCells .leaf 0 [(.yield 3)]) 1 [] false),false)
noncomputable abbrev wF (m7: (List (Int× (List Int)))) :Nat×AObj×Bool:= (7,(.map (aG aB (mC 1 aB) 0 m7) m7.length),true)
noncomputable abbrev rB  :Nat×AObj×Bool:= (2,(.cells (putCells .leaf 0 [(.map 7)]) 1 [] false),false)
noncomputable abbrev aNq  :Nat×AObj×Bool:= (9,(.cells (putCells .leaf 0 [(.map 8)]) 1 [] false),false)
noncomputable abbrev aOe (zl0: (List (Int×Bool))) :Nat×AObj×Bool:= (8,(.map (aG aB eH 0 zl0) zl0.length),true)
noncomputable def aSH (p:Prog) :TS:=eU PP 68 [(Prog.av p)] [] 0
noncomputable def qI (p:Prog)(t11:Int)(m7: (List (Int× (List Int)))) :TS:=
 {fr:={fn:=153,nt:=23,sl:=[(3,(.ptr 0 0)),(9,(iI p.funs)),(10,(nI (p.funs.length:Int))),(11,(nI t11))],todo:=[.code (cd Tryz.f153 [1,1,1,1,0,0]),.inLoop (cd Tryz.f153 [1,1,1,1,0,0]),.inBlock 0]},cs:=[{fn:=68,nt:=47,sl:=[(1,(.ptr 1 0)),(2,.nilm),(3,(.ptr 2 0))],todo:=[.inRF 3,.inBlock 0,.code (cd Tryz.f68 [1,1,1])],defers:=[.col 4]}],hp:=[qZ,qX p,rB,zJ,(4,(.defd false),false),rA,qY p,wF m7],nb:=8}
theorem aSI (p:Prog) :
  LeadsM PP 0 (aSH p).as (qI p 0 ([] :List (Int× (List Int)))).as:=
 wW 8 [7,0,2,5,4,6,3,1] [qp (p:= ([] :List (AV×AV×Nat)) = (aG aB (mC 1 aB) 0 ([] :List (Int× (List Int))))) rfl,qp (p:=0=List.length ([] :List (Int× (List Int)))) rfl,ql aB p.funs] [rn 8,.mset 1 (aG aB (mC 1 aB) 0 ([] :List (Int× (List Int)))) ([] :List (Int× (List Int))).length,rn 23,.lkeep 5 [1,3],rn 18,aL p.funs,rn 4] ⟨aC (fun _=>rfl) (fun _=>rfl) _ _ _,trivial⟩
theorem aSJ (p:Prog)(t11:Int)(m7: (List (Int× (List Int))))(y0:Int)(zr1:List Int)(h0:decide (t11< (p.funs.length:Int)) =true)(h1:0≤t11)(h2: ((p.funs)[t11.toNat]?) =some y0)(h3:Spec PP (.enter 154 [(.agg [(nI y0),(nI t11),(nI 1)]),(.ptr 5 0),(.ptr 6 0),(.ptr 0 0)]) (aA [qZ,qX p,rB,zJ,(4,(.defd false),false),rA,qY p,wF m7] 8) (.ret (bV true)) (aA [qZ,qX p,rB,zJ,(4,(.defd false),false),rA,qY p,(7,(.mapx (aG aB (mC 1 aB) 0 m7) m7.length (aB t11) (.gl 8 1 0 zr1.length false)),false),(8,(.lst 1 (jI zr1)),true)] 9))(h4: (IntKind.i64.wrap (t11+ (1:Int))) = (t11+ (1:Int)))(h5:bF t11 m7=none) :
  LeadsM PP 0 (qI p t11 m7).as (qI p (t11+ (1:Int)) (cM t11 zr1 m7)).as:=
 wW 9 [0,1,2,3,4,5,6,7] [qp h0,qp h1,qg aB h2,qp h3,qp (congrArg (AV.int .i64) h4),qp (p:=AV.keyless (aB t11) =true) rfl,qp (p:=AV.keylessL (jI zr1) =true) (aD _ (fun _=>rfl) _),qp (p:=AV.frzOk 8 1 (jI zr1) (jI zr1) (.gl 8 1 0 zr1.length false)) (eA _ _),qp (p:= ((aG aB (mC 1 aB) 0 m7) ++ [(aB t11,AV.frz 8 (jI zr1) (.gl 8 1 0 zr1.length false),List.length m7)]) = (aG aB (mC 1 aB) 0 (cM t11 zr1 m7))) (aQg (g:=mC 1 aB) h5 _),qp (p:=Nat.succ m7.length=List.length (cM t11 zr1 m7)) (aNn h5 _)] [rn 5,bt 12,rn 7,aI (aB y0),rn 10,.call (bV true) (aA [qZ,qX p,rB,zJ,(4,(.defd false),false),rA,qY p,(7,(.mapx (aG aB (mC 1 aB) 0 m7) m7.length (aB t11) (.gl 8 1 0 zr1.length false)),false),(8,(.lst 1 (jI zr1)),true)] 9),rn 7,sI 22 (t11+ (1:Int)),rn 3,.mfrz 7 8 (jI zr1),.mset 7 (aG aB (mC 1 aB) 0 (cM t11 zr1 m7)) (cM t11 zr1 m7).length] ⟨aC (fun _=>rfl) (fun _=>rfl) _ _ _,trivial⟩
theorem aSK (p:Prog)(t11:Int)(m7: (List (Int× (List Int))))(y0:Int)(h0:decide (t11< (p.funs.length:Int)) =true)(h1:0≤t11)(h2: ((p.funs)[t11.toNat]?) =some y0)(h3:Spec PP (.enter 154 [(.agg [(nI y0),(nI t11),(nI 1)]),(.ptr 5 0),(.ptr 6 0),(.ptr 0 0)]) (aA [qZ,qX p,rB,zJ,(4,(.defd false),false),rA,qY p,wF m7] 8) (.ret (bV true)) (aA [qZ,qX p,rB,zJ,(4,(.defd false),false),rA,qY p,wF m7] 8))(h4: (IntKind.i64.wrap (t11+ (1:Int))) = (t11+ (1:Int))) :
  LeadsM PP 0 (qI p t11 m7).as (qI p (t11+ (1:Int)) m7).as:=
 wW 8 [0,1,2,3,4,5,6,7] [qp h0,qp h1,qg aB h2,qp h3,qp (congrArg (AV.int .i64) h4)] [rn 5,bt 12,rn 7,aI (aB y0),rn 10,.call (bV true) (aA [qZ,qX p,rB,zJ,(4,(.defd false),false),rA,qY p,wF m7] 8),rn 7,sI 22 (t11+ (1:Int)),rn 3] ⟨aC (fun _=>rfl) (fun _=>rfl) _ _ _,trivial⟩
theorem aSL (p:Prog)(t11:Int)(m7: (List (Int× (List Int))))(zl0: (List (Int×Bool)))(h0:decide (t11< (p.funs.length:Int)) =false)(h1:Spec PP (.enter 128 [(nI p.main),(.ptr 9 0),(.ptr 2 0),(.ptr 10 0)]) (aA [qZ,qX p,rB,aNo,(4,(.defd false),false),rA,qY p,wF m7,(8,(.map (aG aB eH 0 ([] :List (Int×Bool))) ([] :List (Int×Bool)).length),true),aNq,aNp] 11) (.ret (.tup [])) (aA [qZ,qX p,rB,aNo,(4,(.defd false),false),rA,qY p,wF m7,aOe zl0,aNq,aNp] 11)) :
  Ends PP 0 (qI p t11 m7).as (.ret (.map 0)) (aA [(0,(.map (aG aB eH 0 zl0) zl0.length),true)] 1) :=
 wE 11 [8] [qp h0,qp (p:= ([] :List (AV×AV×Nat)) = (aG aB eH 0 ([] :List (Int×Bool)))) rfl,qp (p:=0=List.length ([] :List (Int×Bool))) rfl,qp h1] [rn 5,bf 12,rn 9,.mset 8 (aG aB eH 0 ([] :List (Int×Bool))) ([] :List (Int×Bool)).length,rn 18,.call (.tup []) (aA [qZ,qX p,rB,aNo,(4,(.defd false),false),rA,qY p,wF m7,aOe zl0,aNq,aNp] 11),rn 8] ⟨aC (fun _=>rfl) (fun _=>rfl) _ _ _,trivial⟩
end Go.Hb
namespace Go.Hb
open Go.Proofs
noncomputable abbrev fF (p:Prog) :Nat×AObj×Bool:= (1,(.cells (putCells .leaf 0 [(iN p.nodes),(iI p.funs),(nI p.main),(iC p.cons)]) 4 [] false),false)
noncomputable abbrev fG (p:Prog) :Nat×AObj×Bool:= (6,(.cells (putCells .leaf 0 [(iN p.nodes),(iI p.funs),(nI p.main),(iC p.cons)]) 4 [] false),false)
noncomputable abbrev fH  :Nat×AObj×Bool:= (3,(.loop .ready none 68 (mkT [(1,(.ptr 1 0)),(3,(.ptr 2 0))]) 47 [11] (cd Tryz.f68 [1,1,0,1,0,0]) (cd Tryz.f68 [1,1,0,1,0,1]) 4),false)
noncomputable abbrev fJ  :Nat×AObj×Bool:= (0,(.cells (putCells .leaf 0 [(.func 154 [] [(.ptr 5 0),(.ptr 6 0),(.ptr 0 0)])]) 1 [] false),false)
noncomputable abbrev lA (at0 fn0 sz:Int) :Nat×AObj×Bool:= (8,(.cells (putCells .leaf 0 [(nI at0),(nI fn0),(nI sz)]) 3 [] false),false)
noncomputable abbrev fK  :Nat×AObj×Bool:= (5,(.cells (putCells .leaf 0 [(.yield 3)]) 1 [] false),false)
noncomputable abbrev wG (mn: (List (Int× (List Int)))) :Nat×AObj×Bool:= (7,(.map (aG aB (mC 1 aB) 0 mn) mn.length),true)
noncomputable abbrev fL  :Nat×AObj×Bool:= (2,(.cells (putCells .leaf 0 [(.map 7)]) 1 [] false),false)
noncomputable abbrev HN (p:Prog)(mn:List (Int×List Int)) :List (Nat×AObj×Bool) :=[fJ,fF p,fL,fH,(4,(.defd false),false),fK,fG p,wG mn]
noncomputable abbrev HNO (p:Prog)(mn:List (Int×List Int))(row:List Int)(fn0:Int) :List (Nat×AObj×Bool) :=[fJ,fF p,fL,fH,(4,(.defd false),false),fK,fG p,(7,(.mapx (aG aB (mC 1 aB) 0 mn) mn.length (aB fn0) (.gl 8 1 0 row.length false)),false),(8,(.lst 1 (jI row)),true)]
noncomputable def aKH (p:Prog)(mn: (List (Int× (List Int))))(row:List Int)(at0 fn0 sz:Int) :TS:=eU PP 154 [(.agg [(nI at0),(nI fn0),(nI sz)]),(.ptr 5 0),(.ptr 6 0),(.ptr 0 0)] [fJ,fF p,fL,fH,(4,(.defd false),false),fK,fG p,(7,(.mapx (aG aB (mC 1 aB) 0 mn) mn.length (aB fn0) (.gl 8 1 0 row.length false)),false),(8,(.lst 1 (jI row)),true)] 9
noncomputable def zK (p:Prog)(mn: (List (Int× (List Int))))(row:List Int)(at0 fn0 sz:Int)(t19:List Int)(t20:Int)(l9:List Int)(t21:Int) :TS:=
 {fr:={fn:=154,nt:=46,sl:=[(2,(.ptr 6 0)),(3,(.ptr 0 0)),(4,(.ptr 8 0)),(5,(bV false)),(19,(iI t19)),(20,(nI t20)),(21,(nI t21))],todo:=[.code (cd Tryz.f154 [1,1,0,1,0,0]),.inLoop (cd Tryz.f154 [1,1,0,1,0,0]),.inBlock 0,.code (cd Tryz.f154 [1,1,1])]},cs:=[],hp:=[fJ,fF p,fL,fH,(4,(.defd false),false),fK,fG p,(7,(.mapx (aG aB (mC 1 aB) 0 mn) mn.length (aB fn0) (.gl 9 1 0 l9.length false)),false),lA at0 fn0 sz,(9,(.lst 1 (jI l9)),true)],nb:=10}
theorem aUM (p:Prog)(mn: (List (Int× (List Int))))(row:List Int)(at0 fn0 sz:Int)(y0:Node)(h0:0≤at0)(h1: ((p.nodes)[at0.toNat]?) =some y0)(h2: (y0.op== (4:Int)) =true)(h3:decide (y0.n< (0:Int)) =true)(h4:bF fn0 mn=none)(h5:List.length (row++ [(IntKind.i64.wrap ((-1:Int) -y0.n))]) ≤1000000) :
  LeadsM PP 8 (aKH p mn row at0 fn0 sz).as (zK p mn row at0 fn0 sz y0.kids (y0.kids.length:Int) (row++ [(IntKind.i64.wrap ((-1:Int) -y0.n))]) 0).as:=
 wW 14 [9,13] [qp h0,qg Node.av h1,qp h2,qp h3,qp (p:=cR (aB fn0) ((aG aB (mC 1 aB) 0 mn) ++ [(aB fn0,(.gl 8 1 0 row.length false),List.length mn)]) 0=some (some (List.length mn,(.gl 8 1 0 row.length false)))) (aGo cE h4 _ _),qp (gK aB row),qp h5,qp (gP aB row [(IntKind.i64.wrap ((-1:Int) -y0.n))]),qp (gQ aB row [(IntKind.i64.wrap ((-1:Int) -y0.n))]),qp (p:=jD ((aG aB (mC 1 aB) 0 mn) ++ [(aB fn0,(.gl 8 1 0 row.length false),List.length mn)]) (Nat.succ mn.length) (aB fn0) (.gl 13 1 0 (row++ [(IntKind.i64.wrap ((-1:Int) -y0.n))]).length false) =some (((aG aB (mC 1 aB) 0 mn) ++ [(aB fn0,(.gl 13 1 0 (row++ [(IntKind.i64.wrap ((-1:Int) -y0.n))]).length false),List.length mn)]),Nat.succ mn.length)) (aSG cE h4 _ _ _ _),qr (nI fn0),qr (nI fn0),qr (AV.map 7),qr (AV.map 7),qp (p:= ((aG aB (mC 1 aB) 0 mn) ++ [(aB fn0,(.gl 13 1 0 (row++ [(IntKind.i64.wrap ((-1:Int) -y0.n))]).length false),List.length mn)]) = (aG aB (mC 1 aB) 0 mn) ++ [((aB fn0),(.gl 13 1 0 (row++ [(IntKind.i64.wrap ((-1:Int) -y0.n))]).length false),mn.length)]) rfl,qr (Nat.succ mn.length),qp (p:=KL (aG aB (mC 1 aB) 0 mn)) (aWa aCl aCm _),qp h0,qg Node.av h1,ql aB y0.kids] [rn 24,aI (Node.av y0),rn 10,bt 22,rn 5,bt 26,rn 1,.mopen 7,.reg [.d,.d,.d,.d,.d,.d,.ans (.look (some (List.length mn,(.gl 8 1 0 row.length false)))),.d,.d,.d,.d,.app (jI (row++ [(IntKind.i64.wrap ((-1:Int) -y0.n))])) (row++ [(IntKind.i64.wrap ((-1:Int) -y0.n))]).length,.mput ((aG aB (mC 1 aB) 0 mn) ++ [(aB fn0,(.gl 13 1 0 (row++ [(IntKind.i64.wrap ((-1:Int) -y0.n))]).length false),List.length mn)]) (Nat.succ mn.length)],.mclose 7 (aG aB (mC 1 aB) 0 mn) mn.length (aB fn0) (.gl 13 1 0 (row++ [(IntKind.i64.wrap ((-1:Int) -y0.n))]).length false),rn 14,aI (Node.av y0),rn 2,aL y0.kids,rn 4] ⟨kk,trivial⟩
theorem aUN (p:Prog)(mn: (List (Int× (List Int))))(row:List Int)(at0 fn0 sz:Int)(y0:Node)(h0:0≤at0)(h1: ((p.nodes)[at0.toNat]?) =some y0)(h2: (y0.op== (4:Int)) =true)(h3:decide (y0.n< (0:Int)) =false) :
  LeadsM PP 8 (aKH p mn row at0 fn0 sz).as (zK p mn row at0 fn0 sz y0.kids (y0.kids.length:Int) row 0).as:=
 wW 12 [9,8] [qp h0,qg Node.av h1,qp h2,qp h3,qp h0,qg Node.av h1,ql aB y0.kids] [rn 24,aI (Node.av y0),rn 10,bt 22,rn 5,bf 26,rn 16,aI (Node.av y0),rn 2,aL y0.kids,rn 4] ⟨kk,trivial⟩
theorem aUO (p:Prog)(mn: (List (Int× (List Int))))(row:List Int)(at0 fn0 sz:Int)(y0:Node)(h0:0≤at0)(h1: ((p.nodes)[at0.toNat]?) =some y0)(h2: (y0.op== (4:Int)) =false) :
  LeadsM PP 8 (aKH p mn row at0 fn0 sz).as (zK p mn row at0 fn0 sz y0.kids (y0.kids.length:Int) row 0).as:=
 wW 12 [9,8] [qp h0,qg Node.av h1,qp h2,qp h0,qg Node.av h1,ql aB y0.kids] [rn 24,aI (Node.av y0),rn 10,bf 22,rn 21,aI (Node.av y0),rn 2,aL y0.kids,rn 4] ⟨kk,trivial⟩
theorem aUP (p:Prog)(mn: (List (Int× (List Int))))(row:List Int)(at0 fn0 sz:Int)(t19:List Int)(t20:Int)(l9:List Int)(t21 y0:Int)(y1:Node)(y2:Int)(zr3:List Int)(h0:decide (t21<t20) =true)(h1:0≤t21)(h2: ((t19)[t21.toNat]?) =some y0)(h3:0≤at0)(h4: ((p.nodes)[at0.toNat]?) =some y1)(h5:aE PP 141 [(Node.av y1),(nI t21)] (nI y2))(h6:Spec PP (.enter 154 [(.agg [(nI y0),(nI fn0),(nI (IntKind.i64.wrap (sz+y2)))]),(.ptr 5 0),(.ptr 6 0),(.ptr 0 0)]) (aA [fJ,fF p,fL,fH,(4,(.defd false),false),fK,fG p,(7,(.mapx (aG aB (mC 1 aB) 0 mn) mn.length (aB fn0) (.gl 9 1 0 l9.length false)),false),lA at0 fn0 sz,(9,(.lst 1 (jI l9)),true)] 10) (.ret (bV true)) (aA [fJ,fF p,fL,fH,(4,(.defd false),false),fK,fG p,(7,(.mapx (aG aB (mC 1 aB) 0 mn) mn.length (aB fn0) (.gl 10 1 0 (l9++zr3).length false)),false),lA at0 fn0 sz,(10,(.lst 1 (jI (l9++zr3))),true)] 11))(h7: (IntKind.i64.wrap (t21+ (1:Int))) = (t21+ (1:Int))) :
  LeadsM PP 8 (zK p mn row at0 fn0 sz t19 t20 l9 t21).as (zK p mn row at0 fn0 sz t19 t20 (l9++zr3) (t21+ (1:Int))).as:=
 wW 11 [8,10] [qp h0,qp h1,qg aB h2,qp h3,qg Node.av h4,qp h5,qp h6,qr (nI sz),qr (nI sz),qr (nI fn0),qr (nI fn0),qr (AV.func 154 [] [(.ptr 5 0),(.ptr 6 0),(.ptr 0 0)]),qr (AV.func 154 [] [(.ptr 5 0),(.ptr 6 0),(.ptr 0 0)]),qp (congrArg (AV.int .i64) h7)] [rn 5,bt 22,rn 7,aI (aB y0),rn 5,.reg [.d,.d,.d,.d,.d,.d,.d,.d,.d,.d,.d,.ans (.idx (Node.av y1)),.d,.d,.pure (nI y2),.d,.d,.call (bV true) (aA [fJ,fF p,fL,fH,(4,(.defd false),false),fK,fG p,(7,(.mapx (aG aB (mC 1 aB) 0 mn) mn.length (aB fn0) (.gl 10 1 0 (l9++zr3).length false)),false),lA at0 fn0 sz,(10,(.lst 1 (jI (l9++zr3))),true)] 11),.d],rn 5,sI 45 (t21+ (1:Int)),rn 3] ⟨kk,trivial⟩
theorem aUQ (p:Prog)(mn: (List (Int× (List Int))))(row:List Int)(at0 fn0 sz:Int)(t19:List Int)(t20:Int)(l9:List Int)(t21:Int)(h0:decide (t21<t20) =false) :
  Ends PP 8 (zK p mn row at0 fn0 sz t19 t20 l9 t21).as (.ret (bV true)) (aA [fJ,fF p,fL,fH,(4,(.defd false),false),fK,fG p,(7,(.mapx (aG aB (mC 1 aB) 0 mn) mn.length (aB fn0) (.gl 8 1 0 l9.length false)),false),(8,(.lst 1 (jI l9)),true)] 9) :=
 wE 10 [9] [qp h0] [rn 5,bf 22,rn 7] ⟨kk,trivial⟩
noncomputable def aKI (p:Prog)(mn: (List (Int× (List Int))))(at0 fn0 sz:Int) :TS:=eU PP 154 [(.agg [(nI at0),(nI fn0),(nI sz)]),(.ptr 5 0),(.ptr 6 0),(.ptr 0 0)] [fJ,fF p,fL,fH,(4,(.defd false),false),fK,fG p,wG mn] 8
noncomputable def aBF (p:Prog)(mn: (List (Int× (List Int))))(at0 fn0 sz:Int)(t19:List Int)(t20:Int)(l9:List Int)(t21:Int) :TS:=
 {fr:={fn:=154,nt:=46,sl:=[(2,(.ptr 6 0)),(3,(.ptr 0 0)),(4,(.ptr 8 0)),(5,(bV false)),(19,(iI t19)),(20,(nI t20)),(21,(nI t21))],todo:=[.code (cd Tryz.f154 [1,1,0,1,0,0]),.inLoop (cd Tryz.f154 [1,1,0,1,0,0]),.inBlock 0,.code (cd Tryz.f154 [1,1,1])]},cs:=[],hp:=[fJ,fF p,fL,fH,(4,(.defd false),false),fK,fG p,(7,(.mapx (aG aB (mC 1 aB) 0 mn) mn.length (aB fn0) (.gl 9 1 0 l9.length false)),false),lA at0 fn0 sz,(9,(.lst 1 (jI l9)),true)],nb:=10}
noncomputable def zL (p:Prog)(mn: (List (Int× (List Int))))(at0 fn0 sz:Int)(t19:List Int)(t20 t21:Int) :TS:=
 {fr:={fn:=154,nt:=46,sl:=[(2,(.ptr 6 0)),(3,(.ptr 0 0)),(4,(.ptr 8 0)),(5,(bV false)),(19,(iI t19)),(20,(nI t20)),(21,(nI t21))],todo:=[.code (cd Tryz.f154 [1,1,0,1,0,0]),.inLoop (cd Tryz.f154 [1,1,0,1,0,0]),.inBlock 0,.code (cd Tryz.f154 [1,1,1])]},cs:=[],hp:=[fJ,fF p,fL,fH,(4,(.defd false),false),fK,fG p,wG mn,lA at0 fn0 sz],nb:=9}
theorem aUR (p:Prog)(mn: (List (Int× (List Int))))(at0 fn0 sz:Int)(y0:Node)(h0:0≤at0)(h1: ((p.nodes)[at0.toNat]?) =some y0)(h2: (y0.op== (4:Int)) =true)(h3:decide (y0.n< (0:Int)) =true)(h4:bF fn0 mn=none) :
  LeadsM PP 8 (aKI p mn at0 fn0 sz).as (aBF p mn at0 fn0 sz y0.kids (y0.kids.length:Int) [(IntKind.i64.wrap ((-1:Int) -y0.n))] 0).as:=
 wW 13 [8,12] [qp h0,qg Node.av h1,qp h2,qp h3,qp (p:=cR (aB fn0) (aG aB (mC 1 aB) 0 mn) 0=some none) (gR cE h4),qp (p:=jD (aG aB (mC 1 aB) 0 mn) mn.length (aB fn0) (.slice 12 0 1 1 1 false) =some (((aG aB (mC 1 aB) 0 mn) ++ [(aB fn0,(.slice 12 0 1 1 1 false),List.length mn)]),Nat.succ mn.length)) (aQf cE h4 _),qr (nI fn0),qr (nI fn0),qr (AV.map 7),qr (AV.map 7),qp (p:= ((aG aB (mC 1 aB) 0 mn) ++ [(aB fn0,(.slice 12 0 1 1 1 false),List.length mn)]) = (aG aB (mC 1 aB) 0 mn) ++ [((aB fn0),(.slice 12 0 1 1 1 false),mn.length)]) rfl,qr (Nat.succ mn.length),qp (p:=KL (aG aB (mC 1 aB) 0 mn)) (aWa aCl aCm _),qp (p:=getCells (putCells .leaf 0 [(nI (IntKind.i64.wrap ((-1:Int) -y0.n)))]) 0 (1*1) =some [(nI (IntKind.i64.wrap ((-1:Int) -y0.n)))]) rfl,qp (p:=cV [(nI (IntKind.i64.wrap ((-1:Int) -y0.n)))] =true) rfl,qp (p:=[(nI (IntKind.i64.wrap ((-1:Int) -y0.n)))] = (jI [(IntKind.i64.wrap ((-1:Int) -y0.n))])) rfl,qp h0,qg Node.av h1,ql aB y0.kids] [rn 24,aI (Node.av y0),rn 10,bt 22,rn 5,bt 26,rn 1,.reg [.d,.d,.d,.d,.d,.d,.ans (.look none),.d,.d,.d,.d,.d,.mput ((aG aB (mC 1 aB) 0 mn) ++ [(aB fn0,(.slice 12 0 1 1 1 false),List.length mn)]) (Nat.succ mn.length)],.mclose 7 (aG aB (mC 1 aB) 0 mn) mn.length (aB fn0) (.slice 12 0 1 1 1 false),.mtoL 7 false [(nI (IntKind.i64.wrap ((-1:Int) -y0.n)))],.lset 12 (jI [(IntKind.i64.wrap ((-1:Int) -y0.n))]),rn 14,aI (Node.av y0),rn 2,aL y0.kids,rn 4] ⟨kk,trivial⟩
theorem aUS (p:Prog)(mn: (List (Int× (List Int))))(at0 fn0 sz:Int)(y0:Node)(h0:0≤at0)(h1: ((p.nodes)[at0.toNat]?) =some y0)(h2: (y0.op== (4:Int)) =true)(h3:decide (y0.n< (0:Int)) =false) :
  LeadsM PP 8 (aKI p mn at0 fn0 sz).as (zL p mn at0 fn0 sz y0.kids (y0.kids.length:Int) 0).as:=
 wW 11 [8] [qp h0,qg Node.av h1,qp h2,qp h3,qp h0,qg Node.av h1,ql aB y0.kids] [rn 24,aI (Node.av y0),rn 10,bt 22,rn 5,bf 26,rn 16,aI (Node.av y0),rn 2,aL y0.kids,rn 4] ⟨aC (fun _=>rfl) (fun _=>rfl) _ _ _,trivial⟩
theorem aUT (p:Prog)(mn: (List (Int× (List Int))))(at0 fn0 sz:Int)(y0:Node)(h0:0≤at0)(h1: ((p.nodes)[at0.toNat]?) =some y0)(h2: (y0.op== (4:Int)) =false) :
  LeadsM PP 8 (aKI p mn at0 fn0 sz).as (zL p mn at0 fn0 sz y0.kids (y0.kids.length:Int) 0).as:=
 wW 11 [8] [qp h0,qg Node.av h1,qp h2,qp h0,qg Node.av h1,ql aB y0.kids] [rn 24,aI (Node.av y0),rn 10,bf 22,rn 21,aI (Node.av y0),rn 2,aL y0.kids,rn 4] ⟨aC (fun _=>rfl) (fun _=>rfl) _ _ _,trivial⟩
theorem aUU (p:Prog)(mn: (List (Int× (List Int))))(at0 fn0 sz:Int)(t19:List Int)(t20:Int)(l9:List Int)(t21 y0:Int)(y1:Node)(y2:Int)(zr3:List Int)(h0:decide (t21<t20) =true)(h1:0≤t21)(h2: ((t19)[t21.toNat]?) =some y0)(h3:0≤at0)(h4: ((p.nodes)[at0.toNat]?) =some y1)(h5:aE PP 141 [(Node.av y1),(nI t21)] (nI y2))(h6:Spec PP (.enter 154 [(.agg [(nI y0),(nI fn0),(nI (IntKind.i64.wrap (sz+y2)))]),(.ptr 5 0),(.ptr 6 0),(.ptr 0 0)]) (aA [fJ,fF p,fL,fH,(4,(.defd false),false),fK,fG p,(7,(.mapx (aG aB (mC 1 aB) 0 mn) mn.length (aB fn0) (.gl 9 1 0 l9.length false)),false),lA at0 fn0 sz,(9,(.lst 1 (jI l9)),true)] 10) (.ret (bV true)) (aA [fJ,fF p,fL,fH,(4,(.defd false),false),fK,fG p,(7,(.mapx (aG aB (mC 1 aB) 0 mn) mn.length (aB fn0) (.gl 10 1 0 (l9++zr3).length false)),false),lA at0 fn0 sz,(10,(.lst 1 (jI (l9++zr3))),true)] 11))(h7: (IntKind.i64.wrap (t21+ (1:Int))) = (t21+ (1:Int))) :
  LeadsM PP 8 (aBF p mn at0 fn0 sz t19 t20 l9 t21).as (aBF p mn at0 fn0 sz t19 t20 (l9++zr3) (t21+ (1:Int))).as:=
 wW 11 [8,10] [qp h0,qp h1,qg aB h2,qp h3,qg Node.av h4,qp h5,qp h6,qr (nI sz),qr (nI sz),qr (nI fn0),qr (nI fn0),qr (AV.func 154 [] [(.ptr 5 0),(.ptr 6 0),(.ptr 0 0)]),qr (AV.func 154 [] [(.ptr 5 0),(.ptr 6 0),(.ptr 0 0)]),qp (congrArg (AV.int .i64) h7)] [rn 5,bt 22,rn 7,aI (aB y0),rn 5,.reg [.d,.d,.d,.d,.d,.d,.d,.d,.d,.d,.d,.ans (.idx (Node.av y1)),.d,.d,.pure (nI y2),.d,.d,.call (bV true) (aA [fJ,fF p,fL,fH,(4,(.defd false),false),fK,fG p,(7,(.mapx (aG aB (mC 1 aB) 0 mn) mn.length (aB fn0) (.gl 10 1 0 (l9++zr3).length false)),false),lA at0 fn0 sz,(10,(.lst 1 (jI (l9++zr3))),true)] 11),.d],rn 5,sI 45 (t21+ (1:Int)),rn 3] ⟨kk,trivial⟩
theorem aUV (p:Prog)(mn: (List (Int× (List Int))))(at0 fn0 sz:Int)(t19:List Int)(t20:Int)(l9:List Int)(t21:Int)(h0:decide (t21<t20) =false) :
  Ends PP 8 (aBF p mn at0 fn0 sz t19 t20 l9 t21).as (.ret (bV true)) (aA [fJ,fF p,fL,fH,(4,(.defd false),false),fK,fG p,(7,(.mapx (aG aB (mC 1 aB) 0 mn) mn.length (aB fn0) (.gl 8 1 0 l9.length false)),false),(8,(.lst 1 (jI l9)),true)] 9) :=
 wE 10 [9] [qp h0] [rn 5,bf 22,rn 7] ⟨kk,trivial⟩
theorem aUW (p:Prog)(mn: (List (Int× (List Int))))(at0 fn0 sz:Int)(t19:List Int)(t20 t21 y0:Int)(y1:Node)(y2:Int)(zr3:List Int)(h0:decide (t21<t20) =true)(h1:0≤t21)(h2: ((t19)[t21.toNat]?) =some y0)(h3:0≤at0)(h4: ((p.nodes)[at0.toNat]?) =some y1)(h5:aE PP 141 [(Node.av y1),(nI t21)] (nI y2))(h6:Spec PP (.enter 154 [(.agg [(nI y0),(nI fn0),(nI (IntKind.i64.wrap (sz+y2)))]),(.ptr 5 0),(.ptr 6 0),(.ptr 0 0)]) (aA [fJ,fF p,fL,fH,(4,(.defd false),false),fK,fG p,wG mn,lA at0 fn0 sz] 9) (.ret (bV true)) (aA [fJ,fF p,fL,fH,(4,(.defd false),false),fK,fG p,(7,(.mapx (aG aB (mC 1 aB) 0 mn) mn.length (aB fn0) (.gl 9 1 0 zr3.length false)),false),lA at0 fn0 sz,(9,(.lst 1 (jI zr3)),true)] 10))(h7: (IntKind.i64.wrap (t21+ (1:Int))) = (t21+ (1:Int))) :
  LeadsM PP 8 (zL p mn at0 fn0 sz t19 t20 t21).as (aBF p mn at0 fn0 sz t19 t20 zr3 (t21+ (1:Int))).as:=
 wW 10 [8,9] [qp h0,qp h1,qg aB h2,qp h3,qg Node.av h4,qp h5,qp h6,qr (nI sz),qr (nI sz),qr (nI fn0),qr (nI fn0),qr (AV.func 154 [] [(.ptr 5 0),(.ptr 6 0),(.ptr 0 0)]),qr (AV.func 154 [] [(.ptr 5 0),(.ptr 6 0),(.ptr 0 0)]),qp (congrArg (AV.int .i64) h7)] [rn 5,bt 22,rn 7,aI (aB y0),rn 5,.reg [.d,.d,.d,.d,.d,.d,.d,.d,.d,.d,.d,.ans (.idx (Node.av y1)),.d,.d,.pure (nI y2),.d,.d,.call (bV true) (aA [fJ,fF p,fL,fH,(4,(.defd false),false),fK,fG p,(7,(.mapx (aG aB (mC 1 aB) 0 mn) mn.length (aB fn0) (.gl 9 1 0 zr3.length false)),false),lA at0 fn0 sz,(9,(.lst 1 (jI zr3)),true)] 10),.d],rn 5,sI 45 (t21+ (1:Int)),rn 3] ⟨kk,trivial⟩
theorem aUX (p:Prog)(mn: (List (Int× (List Int))))(at0 fn0 sz:Int)(t19:List Int)(t20 t21 y0:Int)(y1:Node)(y2:Int)(h0:decide (t21<t20) =true)(h1:0≤t21)(h2: ((t19)[t21.toNat]?) =some y0)(h3:0≤at0)(h4: ((p.nodes)[at0.toNat]?) =some y1)(h5:aE PP 141 [(Node.av y1),(nI t21)] (nI y2))(h6:Spec PP (.enter 154 [(.agg [(nI y0),(nI fn0),(nI (IntKind.i64.wrap (sz+y2)))]),(.ptr 5 0),(.ptr 6 0),(.ptr 0 0)]) (aA [fJ,fF p,fL,fH,(4,(.defd false),false),fK,fG p,wG mn,lA at0 fn0 sz] 9) (.ret (bV true)) (aA [fJ,fF p,fL,fH,(4,(.defd false),false),fK,fG p,wG mn,lA at0 fn0 sz] 9))(h7: (IntKind.i64.wrap (t21+ (1:Int))) = (t21+ (1:Int))) :
  LeadsM PP 8 (zL p mn at0 fn0 sz t19 t20 t21).as (zL p mn at0 fn0 sz t19 t20 (t21+ (1:Int))).as:=
 wW 9 [8] [qp h0,qp h1,qg aB h2,qp h3,qg Node.av h4,qp h5,qp h6,qr (nI sz),qr (nI sz),qr (nI fn0),qr (nI fn0),qr (AV.func 154 [] [(.ptr 5 0),(.ptr 6 0),(.ptr 0 0)]),qr (AV.func 154 [] [(.ptr 5 0),(.ptr 6 0),(.ptr 0 0)]),qp (congrArg (AV.int .i64) h7)] [rn 5,bt 22,rn 7,aI (aB y0),rn 5,.reg [.d,.d,.d,.d,.d,.d,.d,.d,.d,.d,.d,.ans (.idx (Node.av y1)),.d,.d,.pure (nI y2),.d,.d,.call (bV true) (aA [fJ,fF p,fL,fH,(4,(.defd false),false),fK,fG p,wG mn,lA at0 fn0 sz] 9),.d],rn 5,sI 45 (t21+ (1:Int)),rn 3] ⟨aC (fun _=>rfl) (fun _=>rfl) _ _ _,trivial⟩
theorem aUY (p:Prog)(mn: (List (Int× (List Int))))(at0 fn0 sz:Int)(t19:List Int)(t20 t21:Int)(h0:decide (t21<t20) =false) :
  Ends PP 8 (zL p mn at0 fn0 sz t19 t20 t21).as (.ret (bV true)) (aA [fJ,fF p,fL,fH,(4,(.defd false),false),fK,fG p,wG mn] 8) :=
 wE 9 [] [qp h0] [rn 5,bf 22,rn 7] ⟨aC (fun _=>rfl) (fun _=>rfl) _ _ _,trivial⟩
end Go.Hb
namespace Go.Hb
open Go.Proofs
set_option maxHeartbeats 2000000
noncomputable section
def oI (x:Node) :List Int:=if x.op=4∧x.n<0 then [-1-x.n]else []
def kC (p:Prog) :Nat→Int→List Int
 |0,_=>[]
 | f+1,a=>match p.nodes[a.toNat]? with
  |none=>[]
  |some x=>oI x++ (x.kids.map (kC p f)).flatten
abbrev aSM (a fn sz:Int) :List AV:=[aM7 a fn sz,.ptr 5 0,.ptr 6 0,.ptr 0 0]
section
variable (p :Prog) (mn:List (Int×List Int))
def zM (a fn sz:Int)(l l':List Int) :Prop:=aI7 PP 8 (.enter 154 (aSM a fn sz)) (aA (HNO p mn l fn) 9) (.ret (.bool true)) (aA (HNO p mn l' fn) 9)
def hpN (fn:Int)(l:List Int) :Hp:=if l= []then aA (HN p mn) 8 else aA (HNO p mn l fn) 9
def zN (a fn sz:Int)(l:List Int) :Prop:=aI7 PP 8 (.enter 154 (aSM a fn sz)) (aA (HN p mn) 8) (.ret (.bool true)) (hpN p mn fn l)
variable {p mn}
theorem aQh {l l':List Int}{a fn sz:Int}(h:Ends PP 8 (aKH p mn l a fn sz).as (.ret (.bool true)) (aA (HNO p mn l' fn) 9)) :zM p mn a fn sz l l':=
 ⟨(aKH p mn l a fn sz).as.fr,by kernel_rfl,Eq.mp (by kernel_rfl) h⟩
theorem aQi {l:List Int}{a fn sz:Int}(h:Ends PP 8 (aKI p mn a fn sz).as (.ret (.bool true)) (hpN p mn fn l)) :zN p mn a fn sz l:=
 ⟨(aKI p mn a fn sz).as.fr,by kernel_rfl,Eq.mp (by kernel_rfl) h⟩
theorem aSN (mn:List (Int×List Int)) : (AObj.map (aG aB (mC 1 aB) 0 mn) (List.length mn)).kl:=aSF mn
theorem aKJ (hp:FineP p){f:Nat}{a fn sz:Int}(l0:List Int){x:Node}(ha:0≤a)(hx:p.nodes[a.toNat]?=some x)(hs0:0≤sz)(hs:sz≤1000* (a+1))
  (ih:∀ (k tz:Int) (l:List Int),a<k→k<p.nodes.length→0≤tz→tz≤1000* (k+1) →l.length+ (kC p f k).length≤1000000→zM p mn k fn tz l (l++kC p f k)) :
  ∀ (t:List Int) (j:Nat) (l:List Int),x.kids.drop j=t→l.length+ ((t.map (kC p f)).flatten).length≤1000000→Ends PP 8 (zK p mn l0 a fn sz x.kids ((List.length x.kids:Nat) :Int) l (j:Int)).as (.ret (.bool true)) (aA (HNO p mn (l++ (t.map (kC p f)).flatten) fn) 9)
 | [],j,l,h,hb=>by
  have:=cD h
  rw [List.map_nil,List.flatten_nil,List.append_nil]
  exact aUQ p mn l0 a fn sz x.kids _ l j sd
 | k ::t,j,l,h,hlen=>by
  obtain⟨g1,g2,g3⟩ :=cA h
  obtain⟨hf,hk10,hks⟩ :=hp.node _ _ hx
  have hk:=hks k (List.mem_of_getElem? g1)
  have hb:=pM hf (j:Int)
  have hn:=hp.small
  have ew:IntKind.i64.wrap (sz+dF x j) =sz+dF x j:=wrap64 (by omega) (by omega)
  simp only [List.map_cons,List.flatten_cons,List.length_append]at hlen
  have hw:zM p mn k fn (IntKind.i64.wrap (sz+dF x j)) l (l++kC p f k) :=by
   rw [ew]
   exact ih k (sz+dF x j) l (by omega) (by omega) (by omega) (by omega) (by omega)
  have hstep:=aUP p mn l0 a fn sz x.kids ((List.length x.kids:Nat) :Int) l j k x _ (kC p f k) sd sd sd ha hx (jL hf (by omega) (by omega) hk10)
   (rT (m:=8) (ks:=[0,1,2,3,4,5,6,7,9]) hw (by rfl) (by rfl) (by kernel_rfl) (by rfl) (by rfl) (by kernel_rfl) (by kernel_rfl)
    ⟨aD _ (fun _=>rfl) _,trivial⟩ (by kernel_rfl) ⟨aD _ (fun _=>rfl) _,trivial⟩
    (by kernel_rfl) (by kernel_rfl) (by kernel_rfl) (by kernel_rfl) (by kernel_rfl) (by kernel_rfl) (by kernel_rfl)) sd
  have h2:=aKJ hp l0 ha hx hs0 hs ih t (j+1) (l++kC p f k) g2 (by rw [List.length_append];omega)
  rw [List.map_cons,List.flatten_cons,←List.append_assoc]
  exact hstep.ends h2
theorem aKK (hp:FineP p)(hnm:∀ (i:Nat) (x:Node),p.nodes[i]?=some x→x.op=4→x.n<0→ -1000000000≤x.n)(fn:Int)(hN:bF fn mn=none) :∀ (f:Nat) (a sz:Int) (l:List Int),0≤a→a<p.nodes.length→p.nodes.length-a.toNat≤f→0≤sz→sz≤1000* (a+1) →l.length+ (kC p f a).length≤1000000→zM p mn a fn sz l (l++kC p f a)
 |0,a,sz,l,ha,hn,hf,_,_,_=>by omega
 | f + 1,a,sz,l,ha,hn,hf,h0,h1,hb=>by
  obtain⟨x,hx⟩ :∃x,p.nodes[a.toNat]?=some x:= ⟨_,List.getElem?_eq_getElem (by omega)⟩
  have e:kC p (f+1) a=oI x++ (x.kids.map (kC p f)).flatten:=by rw [kC,hx]
  rw [e]at hb ⊢
  rw [List.length_append]at hb
  rw [←List.append_assoc]
  refine aQh ?_
  have hC:=aKJ (mn:=mn) (fn:=fn) hp (f:=f) l ha hx h0 h1 (fun k tz l hk hkn ht0 ht hl=>aKK hp hnm fn hN f k tz l (by omega) hkn (by omega) ht0 ht hl) x.kids 0 (l++oI x) rfl (by rw [List.length_append];omega)
  by_cases h4:x.op=4
  · by_cases hneg:x.n<0
    · have en:oI x= [-1-x.n] :=if_pos ⟨h4,hneg⟩
      have hw:=hnm _ x hx h4 hneg
      have ew:IntKind.i64.wrap ((-1:Int) -x.n) = -1-x.n:=wrap64 (by omega) (by omega)
      have hE:=aUM p mn l a fn sz x ha hx (by simp [h4]) (by simp;omega) hN (by rw [List.length_append];rw [en]at hb;simp only [List.length_cons,List.length_nil]at hb ⊢;omega)
      rw [ew]at hE
      rw [en]at hC ⊢
      exact hE.ends hC
    · have en:oI x= [] :=if_neg (fun h=>hneg h.2)
      rw [en,List.append_nil]at hC ⊢
      exact(aUN p mn l a fn sz x ha hx (by simp [h4]) (by simp;omega)).ends hC
  · have en:oI x= [] :=if_neg (fun h=>h4 h.1)
    rw [en,List.append_nil]at hC ⊢
    exact(aUO p mn l a fn sz x ha hx (by simp [h4])).ends hC
theorem aBG (hp:FineP p){f:Nat}{a fn sz:Int}{x:Node}(ha:0≤a)(hx:p.nodes[a.toNat]?=some x)(hs0:0≤sz)(hs:sz≤1000* (a+1))
  (ih:∀ (k tz:Int) (l:List Int),a<k→k<p.nodes.length→0≤tz→tz≤1000* (k+1) →l.length+ (kC p f k).length≤1000000→zM p mn k fn tz l (l++kC p f k)) :
  ∀ (t:List Int) (j:Nat) (l:List Int),x.kids.drop j=t→l.length+ ((t.map (kC p f)).flatten).length≤1000000→Ends PP 8 (aBF p mn a fn sz x.kids ((List.length x.kids:Nat) :Int) l (j:Int)).as (.ret (.bool true)) (aA (HNO p mn (l++ (t.map (kC p f)).flatten) fn) 9)
 | [],j,l,h,hb=>by
  have:=cD h
  rw [List.map_nil,List.flatten_nil,List.append_nil]
  exact aUV p mn a fn sz x.kids _ l j sd
 | k ::t,j,l,h,hlen=>by
  obtain⟨g1,g2,g3⟩ :=cA h
  obtain⟨hf,hk10,hks⟩ :=hp.node _ _ hx
  have hk:=hks k (List.mem_of_getElem? g1)
  have hb:=pM hf (j:Int)
  have hn:=hp.small
  have ew:IntKind.i64.wrap (sz+dF x j) =sz+dF x j:=wrap64 (by omega) (by omega)
  simp only [List.map_cons,List.flatten_cons,List.length_append]at hlen
  have hw:zM p mn k fn (IntKind.i64.wrap (sz+dF x j)) l (l++kC p f k) :=by
   rw [ew]
   exact ih k (sz+dF x j) l (by omega) (by omega) (by omega) (by omega) (by omega)
  have hstep:=aUU p mn a fn sz x.kids ((List.length x.kids:Nat) :Int) l j k x _ (kC p f k) sd sd sd ha hx (jL hf (by omega) (by omega) hk10)
   (rT (m:=8) (ks:=[0,1,2,3,4,5,6,7,9]) hw (by rfl) (by rfl) (by kernel_rfl) (by rfl) (by rfl) (by kernel_rfl) (by kernel_rfl)
    ⟨aD _ (fun _=>rfl) _,trivial⟩ (by kernel_rfl) ⟨aD _ (fun _=>rfl) _,trivial⟩
    (by kernel_rfl) (by kernel_rfl) (by kernel_rfl) (by kernel_rfl) (by kernel_rfl) (by kernel_rfl) (by kernel_rfl)) sd
  have h2:=aBG hp ha hx hs0 hs ih t (j+1) (l++kC p f k) g2 (by rw [List.length_append];omega)
  rw [List.map_cons,List.flatten_cons,←List.append_assoc]
  exact hstep.ends h2
theorem aId (fn:Int) :hpN p mn fn [] =aA (HN p mn) 8:=if_pos rfl
theorem aIe {fn:Int}{l:List Int}(h:l≠ []) :hpN p mn fn l=aA (HNO p mn l fn) 9:=if_neg h
theorem aGp (hp:FineP p){f:Nat}{a fn sz:Int}{x:Node}(ha:0≤a)(hx:p.nodes[a.toNat]?=some x)(hs0:0≤sz)(hs:sz≤1000* (a+1))
  (ih:∀ (k tz:Int) (l:List Int),a<k→k<p.nodes.length→0≤tz→tz≤1000* (k+1) →l.length+ (kC p f k).length≤1000000→zM p mn k fn tz l (l++kC p f k))
  (ih2:∀ (k tz:Int),a<k→k<p.nodes.length→0≤tz→tz≤1000* (k+1) → (kC p f k).length≤1000000→zN p mn k fn tz (kC p f k)) :
  ∀ (t:List Int) (j:Nat),x.kids.drop j=t→ ((t.map (kC p f)).flatten).length≤1000000→Ends PP 8 (zL p mn a fn sz x.kids ((List.length x.kids:Nat) :Int) (j:Int)).as (.ret (.bool true)) (hpN p mn fn (t.map (kC p f)).flatten)
 | [],j,h,hb=>by
  have:=cD h
  rw [List.map_nil,List.flatten_nil,aId]
  exact aUY p mn a fn sz x.kids _ j sd
 | k ::t,j,h,hlen=>by
  obtain⟨g1,g2,g3⟩ :=cA h
  obtain⟨hf,hk10,hks⟩ :=hp.node _ _ hx
  have hk:=hks k (List.mem_of_getElem? g1)
  have hb:=pM hf (j:Int)
  have hn:=hp.small
  have ew:IntKind.i64.wrap (sz+dF x j) =sz+dF x j:=wrap64 (by omega) (by omega)
  simp only [List.map_cons,List.flatten_cons,List.length_append]at hlen
  have hw:zN p mn k fn (IntKind.i64.wrap (sz+dF x j)) (kC p f k) :=by
   rw [ew]
   exact ih2 k (sz+dF x j) (by omega) (by omega) (by omega) (by omega) (by omega)
  rw [List.map_cons,List.flatten_cons]
  by_cases hr:kC p f k= []
  · rw [hr]at hw ⊢
    unfold zN at hw
    rw [aId]at hw
    have hstep:=aUX p mn a fn sz x.kids ((List.length x.kids:Nat) :Int) j k x _ sd sd sd ha hx (jL hf (by omega) (by omega) hk10)
     (pG (x:=boxS 8 a fn sz) hw (by kernel_rfl) (by rfl) (by rfl) (by kernel_rfl) (by kernel_rfl) ⟨aSN mn,trivial⟩ (by kernel_rfl) (by kernel_rfl) (by kernel_rfl)) sd
    rw [List.nil_append]
    exact hstep.ends (aGp hp ha hx hs0 hs ih ih2 t (j+1) g2 (by omega))
  · unfold zN at hw
    rw [aIe hr]at hw
    have hne:kC p f k++ (t.map (kC p f)).flatten≠ [] :=fun h=>hr (List.append_eq_nil_iff.1 h).1
    rw [aIe hne]
    have hstep:=aUW p mn a fn sz x.kids ((List.length x.kids:Nat) :Int) j k x _ (kC p f k) sd sd sd ha hx (jL hf (by omega) (by omega) hk10)
     (rT (m:=8) (ks:=[0,1,2,3,4,5,6,7]) hw (by rfl) (by rfl) (by kernel_rfl) (by rfl) (by rfl) (by kernel_rfl) (by kernel_rfl)
      ⟨aSN mn,trivial⟩ (by kernel_rfl) ⟨aD _ (fun _=>rfl) _,trivial⟩
      (by kernel_rfl) (by kernel_rfl) (by kernel_rfl) (by kernel_rfl) (by kernel_rfl) (by kernel_rfl) (by kernel_rfl)) sd
    exact hstep.ends (aBG hp ha hx hs0 hs ih t (j+1) (kC p f k) g2 (by omega))
theorem aKL (hp:FineP p)(hnm:∀ (i:Nat) (x:Node),p.nodes[i]?=some x→x.op=4→x.n<0→ -1000000000≤x.n)(fn:Int)(hN:bF fn mn=none) :∀ (f:Nat) (a sz:Int),0≤a→a<p.nodes.length→p.nodes.length-a.toNat≤f→0≤sz→sz≤1000* (a+1) → (kC p f a).length≤1000000→zN p mn a fn sz (kC p f a)
 |0,a,sz,ha,hn,hf,_,_,_=>by omega
 | f +1,a,sz,ha,hn,hf,h0,h1,hb=>by
  obtain⟨x,hx⟩ :∃x,p.nodes[a.toNat]?=some x:= ⟨_,List.getElem?_eq_getElem (by omega)⟩
  have e:kC p (f+1) a=oI x++ (x.kids.map (kC p f)).flatten:=by rw [kC,hx]
  rw [e]at hb ⊢
  rw [List.length_append]at hb
  refine aQi ?_
  have hO:=fun(k tz:Int) (l:List Int) (hk:a<k) (hkn:k<p.nodes.length) ht0 ht hl=>aKK (mn:=mn) hp hnm fn hN f k tz l (by omega) hkn (by omega) ht0 ht hl
  by_cases h4:x.op=4∧x.n<0
  · have en:oI x= [-1-x.n] :=if_pos h4
    obtain⟨h4,hneg⟩ :=h4
    have hw:=hnm _ x hx h4 hneg
    have ew:IntKind.i64.wrap ((-1:Int) -x.n) = -1-x.n:=wrap64 (by omega) (by omega)
    have hE:=aUR p mn a fn sz x ha hx (by simp [h4]) (by simp;omega) hN
    rw [ew]at hE
    rw [en]at hb ⊢
    rw [aIe (by simp)]
    exact hE.ends (aBG (mn:=mn) (fn:=fn) hp (f:=f) ha hx h0 h1 hO x.kids 0 [-1-x.n] rfl hb)
  · have en:oI x= [] :=if_neg h4
    rw [en,List.nil_append]
    have hL:=aGp (mn:=mn) (fn:=fn) hp (f:=f) ha hx h0 h1 hO (fun k tz hk hkn ht0 ht hl=>aKL hp hnm fn hN f k tz (by omega) hkn (by omega) ht0 ht hl) x.kids 0 rfl (by omega)
    by_cases h5:x.op=4
    ·exact(aUS p mn a fn sz x ha hx (by simp [h5]) (by have:¬x.n<0:=fun h=>h4 ⟨h5,h⟩;simp;omega)).ends hL
    ·exact(aUT p mn a fn sz x ha hx (by simp [h5])).ends hL
end
end
end Go.Hb
namespace Go.Hb
open Go.Proofs
set_option maxHeartbeats 2000000
noncomputable section
def uA (p:Prog)(f:Nat) :Nat→List Int→List (Int×List Int) →List (Int×List Int)
 |_,[],mn=>mn
 |i,k::t,mn=>uA p f (i+1) t (if kC p f k= []then mn else cM (i:Int) (kC p f k) mn)
theorem aSO {p:Prog}(hp:FineP p)(hnm:∀ (i:Nat) (x:Node),p.nodes[i]?=some x→x.op=4→x.n<0→ -1000000000≤x.n)(f:Nat)(hf:p.nodes.length≤f)(hr:∀k∈p.funs,(kC p f k).length≤1000000) :∀ (t:List Int) (i:Nat) (mn:List (Int×List Int)),(∀j:Int,(i:Int) ≤j→bF j mn=none) →i≤p.funs.length→p.funs.drop i=t →
  LeadsM PP 0 (qI p (i:Int) mn).as (qI p ((p.funs.length:Nat) :Int) (uA p f i t mn)).as
 | [],i,mn,hm,hi,h=>by
  have h0:=cD h
  obtain rfl:i=p.funs.length:=by omega
  exact LeadsM.refl _
 | k ::t,i,mn,hm,hi,h=>by
  obtain⟨g1,g2,g3⟩ :=cA h
  have hfs:=hp.fsmall
  have hmem:=List.mem_of_getElem? g1
  obtain⟨k0,k1⟩ :=hp.funs k hmem
  have hw:=aKL (mn:=mn) hp hnm (i:Int) (hm i (Int.le_refl _)) f k 1 k0 k1 (by omega) (by omega) (by omega) (hr k hmem)
  unfold zN at hw
  rw [uA]
  by_cases hn:kC p f k= []
  · rw [hn]at hw
    rw [aId]at hw
    rw [if_pos hn]
    have h0:=aSK p i mn k sd sd sd hw sd
    exact h0.trans (aSO hp hnm f hf hr t (i+1) mn (fun j hj=>hm j (by omega)) (by omega) g2)
  · rw [aIe hn]at hw
    rw [if_neg hn]
    have h0:=aSJ p i mn k (kC p f k) sd sd sd (rT (m:=8) (ks:=[0,1,2,3,4,5,6,7]) hw (by rfl) (by rfl) (by kernel_rfl) (by rfl) (by rfl) (by kernel_rfl) (by kernel_rfl)
      ⟨aSN mn,trivial⟩ (by kernel_rfl) ⟨aD _ (fun _=>rfl) _,trivial⟩
      (by kernel_rfl) (by kernel_rfl) (by kernel_rfl) (by kernel_rfl) (by kernel_rfl) (by kernel_rfl) (by kernel_rfl)) sd (hm i (Int.le_refl _))
    refine h0.trans (aSO hp hnm f hf hr t (i+1) _ (fun j hj=>?_) (by omega) g2)
    rw [jM,if_neg (by omega)]
    exact hm j (by omega)
theorem aGq {p:Prog}{f:Nat}{N:Nat}:∀ (t:List Int) (i:Nat) (mn:List (Int×List Int)),(∀k∈t,(kC p f k).length≤N) → (∀ (j:Int) (row:List Int),bF j mn=some row→row.length≤N) →∀ (j:Int) (row:List Int),bF j (uA p f i t mn) =some row→row.length≤N
 | [],i,mn,_,h=>h
 | k ::t,i,mn,hk,h=>by
  rw [uA]
  refine aGq t (i+1) _ (fun k' hk'=>hk k' (List.mem_cons_of_mem _ hk')) (fun j row e=>?_)
  split at e
  ·exact h j row e
  · rw [jM]at e
    split at e
    ·cases e;exact hk k (List.mem_cons_self ..)
    ·exact h j row e
theorem aIf {p:Prog}(hp:FineP p)(hnm:∀ (i:Nat) (x:Node),p.nodes[i]?=some x→x.op=4→x.n<0→ -1000000000≤x.n)(f:Nat)(hf:p.nodes.length≤f)(hr:∀k∈p.funs,(kC p f k).length≤1000000)(k:Nat)(zl:List (Int×Bool))(hz:hQ (uA p f 0 p.funs []) k p.main [] =some zl) :
  aI5 PP (.enter 68 [Prog.av p]) (aA [] 0) (.ret (.map 0)) (aA [(0,MB zl,true)] 1) :=by
 have hrow:=aGq (p:=p) (f:=f) (N:=1000000) p.funs 0 [] hr (fun j row e=>by simp [bF]at e)
 have hw:=aEs hrow k p.main [] zl (fun j v e=>by simp [bF]at e) hz
 have hE:=aSL p ((p.funs.length:Nat) :Int) (uA p f 0 p.funs []) zl (by simp) (fS (ks:=[9,2,10,8,7]) hw (by kernel_rfl) rfl (by kernel_rfl) (by kernel_rfl) ⟨aAY _,aSF _,trivial⟩ (by kernel_rfl) ⟨aAY _,aSF _,trivial⟩ (by kernel_rfl) (by kernel_rfl) (by kernel_rfl) (by kernel_rfl) (by kernel_rfl) (by kernel_rfl) (by kernel_rfl) (by kernel_rfl))
 exact⟨(aSH p).as.fr,by kernel_rfl,Eq.mp (by kernel_rfl) (((aSI p).trans (aSO hp hnm f hf hr p.funs 0 [] (fun j _=>rfl) (Nat.zero_le _) rfl)).ends hE)⟩
end
end Go.Hb
