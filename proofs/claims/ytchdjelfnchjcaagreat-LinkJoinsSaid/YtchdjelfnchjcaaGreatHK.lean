/- A machine on abstract values, its soundness, ways, plain laws. -/
import Derived.Test.YtchdjelfnchjcaaGreatHF
import Derived.Test.YtchdjelfnchjcaaGreatHI
import Derived.Test.YtchdjelfnchjcaaGreatHJ
set_option linter.defProp false
set_option linter.unusedVariables false
set_option linter.unusedSimpArgs false
set_option linter.unusedSectionVars false
set_option maxRecDepth 100000
set_option maxHeartbeats 4000000
namespace Go.Hb
open List (drop map take)
open Go.Proofs
noncomputable section
structure SMk (m:Mod) :Prop where
 dl:m.datas.length≤100000
 fl:m.funs.length≤100000
 d:∀d∈m.datas,kN d∧d.cons.length≤1000
 f:∀f∈m.funs,fD f
theorem aGR (m:Mod)(h:SMk m) :∀ (t:List FunD) (i:Nat),m.funs.drop i=t→Ends PP 0 (aEP m m (i:Int)).as (.ret (.bool true)) (aO [] 0)
 | [],i,hd=>by
  have:=bD hd;exact aUv m m i sd
 | f::t,i,hd=>by
  obtain⟨g1,g2,g3⟩ :=aW hd;have:=h.fl;have ih:=aGR m h t (i+1) g2;obtain⟨n,p,a,b,c⟩ :=f;obtain⟨q1,q2,q3⟩ :=h.f _ (List.mem_of_getElem? g1);have o1:=yX a a q1;have o2:=yX b b q2;have o3:=aGA c c q3;unfold SmY at o1 o2;unfold SmT at o3;rw [dK rfl]at o1 o2 o3;obtain⟨a0,a1,a2,a3⟩ :=a;obtain⟨b0,b1,b2,b3⟩ :=b;obtain⟨c0,c1,c2,c3,c4⟩ :=c;exact(aUu m m i n p a0 a1 a2 a3 b0 b1 b2 b3 c0 c1 c2 c3 c4 n p a0 a1 a2 a3 b0 b1 b2 b3 c0 c1 c2 c3 c4 true true true sd sd sd sd (by rw [bF];simp) (by rw [bF];simp) o1 rfl o2 rfl o3 rfl sd).ends ih
theorem aDy (m:Mod)(h:SMk m) :∀ (t:List DataD) (i:Nat),m.datas.drop i=t→Ends PP 0 (aEO m m (i:Int)).as (.ret (.bool true)) (aO [] 0)
 | [],i,hd=>by
  have:=bD hd;exact(aUt m m i sd).ends (aGR m h m.funs 0 rfl)
 | d::t,i,hd=>by
  obtain⟨g1,g2,g3⟩ :=aW hd;have:=h.dl;obtain⟨d1,d2⟩ :=h.d d (List.mem_of_getElem? g1);have hp:=aGN d d d1 (by omega);rw [dK rfl]at hp;exact(aUs m m i d d true sd sd sd sd hp rfl sd).ends (aDy m h t (i+1) g2)
theorem aO3 (m:Mod)(h:SMk m) :Pure PP 8 [Mod.av m,Mod.av m] (.bool true) :=
 bC (by kernel_rfl) (by simp [AV.keylessL,wK]) rfl ((aUr m m (by rw [bF];simp) (by simp) (by simp)).ends (aDy m h m.datas 0 rfl))
theorem aXH :∀ (t:List Mod) (ds:List DataD) (fs:List FunD) (ds':List DataD) (fs':List FunD),(∀m∈t,JOk m) → (∀y∈ds,kN y∧y.cons.length≤1000) → (∀f∈fs,fD f) →jnL t ds fs=some (ds',fs') →
  (∀y∈ds',kN y∧y.cons.length≤1000) ∧ (∀f∈fs',fD f) ∧ds'.length≤ds.length+10*t.length∧fs'.length≤fs.length+10*t.length
 | [],ds,fs,ds',fs',_,hd,hf,h=>by
  rw [jnL]at h;cases h;exact⟨hd,hf,by simp,by simp⟩
 | m ::t,ds,fs,ds',fs',hj,hd,hf,h=>by
  rw [jnL]at h;split at h
  · have J:=hj m (List.mem_cons_self ..);have hdl:=J.dl;have hfl:=J.fl;have hlen:=zA m.datas ds
    obtain⟨r1,r2,r3,r4⟩ :=aXH t _ _ ds' fs' (fun x hx=>hj x (List.mem_cons_of_mem _ hx)) (fun y hy=>by
     rcases zB m.datas ds hy with g|g
     ·exact hd y g
     ·exact J.d y g) (fun f hf'=>by
     rcases List.mem_append.1 hf' with g|g
     ·exact hf f g
     ·exact J.f f g) h
    rw [List.length_append]at r4;simp only [List.length_cons];exact⟨r1,r2,by omega,by omega⟩
  ·cases h
theorem aWr (l:List Mod)(hj:∀m∈l,JOk m)(hl:l.length≤1000) :SMk (aCs l).1:=by
 have hz:SMk ZM:= ⟨by simp [ZM],by simp [ZM],by simp [ZM],by simp [ZM]⟩;unfold aCs;split
 ·exact hz
 · cases h:jnL l [] []with
   |none=>exact hz
   | some r=>
    obtain⟨ds,fs⟩ :=r;obtain⟨r1,r2,r3,r4⟩ :=aXH l [] [] ds fs hj (by simp) (by simp) h;simp only [List.length_nil]at r3 r4;simp only;cases l with
    |nil=>exact hz
    | cons m l=>
     rw [aH9];split
     · split
       ·exact⟨by simp only;omega,by simp only;omega,r1,r2⟩
       ·exact hz
     ·exact hz
theorem aYD {m:Mod}(h:sY m=true) :JOk m:=by
 have hf:=aH8 h;simp only [sY,Bool.and_eq_true,decide_eq_true_eq]at h;obtain⟨⟨⟨⟨_,h2⟩,h3⟩,h4⟩,h5⟩ :=h;refine⟨by omega,by omega,fun d hd=>?_,hf⟩;have:=List.all_eq_true.1 h4 d hd;simp only [aAg,Bool.and_eq_true,decide_eq_true_eq]at this;obtain⟨⟨_,a2⟩,a3⟩ :=this;refine⟨⟨by omega,fun c hc=>?_⟩,by omega⟩;have b:=List.all_eq_true.1 a3 c hc;simp only [uA,Bool.and_eq_true,decide_eq_true_eq]at b;obtain⟨⟨_,b2⟩,b3⟩ :=b;exact⟨by omega,fun t ht=>wO (List.all_eq_true.1 b3 t ht)⟩
theorem aAP (l:List Mod)(hl:l.length≤11)(hk:Pure PP 4 [] (.bool true))(w:World)(cargs:List Value)(hv:VRs (embOf w) [.ilst 3 (map Mod.av l) false] cargs) :∀ (t:List Mod) (i:Nat),l.drop i=t→i≤l.length→ (∀m∈l.take i,sY m=true) →LeadsM Tryz.prog 0 (start Tryz.prog 3 [.ilst 3 (map Mod.av l) false]).as (aAm l (i:Int)).as →
  Calls Tryz.prog 3 ⟨cargs⟩ w fun e w'=>e= .returned (.bool true) ∧GrownO w w'
 | [],i,h,hi,hs,hlead=>by
  have:=bD h;have e:l.take i=l:=List.take_of_length_le (by omega);rw [e]at hs;have hj:∀m∈l,JOk m:=fun m hm=>aYD (hs m hm);have h1:=aO2 l hj;have h2:=aOT l hj;have h3:=aO3 (aCs l).1 (aWr l hj (by omega));exact aWq l i (aCs l).1 (aCs l).2 (aCs l).1 (aCs l).2 true true sd h1 h2 (beq_self_eq_true _) h3 rfl hk hlead w cargs hv
 | m::t,i,h,hi,hs,hlead=>by
  obtain⟨g1,g2,g3⟩ :=aW h;have hp:=aOj m;cases e:sY m with
  | false=>
   rw [e]at hp;exact aWp l i m false true sd sd sd hp rfl hk hlead w cargs hv
  | true=>
   rw [e]at hp;refine aAP l hl hk w cargs hv t (i+1) g2 (by omega) (fun x hx=>?_) (hlead.trans (aWn l i m true sd sd sd hp rfl sd));rw [aGu g1]at hx;rcases List.mem_append.1 hx with g|g
   ·exact hs x g
   ·rw [List.mem_singleton.1 g];exact e
theorem lJoins_calls (l:List Mod)(hk:Pure PP 4 [] (.bool true))(w:World)(cargs:List Value)(hv:VRs (embOf w) [.ilst 3 (map Mod.av l) false] cargs) :
  Calls Tryz.prog 3 ⟨cargs⟩ w fun e w'=>e= .returned (.bool true) ∧GrownO w w':=by
 by_cases h:l.length>11
 ·exact aWo l true (by simp;omega) hk w cargs hv
 ·exact aAP l (by omega) hk w cargs hv l 0 rfl (by omega) (by simp) (aWm l (by simp;omega))
section
variable {H :Type} {enc:TypeId×Value→H} {w:World} {spare:Nat→Bool} {held:Bool}
theorem aFl {l:List AV}{n:Nat}{cs:List Value}(h:Elt w n (.agg l) cs) :VRs (embOf w) l cs:=by
 obtain⟨_,u,h1,h2,_⟩ :=h;simp only [VR]at h2;obtain⟨vs,rfl,h3⟩ :=h2;have:vs=cs:=h1;rw [←this];exact h3
theorem three {α:Type}{cs:List α}(h:cs.length=3) :∃a b c,cs= [a,b,c] :=by
 match cs,h with
 | [a,b,c],_=>exact⟨a,b,c,rfl⟩
theorem five {α:Type}{cs:List α}(h:cs.length=5) :∃a b c d e,cs= [a,b,c,d,e] :=by
 match cs,h with
 | [a,b,c,d,e],_=>exact⟨a,b,c,d,e,rfl⟩
theorem fifteen {α:Type}{cs:List α}(h:cs.length=15) :∃a b c d e f g i j k l m n o p,cs= [a,b,c,d,e,f,g,i,j,k,l,m,n,o,p] :=by
 match cs,h with
 | [a,b,c,d,e,f,g,i,j,k,l,m,n,o,p],_=>exact⟨a,b,c,d,e,f,g,i,j,k,l,m,n,o,p,rfl⟩
section
theorem aWs :Tryz.prog.cellsOf 75=1:=by kernel_rfl
theorem aFm :Tryz.prog.cellsOf 77=5:=by kernel_rfl
theorem aWt :Tryz.prog.cellsOf 71=1:=by kernel_rfl
theorem aJl :Tryz.prog.cellsOf 72=1:=by kernel_rfl
theorem aA9 :Tryz.prog.cellsOf 74=4:=by kernel_rfl
theorem aJm :Tryz.prog.cellsOf 79=15:=by kernel_rfl
theorem cells25 :Tryz.prog.cellsOf 25=1:=by kernel_rfl
theorem cells26 :Tryz.prog.cellsOf 26=1:=by kernel_rfl
theorem cells28 :Tryz.prog.cellsOf 28=3:=by kernel_rfl
theorem cells68 :Tryz.prog.cellsOf 68=1:=by kernel_rfl
theorem aJn :Tryz.prog.cellsOf 70=2:=by kernel_rfl
theorem aJo :Tryz.prog.cellsOf 97=2:=by kernel_rfl
theorem aCv :∀ (fuel:Nat) (cs:List Value) (x:DataW H×List MemPlace),DataW.trod enc Tryz.prog w 0 spare held fuel 74 cs=some x→∃p:Typ,Elt w 4 (Typ.av p) cs:=by
 intro fuel
 induction fuel using Nat.strongRecOn with
 | ind fuel ih=>
  intro cs x h;obtain⟨xs,m,rfl,rfl,hl,hlen,hf⟩ :=DataW.trod_struct Tryz.underlying74 h;rw [aA9]at hl;obtain⟨c0,c1,c2,c3,rfl⟩ :=four hl;have h0:DataW.trod enc Tryz.prog w 0 spare held m 71 (([c0,c1,c2,c3].drop 0).take (Tryz.prog.cellsOf 71)) =xs[0]?:=hf 0 _ rfl;have h1:DataW.trod enc Tryz.prog w 0 spare held m 3 (([c0,c1,c2,c3].drop 1).take (Tryz.prog.cellsOf 3)) =xs[1]?:=hf 1 _ rfl;have h2:DataW.trod enc Tryz.prog w 0 spare held m 9 (([c0,c1,c2,c3].drop 2).take (Tryz.prog.cellsOf 9)) =xs[2]?:=hf 2 _ rfl;have h3:DataW.trod enc Tryz.prog w 0 spare held m 72 (([c0,c1,c2,c3].drop 3).take (Tryz.prog.cellsOf 72)) =xs[3]?:=hf 3 _ rfl;simp only [aWt,cells3,cells9,aJl,drop,take]at h0 h1 h2 h3;obtain⟨x0,h0⟩ :=got h0 hlen (by decide);obtain⟨x1,h1⟩ :=got h1 hlen (by decide);obtain⟨x2,h2⟩ :=got h2 hlen (by decide);obtain⟨x3,h3⟩ :=got h3 hlen (by decide);obtain⟨f,e0⟩ :=oH Tryz.underlying71 h0;obtain⟨n,e1⟩ :=oH Tryz.underlying3 h1;obtain⟨s,c,e2,v2⟩ :=kH Tryz.underlying9 h2;obtain⟨ps,c',e3,v3⟩ :=fB Typ.av Tryz.underlying72 aA9 (by omega) h3 (fun fu hfu cs x hx=>ih fu (by omega) cs x hx);cases e0;cases e1;cases e2;cases e3;refine⟨.mk f n s ps,?_⟩;simp only [Typ.av,aU];refine qD (VRs.cons (by simp only [VR]) (VRs.cons (by simp only [VR]) (VRs.cons v2 (VRs.cons v3 (VRs.nil _))))) ?_;rfl
theorem aJT :∀ (fuel:Nat) (cs:List Value) (x:DataW H×List MemPlace),DataW.trod enc Tryz.prog w 0 spare held fuel 77 cs=some x→∃p:Term,Elt w 5 (Term.av p) cs:=by
 intro fuel
 induction fuel using Nat.strongRecOn with
 | ind fuel ih=>
  intro cs x h;obtain⟨xs,m,rfl,rfl,hl,hlen,hf⟩ :=DataW.trod_struct Tryz.underlying77 h;rw [aFm]at hl;obtain⟨c0,c1,c2,c3,c4,rfl⟩ :=five hl;have h0:DataW.trod enc Tryz.prog w 0 spare held m 58 (([c0,c1,c2,c3,c4].drop 0).take (Tryz.prog.cellsOf 58)) =xs[0]?:=hf 0 _ rfl;have h1:DataW.trod enc Tryz.prog w 0 spare held m 3 (([c0,c1,c2,c3,c4].drop 1).take (Tryz.prog.cellsOf 3)) =xs[1]?:=hf 1 _ rfl;have h2:DataW.trod enc Tryz.prog w 0 spare held m 9 (([c0,c1,c2,c3,c4].drop 2).take (Tryz.prog.cellsOf 9)) =xs[2]?:=hf 2 _ rfl;have h3:DataW.trod enc Tryz.prog w 0 spare held m 75 (([c0,c1,c2,c3,c4].drop 3).take (Tryz.prog.cellsOf 75)) =xs[3]?:=hf 3 _ rfl;have h4:DataW.trod enc Tryz.prog w 0 spare held m 59 (([c0,c1,c2,c3,c4].drop 4).take (Tryz.prog.cellsOf 59)) =xs[4]?:=hf 4 _ rfl;simp only [cells58,cells3,cells9,aWs,cells59,drop,take]at h0 h1 h2 h3 h4;obtain⟨x0,h0⟩ :=got h0 hlen (by decide);obtain⟨x1,h1⟩ :=got h1 hlen (by decide);obtain⟨x2,h2⟩ :=got h2 hlen (by decide);obtain⟨x3,h3⟩ :=got h3 hlen (by decide);obtain⟨x4,h4⟩ :=got h4 hlen (by decide);obtain⟨f,e0⟩ :=oH Tryz.underlying58 h0;obtain⟨n,e1⟩ :=oH Tryz.underlying3 h1;obtain⟨s,c,e2,v2⟩ :=kH Tryz.underlying9 h2;obtain⟨ks,c',e3,v3⟩ :=fB Term.av Tryz.underlying75 aFm (by omega) h3 (fun fu hfu cs x hx=>ih fu (by omega) cs x hx);obtain⟨ps,c'',e4,v4⟩ :=fB Pat.av Tryz.underlying59 aBV (by omega) h4 (fun fu _ cs x hx=>aKP fu cs x hx);cases e0;cases e1;cases e2;cases e3;cases e4;refine⟨.mk f n s ks ps,?_⟩;simp only [Term.av,cG,aK];refine qD (VRs.cons (by simp only [VR]) (VRs.cons (by simp only [VR]) (VRs.cons v2 (VRs.cons v3 (VRs.cons v4 (VRs.nil _)))))) ?_;rfl
theorem aJU (fuel:Nat)(cs:List Value)(x:DataW H×List MemPlace)(h:DataW.trod enc Tryz.prog w 0 spare held fuel 97 cs=some x) :∃p:ConD,Elt w 2 (ConD.av p) cs:=by
 obtain⟨xs,m,rfl,rfl,hl,hlen,hf⟩ :=DataW.trod_struct Tryz.underlying97 h;rw [aJo]at hl;obtain⟨c0,c1,rfl⟩ :=two hl;have h0:DataW.trod enc Tryz.prog w 0 spare held m 9 (([c0,c1].drop 0).take (Tryz.prog.cellsOf 9)) =xs[0]?:=hf 0 _ rfl;have h1:DataW.trod enc Tryz.prog w 0 spare held m 72 (([c0,c1].drop 1).take (Tryz.prog.cellsOf 72)) =xs[1]?:=hf 1 _ rfl;simp only [cells9,aJl,drop,take]at h0 h1;obtain⟨x0,h0⟩ :=got h0 hlen (by decide);obtain⟨x1,h1⟩ :=got h1 hlen (by decide);obtain⟨s,c,e0,v0⟩ :=kH Tryz.underlying9 h0;obtain⟨ts,c',e1,v1⟩ :=fB Typ.av Tryz.underlying72 aA9 (by omega) h1 (fun fu _ cs x hx=>aCv fu cs x hx);cases e0;cases e1;refine⟨⟨s,ts⟩,?_⟩;simp only [ConD.av,aU];refine qD (VRs.cons v0 (VRs.cons v1 (VRs.nil _))) ?_;rfl
theorem aJV (fuel:Nat)(cs:List Value)(x:DataW H×List MemPlace)(h:DataW.trod enc Tryz.prog w 0 spare held fuel 70 cs=some x) :∃p:DataD,Elt w 2 (DataD.av p) cs:=by
 obtain⟨xs,m,rfl,rfl,hl,hlen,hf⟩ :=DataW.trod_struct Tryz.underlying70 h;rw [aJn]at hl;obtain⟨c0,c1,rfl⟩ :=two hl;have h0:DataW.trod enc Tryz.prog w 0 spare held m 9 (([c0,c1].drop 0).take (Tryz.prog.cellsOf 9)) =xs[0]?:=hf 0 _ rfl;have h1:DataW.trod enc Tryz.prog w 0 spare held m 68 (([c0,c1].drop 1).take (Tryz.prog.cellsOf 68)) =xs[1]?:=hf 1 _ rfl;simp only [cells9,cells68,drop,take]at h0 h1;obtain⟨x0,h0⟩ :=got h0 hlen (by decide);obtain⟨x1,h1⟩ :=got h1 hlen (by decide);obtain⟨s,c,e0,v0⟩ :=kH Tryz.underlying9 h0;obtain⟨ts,c',e1,v1⟩ :=fB ConD.av Tryz.underlying68 aJo (by omega) h1 (fun fu _ cs x hx=>aJU fu cs x hx);cases e0;cases e1;refine⟨⟨s,ts⟩,?_⟩;simp only [DataD.av];refine qD (VRs.cons v0 (VRs.cons v1 (VRs.nil _))) ?_;rfl
theorem aJW (fuel:Nat)(cs:List Value)(x:DataW H×List MemPlace)(h:DataW.trod enc Tryz.prog w 0 spare held fuel 79 cs=some x) :∃p:FunD,Elt w 15 (FunD.av p) cs:=by
 obtain⟨xs,m,rfl,rfl,hl,hlen,hf⟩ :=DataW.trod_struct Tryz.underlying79 h;rw [aJm]at hl;obtain⟨c0,c1,c2,c3,c4,c5,c6,c7,c8,c9,c10,c11,c12,c13,c14,rfl⟩ :=fifteen hl;have h0:DataW.trod enc Tryz.prog w 0 spare held m 9 (([c0,c1,c2,c3,c4,c5,c6,c7,c8,c9,c10,c11,c12,c13,c14].drop 0).take (Tryz.prog.cellsOf 9)) =xs[0]?:=hf 0 _ rfl;have h1:DataW.trod enc Tryz.prog w 0 spare held m 9 (([c0,c1,c2,c3,c4,c5,c6,c7,c8,c9,c10,c11,c12,c13,c14].drop 1).take (Tryz.prog.cellsOf 9)) =xs[1]?:=hf 1 _ rfl;have h2:DataW.trod enc Tryz.prog w 0 spare held m 74 (([c0,c1,c2,c3,c4,c5,c6,c7,c8,c9,c10,c11,c12,c13,c14].drop 2).take (Tryz.prog.cellsOf 74)) =xs[2]?:=hf 2 _ rfl;have h3:DataW.trod enc Tryz.prog w 0 spare held m 74 (([c0,c1,c2,c3,c4,c5,c6,c7,c8,c9,c10,c11,c12,c13,c14].drop 6).take (Tryz.prog.cellsOf 74)) =xs[3]?:=hf 3 _ rfl;have h4:DataW.trod enc Tryz.prog w 0 spare held m 77 (([c0,c1,c2,c3,c4,c5,c6,c7,c8,c9,c10,c11,c12,c13,c14].drop 10).take (Tryz.prog.cellsOf 77)) =xs[4]?:=hf 4 _ rfl;simp only [cells9,aA9,aFm,drop,take]at h0 h1 h2 h3 h4;obtain⟨x0,h0⟩ :=got h0 hlen (by decide);obtain⟨x1,h1⟩ :=got h1 hlen (by decide);obtain⟨x2,h2⟩ :=got h2 hlen (by decide);obtain⟨x3,h3⟩ :=got h3 hlen (by decide);obtain⟨x4,h4⟩ :=got h4 hlen (by decide);obtain⟨s,c,e0,v0⟩ :=kH Tryz.underlying9 h0;obtain⟨q,c',e1,v1⟩ :=kH Tryz.underlying9 h1;obtain⟨⟨f0,f1,f2,f3⟩,v2⟩ :=aCv m _ _ h2;obtain⟨⟨g0,g1,g2,g3⟩,v3⟩ :=aCv m _ _ h3;obtain⟨⟨b0,b1,b2,b3,b4⟩,v4⟩ :=aJT m _ _ h4;cases e0;cases e1;refine⟨.mk s q (.mk f0 f1 f2 f3) (.mk g0 g1 g2 g3) (.mk b0 b1 b2 b3 b4),?_⟩;simp only [Typ.av]at v2 v3;simp only [Term.av]at v4;have V:=VRs.cons v0 (VRs.cons v1 ((aFl v2).append ((aFl v3).append (aFl v4))));exact qD V rfl
end
theorem aJX (fuel:Nat)(cs:List Value)(x:DataW H×List MemPlace)(h:DataW.trod enc Tryz.prog w 0 spare held fuel 28 cs=some x) :∃p:Mod,Elt w 3 (Mod.av p) cs:=by
 obtain⟨xs,m,rfl,rfl,hl,hlen,hf⟩ :=DataW.trod_struct Tryz.underlying28 h;rw [cells28]at hl;obtain⟨c0,c1,c2,rfl⟩ :=three hl;have h0:DataW.trod enc Tryz.prog w 0 spare held m 9 (([c0,c1,c2].drop 0).take (Tryz.prog.cellsOf 9)) =xs[0]?:=hf 0 _ rfl;have h1:DataW.trod enc Tryz.prog w 0 spare held m 25 (([c0,c1,c2].drop 1).take (Tryz.prog.cellsOf 25)) =xs[1]?:=hf 1 _ rfl;have h2:DataW.trod enc Tryz.prog w 0 spare held m 26 (([c0,c1,c2].drop 2).take (Tryz.prog.cellsOf 26)) =xs[2]?:=hf 2 _ rfl;simp only [cells9,cells25,cells26,drop,take]at h0 h1 h2;obtain⟨x0,h0⟩ :=got h0 hlen (by decide);obtain⟨x1,h1⟩ :=got h1 hlen (by decide);obtain⟨x2,h2⟩ :=got h2 hlen (by decide);obtain⟨s,c,e0,v0⟩ :=kH Tryz.underlying9 h0;obtain⟨ds,c',e1,v1⟩ :=fB DataD.av Tryz.underlying25 aJn (by omega) h1 (fun fu _ cs x hx=>aJV fu cs x hx);obtain⟨fs,c'',e2,v2⟩ :=fB FunD.av Tryz.underlying26 aJm (by omega) h2 (fun fu _ cs x hx=>aJW fu cs x hx);cases e0;cases e1;cases e2;refine⟨⟨s,ds,fs⟩,?_⟩;simp only [Mod.av];refine qD (VRs.cons v0 (VRs.cons v1 (VRs.cons v2 (VRs.nil _)))) ?_;rfl
theorem lift_mods (fuel:Nat)(cs:List Value)(x:DataW H×List MemPlace)(h:DataW.trod enc Tryz.prog w 0 spare held fuel 22 cs=some x) :∃ (l:List Mod) (c:Value),cs= [c] ∧VR (embOf w) (.ilst 3 (map Mod.av l) false) c:=
 fB Mod.av Tryz.underlying22 cells28 (by omega) h (fun fu _ cs x hx=>aJX fu cs x hx)
end
end
end Go.Hb
