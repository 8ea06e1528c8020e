/-
  OWN WORK (V21, H1, H2, V22, H12, V36, V37, V38): a machine on abstract values, its soundness, ways through the text (the ways WRITTEN BY A PROGRAM), plain laws.
-/
import Derived.Test.YtogkjcpighphfaaGreatHF
import Derived.Test.YtogkjcpighphfaaGreatHG
import Derived.Test.YtogkjcpighphfaaGreatHH
set_option linter.unusedVariables false
set_option linter.unusedSimpArgs false
set_option linter.unusedSectionVars false
set_option maxRecDepth 100000
namespace Go.Hb
open Go.Proofs
theorem Ends.val {P:Program}{m:Nat}{s:AS}{v v':AV}{h':Hp}(h:Ends P m s (.ret v) h')(hv:∀E cv,VR E v cv→VR E v' cv) :Ends P m s (.ret v') h':=fun hm E fr ccs w f fs r cl base=>by
 obtain⟨cl',w',E',s1,⟨cv,e,g⟩,r2,x2⟩ :=h hm E fr ccs w f fs r cl base
 exact⟨cl',w',E',s1,⟨cv,e,hv _ _ g⟩,r2,x2⟩
theorem vr_inexact {E:Emb}{e:Nat}{xs:List AV}{cv:Value}(h:VR E (.ilst e xs true) cv) :VR E (.ilst e xs false) cv:=by
 simp only [VR]at h ⊢
 obtain⟨vs,h1,h2,h3⟩ :=h
 refine⟨vs,h1,h2,?_⟩
 rcases h3 with⟨a1,a,cap,a2,a3,a4⟩ | ⟨k,a,cap,C,a1,a2,a3,a4,a5⟩
 ·exact .inl ⟨a1,a,cap,a2,a3,fun e=> (by cases e)⟩
 ·exact .inr ⟨k,a,cap,C,a1,a2,a3,fun e=> (by cases e),a5⟩
mutual
def bnm :Pat→Int
 | .mk f _ _ ps=>if f=2 then 1 else bnms ps
def bnms :List Pat→Int
 | [] =>0
 |p::ps=>bnm p+bnms ps
end
mutual
def rnm :Pat→Int
 | .mk f _ _ ps=> (if f=2 then 1 else 0) +rnms ps
def rnms :List Pat→Int
 | [] =>0
 |p::ps=>rnm p+rnms ps
end
mutual
theorem bnm_le :∀p,0≤bnm p∧bnm p≤psize p
 | .mk f _ _ ps=>by
  have:=bnms_le ps
  simp only [bnm,psize];split<;>omega
theorem bnms_le :∀ps,0≤bnms ps∧bnms ps≤psizes ps
 | [] =>by simp [bnms,psizes]
 | p::ps=>by
  have:=bnm_le p;have:=bnms_le ps
  simp only [bnms,psizes];omega
end
mutual
theorem rnm_le :∀p,0≤rnm p∧rnm p≤psize p
 | .mk f _ _ ps=>by
  have:=rnms_le ps
  simp only [rnm,psize];split<;>omega
theorem rnms_le :∀ps,0≤rnms ps∧rnms ps≤psizes ps
 | [] =>by simp [rnms,psizes]
 | p::ps=>by
  have:=rnm_le p;have:=rnms_le ps
  simp only [rnms,psizes];omega
end
mutual
theorem nm_eq (cons:List Con) :∀p,patOk cons p=true→bnm p=rnm p
 | .mk f n s ps,h=>by
  simp only [patOk,Bool.and_eq_true]at h
  have:=nms_eq cons ps h.2
  simp only [bnm,rnm]
  by_cases g:f=2
  · have hk:=h.1
    subst g
    simp only [patHead]at hk
    simp at hk
    obtain⟨⟨hk,_⟩,_⟩ :=hk
    subst hk
    simp [rnms]
  ·rw [if_neg g,if_neg g,this];omega
theorem nms_eq (cons:List Con) :∀ps,patsOk cons ps=true→bnms ps=rnms ps
 | [],_=>rfl
 | p::ps,h=>by
  simp only [patsOk,Bool.and_eq_true]at h
  simp only [bnms,rnms,nm_eq cons p h.1,nms_eq cons ps h.2]
end
theorem bNames_loop (f n:Int)(s:Str)(ps:List Pat)(hl:ps.length<1000000)(ih:∀p∈ps,Pure PP 142 [Pat.av p] (.int .i64 (bnm p))) :
  ∀ (t:List Pat) (i:Nat) (a:Int),0≤a→a+bnms t≤1000000→ps.drop i=t→Ends PP 0 (bNames_c0 f n s ps a (i:Int)).as (.ret (.int .i64 (a+bnms t))) (hpOf [] 0)
 | [],i,a,_,_,h=>by
  have:=dropN h
  exact Ends.eqv (bNames_0_1 f n s ps a i sd) (by simp [bnms])
 | .mk f' n' s' ps'::t,i,a,ha,hb,h=>by
  obtain⟨g1,g2,g3⟩ :=dropC h
  have ihp:=ih _ (List.mem_of_getElem? g1)
  have b1:=bnm_le (.mk f' n' s' ps')
  have b2:=bnms_le t
  rw [bnms]at hb ⊢
  refine(bNames_0_0 f n s ps a i f' n' s' ps' _ sd sd sd ihp sd sd).ends ?_
  exact Ends.eqv (bNames_loop f n s ps hl ih t (i+1) (a+bnm (.mk f' n' s' ps')) (by omega) (by omega) g2) (by rw [Int.add_assoc])
mutual
theorem bNames_pure :∀ (p:Pat),psize p<100000→Pure PP 142 [Pat.av p] (.int .i64 (bnm p))
 | .mk f n s ps,h=>by
  refine pure_at (by kernel_rfl) (by simp [AV.keylessL,pat_kl]) rfl ?_
  simp only [psize]at h
  have:=psizes_len ps
  have b:=bnms_le ps
  by_cases g:f=2
  · subst g
    exact Ends.eqv (bNames_E_0 2 n s ps rfl) (by simp [bnm])
  · refine(bNames_E_1 f n s ps (by simpa using g)).ends ?_
    exact Ends.eqv (bNames_loop f n s ps (by omega) (bNames_all ps (by omega)) ps 0 0 (by omega) (by omega) rfl) (by simp [bnm,g])
theorem bNames_all :∀ (ps:List Pat),psizes ps<100000→∀p∈ps,Pure PP 142 [Pat.av p] (.int .i64 (bnm p))
 | [],_,p,hp=>by cases hp
 | q::ps,h,p,hp=>by
  simp only [psizes]at h
  rcases List.mem_cons.1 hp with e|hp
  ·rw [e];exact bNames_pure q (by omega)
  ·exact bNames_all ps (by omega) p hp
end
theorem rNames_loop (f n:Int)(s:Str)(ps:List Pat)(hl:ps.length<1000000)(ih:∀p∈ps,Pure PP 143 [Pat.av p] (.int .i64 (rnm p))) :
  ∀ (t:List Pat) (i:Nat) (a:Int),0≤a→a+rnms t≤1000000→ps.drop i=t→Ends PP 0 (rNames_c0 f n s ps a (i:Int)).as (.ret (.int .i64 (a+rnms t))) (hpOf [] 0)
 | [],i,a,_,_,h=>by
  have:=dropN h
  exact Ends.eqv (rNames_0_1 f n s ps a i sd) (by simp [rnms])
 | .mk f' n' s' ps'::t,i,a,ha,hb,h=>by
  obtain⟨g1,g2,g3⟩ :=dropC h
  have ihp:=ih _ (List.mem_of_getElem? g1)
  have b1:=rnm_le (.mk f' n' s' ps')
  have b2:=rnms_le t
  rw [rnms]at hb ⊢
  refine(rNames_0_0 f n s ps a i f' n' s' ps' _ sd sd sd ihp sd sd).ends ?_
  exact Ends.eqv (rNames_loop f n s ps hl ih t (i+1) (a+rnm (.mk f' n' s' ps')) (by omega) (by omega) g2) (by rw [Int.add_assoc])
mutual
theorem rNames_pure :∀ (p:Pat),psize p<100000→Pure PP 143 [Pat.av p] (.int .i64 (rnm p))
 | .mk f n s ps,h=>by
  refine pure_at (by kernel_rfl) (by simp [AV.keylessL,pat_kl]) rfl ?_
  simp only [psize]at h
  have:=psizes_len ps
  have b:=rnms_le ps
  by_cases g:f=2
  · subst g
    refine(rNames_E_0 2 n s ps rfl).ends ?_
    exact Ends.eqv (rNames_loop 2 n s ps (by omega) (rNames_all ps (by omega)) ps 0 1 (by omega) (by omega) rfl) (by simp [rnm])
  · refine(rNames_E_1 f n s ps (by simpa using g)).ends ?_
    exact Ends.eqv (rNames_loop f n s ps (by omega) (rNames_all ps (by omega)) ps 0 0 (by omega) (by omega) rfl) (by simp [rnm,g])
theorem rNames_all :∀ (ps:List Pat),psizes ps<100000→∀p∈ps,Pure PP 143 [Pat.av p] (.int .i64 (rnm p))
 | [],_,p,hp=>by cases hp
 | q::ps,h,p,hp=>by
  simp only [psizes]at h
  rcases List.mem_cons.1 hp with e|hp
  ·rw [e];exact rNames_pure q (by omega)
  ·exact rNames_all ps (by omega) p hp
end
def addsN (x:Node)(k:Int) :Int:=
 if x.op=5∨x.op=27∨ (x.op=7∧k=1)then 1
 else if x.op=15∧k>0 then(match x.pats[(k-1).toNat]? with|some q=>bnm q|none=>0)else 0
structure FineN (cons:List Con) (x:Node) :Prop where
 pats:∀q∈x.pats,psize q≤12∧patOk cons q=true
 mat:x.op=15→x.kids.length=1+x.pats.length
 let2:x.op=7→x.kids.length=2
theorem fine_of {p:Prog}{x:Node}(h:nodeOk p x=true) :FineN p.cons x:=by
 simp only [nodeOk,Bool.and_eq_true,decide_eq_true_eq]at h
 obtain⟨⟨_,h2⟩,h3⟩ :=h
 refine⟨fun q hq=>?_,fun e=>?_,fun e=>?_⟩
 · have:=List.all_eq_true.1 h2 q hq
   simpa [nodePat]using this
 ·rw [e]at h3;simp [kidsN]at h3;omega
 ·rw [e]at h3;simp [kidsN]at h3;omega
theorem addsN_le {cons:List Con}{x:Node}(hf:FineN cons x)(k:Int) :0≤addsN x k∧addsN x k≤12:=by
 unfold addsN
 split
 ·omega
 · split
   · split
     · rename_i q hq
       have:= (hf.pats q (List.mem_of_getElem? hq)).1
       have:=bnm_le q
       omega
     ·omega
   ·omega
theorem addsN_mat {x:Node}{k:Int}(h15:x.op=15)(hk:k>0){q:Pat}(hq:x.pats[(k-1).toNat]?=some q) :addsN x k=bnm q:=by
 unfold addsN
 rw [if_neg (by rw [h15];omega),if_pos ⟨h15,hk⟩,hq]
theorem bAdds_pure {cons:List Con}{x:Node}(hf:FineN cons x){k:Int}(h0:0≤k)(h1:k<x.kids.length)(hk:x.kids.length≤10) :Pure PP 87 [Node.av x,.int .i64 k] (.int .i64 (addsN x k)) :=by
 refine pure_at (by kernel_rfl) rfl rfl ?_
 have mt:x.op=15→k>0→∃f n s ps,x.pats[(k-1).toNat]?=some (.mk f n s ps) ∧Pure PP 142 [Pat.av (.mk f n s ps)] (.int .i64 (bnm (.mk f n s ps))) :=fun e g=>by
  have hl:=hf.mat e
  obtain⟨q,hq⟩ :∃q,x.pats[(k-1).toNat]?=some q:= ⟨_,List.getElem?_eq_getElem (by omega)⟩
  obtain⟨f,n,s,ps⟩ :=q
  have:= (hf.pats _ (List.mem_of_getElem? hq)).1
  exact⟨f,n,s,ps,hq,bNames_pure _ (by omega)⟩
 by_cases g5:x.op=5
 ·exact Ends.eqv (bAdds_E_0 x k (by simp [g5])) (by simp [addsN,g5])
 · by_cases g27:x.op=27
   ·exact Ends.eqv (bAdds_E_1 x k (by simp [g5]) (by simp [g27])) (by simp [addsN,g27])
   · by_cases g7:x.op=7
     · by_cases gk:k=1
       ·exact Ends.eqv (bAdds_E_2 x k (by simp [g5]) (by simp [g27]) (by simp [g7]) (by simp [gk])) (by simp [addsN,g7,gk])
       ·exact Ends.eqv (bAdds_E_5 x k (by simp [g5]) (by simp [g27]) (by simp [g7]) (by simp [gk]) (by simp [g7])) (by simp [addsN,g7,gk])
     · by_cases g15:x.op=15
       · by_cases gk:k>0
         · obtain⟨f,n,s,ps,hq,hp⟩ :=mt g15 gk
           exact Ends.eqv (bAdds_E_6 x k f n s ps _ (by simp [g5]) (by simp [g27]) (by simp [g7]) (by simp [g15]) (by simpa using gk) sd (by omega) hq hp) (by rw [addsN_mat g15 gk hq])
         ·exact Ends.eqv (bAdds_E_7 x k (by simp [g5]) (by simp [g27]) (by simp [g7]) (by simp [g15]) (by simpa using gk)) (by simp [addsN,g15,gk])
       ·exact Ends.eqv (bAdds_E_8 x k (by simp [g5]) (by simp [g27]) (by simp [g7]) (by simp [g15])) (by simp [addsN,g5,g27,g7,g15])
end Go.Hb
namespace Go.Hb
open Go.Proofs
end Go.Hb
namespace Go.Hb
open Go.Proofs
end Go.Hb
namespace Go.Hb
open Go.Proofs
set_option maxHeartbeats 1000000
structure FineP (p:Prog) :Prop where
 small:p.nodes.length≤320
 fsmall:p.funs.length≤320
 node:∀ (i:Nat) (x:Node),p.nodes[i]?=some x→FineN p.cons x∧x.kids.length≤10∧∀k∈x.kids,(i:Int) <k∧k<p.nodes.length
 funs:∀f∈p.funs,0≤f∧f<p.nodes.length
def stepAV (a fn sz:Int) :AV:=.agg [.int .i64 a,.int .i64 fn,.int .i64 sz]
end Go.Hb
namespace Go.Hb
open Go.Proofs
end Go.Hb
namespace Go.Hb
open Go.Proofs
set_option maxHeartbeats 1000000
noncomputable section
def wAs (f:Int→List Int×Int→Option (List Int×Int)) :List Int→List Int×Int→Option (List Int×Int)
 | [],s=>some s
 | k::ks,s=>match f k s with
  |some s'=>wAs f ks s'
  |none=>none
def wA (p:Prog) :Nat→Int→List Int×Int→Option (List Int×Int)
 |0,_,_=>none
 | f+1,a,(l,n) =>if -1000000000≤n∧n≤1000000000 then match p.nodes[a.toNat]? with
  |some x=>wAs (wA p f) x.kids (l.set a.toNat n,n+1)
  |none=>none
  else none
theorem wAs_len {f:Int→List Int×Int→Option (List Int×Int)}(hf:∀k s s',f k s=some s'→s'.1.length=s.1.length) :∀ (ks:List Int) (s s':List Int×Int),wAs f ks s=some s'→s'.1.length=s.1.length
 | [],s,s',h=>by cases h;rfl
 | k ::ks,s,s',h=>by
  simp only [wAs]at h
  split at h
  · rename_i s1 h1
    rw [wAs_len hf ks s1 s' h,hf k s s1 h1]
  ·cases h
theorem wA_len (p:Prog) :∀ (f:Nat) (a:Int) (s s':List Int×Int),wA p f a s=some s'→s'.1.length=s.1.length
 |0,_,_,_,h=>by cases h
 | f +1,a,(l,n),s',h=>by
  simp only [wA]at h
  split at h
  · split at h
    ·rw [wAs_len (wA_len p f) _ _ _ h];simp
    ·cases h
  ·cases h
section
variable (p :Prog) (mf mc:List (Int×Int))
variable {p mf mc}
abbrev boxS (k:Nat)(b gn tz:Int) :List (Nat×AObj×Bool) :=[(k,(.cells (putCells .leaf 0 [.int .i64 b,.int .i64 gn,.int .i64 tz]) 3 [] false),false)]
end
end
end Go.Hb
namespace Go.Hb
open Go.Proofs
set_option maxHeartbeats 2000000
noncomputable section
theorem spec_gen2 {P:Program}{f:Nat}{args args':List AV}{v v':AV}{l l' lc lc':List (Nat×AObj×Bool)}{m nb nb' n2 n3:Nat}{ks:List Nat}
  (h0:SpecM P m (.enter f args) (hpOf l nb) (.ret v) (hpOf l' nb')) (e3:nb'-m+n2=n3) (ev:AV.ren (sigG m n2 ks) v=v') (hargs:AV.renL (tau 0 nb n2 ks) args=args') (hm:Nat.ble m nb=true) (hm':Nat.ble m nb'=true)
  (hin:okNames 0 ⟨⟨0,0,[],[],[],.run,.normal,none⟩,[],l,nb⟩ ks=true) (hl:sumH (hpOf lc n2) (tau 0 nb n2 ks) l=wantH (tau 0 nb n2 ks) l) (hkl:klAll l)
  (hl':sumH (hpOf lc' n3) (sigG m n2 ks) l'=wantH (sigG m n2 ks) l') (hkl':klAll l') (hpl:plainL l'=true) (hk':keysLt nb' l'=true)
  (hx:keysLt n2 lc=true) (hx':keysLt n3 lc'=true) (hlt:ks.all (fun k=>Nat.blt k n2) =true) (hout:pickK (namesT (sigG m n2 ks) l') ks (hpOf lc n2) lc'=allH lc') (hll:allH l'= (l'.map fun p=> (hpOf l' nb').look p.1)) :
  Spec P (.enter f args') (hpOf lc n2) (.ret v') (hpOf lc' n3) :=by
 subst e3 ev
 exact spec_gen h0 hargs hm hm' hin hl hkl hl' hkl' hpl hk' hx hx' hlt hout hll
def bN (mf mc:List (Int×Int))(op n:Int) :Int:=if op=4 then(if 0≤n then n else -1-mAt mf (-1-n))else if op=14 then mAt mc n else n
def bNode (mf mc:List (Int×Int))(to:List Int)(x:Node) :Node:= ⟨x.op,bN mf mc x.op x.n,x.kids.map (toAt to),cPats mc x.pats⟩
def nOk (mf:List (Int×Int))(x:Node) :Prop:=psizes x.pats<1000000∧ (x.op=4→x.n<0→ -1000000000≤x.n∧ -1000000000≤mAt mf (-1-x.n) ∧mAt mf (-1-x.n) ≤1000000000)
def wB (p:Prog)(mf mc:List (Int×Int))(to:List Int) :Nat→Int→List Node
 |0,_=>[]
 | f+1,a=>match p.nodes[a.toNat]? with
  |some x=>bNode mf mc to x:: (x.kids.map (wB p mf mc to f)).flatten
  |none=>[]
section
variable (p :Prog) (mf mc:List (Int×Int)) (to:List Int)
variable {p mf mc to}
end
end
end Go.Hb
namespace Go.Hb
open Go.Proofs
set_option maxHeartbeats 2000000
noncomputable section
section
variable {p :Prog} {mf mc:List (Int×Int)}
end
end
end Go.Hb
