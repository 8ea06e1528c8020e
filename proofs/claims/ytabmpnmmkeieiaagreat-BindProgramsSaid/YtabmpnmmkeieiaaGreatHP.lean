/-
  OWN WORK (V155, V156, V157, V158, V160, V19, V67, Q2, H59, V159): a machine on abstract values, its soundness, ways through the text (the ways WRITTEN BY A PROGRAM), plain laws.
-/
import Derived.Test.YtabmpnmmkeieiaaGreatHF
import Derived.Test.YtabmpnmmkeieiaaGreatHG
import Derived.Test.YtabmpnmmkeieiaaGreatHK
import Derived.Test.YtabmpnmmkeieiaaGreatHM
import Derived.Test.YtabmpnmmkeieiaaGreatHO
set_option linter.defProp false
set_option linter.unusedVariables false
set_option linter.unusedSimpArgs false
set_option linter.unusedSectionVars false
set_option maxRecDepth 100000
namespace Go.Hb
open Go.Proofs
set_option maxHeartbeats 4000000
noncomputable section
section
variable (mf mc:List (aC×Int)) (ar:List Int) (q:aC) (pl:List aC) (L:List ONode) (o n:Int) (s:aC) (ks:List Term) (ps:List Pat)
abbrev PH0 :List (Nat×AObj×Bool) :=[(0,kV mf,true),(1,kV mc,true),(2,MKc 5 (List.length L),false),(3,.cells (putCells .leaf 0 [.map 0,.map 1,.ilst 1 (List.map aO ar) false,.ilst 1 (List.map aA (q::pl)) false]) 4 [] false,false),(4,eI o n s ks ps,false),(5,OL L,true)]
abbrev PH1 (qs:List Pat) :List (Nat×AObj×Bool) :=[(0,kV mf,true),(1,kV mc,true),(2,MKc 5 (List.length L),false),(3,.cells (putCells .leaf 0 [.map 0,.map 1,.ilst 1 (List.map aO ar) false,.ilst 1 (List.map aA (q::pl)) false]) 4 [] false,false),(4,eI o n s ks ps,false),(5,OL L,true),(6,.cells (putCells .leaf 0 [.int .i64 o,.int .i64 n,.nils,.ilst 4 (Pats.av qs) false]) 4 [] false,false)]
theorem aID (hn:∀s n,cJ s mc=some n→0≤n∧n<ar.length)(hb:∀s f,cJ s mf=some f→0≤f∧f≤1000000)(hpl:pl.length≤900000)(hpsl:ps.length≤900)(hps:∀p∈ps,aQ p<1000000)(hps2:aM ps<1000000)(hL:L.length≤999999)
  (hk:∀v P,aES mf mc L (vE mf mc ar (q::pl) L o n s ks ps (L++ [⟨o,v,.nil,P⟩])) ((mTs mf mc ar o s ps ks 0 (q::pl) (L.length+1)).map fun r=> ⟨o,v,r.1,P⟩ ::r.2)) :
  aES mf mc L (aBa mf mc ar (q::pl) L o n s ks ps) (mT mf mc ar (.mk o n s ks ps) (q::pl) L.length) :=by
 have hm:=aIy mf mc ar ps (by omega) (aA9 mf mc ar hn ps hps2);have hm':=frW (lc:=PH0 mf mc ar q pl L o n s ks ps) (n2:=7) hm (aLO _ _);rw [mT];cases hr:wPs mc ar ps with
 | none=>
  rw [hr]at hm';exact bBs mf mc ar (q::pl) L o n s ks ps hm'
 | some qs=>
  rw [hr]at hm'
  have fin:∀v,aES mf mc L (vE mf mc ar (q::pl) L o n s ks ps (L++ [⟨o,v,.nil,qs⟩])) (match some qs,some v,mTs mf mc ar o s ps ks 0 (q::pl) (L.length+1)with
   |some qs,some N,some r=>some (⟨o,N,r.1,qs⟩ ::r.2)
   |_,_,_=>none) :=fun v=>by
   have h:=hk v qs;cases hT:mTs mf mc ar o s ps ks 0 (q::pl) (L.length+1)with
   |none=>rw [hT]at h;exact h
   |some r=>rw [hT]at h;exact h
  unfold aS3;by_cases h4:o=4
  · rw [if_pos h4];have hc:=aSp mf mc ar q pl s (hb s) (by simp;omega);have hc':=frW (lc:=PH1 mf mc ar q pl L o n s ks ps qs) (n2:=7) hc (aGB _);cases hw:aEM mf (q::pl) s with
    | none=>
     rw [hw]at hc';exact bBj mf mc ar (q::pl) L o n s ks ps qs hm' (by simp [h4]) hc'
    | some z=>
     rw [hw]at hc';exact LeadsM.ends (bBk mf mc ar (q::pl) L o n s ks ps qs z hm' (by simp [h4]) hc' (by simp;omega)) (fin z)
  · rw [if_neg h4];by_cases h14:o=14
    · rw [if_pos h14];have hc:=aId mf mc ar s (List.length ks) (hn s);have hc':=frW (lc:=PH1 mf mc ar q pl L o n s ks ps qs) (n2:=7) hc (aGB _);cases hw:aGq mc ar s (List.length ks)with
      | none=>
       rw [hw]at hc';exact bBl mf mc ar (q::pl) L o n s ks ps qs hm' (by simp [h4]) (by simp [h14]) hc'
      | some z=>
       rw [hw]at hc';exact LeadsM.ends (bBm mf mc ar (q::pl) L o n s ks ps qs z hm' (by simp [h4]) (by simp [h14]) hc' (by simp;omega)) (fin z)
    · rw [if_neg h14];exact LeadsM.ends (bBn mf mc ar (q::pl) L o n s ks ps qs hm' (by simp [h4]) (by simp [h14]) (by simp;omega)) (fin n)
end
def C0S (mf mc:List (aC×Int))(ar:List Int)(t:Term)(q:aC)(pl:List aC)(L:List ONode) :Prop:=
 ∀o n s ks ps,t= .mk o n s ks ps→aES mf mc L (aBa mf mc ar (q::pl) L o n s ks ps) (mT mf mc ar t (q::pl) L.length)
theorem bEt {mf mc:List (aC×Int)}{ar:List Int}{t:Term}{q:aC}{pl:List aC}{L:List ONode}(h:C0S mf mc ar t q pl L) :MPS mf mc ar t (q::pl) L (mT mf mc ar t (q::pl) L.length) :=by
 obtain⟨o,n,s,ks,ps⟩ :=t;have h1:=LeadsM.ends (bBi mf mc ar (q::pl) L o n s ks ps) (h o n s ks ps rfl);exact⟨(bDd mf mc ar (q::pl) L o n s ks ps).as.fr,by kernel_rfl,Eq.mp (by kernel_rfl) h1⟩
mutual
theorem aIE (mf mc:List (aC×Int))(ar:List Int)(hn:∀s n,cJ s mc=some n→0≤n∧n<ar.length)(hb:∀s f,cJ s mf=some f→0≤f∧f≤1000000)(q:aC) :∀ (t:Term) (pl:List aC) (L:List ONode),bX t≤900→tsm t=true→hR t=true→pl.length+1000*dX t≤900000→L.length+bX t≤1000000→C0S mf mc ar t q pl L
 | .mk o n s ks ps,pl,L,hz,hs,hF,he,hL=>by
  intro o' n' s' ks' ps' e;cases e;simp only [bX]at hz hL;simp only [dX]at he;have hkl:=lL ks;rw [tsm]at hs;simp only [Bool.and_eq_true,decide_eq_true_eq]at hs;obtain⟨⟨⟨_,hpl⟩,hsp⟩,hsk⟩ :=hs;rw [hR]at hF;simp only [Bool.and_eq_true]at hF;obtain⟨⟨hH,hpg⟩,hFk⟩ :=hF
  have hps:∀p∈ps,aQ p≤1000:=fun p hp=>by
   have:=List.all_eq_true.1 hsp p hp;simp only [jL,Bool.and_eq_true,decide_eq_true_eq]at this;omega
  have hsz:=nM ps hsp
  exact aID mf mc ar q pl L o n s ks ps hn hb (by omega) (by omega) (fun p hp=>by have:=hps p hp;omega) (by omega) (by omega)
   (fun v P=>aS4 mf mc ar q pl L o n s ks ps (by omega) (fun h=>by have:=aGn hH h;omega) hps (fun p hp=>List.all_eq_true.1 hpg p hp) (by omega) (fun t ht e M h1 h2=>bEt (aLT mf mc ar hn hb q ks (by omega) hsk hFk t ht e M (by omega) h2)) v P (by omega))
theorem aLT (mf mc:List (aC×Int))(ar:List Int)(hn:∀s n,cJ s mc=some n→0≤n∧n<ar.length)(hb:∀s f,cJ s mf=some f→0≤f∧f≤1000000)(q:aC) :∀ (ts:List Term),bO ts≤900→xZ ts=true→jM ts=true→∀t∈ts,∀ (pl:List aC) (L:List ONode),pl.length+1000*dK ts≤900000→L.length+bX t≤1000000→C0S mf mc ar t q pl L
 | [],_,_,_,t,ht=>by cases ht
 | u::ts,hz,hs,hF,t,ht=>by
  simp only [bO]at hz;rw [xZ,Bool.and_eq_true]at hs;rw [jM,Bool.and_eq_true]at hF;rcases List.mem_cons.1 ht with e|ht
  ·rw [e];exact fun pl L he hL=>aIE mf mc ar hn hb q u pl L (by omega) hs.1 hF.1 (by simp only [dK]at he;omega) hL
  ·exact fun pl L he hL=>aLT mf mc ar hn hb q ts (by omega) hs.2 hF.2 t ht pl L (by simp only [dK]at he;omega) hL
end
section
variable (mf mc:List (aC×Int)) (ar:List Int) (q:aC) (L:List ONode) (o n:Int) (s:aC) (ks:List Term) (ps:List Pat)
def aS8 :TS:=bF PP 44 [.ptr 2 0,.agg [.map 0,.map 1,.ilst 1 (List.map aO ar) false,.slice 4 0 1 1 1 true],Term.av (.mk o n s ks ps)] [(0,kV mf,true),(1,kV mc,true),(2,MKc 3 (List.length L),false),(3,OL L,true),(4,qY q,false)] 5
def aDC (x:Bool) :TS:=
 {fr:={fn:=44,nt:=94,sl:=[(0,(.ptr 2 0)),(4,(.ptr 3 0)),(5,(.ptr 4 0)),(6,(.int .i64 0))],todo:=[.code (cd Tryz.f44 [1,0]),.code (cd Tryz.f44 [1,1])]},cs:=[],hp:=[(0,kV mf,true),(1,kV mc,true),(2,MKc 5 (List.length L),false),(3,.cells (putCells .leaf 0 [.map 0,.map 1,.ilst 1 (List.map aO ar) false,.gl 6 1 0 1 x]) 4 [] false,false),(4,eI o n s ks ps,false),(5,OL L,true),(6,.lst 1 (List.map aA [q]),true)],nb:=7}
theorem klR :fM [(0,kV mf,true),(1,kV mc,true),(5,OL L,true),(6,.lst 1 (List.map aA [q]),true)] := ⟨aI (fun _=>rfl) (fun _=>rfl) _ _ _,aI (fun _=>rfl) (fun _=>rfl) _ _ _,oJ L,klS [q],trivial⟩
theorem bEu :LeadsM PP 3 (aS8 mf mc ar q L o n s ks ps).as (aDC mf mc ar q L o n s ks ps true).as:=
 vN (n1:=7) (ks:=[5,6,3,4]) (ps:=[getCells (putCells .leaf 0 [aA q]) 0 (1*1) =some [aA q],cP [aA q] =true,[aA q] =List.map aA [q]])
  (is:=[.run 7,.ctoL 5 3 false [aA q],.lset 4 (List.map aA [q])]) (by kernel_rfl) (by kernel_rfl) (klR mf mc q L) ⟨rfl,rfl,rfl⟩
theorem bEv :LeadsM PP 3 (aDC mf mc ar q L o n s ks ps true).as (aDC mf mc ar q L o n s ks ps false).as:=
 Eq.mp (by kernel_rfl) (lF (P:=PP) (m:=3) (fr:= (aDC mf mc ar q L o n s ks ps true).as.fr) (cs:=[]) (h:= (aDC mf mc ar q L o n s ks ps true).as.h) (h1:= (aDC mf mc ar q L o n s ks ps true).as.h) (k:=3) (o:=3) (n:=4) (t:=putCells .leaf 0 [.map 0,.map 1,.ilst 1 (List.map aO ar) false,.gl 6 1 0 1 true]) (ol:=[]) (sup:=false) (v:=.gl 6 1 0 1 true) (v':=.gl 6 1 0 1 false) (by kernel_rfl) (by kernel_rfl) (by kernel_rfl) aCz)
theorem bEw :LeadsM PP 3 (aDC mf mc ar q L o n s ks ps false).as (aBa mf mc ar [q] L o n s ks ps).as:=
 vN (n1:=7) (ks:=[3,4,5]) (ps:=[AV.keylessL (List.map aA [q]) =true,AV.frzOk 6 1 (List.map aA [q]) (List.map aA [q]) (.gl 6 1 0 (List.length [q]) false)])
  (is:=[.cfrz 3 3 6 (List.map aA [q])]) (by kernel_rfl) (by kernel_rfl) ⟨aI (fun _=>rfl) (fun _=>rfl) _ _ _,aI (fun _=>rfl) (fun _=>rfl) _ _ _,oJ L,trivial⟩ ⟨rfl,qR _ _⟩
end
def MPR (mf mc:List (aC×Int))(ar:List Int)(t:Term)(q:aC)(L:List ONode)(r:Option (List Node)) :Prop:=
 qQ PP 3 (.enter 44 [.ptr 2 0,.agg [.map 0,.map 1,.ilst 1 (List.map aO ar) false,.slice 4 0 1 1 1 true],Term.av t]) (aG [(0,kV mf,true),(1,kV mc,true),(2,MKc 3 (List.length L),false),(3,OL L,true),(4,qY q,false)] 5) (bEs L r) (hpN mf mc L r)
theorem bEx {mf mc:List (aC×Int)}{ar:List Int}{t:Term}{q:aC}{L:List ONode}(h:C0S mf mc ar t q [] L) :MPR mf mc ar t q L (mT mf mc ar t [q] L.length) :=by
 obtain⟨o,n,s,ks,ps⟩ :=t;have h1:=LeadsM.ends (((bEu mf mc ar q L o n s ks ps).trans (bEv mf mc ar q L o n s ks ps)).trans (bEw mf mc ar q L o n s ks ps)) (h o n s ks ps rfl);exact⟨(aS8 mf mc ar q L o n s ks ps).as.fr,by kernel_rfl,Eq.mp (by kernel_rfl) h1⟩
end
end Go.Hb
namespace Go.Hb
open Go.Proofs
set_option maxHeartbeats 4000000
noncomputable section
def aET (x:Node) :Bool:=decide (x.op=4) &&decide (30≤x.n)
theorem aS9 (x:Node) :Pure PP 46 [Node.av x] (.bool (aET x)) :=by
 refine cB (s:=bDh x) (by kernel_rfl) (by kernel_rfl) (by simp [AV.keylessL,AV.keyless,Node.av]) rfl ?_;unfold aET;by_cases h:x.op=4
 · have:=bBF x (by simp [h]);rw [show(decide (x.op=4) &&decide (30≤x.n)) =decide (x.n≥ (30:Int))by simp [h]];exact this
 · have:=bBG x (by simp [h]);rw [show(decide (x.op=4) &&decide (30≤x.n)) =false by simp [h]];exact this
def ixN :List Node→Nat→Int
 | [],_=> -1
 |x::t,i=>if aET x=true then(i:Int)else ixN t (i+1)
theorem aIF (l:List Node)(hl:l.length≤1000000) :∀ (t:List Node) (i:Nat),l.drop i=t→Ends PP 0 (aGE l (i:Int)).as (.ret (.int .i64 (ixN t i))) (aG [] 0)
 | [],i,h=>by
  have:=bA h;exact bBK l i sd
 | x::t,i,h=>by
  obtain⟨g1,g2,g3⟩ :=aZ h;have hb:=aS9 x;rw [ixN];cases hx:aET x with
  | true=>
   rw [hx]at hb;rw [if_pos rfl];exact bBI l i x true sd sd sd hb rfl
  | false=>
   rw [hx]at hb;rw [if_neg (by simp)];exact LeadsM.ends (bBJ l i x false sd sd sd hb rfl sd) (aIF l hl t (i+1) g2)
theorem aLU :∀ (t:List Node) (i:Nat),decide (ixN t i≥0) =nA t
 | [],_=>rfl
 | x::t,i=>by
  rw [ixN];have ih:=aLU t (i+1);have e:nA (x::t) = (aET x||nA t) :=rfl;rw [e,←ih];cases aET x with
  |true=>simp
  |false=>simp
theorem aTa (l:List Node)(hl:l.length≤1000000) :Pure PP 45 [.ilst 4 (List.map Node.av l) false,.func 46 [] []] (.bool (nA l)) :=by
 have h1:Pure PP 112 [.ilst 4 (List.map Node.av l) false,.func 46 [] []] (.int .i64 (ixN l 0)) :=
  cB (s:=bDi l) (by kernel_rfl) (by kernel_rfl) (by simp [AV.keylessL,AV.keyless]) rfl (LeadsM.ends (bBH l) (aIF l hl l 0 rfl))
 rw [←aLU l 0];exact cB (s:=bDj l) (by kernel_rfl) (by kernel_rfl) (by simp [AV.keylessL,AV.keyless]) rfl (bBL l _ h1)
def mM (mf mc:List (aC×Int))(ar:List Int) :List FunD→Nat→Option (List Int×List Node)
 | [],_=>some ([],[])
 | f::t,a=>match mT mf mc ar f.bod [f.par] a with
  |none=>none
  | some ns=>match mM mf mc ar t (a+ns.length)with
   |none=>none
   |some r=>some (((a:Nat) :Int) ::r.1,ns++r.2)
def aTb (cl:List Con)(mf mc:List (aC×Int))(ar:List Int)(main:Int)(r:Option (List Int×List Node)) :Prog×Int:=
 match r with
 |none=> (ZPr,7)
 |some r=>if nA r.2=true then(ZPr,3)else(⟨r.2,r.1,main,cl⟩,0)
def aEU (m:Mod) :Prog×Int:=
 if sT m=true then(match qE m with
  |none=> (ZPr,7)
  |some (mf,w) =>aTb w.l mf w.mc w.ar ((cJ jD mf).getD 0) (mM mf w.mc w.ar m.funs 0))else(ZPr,2)
section
variable (m :Mod) (cl:List Con) (ar:List Int) (mf mc:List (aC×Int))
abbrev aLV (nm par:aC)(f0 f1:Int)(f2:aC)(f3:List Typ)(k0 k1:Int)(k2:aC)(k3:List Typ)(b0 b1:Int)(b2:aC)(b3:List Term)(b4:List Pat) :AObj:=
 .cells (putCells .leaf 0 [aA nm,aA par,.int .i64 f0,.int .i64 f1,aA f2,.ilst 4 (Typs.av f3) false,.int .i64 k0,.int .i64 k1,aA k2,.ilst 4 (Typs.av k3) false,.int .i64 b0,.int .i64 b1,aA b2,.ilst 5 (Terms.av b3) false,.ilst 4 (Pats.av b4) false]) 15 [] false
abbrev aGF :AObj:=.cells (putCells .leaf 0 [.map 5,.map 6,.ilst 1 (List.map aO ar) false]) 3 [] false
theorem bDl (L:List ONode)(q:aC) :fM [(0,kV mf,true),(1,kV mc,true),(2,MKc 3 (List.length L),false),(3,OL L,true),(4,qY q,false)] := ⟨aI (fun _=>rfl) (fun _=>rfl) _ _ _,aI (fun _=>rfl) (fun _=>rfl) _ _ _,oJ L,trivial⟩
theorem aIG (hf:m.funs.length≤1000)(hz:∀f∈m.funs,bX f.bod≤900)(hp:∀f∈m.funs,∀L:List ONode,L.length≤900000→MPR mf mc ar f.bod f.par L (mT mf mc ar f.bod [f.par] L.length))(y:Int)(hy:cJ jD mf=some y) :∀ (t:List FunD) (i:Nat) (l4:List Int) (L:List Node),m.funs.drop i=t→l4.length=i→i≤m.funs.length→L.length≤900*i →
  aAt (aGD m cl ar mf mc (i:Int) l4 (List.map Node.o L)) (aTb cl mf mc ar y ((mM mf mc ar t L.length).map fun r=> (l4++r.1,L++r.2)))
 | [],i,l4,L,h,ha,hil,hL=>by
  have:=bA h;have hc:=aTa L (by omega);rw [mM];simp only [Option.map_some,List.append_nil,aTb];cases hl:nA L with
  | true=>
   rw [hl]at hc;rw [if_pos rfl];exact wV (bBD m cl ar mf mc i l4 (List.map Node.o L) L y true sd rfl (by simp) hy hc rfl)
  | false=>
   rw [hl]at hc;rw [if_neg (by simp)];exact bBE m cl ar mf mc i l4 (List.map Node.o L) L y false sd rfl (by simp) hy hc rfl
 | f ::t,i,l4,L,h,ha,hil,hL=>by
  obtain⟨g1,g2,g3⟩ :=aZ h;have hi:= (List.getElem?_eq_some_iff.1 g1).1;have hm:=List.mem_of_getElem? g1;have hps:=hp f hm (List.map Node.o L) (by simp;omega);have hzz:=hz f hm;have hln:∀ns,mT mf mc ar f.bod [f.par] L.length=some ns→ns.length=bX f.bod:=fun ns h=>aGC mf mc ar _ _ _ ns h;obtain⟨nm,par,⟨f0,f1,f2,f3⟩,⟨k0,k1,k2,k3⟩,⟨b0,b1,b2,b3,b4⟩⟩ :=f;simp only [FunD.bod,FunD.par,List.length_map]at hps hzz hln;rw [mM];simp only [FunD.bod,FunD.par];unfold MPR at hps;cases hT:mT mf mc ar (.mk b0 b1 b2 b3 b4) [par] L.length with
  | none=>
   rw [hT]at hps
   have hs':=sK (m:=3) (ks:=[5,6,3,7,9]) (n2:=10) (n3:=10) (args':=[.ptr 3 0,.agg [.map 5,.map 6,.ilst 1 (List.map aO ar) false,.slice 9 0 1 1 1 true],Term.av (.mk b0 b1 b2 b3 b4)])
    (lc:=[(0,sU,false),(1,.cells (putCells .leaf 0 [.int .i64 0]) 1 [] false,false),(2,aGF ar,false),(3,MKc 7 (List.length (List.map Node.o L)),false),(4,.lst 1 (List.map aO l4),true),(5,kV mf,true),(6,kV mc,true),(7,OL (List.map Node.o L),true),(8,aLV nm par f0 f1 f2 f3 k0 k1 k2 k3 b0 b1 b2 b3 b4,false),(9,qY par,false)])
    (lc':=[(0,sU,false),(1,.cells (putCells .leaf 0 [.int .i64 0]) 1 [] false,false),(2,aGF ar,false),(4,.lst 1 (List.map aO l4),true),(5,kV mf,true),(6,kV mc,true),(8,aLV nm par f0 f1 f2 f3 k0 k1 k2 k3 b0 b1 b2 b3 b4,false)])
    hps (by rfl) aKg (by kernel_rfl) (by rfl) (by rfl) (by kernel_rfl) (by kernel_rfl) (bDl mf mc _ _) (by kernel_rfl) (aIw _ _) (by kernel_rfl) (by kernel_rfl) (by kernel_rfl) (by kernel_rfl) (by kernel_rfl) (by kernel_rfl) (by kernel_rfl)
   exact wV (bBB m cl ar mf mc i l4 (List.map Node.o L) nm par f0 f1 f2 f3 k0 k1 k2 k3 b0 b1 b2 b3 b4 sd sd sd hs')
  | some ns=>
   have hnl:=hln ns hT;rw [hT]at hps
   have hs':=fE (m:=3) (ks:=[5,6,3,7,9]) (n2:=10) (n3:=11) (v':=.int .i64 ((List.length (List.map Node.o L) :Nat) :Int)) (args':=[.ptr 3 0,.agg [.map 5,.map 6,.ilst 1 (List.map aO ar) false,.slice 9 0 1 1 1 true],Term.av (.mk b0 b1 b2 b3 b4)])
    (lc:=[(0,sU,false),(1,.cells (putCells .leaf 0 [.int .i64 0]) 1 [] false,false),(2,aGF ar,false),(3,MKc 7 (List.length (List.map Node.o L)),false),(4,.lst 1 (List.map aO l4),true),(5,kV mf,true),(6,kV mc,true),(7,OL (List.map Node.o L),true),(8,aLV nm par f0 f1 f2 f3 k0 k1 k2 k3 b0 b1 b2 b3 b4,false),(9,qY par,false)])
    (lc':=[(0,sU,false),(1,.cells (putCells .leaf 0 [.int .i64 0]) 1 [] false,false),(2,aGF ar,false),(3,MKc 10 (List.length (List.map Node.o L++List.map Node.o ns)),false),(4,.lst 1 (List.map aO l4),true),(5,kV mf,true),(6,kV mc,true),(8,aLV nm par f0 f1 f2 f3 k0 k1 k2 k3 b0 b1 b2 b3 b4,false),(10,OL (List.map Node.o L++List.map Node.o ns),true)])
    hps (by rfl) (by rfl) (by kernel_rfl) (by rfl) (by rfl) (by kernel_rfl) (by kernel_rfl) (bDl mf mc _ _) (by kernel_rfl) (aKh _ _ _) (by kernel_rfl) (by kernel_rfl) (by kernel_rfl) (by kernel_rfl) (by kernel_rfl) (by kernel_rfl) (by kernel_rfl)
   have h0:=bBC m cl ar mf mc i l4 (List.map Node.o L) nm par f0 f1 f2 f3 k0 k1 k2 k3 b0 b1 b2 b3 b4 ns sd sd sd hs' (by simp;omega) sd;rw [←List.map_append,List.length_map]at h0;have ih:=aIG hf hz hp y hy t (i+1) (l4++ [((L.length:Nat) :Int)]) (L++ns) g2 (by simp [ha]) (by omega) (by simp;omega);rw [List.length_append]at ih;refine LeadsM.ends h0 ?_;simp only;cases hM:mM mf mc ar t (L.length+ns.length)with
   |none=>rw [hM]at ih;exact ih
   | some r=>
    rw [hM]at ih;simp only [Option.map_some,List.append_assoc,List.singleton_append]at ih ⊢;exact ih
end
theorem aTc (m:Mod)(hf:m.funs.length≤1000)(hd:∀d∈m.datas,d.cons.length≤1000)(hl:m.datas.length≤100) :
  match qE m with
  |none=>qQ PP 0 (.enter 43 [Mod.av m]) (aG [] 0) (.pan UB) (aG [] 0)
  |some (mf,w) =>qQ PP 0 (.enter 43 [Mod.av m]) (aG [] 0) (.ret (.tup [.agg [.map 0,.map 1,.ilst 1 (List.map aO w.ar) false],.ilst 2 (List.map Con.av w.l) false])) (aG (WL mf w.mc) 2) :=by
 have h:=aSo m hf hd hl;cases e:qE m with
 |none=>rw [e]at h;exact⟨(aIb m).as.fr,by kernel_rfl,Eq.mp (by kernel_rfl) h⟩
 |some x=>obtain⟨mf,w⟩ :=x;rw [e]at h;exact⟨(aIb m).as.fr,by kernel_rfl,Eq.mp (by kernel_rfl) h⟩
theorem aKi (m:Mod)(hs:jQ m=true)(hw:∀mf w,qE m=some (mf,w) → (∀s n,cJ s w.mc=some n→0≤n∧n<w.ar.length) ∧ (∀s f,cJ s mf=some f→0≤f∧f≤1000000) ∧∃y,cJ jD mf=some y) :Pure PP 10 [Mod.av m] (.tup [Prog.av (aEU m).1,.int .i64 (aEU m).2]) :=by
 have h41:=aR1 m (aDx hs) (aKe hs);refine cB (s:=aS5 m) (by kernel_rfl) (by kernel_rfl) (by simp [AV.keylessL,yB]) (by simp [Prog.av,AV.keyless,AV.keylessL]) ?_;show aAt (aS5 m) (aEU m);unfold aEU;cases ho:sT m with
 | false=>
  rw [ho]at h41;exact wV (bBy m 2 h41 (by decide))
 | true=>
  rw [ho]at h41;rw [if_pos rfl];have F:=aGw hs ho;have hfl:=F.fl;have hdl:=F.dl;have h43:=aTc m (by omega) (fun d hd=>by have:=F.cl d hd;omega) (by omega);cases e:qE m with
  | none=>
   rw [e]at h43
   have hs':=sK (m:=0) (ks:=[]) (n2:=3) (n3:=3) (args':=[Mod.av m]) (lc:=[(0,aBG m,false),(1,sU,false),(2,.cells (putCells .leaf 0 [.int .i64 0]) 1 [] false,false)]) (lc':=[(0,aBG m,false),(1,sU,false),(2,.cells (putCells .leaf 0 [.int .i64 0]) 1 [] false,false)])
    h43 (by rfl) aKg (by kernel_rfl) (by rfl) (by rfl) (by kernel_rfl) (by kernel_rfl) trivial (by kernel_rfl) trivial (by kernel_rfl) (by kernel_rfl) (by kernel_rfl) (by kernel_rfl) (by kernel_rfl) (by kernel_rfl) (by kernel_rfl)
   exact wV (bBz m 0 h41 (by decide) hs')
  | some x=>
   obtain⟨mf,w⟩ :=x;rw [e]at h43;obtain⟨w1,w2,y,hy⟩ :=hw mf w e
   have hs':=fE (m:=0) (ks:=[]) (n2:=3) (n3:=5) (v':=.tup [.agg [.map 3,.map 4,.ilst 1 (List.map aO w.ar) false],.ilst 2 (List.map Con.av w.l) false]) (args':=[Mod.av m]) (lc:=[(0,aBG m,false),(1,sU,false),(2,.cells (putCells .leaf 0 [.int .i64 0]) 1 [] false,false)]) (lc':=[(0,aBG m,false),(1,sU,false),(2,.cells (putCells .leaf 0 [.int .i64 0]) 1 [] false,false),(3,kV mf,true),(4,kV w.mc,true)])
    h43 (by rfl) (by rfl) (by kernel_rfl) (by rfl) (by rfl) (by kernel_rfl) (by kernel_rfl) trivial (by kernel_rfl) (aIw _ _) (by kernel_rfl) (by kernel_rfl) (by kernel_rfl) (by kernel_rfl) (by kernel_rfl) (by kernel_rfl) (by kernel_rfl)
   have h0:=bBA m 0 mf w.mc w.ar w.l h41 (by decide) hs';have hl:=aIG m w.l w.ar mf w.mc (by omega) (fun f hf=>by have:=F.sz f hf;omega) (fun f hf L hL=>bEx (aIE mf w.mc w.ar w1 w2 f.par f.bod [] L (by have:=F.sz f hf;omega) (F.sm f hf) (F.tf f hf) (by have:=F.dp f hf;simp;omega) (by have:=F.sz f hf;omega))) y hy m.funs 0 [] [] rfl rfl (Nat.zero_le _) (by simp);simp only;rw [hy,Option.getD_some];refine LeadsM.ends h0 ?_;cases hM:mM mf w.mc w.ar m.funs 0 with
   |none=>rw [show([] :List Node).length=0 from rfl,hM]at hl;exact hl
   |some r=>rw [show([] :List Node).length=0 from rfl,hM]at hl;exact hl
end
end Go.Hb
namespace Go.Hb
open Go.Proofs
set_option maxHeartbeats 4000000
noncomputable section
def aTd (l:List Con)(mc:List (aC×Int)) :Prop:=∀s,cJ s mc=if s∈l.map Con.name then some (dY s l 0)else none
theorem bEy {l:List Con}{mc:List (aC×Int)}(h:aTd l mc){c:Con}(hn:c.name∉l.map Con.name) :aTd (l++ [c]) (eF c.name (List.length l:Int) mc) :=fun s=>by
 rw [aAe];by_cases e:s=c.name
 · subst e;rw [if_pos rfl,if_pos (by simp),aBD _ _ _ _ hn];simp [dY]
 · rw [if_neg e,h s];by_cases hs:s∈l.map Con.name
   ·rw [if_pos hs,if_pos (by simp at hs ⊢;exact .inl hs),aDr _ _ _ _ hs]
   ·rw [if_neg hs,if_neg (by simp at hs ⊢;exact⟨hs,e⟩)]
def WOk (w:WS) :Prop:=aTd w.l w.mc∧w.ar=w.l.map Con.args
theorem aLW :∀ (t:List ConD) (w:WS),WOk w→ (bC (w.l.map Con.name) (t.map ConD.name) =true→∃w',aBR t w=some w'∧WOk w'∧w'.l=w.l++t.map mK) ∧ (bC (w.l.map Con.name) (t.map ConD.name) =false→aBR t w=none)
 | [],w,h=> ⟨fun _=> ⟨w,rfl,h,by simp⟩,fun h=>by cases h⟩
 | c ::t,w,h=>by
  rw [aBR,List.map_cons,bC,h.1 c.name];by_cases hn:c.name∈w.l.map Con.name
  · rw [if_pos hn];have:eZ (w.l.map Con.name) c.name=true:=hasS_mem.2 hn;rw [this];exact⟨fun g=>by simp at g,fun _=>rfl⟩
  · rw [if_neg hn];have:eZ (w.l.map Con.name) c.name=false:=by
     cases e:eZ (w.l.map Con.name) c.name with
     |false=>rfl
     |true=>exact absurd (hasS_mem.1 e) hn
    rw [this];have ih:=aLW t ⟨w.l++ [mK c],eF c.name (List.length w.l:Int) w.mc,w.ar++ [(List.length c.args:Int)]⟩ ⟨bEy h.1 hn,by rw [h.2];simp [mK]⟩;simp only [List.map_append,List.map_cons,List.map_nil,Bool.not_false,Bool.true_and]at ih ⊢;refine⟨fun g=>?_,fun g=>ih.2 g⟩;obtain⟨w',e1,e2,e3⟩ :=ih.1 g;exact⟨w',e1,e2,by rw [e3];simp⟩
theorem vF :∀ (a b pre:List aC),bC pre (a++b) = (bC pre a&&bC (pre++a) b)
 | [],b,pre=>by simp [bC]
 | x::a,b,pre=>by
  rw [List.cons_append,bC,bC,vF a b,Bool.and_assoc,List.append_assoc];rfl
theorem aLX :∀ (t:List DataD) (w:WS),WOk w→ (bC (w.l.map Con.name) (((t.map fun d=>d.cons.map mK).flatten).map Con.name) =true→∃w',aD3 t w=some w'∧WOk w'∧w'.l=w.l++ (t.map fun d=>d.cons.map mK).flatten) ∧ (bC (w.l.map Con.name) (((t.map fun d=>d.cons.map mK).flatten).map Con.name) =false→aD3 t w=none)
 | [],w,h=> ⟨fun _=> ⟨w,rfl,h,by simp⟩,fun h=>by cases h⟩
 | d::t,w,h=>by
  have e0: (d.cons.map mK).map Con.name=d.cons.map ConD.name:=by rw [List.map_map];rfl
  rw [aD3,List.map_cons,List.flatten_cons,List.map_append,vF,e0];have hc:=aLW d.cons w h;cases e:bC (w.l.map Con.name) (d.cons.map ConD.name)with
  |false=>rw [hc.2 e];exact⟨fun g=>by simp at g,fun _=>rfl⟩
  | true=>
   obtain⟨w',e1,e2,e3⟩ :=hc.1 e;rw [e1];have ih:=aLX t w' e2;rw [e3,List.map_append,e0]at ih;simp only [Bool.true_and];refine⟨fun g=>?_,fun g=>ih.2 g⟩;obtain⟨w2,f1,f2,f3⟩ :=ih.1 g;exact⟨w2,f1,f2,by rw [f3,List.append_assoc]⟩
theorem aDD (l:List aC)(x s:aC) :∀i,i≤l.length→eM (l++ [x]) s i=eM l s i
 |0,_=>rfl
 | i+1,h=>by
  rw [eM,eM,aDD l x s i (by omega),List.getElem?_append_left (by omega)]
theorem aKj (l:List aC)(x s:aC) :dR (l++ [x]) s=if x=s then(List.length l:Int)else dR l s:=by
 unfold dR;rw [List.length_append,List.length_singleton,eM,aDD l x s _ (Nat.le_refl _)];simp
theorem sL (l:List aC)(s:aC) :∀i,-1≤eM l s i∧eM l s i<i
 |0=>by simp [eM]
 | i+1=>by
  rw [eM];have:=sL l s i;split<;>omega
theorem aDE (l:List aC)(s:aC) :∀i,i≤l.length→ (0≤eM l s i↔s∈l.take i)
 |0,_=>by simp [eM]
 | i +1,h=>by
  rw [eM];have ih:=aDE l s i (by omega);have hx:l[i]?=some (l[i]'(by omega)) :=List.getElem?_eq_getElem (by omega);rw [List.take_add_one,hx];by_cases e:l[i]'(by omega) =s
  · subst e;refine⟨fun _=>by simp only [Option.toList_some];exact List.mem_append_right _ (List.mem_singleton_self _),fun _=>by rw [if_pos rfl];omega⟩
  · rw [if_neg (by simpa using e),ih];simp only [Option.toList_some,List.mem_append,List.mem_singleton];exact⟨.inl,fun g=>g.resolve_right (fun q=>e q.symm)⟩
theorem placeL_mem {l:List aC}{s:aC}:0≤dR l s↔s∈l:=by
 unfold dR;rw [aDE l s _ (Nat.le_refl _),List.take_length]
def aTe (l:List aC)(mf:List (aC×Int)) :Prop:=∀s,cJ s mf=if s∈l then some (dR l s)else none
theorem aLY :∀ (t:List FunD) (l:List aC) (mf:List (aC×Int)),aTe l mf→ (bC l (t.map FunD.nm) =true→∃mf',aD4 t l.length mf=some mf'∧aTe (l++t.map FunD.nm) mf') ∧ (bC l (t.map FunD.nm) =false→aD4 t l.length mf=none)
 | [],l,mf,h=> ⟨fun _=> ⟨mf,rfl,by simpa using h⟩,fun h=>by cases h⟩
 | f :: t,l,mf,h=>by
  rw [aD4,List.map_cons,bC,h f.nm];by_cases hn:f.nm∈l
  · rw [if_pos hn,hasS_mem.2 hn];exact⟨fun g=>by simp at g,fun _=>rfl⟩
  · rw [if_neg hn];have:eZ l f.nm=false:=by
     cases e:eZ l f.nm with
     |false=>rfl
     |true=>exact absurd (hasS_mem.1 e) hn
    rw [this]
    have ih:=aLY t (l++ [f.nm]) (eF f.nm (l.length:Int) mf) (fun s=>by
     rw [aAe,aKj];by_cases e:s=f.nm
     ·subst e;simp
     · have e':¬f.nm=s:=fun g=>e g.symm;rw [if_neg e,h s];simp [e,e'])
    rw [List.length_append,List.length_singleton]at ih;simp only [Bool.not_false,Bool.true_and,List.append_assoc,List.singleton_append]at ih ⊢;exact ih
theorem aTf :aTd [] [] :=fun s=>by simp [cJ]
theorem aTg :aTe [] [] :=fun s=>by simp [cJ]
theorem aEV (m:Mod) : ((eK (rA m) &&eK ((fA m).map Con.name) &&eZ (rA m) jD) =true→∃mf w,qE m=some (mf,w) ∧aTe (rA m) mf∧WOk w∧w.l=fA m) ∧ ((eK (rA m) &&eK ((fA m).map Con.name) &&eZ (rA m) jD) =false→qE m=none) :=by
 have hD:=aLX m.datas ⟨[],[],[]⟩ ⟨aTf,rfl⟩;have hF:=aLY m.funs [] [] aTg;simp only [List.map_nil,List.nil_append,List.length_nil]at hD hF;have e1: ((m.datas.map fun d=>d.cons.map mK).flatten) =fA m:=rfl;rw [e1]at hD;unfold qE;cases hc:eK ((fA m).map Con.name)with
 | false=>
  rw [hD.2 hc];exact⟨fun g=>by simp at g,fun _=>rfl⟩
 | true=>
  obtain⟨w,w1,w2,w3⟩ :=hD.1 hc;rw [w1];simp only;cases hf:eK (rA m)with
  | false=>
   rw [hF.2 hf];exact⟨fun g=>by simp at g,fun _=>rfl⟩
  | true=>
   obtain⟨mf,f1,f2⟩ :=hF.1 hf;rw [f1];simp only;rw [show cJ (strOf [109,97,105,110]) mf=_ from f2 jD];cases hh:eZ (rA m) jD with
   | false=>
    rw [if_neg (fun g=>by rw [hasS_mem.2 g]at hh;cases hh)];exact⟨fun g=>by simp at g,fun _=>rfl⟩
   | true=>
    rw [if_pos (hasS_mem.1 hh)];exact⟨fun _=> ⟨mf,w,rfl,f2,w2,w3⟩,fun g=>by simp at g⟩
end
end Go.Hb
namespace Go.Hb
open Go.Proofs
set_option maxHeartbeats 4000000
noncomputable section
theorem aIH (cs:List Con) :∀ps:List Pat,aA0 cs ps=ps.all (knP cs)
 | [] =>by rw [aA0];rfl
 |p::ps=>by rw [aA0,aIH cs ps,List.all_cons]
section
variable (fs :List aC) (cs:List Con) (mf mc:List (aC×Int)) (ar:List Int) (hf:aTe fs mf) (hc:aTd cs mc) (ha:ar=cs.map Con.args) (hfl:fs.length≤100000)
include hc ha
theorem aLZ (s:aC)(k:Int) :aGq mc ar s k=if ckn cs s k=true then some (dY s cs 0)else none:=by
 unfold aGq ckn;rw [hc s];by_cases h:s∈cs.map Con.name
 · have h0:=conIx_mem.2 h;rw [if_pos h,decide_eq_true h0,Bool.true_and];obtain⟨c,hcc⟩ :=aDn h0;simp only [ha,List.getElem?_map,hcc,Option.map_some,Option.some.injEq,decide_eq_true_eq]
 · rw [if_neg h,decide_eq_false (fun g=>h (conIx_mem.1 g)),Bool.false_and];rfl
mutual
theorem bFR :∀p:Pat,wP mc ar p=if knP cs p=true then some (pnP cs p)else none
 | .mk f n s ps=>by
  rw [wP,knP,pnP,aKk ps,aLZ cs mc ar hc ha];by_cases h6:f=6
  · simp only [if_pos h6];cases ckn cs s (List.length ps) <;>cases aA0 cs ps<;>rfl
  · simp only [if_neg h6,Bool.true_and];cases aA0 cs ps<;>rfl
theorem aKk :∀ps:List Pat,wPs mc ar ps=if aA0 cs ps=true then some (oU cs ps)else none
 | [] =>by rw [wPs,aA0,oU];rfl
 | p::ps=>by
  rw [wPs,aA0,oU,bFR p,aKk ps];cases knP cs p<;>cases aA0 cs ps<;>rfl
end
include hf hfl
theorem aTh (env:List aC)(s:aC) :aEM mf env s=if(eZ env s||eZ fs s) =true then some (if dR env s<0 then IntKind.i64.wrap (-1-dR fs s)else dR env s)else none:=by
 unfold aEM;have hm:= @placeL_mem env s;by_cases h:s∈env
 · have h0:=hm.2 h;rw [if_pos h0,hasS_mem.2 h,Bool.true_or,if_pos rfl,if_neg (by omega)]
 · have h0:¬0≤dR env s:=fun g=>h (hm.1 g);have he:eZ env s=false:=by
    cases e:eZ env s with
    |false=>rfl
    |true=>exact absurd (hasS_mem.1 e) h
   rw [if_neg h0,he,Bool.false_or,hf s,if_pos (show dR env s<0 by omega)];by_cases h2:s∈fs
   · have hr:=sL fs s fs.length;have hp:dR fs s=eM fs s fs.length:=rfl;have w:IntKind.i64.wrap (-1-dR fs s) = -1-dR fs s:=by apply wrap64<;>omega
     rw [if_pos h2,hasS_mem.2 h2,if_pos rfl,w]
   · have hs:eZ fs s=false:=by
      cases e:eZ fs s with
      |false=>rfl
      |true=>exact absurd (hasS_mem.1 e) h2
     rw [if_neg h2,hs];rfl
theorem hd4 {o n:Int}{s:aC}{k m:Int}(h:aK o n s k m=true)(h4:o=4) :k=0∧m=0:=by
 subst h4;simp [aK,aN]at h;omega
mutual
theorem bDm :∀ (t:Term) (env:List aC) (a:Nat),hR t=true→mT mf mc ar t env a=if knT fs cs t env=true then some (oW fs cs t env a)else none
 | .mk o n s ks ps,env,a,hF=>by
  rw [hR]at hF;simp only [Bool.and_eq_true]at hF;obtain⟨⟨hH,_⟩,hFk⟩ :=hF;rw [mT,knT,oW];unfold aS3 aLH;by_cases h4:o=4
  · obtain⟨hk,hm⟩ :=hd4 fs cs mf mc ar hf hc ha hfl hH h4;have ek:ks= [] :=List.length_eq_zero_iff.1 (by omega);have ep:ps= [] :=List.length_eq_zero_iff.1 (by omega);subst ek ep;rw [if_pos h4,if_pos h4,if_neg (show ¬o=14 by omega),if_pos h4,aTh fs cs mf mc ar hf hc ha hfl,wPs,mTs,gB,oU];cases (eZ env s||eZ fs s) <;>rfl
  · rw [if_neg h4,if_neg h4,if_neg h4,aKk cs mc ar hc ha ps,aTi o s ps ks 0 env (a+1) hFk,aIH,aLZ cs mc ar hc ha];by_cases h14:o=14
    · rw [if_pos h14,if_pos h14,if_pos h14];cases ckn cs s (List.length ks) <;>cases ps.all (knP cs) <;>cases aD2 fs cs o s ps ks 0 env<;>rfl
    · rw [if_neg h14,if_neg h14,if_neg h14,Bool.true_and];cases ps.all (knP cs) <;>cases aD2 fs cs o s ps ks 0 env<;>rfl
theorem aTi (o:Int)(s:aC)(ps:List Pat) :∀ (ts:List Term) (i:Nat) (env:List aC) (a:Nat),jM ts=true→mTs mf mc ar o s ps ts i env a=if aD2 fs cs o s ps ts i env=true then some (gB fs cs o s ps ts i env a)else none
 | [],i,env,a,_=>by rw [mTs,aD2,gB];rfl
 | t::ts,i,env,a,hF=>by
  rw [jM,Bool.and_eq_true]at hF;rw [mTs,aD2,gB,bDm t _ _ hF.1];cases knT fs cs t (env++bZ o s ps i)with
  |false=>rfl
  | true=>
   simp only [if_true,Bool.true_and];rw [aTi o s ps ts (i+1) env _ hF.2];cases aD2 fs cs o s ps ts (i+1) env<;>rfl
end
theorem bDn :∀ (t:List FunD) (a:Nat),(∀f∈t,hR f.bod=true) →mM mf mc ar t a=if(t.all fun f=>knT fs cs f.bod [f.par]) =true then some (qZ fs cs t a)else none
 | [],a,_=>by rw [mM,qZ];rfl
 | f::t,a,h=>by
  rw [mM,qZ,bDm fs cs mf mc ar hf hc ha hfl f.bod _ _ (h f (List.mem_cons_self ..)),List.all_cons];cases knT fs cs f.bod [f.par]with
  |false=>rfl
  | true=>
   simp only [if_true,Bool.true_and];rw [bDn t _ (fun x hx=>h x (List.mem_cons_of_mem _ hx))];cases (t.all fun f=>knT fs cs f.bod [f.par]) <;>rfl
end
theorem aM5 (m:Mod)(hs:jQ m=true) :aEU m=aAs m:=by
 unfold aEU aAs;cases ho:sT m with
 |false=>rfl
 | true=>
  rw [if_pos rfl,if_pos rfl];have F:=aGw hs ho;obtain⟨h1,h2⟩ :=aEV m;unfold okM;cases hb: (eK (rA m) &&eK ((fA m).map Con.name) &&eZ (rA m) jD)with
  |false=>rw [h2 hb];rfl
  | true=>
   obtain⟨mf,w,e1,e2,⟨e3,e4⟩,e5⟩ :=h1 hb;rw [e1];rw [e5]at e3 e4;have hM:=bDn (rA m) (fA m) mf w.mc w.ar e2 e3 e4 (by have:=F.fl;simp;omega) m.funs 0 F.tf;simp only [hM,Bool.true_and,e5];have hmain:cJ jD mf=some (dR (rA m) jD) :=by
    simp only [Bool.and_eq_true]at hb;rw [e2 jD,if_pos (hasS_mem.1 hb.2)]
   rw [hmain,Option.getD_some];have ek: (m.funs.all fun f=>knT (rA m) (fA m) f.bod [f.par]) =knM m m.funs:=rfl;rw [ek];cases knM m m.funs with
   |false=>rfl
   |true=>rfl
theorem aKl (m:Mod)(hs:jQ m=true) :Pure PP 10 [Mod.av m] (.tup [Prog.av (aAs m).1,.int .i64 (aAs m).2]) :=by
 rw [←aM5 m hs];refine aKi m hs (fun mf w h=>?_);obtain⟨h1,h2⟩ :=aEV m;cases hb: (eK (rA m) &&eK ((fA m).map Con.name) &&eZ (rA m) jD)with
 |false=>rw [h2 hb]at h;cases h
 | true =>
  obtain⟨mf',w',e1,e2,⟨e3,e4⟩,e5⟩ :=h1 hb;rw [e1]at h;cases h;refine⟨fun s n hn=>?_,fun s f hn=>?_,⟨dR (rA m) jD,?_⟩⟩
  · rw [e3 s]at hn;split at hn
    · rename_i hmem;cases hn;have h0:=conIx_mem.2 hmem;rcases mJ s w.l 0 (by omega)with g|g
      ·omega
      ·rw [e4,List.length_map];omega
    ·cases hn
  · rw [e2 s]at hn;split at hn
    · rename_i hmem;cases hn;have h0:=placeL_mem.2 hmem;have hr:=sL (rA m) s (rA m).length;have hp:dR (rA m) s=eM (rA m) s (rA m).length:=rfl;have hl: (rA m).length≤8:=by
       simp only [jQ,Bool.and_eq_true,decide_eq_true_eq]at hs;simp;omega
      omega
    ·cases hn
  · simp only [Bool.and_eq_true]at hb;exact(e2 jD).trans (if_pos (hasS_mem.1 hb.2))
end
end Go.Hb
namespace Go.Hb
open Go.Proofs
variable {H :Type} {enc:TypeId×Value→H} {w:World} {spare:Nat→Bool} {held:Bool}
theorem aGG {l:List AV}{n:Nat}{cs:List Value}(h:Elt w n (.agg l) cs) :VRs (embOf w) l cs:=by
 obtain⟨_,u,h1,h2,_⟩ :=h;simp only [VR]at h2;obtain⟨vs,rfl,h3⟩ :=h2;have:vs=cs:=h1;rw [←this];exact h3
theorem three {α:Type}{cs:List α}(h:cs.length=3) :∃a b c,cs= [a,b,c] :=by
 match cs,h with
 | [a,b,c],_=>exact⟨a,b,c,rfl⟩
theorem five {α:Type}{cs:List α}(h:cs.length=5) :∃a b c d e,cs= [a,b,c,d,e] :=by
 match cs,h with
 | [a,b,c,d,e],_=>exact⟨a,b,c,d,e,rfl⟩
theorem fifteen {α:Type}{cs:List α}(h:cs.length=15) :∃a b c d e f g i j k l m n o p,cs= [a,b,c,d,e,f,g,i,j,k,l,m,n,o,p] :=by
 match cs,h with
 | [a,b,c,d,e,f,g,i,j,k,l,m,n,o,p],_=>exact⟨a,b,c,d,e,f,g,i,j,k,l,m,n,o,p,rfl⟩
section
theorem cells38 :Tryz.prog.cellsOf 38=1:=by kernel_rfl
theorem cells41 :Tryz.prog.cellsOf 41=5:=by kernel_rfl
theorem cells43 :Tryz.prog.cellsOf 43=1:=by kernel_rfl
theorem cells44 :Tryz.prog.cellsOf 44=1:=by kernel_rfl
theorem cells46 :Tryz.prog.cellsOf 46=4:=by kernel_rfl
theorem cells48 :Tryz.prog.cellsOf 48=15:=by kernel_rfl
theorem cells22 :Tryz.prog.cellsOf 22=1:=by kernel_rfl
theorem cells23 :Tryz.prog.cellsOf 23=1:=by kernel_rfl
theorem cells25 :Tryz.prog.cellsOf 25=3:=by kernel_rfl
theorem cells68 :Tryz.prog.cellsOf 68=1:=by kernel_rfl
theorem aL0 :Tryz.prog.cellsOf 70=2:=by kernel_rfl
theorem aII :Tryz.prog.cellsOf 154=2:=by kernel_rfl
theorem aDF :∀ (fuel:Nat) (cs:List Value) (x:DataW H×List MemPlace),DataW.trod enc Tryz.prog w 0 spare held fuel 46 cs=some x→∃p:Typ,Elt w 4 (Typ.av p) cs:=by
 intro fuel
 induction fuel using Nat.strongRecOn with
 | ind fuel ih=>
  intro cs x h;obtain⟨xs,m,rfl,rfl,hl,hlen,hf⟩ :=DataW.trod_struct Tryz.underlying46 h;rw [cells46]at hl;obtain⟨c0,c1,c2,c3,rfl⟩ :=four hl;have h0:DataW.trod enc Tryz.prog w 0 spare held m 43 (([c0,c1,c2,c3].drop 0).take (Tryz.prog.cellsOf 43)) =xs[0]?:=hf 0 _ rfl;have h1:DataW.trod enc Tryz.prog w 0 spare held m 3 (([c0,c1,c2,c3].drop 1).take (Tryz.prog.cellsOf 3)) =xs[1]?:=hf 1 _ rfl;have h2:DataW.trod enc Tryz.prog w 0 spare held m 9 (([c0,c1,c2,c3].drop 2).take (Tryz.prog.cellsOf 9)) =xs[2]?:=hf 2 _ rfl;have h3:DataW.trod enc Tryz.prog w 0 spare held m 44 (([c0,c1,c2,c3].drop 3).take (Tryz.prog.cellsOf 44)) =xs[3]?:=hf 3 _ rfl;simp only [cells43,cells3,cells9,cells44,List.drop,List.take]at h0 h1 h2 h3;obtain⟨x0,h0⟩ :=got h0 hlen (by decide);obtain⟨x1,h1⟩ :=got h1 hlen (by decide);obtain⟨x2,h2⟩ :=got h2 hlen (by decide);obtain⟨x3,h3⟩ :=got h3 hlen (by decide);obtain⟨f,e0⟩ :=iH Tryz.underlying43 h0;obtain⟨n,e1⟩ :=iH Tryz.underlying3 h1;obtain⟨s,c,e2,v2⟩ :=kQ Tryz.underlying9 h2;obtain⟨ps,c',e3,v3⟩ :=eG Typ.av Tryz.underlying44 cells46 (by omega) h3 (fun fu hfu cs x hx=>ih fu (by omega) cs x hx);cases e0;cases e1;cases e2;cases e3;refine⟨.mk f n s ps,?_⟩;simp only [Typ.av,cT];refine pL (VRs.cons (by simp only [VR]) (VRs.cons (by simp only [VR]) (VRs.cons v2 (VRs.cons v3 (VRs.nil _))))) ?_;rfl
theorem aM6 :∀ (fuel:Nat) (cs:List Value) (x:DataW H×List MemPlace),DataW.trod enc Tryz.prog w 0 spare held fuel 41 cs=some x→∃p:Term,Elt w 5 (Term.av p) cs:=by
 intro fuel
 induction fuel using Nat.strongRecOn with
 | ind fuel ih=>
  intro cs x h;obtain⟨xs,m,rfl,rfl,hl,hlen,hf⟩ :=DataW.trod_struct Tryz.underlying41 h;rw [cells41]at hl;obtain⟨c0,c1,c2,c3,c4,rfl⟩ :=five hl;have h0:DataW.trod enc Tryz.prog w 0 spare held m 37 (([c0,c1,c2,c3,c4].drop 0).take (Tryz.prog.cellsOf 37)) =xs[0]?:=hf 0 _ rfl;have h1:DataW.trod enc Tryz.prog w 0 spare held m 3 (([c0,c1,c2,c3,c4].drop 1).take (Tryz.prog.cellsOf 3)) =xs[1]?:=hf 1 _ rfl;have h2:DataW.trod enc Tryz.prog w 0 spare held m 9 (([c0,c1,c2,c3,c4].drop 2).take (Tryz.prog.cellsOf 9)) =xs[2]?:=hf 2 _ rfl;have h3:DataW.trod enc Tryz.prog w 0 spare held m 38 (([c0,c1,c2,c3,c4].drop 3).take (Tryz.prog.cellsOf 38)) =xs[3]?:=hf 3 _ rfl;have h4:DataW.trod enc Tryz.prog w 0 spare held m 39 (([c0,c1,c2,c3,c4].drop 4).take (Tryz.prog.cellsOf 39)) =xs[4]?:=hf 4 _ rfl;simp only [cells37,cells3,cells9,cells38,cells39,List.drop,List.take]at h0 h1 h2 h3 h4;obtain⟨x0,h0⟩ :=got h0 hlen (by decide);obtain⟨x1,h1⟩ :=got h1 hlen (by decide);obtain⟨x2,h2⟩ :=got h2 hlen (by decide);obtain⟨x3,h3⟩ :=got h3 hlen (by decide);obtain⟨x4,h4⟩ :=got h4 hlen (by decide);obtain⟨f,e0⟩ :=iH Tryz.underlying37 h0;obtain⟨n,e1⟩ :=iH Tryz.underlying3 h1;obtain⟨s,c,e2,v2⟩ :=kQ Tryz.underlying9 h2;obtain⟨ks,c',e3,v3⟩ :=eG Term.av Tryz.underlying38 cells41 (by omega) h3 (fun fu hfu cs x hx=>ih fu (by omega) cs x hx);obtain⟨ps,c'',e4,v4⟩ :=eG Pat.av Tryz.underlying39 zZ (by omega) h4 (fun fu _ cs x hx=>aHr fu cs x hx);cases e0;cases e1;cases e2;cases e3;cases e4;refine⟨.mk f n s ks ps,?_⟩;simp only [Term.av,bG,aH];refine pL (VRs.cons (by simp only [VR]) (VRs.cons (by simp only [VR]) (VRs.cons v2 (VRs.cons v3 (VRs.cons v4 (VRs.nil _)))))) ?_;rfl
theorem aM7 (fuel:Nat)(cs:List Value)(x:DataW H×List MemPlace)(h:DataW.trod enc Tryz.prog w 0 spare held fuel 154 cs=some x) :∃p:ConD,Elt w 2 (ConD.av p) cs:=by
 obtain⟨xs,m,rfl,rfl,hl,hlen,hf⟩ :=DataW.trod_struct Tryz.underlying154 h;rw [aII]at hl;obtain⟨c0,c1,rfl⟩ :=two hl;have h0:DataW.trod enc Tryz.prog w 0 spare held m 9 (([c0,c1].drop 0).take (Tryz.prog.cellsOf 9)) =xs[0]?:=hf 0 _ rfl;have h1:DataW.trod enc Tryz.prog w 0 spare held m 44 (([c0,c1].drop 1).take (Tryz.prog.cellsOf 44)) =xs[1]?:=hf 1 _ rfl;simp only [cells9,cells44,List.drop,List.take]at h0 h1;obtain⟨x0,h0⟩ :=got h0 hlen (by decide);obtain⟨x1,h1⟩ :=got h1 hlen (by decide);obtain⟨s,c,e0,v0⟩ :=kQ Tryz.underlying9 h0;obtain⟨ts,c',e1,v1⟩ :=eG Typ.av Tryz.underlying44 cells46 (by omega) h1 (fun fu _ cs x hx=>aDF fu cs x hx);cases e0;cases e1;refine⟨⟨s,ts⟩,?_⟩;simp only [ConD.av,cT];refine pL (VRs.cons v0 (VRs.cons v1 (VRs.nil _))) ?_;rfl
theorem aM8 (fuel:Nat)(cs:List Value)(x:DataW H×List MemPlace)(h:DataW.trod enc Tryz.prog w 0 spare held fuel 70 cs=some x) :∃p:DataD,Elt w 2 (DataD.av p) cs:=by
 obtain⟨xs,m,rfl,rfl,hl,hlen,hf⟩ :=DataW.trod_struct Tryz.underlying70 h;rw [aL0]at hl;obtain⟨c0,c1,rfl⟩ :=two hl;have h0:DataW.trod enc Tryz.prog w 0 spare held m 9 (([c0,c1].drop 0).take (Tryz.prog.cellsOf 9)) =xs[0]?:=hf 0 _ rfl;have h1:DataW.trod enc Tryz.prog w 0 spare held m 68 (([c0,c1].drop 1).take (Tryz.prog.cellsOf 68)) =xs[1]?:=hf 1 _ rfl;simp only [cells9,cells68,List.drop,List.take]at h0 h1;obtain⟨x0,h0⟩ :=got h0 hlen (by decide);obtain⟨x1,h1⟩ :=got h1 hlen (by decide);obtain⟨s,c,e0,v0⟩ :=kQ Tryz.underlying9 h0;obtain⟨ts,c',e1,v1⟩ :=eG ConD.av Tryz.underlying68 aII (by omega) h1 (fun fu _ cs x hx=>aM7 fu cs x hx);cases e0;cases e1;refine⟨⟨s,ts⟩,?_⟩;simp only [DataD.av];refine pL (VRs.cons v0 (VRs.cons v1 (VRs.nil _))) ?_;rfl
theorem aM9 (fuel:Nat)(cs:List Value)(x:DataW H×List MemPlace)(h:DataW.trod enc Tryz.prog w 0 spare held fuel 48 cs=some x) :∃p:FunD,Elt w 15 (FunD.av p) cs:=by
 obtain⟨xs,m,rfl,rfl,hl,hlen,hf⟩ :=DataW.trod_struct Tryz.underlying48 h;rw [cells48]at hl;obtain⟨c0,c1,c2,c3,c4,c5,c6,c7,c8,c9,c10,c11,c12,c13,c14,rfl⟩ :=fifteen hl;have h0:DataW.trod enc Tryz.prog w 0 spare held m 9 (([c0,c1,c2,c3,c4,c5,c6,c7,c8,c9,c10,c11,c12,c13,c14].drop 0).take (Tryz.prog.cellsOf 9)) =xs[0]?:=hf 0 _ rfl;have h1:DataW.trod enc Tryz.prog w 0 spare held m 9 (([c0,c1,c2,c3,c4,c5,c6,c7,c8,c9,c10,c11,c12,c13,c14].drop 1).take (Tryz.prog.cellsOf 9)) =xs[1]?:=hf 1 _ rfl;have h2:DataW.trod enc Tryz.prog w 0 spare held m 46 (([c0,c1,c2,c3,c4,c5,c6,c7,c8,c9,c10,c11,c12,c13,c14].drop 2).take (Tryz.prog.cellsOf 46)) =xs[2]?:=hf 2 _ rfl;have h3:DataW.trod enc Tryz.prog w 0 spare held m 46 (([c0,c1,c2,c3,c4,c5,c6,c7,c8,c9,c10,c11,c12,c13,c14].drop 6).take (Tryz.prog.cellsOf 46)) =xs[3]?:=hf 3 _ rfl;have h4:DataW.trod enc Tryz.prog w 0 spare held m 41 (([c0,c1,c2,c3,c4,c5,c6,c7,c8,c9,c10,c11,c12,c13,c14].drop 10).take (Tryz.prog.cellsOf 41)) =xs[4]?:=hf 4 _ rfl;simp only [cells9,cells46,cells41,List.drop,List.take]at h0 h1 h2 h3 h4;obtain⟨x0,h0⟩ :=got h0 hlen (by decide);obtain⟨x1,h1⟩ :=got h1 hlen (by decide);obtain⟨x2,h2⟩ :=got h2 hlen (by decide);obtain⟨x3,h3⟩ :=got h3 hlen (by decide);obtain⟨x4,h4⟩ :=got h4 hlen (by decide);obtain⟨s,c,e0,v0⟩ :=kQ Tryz.underlying9 h0;obtain⟨q,c',e1,v1⟩ :=kQ Tryz.underlying9 h1;obtain⟨⟨f0,f1,f2,f3⟩,v2⟩ :=aDF m _ _ h2;obtain⟨⟨g0,g1,g2,g3⟩,v3⟩ :=aDF m _ _ h3;obtain⟨⟨b0,b1,b2,b3,b4⟩,v4⟩ :=aM6 m _ _ h4;cases e0;cases e1;refine⟨.mk s q (.mk f0 f1 f2 f3) (.mk g0 g1 g2 g3) (.mk b0 b1 b2 b3 b4),?_⟩;simp only [Typ.av]at v2 v3;simp only [Term.av]at v4;have V:=VRs.cons v0 (VRs.cons v1 ((aGG v2).append ((aGG v3).append (aGG v4))));exact pL V rfl
theorem lift_mod (fuel:Nat)(cs:List Value)(x:DataW H×List MemPlace)(h:DataW.trod enc Tryz.prog w 0 spare held fuel 25 cs=some x) :∃p:Mod,VR (embOf w) (Mod.av p) (.agg ⟨cs⟩) :=by
 obtain⟨xs,m,rfl,rfl,hl,hlen,hf⟩ :=DataW.trod_struct Tryz.underlying25 h;rw [cells25]at hl;obtain⟨c0,c1,c2,rfl⟩ :=three hl;have h0:DataW.trod enc Tryz.prog w 0 spare held m 9 (([c0,c1,c2].drop 0).take (Tryz.prog.cellsOf 9)) =xs[0]?:=hf 0 _ rfl;have h1:DataW.trod enc Tryz.prog w 0 spare held m 22 (([c0,c1,c2].drop 1).take (Tryz.prog.cellsOf 22)) =xs[1]?:=hf 1 _ rfl;have h2:DataW.trod enc Tryz.prog w 0 spare held m 23 (([c0,c1,c2].drop 2).take (Tryz.prog.cellsOf 23)) =xs[2]?:=hf 2 _ rfl;simp only [cells9,cells22,cells23,List.drop,List.take]at h0 h1 h2;obtain⟨x0,h0⟩ :=got h0 hlen (by decide);obtain⟨x1,h1⟩ :=got h1 hlen (by decide);obtain⟨x2,h2⟩ :=got h2 hlen (by decide);obtain⟨s,c,e0,v0⟩ :=kQ Tryz.underlying9 h0;obtain⟨ds,c',e1,v1⟩ :=eG DataD.av Tryz.underlying22 aL0 (by omega) h1 (fun fu _ cs x hx=>aM8 fu cs x hx);obtain⟨fs,c'',e2,v2⟩ :=eG FunD.av Tryz.underlying23 cells48 (by omega) h2 (fun fu _ cs x hx=>aM9 fu cs x hx);cases e0;cases e1;cases e2;refine⟨⟨s,ds,fs⟩,?_⟩;simp only [Mod.av,VR];exact⟨_,rfl,VRs.cons v0 (VRs.cons v1 (VRs.cons v2 (VRs.nil _)))⟩
end
end Go.Hb
namespace Go.Hb
open Go.Proofs
variable {P :Program}
noncomputable section
def bEz (P:Program)(is:List Ins)(s:TS) :Option (AV×Nat×List Prop) :=
 match uL P is s.as with
 | some (s1,ps) =>match s1.cs,s1.fr.kind,s1.fr.mode,s1.fr.roundOf,s1.fr.defers with
  | [],.normal,.ret,none,[] =>match P.funcs[s1.fr.fn]? with
   | some fd=>match kG P s1.h s1.fr.tm fd.results.toList with
    |some [v] =>some (v,s1.fr.fn,ps)
    |_=>none
   |none=>none
  |_,_,_,_,_=>none
 |none=>none
theorem aGH {f : Nat} {args : List AV} {is : List Ins}{b:Bool}{ps:List Prop}{cargs:List Value}(hb:lV P f=true)(hk:AV.keylessL args=true)(h0:bEz P is (start P f args) =some (.bool b,f,ps))(hps:AllP ps)(w:World)(hv:VRs (embOf w) args cargs) :
  Calls P f ⟨cargs⟩ w fun e w'=>e= .returned (.bool b) ∧GrownO w w':=by
 intro base;unfold lV at hb;split at hb
 · rename_i fn hf;split at hb
   · rename_i c hc;have hg:dN P f args .normal=some ⟨f,fG .leaf 0 args,max fn.ntmps args.length,[.code c],[],.run,.normal,none⟩ :=by simp [dN,hf,hc]
     have fr':FR (embOf w) _ (Frame.enter P f ⟨cargs⟩ .normal) :=iO hg hv;have f1:FR (embOf w) (start P f args).as.fr (Frame.enter P f ⟨cargs⟩ .normal) :=by
      have e1: (start P f args).as.fr= ⟨f,uM ((List.range args.length).zip args),max fn.ntmps args.length,[.code c],[],.run,.normal,none⟩ :=by simp [start,hf,hc,TS.as,TF.fr]
      rw [e1];refine⟨fr'.fn,⟨fr'.tm.1,fun t a e=>?_⟩,fr'.todo,fr'.defers,fr'.mode,fr'.kind,fr'.round⟩;have h1:=aCE (xN e);have hlt:= (List.getElem?_eq_some_iff.1 h1).1;have h2: (fG .leaf 0 args).at t=some a:=by
       unfold fG;rw [dE,if_pos hlt];exact h1
      exact fr'.tm.2 t a h2
     have e2 : (start P f args).as.cs = [] := by unfold start;split; · split<;>rfl
                                                 ·rfl
     have e3 : (start P f args).as.h = ⟨.leaf, 0⟩ := by unfold start;split; · split<;>rfl
                                                        ·rfl
     unfold bEz at h0;split at h0
     · rename_i s1 qs h1;split at h0
       · rename_i hcs hkd hmo hro hde;split at h0
         · rename_i fd hfd;split at h0
           · rename_i v hrs;simp only [Option.some.injEq,Prod.mk.injEq]at h0;obtain⟨rfl,hfn,rfl⟩ :=h0;have hl:LeadsM P 0 (start P f args).as s1:=iG h1 (fun p hpp=>hps.mem p hpp);obtain⟨E',g,ccs,w',s2,f2,fs2,r2,x⟩ :=hl (by rw [e3];exact Nat.le_refl _) (embOf w) _ [] w base f1 (by rw [e2];rfl) (by rw [e3];exact aMe w);rw [hcs]at fs2;have:=fs2.nil_inv;subst this;obtain⟨cv,g1,g2⟩ :=uG r2 f2.tm hrs;simp only [aAw,VR]at g2;subst g2;have fm:=f2.mode;rw [hmo]at fm;simp only [MR]at fm;have fdd:=f2.defers;rw [hde]at fdd;rw [e3]at x;have hno:∀ {b o},¬ (⟨.leaf,0⟩ :Hp).look b=some o:=fun {b o} e=>by simp [Hp.look,T.at_leaf]at e
             refine⟨.returned (.bool b),w',g,⟨rfl,⟨x.os,x.output,fun i hi=>?_⟩,x.froz,x.size⟩,s2,by rw [f2.fn,hfn],fm,fdd.nil_inv,by rw [f2.kind,hkd],fd,by rw [f2.fn];exact hfd,g1⟩;have:=x.keep i hi (fun b o L e=>absurd e hno);rw [this];cases w.heap[i]? with
             |none=>rfl
             |some ob=>cases ob<;>simp
           ·cases h0
         ·cases h0
       ·cases h0
     ·cases h0
   ·cases hb
 ·cases hb
end
end Go.Hb
namespace Go.Hb
open Go.Proofs
variable {P :Program}
noncomputable section
end
end Go.Hb
namespace Go.Hb
open Go.Proofs
variable {P :Program}
theorem cW {f:Nat}{args:List AV}{b:Bool}{cargs:List Value}(L:List Pf)(is:List Ins)(w:World)(hv:VRs (embOf w) args cargs)(hb:lV P f=true:=by kernel_rfl)(hk:AV.keylessL args=true:=by kernel_rfl)(h0:bEz P is (start P f args) =some (.bool b,f,L.map Pf.p) :=by kernel_rfl) :
    Calls P f ⟨cargs⟩ w fun e w'=>e= .returned (.bool b) ∧GrownO w w':=aGH hb hk h0 (bBX L) w hv
end Go.Hb
namespace Go.Hb
open Go.Proofs
noncomputable section
theorem bBM (m:Mod)(y0 y1:Bool)(h0:Pure PP 8 [(.agg [(aA m.name),(.ilst 2 (List.map DataD.av m.datas) false),(.ilst 15 (FunDs.av m.funs) false)])] (bV y0))(h1: (!y0) =true)(h2:Pure PP 9 [] (bV y1)) :
  ∀ (w:World) (cargs:List Value),VRs (embOf w) [Mod.av m] cargs→Calls PP 3 ⟨cargs⟩ w fun e w'=>e= .returned (.bool y1) ∧GrownO w w':=
 fun w cargs hv=>cW [qp h0,qp h1,qp h2] [rn 9,pB y0,rn 2,bt 9,rn 3,pB y1,rn 3] w hv
theorem bBN (m:Mod)(y0:Bool)(y1:Prog)(y2:Int)(y3:Prog)(y4:Int)(y5 y6:Bool)(h0:Pure PP 8 [(.agg [(aA m.name),(.ilst 2 (List.map DataD.av m.datas) false),(.ilst 15 (FunDs.av m.funs) false)])] (bV y0))(h1: (!y0) =false)(h2:Pure PP 10 [(.agg [(aA m.name),(.ilst 2 (List.map DataD.av m.datas) false),(.ilst 15 (FunDs.av m.funs) false)])] (.tup [(Prog.av y1),(nI y2)]))(h3:Pure PP 11 [(.agg [(aA m.name),(.ilst 2 (List.map DataD.av m.datas) false),(.ilst 15 (FunDs.av m.funs) false)])] (.tup [(Prog.av y3),(nI y4)]))(h4: (y2==y4) =true)(h5:Pure PP 12 [(Prog.av y1),(Prog.av y3)] (bV y5))(h6:y5=true)(h7:Pure PP 9 [] (bV y6)) :
  ∀ (w:World) (cargs:List Value),VRs (embOf w) [Mod.av m] cargs→Calls PP 3 ⟨cargs⟩ w fun e w'=>e= .returned (.bool y6) ∧GrownO w w':=
 fun w cargs hv=>cW [qp h0,qp h1,qp h2,qp h3,qp h4,qp h5,qp h6,qp h7] [rn 9,pB y0,rn 2,bf 9,rn 5,.pure (.tup [(Prog.av y1),(nI y2)]),rn 10,.pure (.tup [(Prog.av y3),(nI y4)]),rn 13,bt 24,rn 2,pB y5,rn 2,bt 29,pB y6,rn 4] w hv
end
end Go.Hb
namespace Go.Hb
open Go.Proofs
set_option maxHeartbeats 4000000
noncomputable section
mutual
theorem aTj (cs:List Con) :∀p:Pat,aQ (pnP cs p) =aQ p
 | .mk f n s ps=>by rw [pnP,aQ,aQ,aBb cs ps]
theorem aBb (cs:List Con) :∀ps:List Pat,aM (oU cs ps) =aM ps
 | [] =>by rw [oU]
 |p::ps=>by rw [oU,aM,aM,aTj cs p,aBb cs ps]
end
theorem aDG (fs:List aC)(cs:List Con)(o:Int)(s:aC)(ps:List Pat) :∀ (ts:List Term) (i:Nat) (env:List aC) (a:Nat),(gB fs cs o s ps ts i env a).1.length=ts.length
 | [],i,env,a=>by rw [gB];rfl
 |t::ts,i,env,a=>by rw [gB,List.length_cons,aDG fs cs o s ps ts,List.length_cons]
mutual
theorem aIJ (fs:List aC)(cs:List Con) :∀ (t:Term) (env:List aC) (a:Nat),tsm t=true→bX t≤1000→∀x∈oW fs cs t env a,aR7 x
 | .mk o n s ks ps,env,a,hs,hz,x,hx=>by
  simp only [bX]at hz;have hkl:=lL ks;rw [tsm]at hs;simp only [Bool.and_eq_true,decide_eq_true_eq]at hs;obtain⟨⟨⟨_,hpl⟩,hsp⟩,hsk⟩ :=hs;have hsz:=nM ps hsp;rw [oW]at hx;rcases List.mem_cons.1 hx with e|hx
  · subst e;exact⟨by simp only [aDG];omega,by simp only [aBb];omega⟩
  ·exact aEW fs cs o s ps ks 0 env (a+1) hsk (by omega) x hx
theorem aEW (fs:List aC)(cs:List Con)(o:Int)(s:aC)(ps:List Pat) :∀ (ts:List Term) (i:Nat) (env:List aC) (a:Nat),xZ ts=true→bO ts≤1000→∀x∈ (gB fs cs o s ps ts i env a).2,aR7 x
 | [],i,env,a,_,_,x,hx=>by rw [gB]at hx;cases hx
 | t::ts,i,env,a,hs,hz,x,hx=>by
  rw [xZ,Bool.and_eq_true]at hs;simp only [bO]at hz;rw [gB]at hx;rcases List.mem_append.1 hx with hx|hx
  ·exact aIJ fs cs t _ _ hs.1 (by omega) x hx
  ·exact aEW fs cs o s ps ts _ _ _ hs.2 (by omega) x hx
end
theorem aIK (fs:List aC)(cs:List Con) :∀ (t:List FunD) (a:Nat),(∀f∈t,tsm f.bod=true∧bX f.bod≤1000) →∀x∈ (qZ fs cs t a).2,aR7 x
 | [],a,_,x,hx=>by rw [qZ]at hx;cases hx
 | f::t,a,h,x,hx=>by
  rw [qZ]at hx;obtain⟨h1,h2⟩ :=h f (List.mem_cons_self ..);rcases List.mem_append.1 hx with hx|hx
  ·exact aIJ fs cs f.bod _ _ h1 h2 x hx
  ·exact aIK fs cs t _ (fun y hy=>h y (List.mem_cons_of_mem _ hy)) x hx
theorem aEX (fs:List aC)(cs:List Con) :∀ (t:List FunD) (a:Nat),(qZ fs cs t a).1.length=t.length
 | [],a=>by rw [qZ];rfl
 |f::t,a=>by rw [qZ,List.length_cons,aEX fs cs t,List.length_cons]
theorem aTk (m:Mod)(hs:jQ m=true) :FitP (aAs m).1:=by
 have hz:FitP ZPr:= ⟨by simp [ZPr],by simp [ZPr],by simp [ZPr],fun x hx=>by cases hx⟩;unfold aAs;cases ho:sT m with
 |false=>exact hz
 | true=>
  rw [if_pos rfl];have F:=aGw hs ho;have hfl:=F.fl;have hdl:=F.dl;split
  · split
    ·exact hz
    · have hl:=aDy (rA m) (fA m) m.funs 0 F.sz;have hf:=aEX (rA m) (fA m) m.funs 0;have hc:=aA8 m.datas F.cl;refine⟨by unfold aAr;simp only;omega,by unfold aAr;simp only;omega,by unfold aAr fA;simp only;omega,fun x hx=>?_⟩;exact aIK (rA m) (fA m) m.funs 0 (fun f hf=> ⟨F.sm f hf,by have:=F.sz f hf;omega⟩) x hx
  ·exact hz
theorem lPrograms_calls (m:Mod)(hk:Pure PP 9 [] (.bool true))(w:World)(cargs:List Value)(hv:VRs (embOf w) [Mod.av m] cargs) :
  Calls Tryz.prog 3 ⟨cargs⟩ w fun e w'=>e= .returned (.bool true) ∧GrownO w w':=by
 have h0:=aRV m;cases hs:jQ m with
 | false=>
  rw [hs]at h0;exact bBM m false true h0 (by rfl) hk w cargs hv
 | true=>
  rw [hs]at h0;exact bBN m true (aAs m).1 (aAs m).2 (aAs m).1 (aAs m).2 true true h0 (by rfl) (aKl m hs) (aKf m hs) (beq_self_eq_true _) (aJZ _ (aTk m hs)) rfl hk w cargs hv
end
end Go.Hb
