/- A machine on abstract values, its soundness, ways, plain laws. -/
import Derived.Test.YtlgoblkihmkmcaaGreatHF
import Derived.Test.YtlgoblkihmkmcaaGreatHG
import Derived.Test.YtlgoblkihmkmcaaGreatHJ
import Derived.Test.YtlgoblkihmkmcaaGreatHK
import Derived.Test.YtlgoblkihmkmcaaGreatHM
import Derived.Test.YtlgoblkihmkmcaaGreatHN
import Derived.Test.YtlgoblkihmkmcaaGreatHO
set_option linter.defProp false
set_option linter.unusedVariables false
set_option linter.unusedSimpArgs false
set_option linter.unusedSectionVars false
set_option maxRecDepth 100000
set_option maxHeartbeats 4000000
namespace Go.Hb
open AV (keyless keylessL)
open Bool (and_eq_true not_eq_true)
open List (append_assoc append_nil drop length length_cons length_set map range replicate set take)
open Go.Proofs Tryz
noncomputable section
section
variable (p :Prog) (l:List aB) (hl:l.length=p.funs.length) (hf:p.funs.length≤1000)
include hl hf
omit hl hf in
end
section
variable {P :Program}
def aUB (P:Program)(is:List Ins)(s:TS) :Option (AV×Nat×List Prop) :=
 match aA4 P is s.as with
 | some (s1,ps) =>match s1.cs,s1.fr.kind,s1.fr.mode,s1.fr.roundOf,s1.fr.defers with
  | [],.normal,.ret,none,[] =>match P.funcs[s1.fr.fn]? with
   | some fd=>match lR P s1.h s1.fr.tm fd.results.toList with
    |some [v] =>some (v,s1.fr.fn,ps)
    |_=>none
   |none=>none
  |_,_,_,_,_=>none
 |none=>none
theorem aL1 {f : Nat} {args : List AV} {is : List Ins}{b:Bool}{ps:List Prop}{cargs:List Value}(hb:kR P f=true)(hk:keylessL args=true)(h0:aUB P is (start P f args) =some (.bool b,f,ps))(hps:AllP ps)(w:World)(hv:VRs (embOf w) args cargs) :
  Calls P f ⟨cargs⟩ w fun e w'=>e= .returned (.bool b) ∧GrownO w w':=by
 intro base;unfold kR at hb;split at hb
 · rename_i fn hf;split at hb
   · rename_i c hc;have hg:cJ P f args .normal=some ⟨f,dB .leaf 0 args,max fn.ntmps args.length,[.code c],[],.run,.normal,none⟩ :=by simp [cJ,hf,hc]
     have fr':FR (embOf w) _ (Frame.enter P f ⟨cargs⟩ .normal) :=iD hg hv;have f1:FR (embOf w) (start P f args).as.fr (Frame.enter P f ⟨cargs⟩ .normal) :=by
      have e1: (start P f args).as.fr= ⟨f,mkT ((range args.length).zip args),max fn.ntmps args.length,[.code c],[],.run,.normal,none⟩ :=by simp [start,hf,hc,TS.as,TF.fr]
      rw [e1];refine⟨fr'.fn,⟨fr'.tm.1,fun t a e=>?_⟩,fr'.todo,fr'.defers,fr'.mode,fr'.kind,fr'.round⟩;have h1:=aCm (yQ e);have hlt:= (List.getElem?_eq_some_iff.1 h1).1;have h2: (dB .leaf 0 args).at t=some a:=by
       unfold dB;rw [cD,if_pos hlt];exact h1
      exact fr'.tm.2 t a h2
     have e2 : (start P f args).as.cs = [] := by unfold start;split; · split<;>rfl
                                                 ·rfl
     have e3 : (start P f args).as.h = ⟨.leaf, 0⟩ := by unfold start;split; · split<;>rfl
                                                        ·rfl
     unfold aUB at h0;split at h0
     · rename_i s1 qs h1;split at h0
       · rename_i hcs hkd hmo hro hde;split at h0
         · rename_i fd hfd;split at h0
           · rename_i v hrs;simp only [Option.some.injEq,Prod.mk.injEq]at h0;obtain⟨rfl,hfn,rfl⟩ :=h0;have hl:LeadsM P 0 (start P f args).as s1:=jP h1 (fun p hpp=>hps.mem p hpp);obtain⟨E',g,ccs,w',s2,f2,fs2,r2,x⟩ :=hl (by rw [e3];exact Nat.le_refl _) (embOf w) _ [] w base f1 (by rw [e2];rfl) (by rw [e3];exact aIF w);rw [hcs]at fs2;have:=fs2.nil_inv;subst this;obtain⟨cv,g1,g2⟩ :=rF r2 f2.tm hrs;simp only [aBi,VR]at g2;subst g2;have fm:=f2.mode;rw [hmo]at fm;simp only [MR]at fm;have fdd:=f2.defers;rw [hde]at fdd;rw [e3]at x;have hno:∀ {b o},¬ (⟨.leaf,0⟩ :Hp).look b=some o:=fun {b o} e=>by simp [Hp.look,T.at_leaf]at e
             refine⟨.returned (.bool b),w',g,⟨rfl,⟨x.os,x.output,fun i hi=>?_⟩,x.froz,x.size⟩,s2,by rw [f2.fn,hfn],fm,fdd.nil_inv,by rw [f2.kind,hkd],fd,by rw [f2.fn];exact hfd,g1⟩;have:=x.keep i hi (fun b o L e=>absurd e hno);rw [this];cases w.heap[i]? with
             |none=>rfl
             |some ob=>cases ob<;>simp
           ·cases h0
         ·cases h0
       ·cases h0
     ·cases h0
   ·cases hb
 ·cases hb
theorem aE4 {f : Nat} {args : List AV} {is : List Ins}{b:Bool}{ps:List Prop}{cargs:List Value}{t:TS}(hb:kR P f=true)(hk:keylessL args=true)(hl0:LeadsM P 0 (start P f args).as t.as)(h0:aUB P is t=some (.bool b,f,ps))(hps:AllP ps)(w:World)(hv:VRs (embOf w) args cargs) :
  Calls P f ⟨cargs⟩ w fun e w'=>e= .returned (.bool b) ∧GrownO w w':=by
 intro base;unfold kR at hb;split at hb
 · rename_i fn hf;split at hb
   · rename_i c hc;have hg:cJ P f args .normal=some ⟨f,dB .leaf 0 args,max fn.ntmps args.length,[.code c],[],.run,.normal,none⟩ :=by simp [cJ,hf,hc]
     have fr':FR (embOf w) _ (Frame.enter P f ⟨cargs⟩ .normal) :=iD hg hv;have f1:FR (embOf w) (start P f args).as.fr (Frame.enter P f ⟨cargs⟩ .normal) :=by
      have e1: (start P f args).as.fr= ⟨f,mkT ((range args.length).zip args),max fn.ntmps args.length,[.code c],[],.run,.normal,none⟩ :=by simp [start,hf,hc,TS.as,TF.fr]
      rw [e1];refine⟨fr'.fn,⟨fr'.tm.1,fun t a e=>?_⟩,fr'.todo,fr'.defers,fr'.mode,fr'.kind,fr'.round⟩;have h1:=aCm (yQ e);have hlt:= (List.getElem?_eq_some_iff.1 h1).1;have h2: (dB .leaf 0 args).at t=some a:=by
       unfold dB;rw [cD,if_pos hlt];exact h1
      exact fr'.tm.2 t a h2
     have e2 : (start P f args).as.cs = [] := by unfold start;split; · split<;>rfl
                                                 ·rfl
     have e3 : (start P f args).as.h = ⟨.leaf, 0⟩ := by unfold start;split; · split<;>rfl
                                                        ·rfl
     unfold aUB at h0;split at h0
     · rename_i s1 qs h1;split at h0
       · rename_i hcs hkd hmo hro hde;split at h0
         · rename_i fd hfd;split at h0
           · rename_i v hrs;simp only [Option.some.injEq,Prod.mk.injEq]at h0;obtain⟨rfl,hfn,rfl⟩ :=h0;have hl:LeadsM P 0 (start P f args).as s1:=hl0.trans (jP h1 (fun p hpp=>hps.mem p hpp));obtain⟨E',g,ccs,w',s2,f2,fs2,r2,x⟩ :=hl (by rw [e3];exact Nat.le_refl _) (embOf w) _ [] w base f1 (by rw [e2];rfl) (by rw [e3];exact aIF w);rw [hcs]at fs2;have:=fs2.nil_inv;subst this;obtain⟨cv,g1,g2⟩ :=rF r2 f2.tm hrs;simp only [aBi,VR]at g2;subst g2;have fm:=f2.mode;rw [hmo]at fm;simp only [MR]at fm;have fdd:=f2.defers;rw [hde]at fdd;rw [e3]at x;have hno:∀ {b o},¬ (⟨.leaf,0⟩ :Hp).look b=some o:=fun {b o} e=>by simp [Hp.look,T.at_leaf]at e
             refine⟨.returned (.bool b),w',g,⟨rfl,⟨x.os,x.output,fun i hi=>?_⟩,x.froz,x.size⟩,s2,by rw [f2.fn,hfn],fm,fdd.nil_inv,by rw [f2.kind,hkd],fd,by rw [f2.fn];exact hfd,g1⟩;have:=x.keep i hi (fun b o L e=>absurd e hno);rw [this];cases w.heap[i]? with
             |none=>rfl
             |some ob=>cases ob<;>simp
           ·cases h0
         ·cases h0
       ·cases h0
     ·cases h0
   ·cases hb
 ·cases hb
end
structure PartOk (l:List LUnit) (c:List Con) :Prop where
 hl:l.length≤10
 good:∀u∈l,GoodU u
 cons:aGQ l=some c
 differ:cC (aN l) =true
 size:aR l≤300
 c20:c.length≤20
 n20: (zJ l).length≤20
section
variable {l :List LUnit} {c:List Con}
end
section
variable {p :Prog} (f:Fs p) {b:Int} (hb:b∈p.funs)
include f hb
end
section
variable {p :Prog} (hs:aJ p=true) (hr:aP p=true)
include hs hr
end
structure NamesOk (p:Prog) (l:List aB) :Prop where
 named:aRm p l=true
 short:∀s∈l,s.length≤30
section
variable {p :Prog} {l:List aB} (hs:aJ p=true) (hr:aP p=true) (hN:NamesOk p l)
include hN in
theorem NamesOk.len :l.length=p.funs.length:= (aBN hN.named).1
include hN in
theorem NamesOk.nodup :l.Nodup:=by
 have:= (aBN hN.named).2.1;unfold gJ at this;rw [and_eq_true]at this;exact(jX l).1 this.2
include hN in
theorem NamesOk.ok :∀s∈l,mJ s=true:=by
 have:= (aBN hN.named).2.1;unfold gJ at this;rw [and_eq_true,List.all_eq_true]at this;exact this.1
include hN in
theorem NamesOk.at {y:Int}(h0:0≤y)(h1:y<p.funs.length) :l[y.toNat]?=some (aSy l y) :=by
 have hl:=hN.len;unfold aSy;rw [List.getElem?_eq_getElem (by omega)];rfl
include hN in
theorem NamesOk.inj {y z:Int}(h0:0≤y)(h1:y<p.funs.length)(g0:0≤z)(g1:z<p.funs.length)(e:aSy l y=aSy l z) :y=z:=by
 have a:=hN.at h0 h1;have b:=hN.at g0 g1;rw [←e]at b;have hl:=hN.len;have:= (List.getElem?_inj (by omega) hN.nodup).1 (a.trans b.symm);omega
include hs hr hN
end
section
variable {p :Prog} {l:List aB} (hs:aJ p=true) (hr:aP p=true) (hN:NamesOk p l)
include hs hr hN
end
section
variable {p :Prog} {l:List aB} (hs:aJ p=true) (hr:aP p=true) (hN:NamesOk p l) (h10:p.funs.length≤10)
include hs hr hN h10
end
section
variable (l :List LUnit) (mf mh:List (aB×Int)) (od:List aB) (tw:Bool)
end
abbrev NlC :AObj:=.cells (putCells .leaf 0 [.nils]) 1 [] false
abbrev bGU (c0:AObj)(l:List LUnit)(mf mh:List (aB×Int))(od:List aB)(tw:Bool) :List (Nat×AObj×Bool) :=[(0,c0,false),(1,aJk,false),(2,aQ9 l 3 4 5 od tw,false),(3,MTb mf,true),(4,MTb mh,true),(5,aOp od,true)]
section
variable (l :List LUnit) (mf mh:List (aB×Int)) (od:List aB) (tw:Bool)
theorem bGV (hs:aCp PP (.enter 69 [.ilst 5 (map LUnit.av l) false]) (aD [] 0) (.ret (.ptr 0 0)) (aD (THp l mf mh od tw) 4)) :
  Spec PP (.enter 69 [.ilst 5 (map LUnit.av l) false]) (aD [(0,NlC,false),(1,aJk,false)] 2) (.ret (.ptr 2 0)) (aD (bGU NlC l mf mh od tw) 6) :=
 mW (m:=0) (ks:=[]) (n2:=2) (n3:=6) (v':=.ptr 2 0) (args':=[.ilst 5 (map LUnit.av l) false]) (lc:=[(0,NlC,false),(1,aJk,false)]) (lc':=bGU NlC l mf mh od tw)
  hs (by rfl) (by rfl) (by kernel_rfl) (by rfl) (by rfl) (by kernel_rfl) (by kernel_rfl) trivial (by kernel_rfl) ⟨zR _,zR _,aFn _,trivial⟩
end
section
variable {l :List LUnit} {c1:List Con} {nm:aB}
end
section
variable {l1 l2:List LUnit} {c1 c2:List Con} {n1 n2:aB}
theorem aOH (l m:List LUnit) :aN (l++m) =aN l++aN m:=by simp [aN]
end
section
variable {P :Program}
theorem aOI {t:TypeId}{b e o n:Nat}(hu:xB P t e=true){kk:IntKind}{k:Int}(h0:0≤k)(h1:k.toNat≤n) :
  aH5 P t (.gl b e o n false) (some (.int kk k)) none (.gl b e (o+k.toNat) (n-k.toNat) false) :=by
 refine⟨_,_,_,aAg h0,jS,jS,.inr ⟨?_,?_⟩⟩
 ·unfold pU;split<;>simp_all
 · unfold xJ;simp only [hu,cond,Option.getD_some,Option.getD_none];rw [if_pos ⟨h1,Nat.le_refl _⟩];simp
theorem bFO {α:Type}{f:α→AV}{l:List α}{k:Nat}(h:k≤l.length) :k+ (l.length-k) ≤ (map f l).length:=by simp;omega
theorem bFP {α:Type}{f:α→AV}{l x:List α}{k:Nat}:take (l.length-k) (drop k (map f l)) ++map f x=map f (drop k l++x) :=by
 rw [List.take_of_length_le (by simp),List.map_append,List.map_drop]
theorem bFQ {α:Type}{f:α→AV}{l x:List α}{k:Nat}: (l.length-k) + (map f x).length= (drop k l++x).length:=by simp
end
abbrev aD8 (a:List LUnit)(b:Int):AV:=.gl 11 1 0 (set (replicate a.length false) b.toNat true).length true
abbrev aRn:AV:=.tup [(.ilst 1 (jI ([] :List Int)) true),(nI 7)]
abbrev aD9 (a:List Bool)(b:Int):AV:=.gl 11 1 0 (set a b.toNat true).length true
abbrev aEa (a:Nat)(b:List (aB×Int)):Nat×AObj×Bool:=(a,(.map (aU aH aY 0 b) b.length),true)
abbrev aBO (a:List LUnit):AV:=.ilst 5 (map LUnit.av a) false
abbrev bFR:AV:=.iface 174 (.agg [(nI 2)])
def bEQ(a:List LUnit):TS:=cQ PP 21 [(aBO a)] [] 0
def aSz(a:List LUnit):TS:=cQ PP 21 [(aBO a)] [] 0
def aHD(i:List LUnit)(j:Int)(k:Bool)(a:List Int)(b:List Bool)(c d:List (aB×Int))(e:List aB)(f:Nat)(g:List Int):TS:=⟨(tf 153 51 [(0,(.yield 0)),kp 1 1,kp 5 2,(6,(.func 154 [] [(.ptr 1 0),(.ptr 3 0),(.ptr 2 0)]))] [kc f153 124,kl f153 124,.inBlock 0]),[(tf 152 13 [kp 2 4,(4,.nils)] [.inRF 0,.inBlock 0,kc f152 7] (defers:=[.col 5])),(tf 92 5 [(2,.nils),(3,(.func 153 [] [(.ptr 1 0),(.ptr 6 0)]))] [ko f92 6 1,kc f92 7]),(tf 21 31 [kp 2 7,kp 3 8,(29,(.func 153 [] [(.ptr 1 0),(.ptr 6 0)]))] [ko f21 126 3,kc f21 127] (defers:=[.fn 44 [(.ptr 8 0),(.func 91 [] [(.ptr 7 0)])]]))],[(0,(.loop .ready none 152 (mkT [kp 2 4]) 13 [7] (kd f152 52) (kd f152 53) 5),false),oC 1 [(.ptr 9 0)],oC 2 [(.gl 10 1 f (a.length-f) false)],oC 3 [(.gl 11 1 0 b.length true)],oC 4 [(.gl 12 1 0 g.length false)],(5,(.defd false),false),oC 6 [(nI j)],oC 7 [.nils],oC 8 [(nI 0)],oC 9 [(aBO i),(.map 13),(.map 14),(.gl 15 1 0 e.length false),(bV k)],oL 10 1 (jI a),oL 11 1 (map eP b),oL 12 1 (jI g),(aEa 13 c),(aEa 14 d),oL 15 1 (map aH e)],16⟩
def aEb(i:List LUnit)(j:List aB)(k l:Int)(m:Bool)(a:List Int)(b:List Bool)(c:List Int)(d e:List (aB×Int))(f:List aB)(n:Int)(g:Nat):TS:=⟨(tf 153 51 [(0,(.yield 0)),kp 1 1,kp 5 2,(6,(.func 154 [] [(.ptr 1 0),(.ptr 3 0),(.ptr 2 0)])),(39,(iS j)),(40,(nI k)),(41,(nI n))] [kc f153 15956,kl f153 15956,.inBlock 2,kc f153 1995,.inBlock 1,kl f153 124,.inBlock 0]),[(tf 152 13 [kp 2 4,(4,.nils)] [.inRF 0,.inBlock 0,kc f152 7] (defers:=[.col 5])),(tf 92 5 [(2,.nils),(3,(.func 153 [] [(.ptr 1 0),(.ptr 6 0)]))] [ko f92 6 1,kc f92 7]),(tf 21 31 [kp 2 7,kp 3 8,(29,(.func 153 [] [(.ptr 1 0),(.ptr 6 0)]))] [ko f21 126 3,kc f21 127] (defers:=[.fn 44 [(.ptr 8 0),(.func 91 [] [(.ptr 7 0)])]]))],[(0,(.loop .ready none 152 (mkT [kp 2 4]) 13 [7] (kd f152 52) (kd f152 53) 5),false),oC 1 [(.ptr 9 0)],oC 2 [(.gl 10 1 g (a.length-g) false)],oC 3 [(.gl 11 1 0 b.length true)],oC 4 [(.gl 12 1 0 c.length false)],(5,(.defd false),false),oC 6 [(nI l)],oC 7 [.nils],oC 8 [(nI 0)],oC 9 [(aBO i),(.map 13),(.map 14),(.gl 15 1 0 f.length false),(bV m)],oL 10 1 (jI a),oL 11 1 (map eP b),oL 12 1 (jI c),(aEa 13 d),(aEa 14 e),oL 15 1 (map aH f)],16⟩
def bDc (a:List LUnit):=fun b=>(tT 0 (bEQ a)<|gK 13 (.enter 69 [(aBO a)]) [oC 0 [.nils],oC 1 [(nI 0)]] 2 [(bFR,false)] [oC 0 [.nils],oC 1 [(nI 0)]] 2<|.i [rn 43,.cnilI 0 0 1] []<|gE 0 3 (.tup [(.ilst 1 (jI ([] :List Int)) true),(nI 2)])) b tv
def aL2(a:List LUnit):=tT 0 (aSz a)<|.y fun e:List (aB×Int)=>.y fun c:List (aB×Int)=>.y fun f:List aB=>.y fun d:Bool=>gk 13 (.enter 69 [(aBO a)]) [oC 0 [.nils],oC 1 [(nI 0)]] 2 (.ptr 2 0) [oC 0 [.nils],oC 1 [(nI 0)],oC 2 [(aBO a),(.map 3),(.map 4),(.gl 5 1 0 f.length false),(bV d)],(aEa 3 e),(aEa 4 c),oL 5 1 (map aH f)] 6<|.o (.y fun b:Int=>.i [rn 8,.ans (.look (some (sF (strOf [109,97,105,110]) c,(aY b))))] [.a (dE (strOf [109,97,105,110]) c=some b) (p':=eQ (aH (strOf [109,97,105,110])) (aU aH aY 0 c) 0=some (some (sF (strOf [109,97,105,110]) c,(aY b)))) (mT eZ)]<|.b 13 22 d (.i [rn 58,.cnilI 0 0 1] []<|gE 0 7 aRn)<|.i [rn 52,.lkeep 10 [2]] []<|gl 6 LUnit.av a<|.i [.mk a.length] [hr (a.length:Int),hr (a.length:Int),hA (a.length<100000)]<|.i [.lset 11 (map eP (replicate a.length false))] [.q (p:=replicate a.length (eP false) = (map eP (replicate a.length false))) (aCv _ _ _)]<|.i [.set 14 (.gl 11 1 0 (replicate a.length false).length true)] [.q (p:=(AV.gl 11 1 0 a.length true) = (.gl 11 1 0 (replicate a.length false).length true)) (bD (List.length_replicate ..).symm)]<|.i [rn 14,.ans (.ix)] [hA (0≤b),hA (b< (((replicate a.length false).length:Nat) :Int))]<|.y fun g:Bool=>.i [.st (eP g) (eP true)] [.a ((((replicate a.length false))[b.toNat]?) =some g) (dN (f:=eP)),hr (some (eP true))]<|.i [.lset 11 (map eP (set (replicate a.length false) b.toNat true))] [.q (p:=(map eP (replicate a.length false)).set (0+b.toNat) (eP true) = (map eP (set (replicate a.length false) b.toNat true))) (iF _ _ _ _)]<|.i [.set 14 (aD8 a b)] [.q (p:=(AV.gl 11 1 0 (replicate a.length false).length true) = (aD8 a b)) (bD (length_set ..).symm)]<|.i [.set 17 (aD8 a b)] [.q (p:=(AV.gl 11 1 0 (replicate a.length false).length true) = (aD8 a b)) (bD (length_set ..).symm)]<|.i [.cset 12 0 (aD8 a b)] [.q (p:=(AV.gl 11 1 0 (replicate a.length false).length true) = (aD8 a b)) (bD (length_set ..).symm)]<|.i [rn 2,.ctoL 14 0 false [(nI b)]] [hr (some [(nI b)]),hr true]<|gu 0 13 (jI [b])<|gv 0 14 0 (.gl 13 1 0 [b].length true)<|.i [.cweak 14 0] []<|.i [rn 6,.cnil 8 0 1] []<|gu 0 15 (jI ([] :List Int))<|gv 0 8 0 (.gl 15 1 0 ([] :List Int).length false)<|.W 0 16 [10,6,14,12,8,9,7,0,1,2,13,11,15,3,4,5] (aHD a b d [b] (set (replicate a.length false) b.toNat true) e c f 0 ([] :List Int)))<|.i [rn 8,.ans (.look none)] [.a (dE (strOf [109,97,105,110]) c=none) (p':=eQ (aH (strOf [109,97,105,110])) (aU aH aY 0 c) 0=some none) (mS eZ)]<|.b 13 22 d (.i [rn 58,.cnilI 0 0 1] []<|gE 0 7 aRn)<|.i [rn 58,.cnilI 0 0 1] []<|gE 0 7 aRn
def bDd:=fun a b c d e f g i j=>aL2 a b c d e g|>.1 f i|>.t j tv
def bDe:=fun a b c d e f g i j k l m n o=>aL2 a b c d e i|>.1 f j|>.f k l m n g o ⟨kk,⟨kk,⟨kk,⟨aM (fun _=>rfl) (fun _=>rfl) _ _ _,⟨aM (fun _=>rfl) (fun _=>rfl) _ _ _,⟨kk,trivial⟩⟩⟩⟩⟩⟩
def bDf:=fun a b c d e f g i=>aL2 a b c d e f|>.2 g|>.t i tv
def bDg:=fun a b c d e f g i=>aL2 a b c d e f|>.2 g|>.f i tv
def aYN(f:List LUnit)(g:Int)(i:Bool)(b:List Int)(j:List Bool)(k l:List (aB×Int))(m:List aB)(c:Nat)(e:List Int):=tT 0 (aHD f g i b j k l m c e)<|gd 7 23 ((((b.length-c) :Nat) :Int) >0) (.i [rn 8,.ans (.ix)] [hA (0≤ (0:Int)),hA ((0:Int) < (((b.length-c) :Nat) :Int))]<|.y fun a:Int=>.i [aI (aY a)] [.a (((b)[(c+ (0:Int).toNat)]?) =some a) (bS (f:=aY))]<|ga 10 aY e [a]<|.y fun d:LUnit=>.i [rn 10,.reg (rd 5 [.ans (.ix),.ans (.idx (aY a)),.ans (.idx (LUnit.av d)),.d,.d,.ans (.len (d.needs.length:Int)),.d])] [hA (0≤ (0:Int)),hA ((0:Int) < (((b.length-c) :Nat) :Int)),.a (((b)[(c+ (0:Int).toNat)]?) =some a) (bS (f:=aY)),hA (0≤a),.a (((f)[a.toNat]?) =some d) (bS (f:=LUnit.av)),hl aH d.needs]<|.W 2 18 [0,1,2,3,4,5,6,7,8,9,10,11,17,13,14,15] (aEb f d.needs (d.needs.length:Int) g i b j (e++ [a]) k l m 0 c))<|gy 39 7 0 12 1 aY e false<|gE 0 16 (.tup [(iI e),(nI 0)])
def bDh:=fun d e f g i j k l m n o p q a b c r s t=>aYN d e f g i j k l m n|>.t q a b o c r p a b c s t ⟨kk,⟨kk,⟨kk,⟨aM (fun _=>rfl) (fun _=>rfl) _ _ _,⟨aM (fun _=>rfl) (fun _=>rfl) _ _ _,⟨kk,trivial⟩⟩⟩⟩⟩⟩
def bDi:=fun a b c d e f g i j k l=>aYN a b c d e f g i j k|>.f l tv
def aL3(i:List LUnit)(j:List aB)(k l:Int)(m:Bool)(d:List Int)(c:List Bool)(n:List Int)(o e:List (aB×Int))(p:List aB)(f:Int)(b:Nat):=tT 0 (aEb i j k l m d c n o e p f b)<|gd 5 42 (f<k) (gX aH 6 j f<|fun g=>.o (.y fun a:Int=>.i [rn 14,.ans (.look (some (sF g e,(aY a))))] [.a (dE g e=some a) (p':=eQ (aH g) (aU aH aY 0 e) 0=some (some (sF g e,(aY a)))) (mT eZ)]<|.i [rn 12,.ans (.ix)] [hA (0≤a),hA (a< (c.length:Int))]<|.y fun q:Bool=>gj eP 0 c a.toNat q<|.b 3 23 (!q) (.i [rn 5,.ans (.ix)] [hA (0≤a),hA (a< (c.length:Int))]<|.i [.st (eP q) (eP true)] [.a (((c)[a.toNat]?) =some q) (dN (f:=eP)),hr (some (eP true))]<|.i [.lset 11 (map eP (set c a.toNat true))] [.q (p:=(map eP c).set (0+a.toNat) (eP true) = (map eP (set c a.toNat true))) (iF _ _ _ _)]<|.i [.set 18 (aD9 c a)] [.q (p:=(AV.gl 11 1 0 c.length true) = (aD9 c a)) (bD (length_set ..).symm)]<|.i [.set 24 (aD9 c a)] [.q (p:=(AV.gl 11 1 0 c.length true) = (aD9 c a)) (bD (length_set ..).symm)]<|.i [.cset 3 0 (aD9 c a)] [.q (p:=(AV.gl 11 1 0 c.length true) = (aD9 c a)) (bD (length_set ..).symm)]<|.i [rn 5,.app (jI (drop b d++ [a])) (drop b d++ [a]).length] [.a (b≤d.length) (p':=b+ (d.length-b) ≤length (jI d)) bFO,hA (length (drop b d++ [a]) ≤1000000),.q (p:=take (d.length-b) (drop b (jI d)) ++ (jI [a]) = (jI (drop b d++ [a]))) bFP,.q (p:=(d.length-b) +length (jI [a]) =length (drop b d++ [a])) bFQ]<|gw 8 48 (f+1)<|.W 3 18 [0,1,2,3,4,5,6,7,8,9,17,11,12,13,14,15] (aEb i j k l m (drop b d++ [a]) (set c a.toNat true) n o e p (f+1) 0))<|gw 8 48 (f+1)<|.W 3 16 [0,1,2,3,4,5,6,7,8,9,10,11,12,13,14,15] (aEb i j k l m d c n o e p (f+1) b))<|.i [rn 14,.ans (.look none)] [.a (dE g e=none) (p':=eQ (aH g) (aU aH aY 0 e) 0=some none) (mS eZ)]<|gw 25 48 (f+1)<|.W 3 16 [0,1,2,3,4,5,6,7,8,9,10,11,12,13,14,15] (aEb i j k l m d c n o e p (f+1) b))<|.i [rn 4,.ans (.ev (.gl 10 1 (b+1) ((d.length-b) -1) false))] [.a (1≤ (d.length-b)) (p':=aH5 PP 36 (.gl 10 1 b (d.length-b) false) (some (nI 1)) none (.gl 10 1 (b+1) ((d.length-b) -1) false)) (fun h=>(aOI (k:=1) (by kernel_rfl) (by decide) h))]<|.W 4 16 [0,1,2,3,4,5,6,7,8,9,10,11,12,13,14,15] (aHD i l m d c o e p (b+1) n)
def bDj:=fun d e f g i j k l m n o p q r s t u v w x a b c y z A B=>aL3 d e f g i j k l m n o p q|>.t u r v w|>.1 s x a b t c|>.t y a b c z A B ⟨kk,⟨kk,⟨kk,⟨aM (fun _=>rfl) (fun _=>rfl) _ _ _,⟨aM (fun _=>rfl) (fun _=>rfl) _ _ _,⟨kk,trivial⟩⟩⟩⟩⟩⟩
def bDk:=fun a b c d e f g i j k l m n o p q r s t u v w x y z=>aL3 a b c d e f g i j k l m n|>.t r o s t|>.1 p u v w q x|>.f y z ⟨kk,⟨kk,⟨kk,⟨aM (fun _=>rfl) (fun _=>rfl) _ _ _,⟨aM (fun _=>rfl) (fun _=>rfl) _ _ _,⟨kk,trivial⟩⟩⟩⟩⟩⟩
def bDl:=fun a b c d e f g i j k l m n o p q r s t=>aL3 a b c d e f g i j k l m n|>.t p o q r|>.2 s t ⟨kk,⟨kk,⟨kk,⟨aM (fun _=>rfl) (fun _=>rfl) _ _ _,⟨aM (fun _=>rfl) (fun _=>rfl) _ _ _,⟨kk,trivial⟩⟩⟩⟩⟩⟩
def bDm:=fun a b c d e f g i j k l m n o p=>aL3 a b c d e f g i j k l m n|>.f o p ⟨kk,⟨kk,⟨kk,⟨aM (fun _=>rfl) (fun _=>rfl) _ _ _,⟨aM (fun _=>rfl) (fun _=>rfl) _ _ _,⟨kk,trivial⟩⟩⟩⟩⟩⟩
theorem aJv (s:aB) :∀ (a b:List LUnit) (i:Nat),cA s (a++b) i=if aQ (aN a) s=true then cA s a i else cA s b (i+a.length)
 | [],b,i=>by rw [if_neg (by simp [aN,aQ])];rfl
 | u ::a,b,i=>by
  rw [List.cons_append,cA,cA,jG,iJ,aJv s a b (i+1),length_cons];by_cases e:aQ (aC u) s=true
  ·rw [if_pos e,if_pos (by rw [e];rfl),if_pos e]
  · rw [if_neg e,if_neg e];rw [not_eq_true]at e;rw [e,Bool.false_or,show i+1+a.length=i+ (a.length+1)by omega]
def HomI (q:List LUnit)(r:List aB)(mh:List (aB×Int)) :Prop:=∀s,dE s mh=if aQ (aN q) s=true then some (cA s q 0)else if aQ r s=true then some ((q.length:Nat) :Int)else none
theorem HomI.old {q:List LUnit}{r:List aB}{mh:List (aB×Int)}(h:HomI q r mh){s:aB}(e:aQ (aN q++r) s=true) :HomI q (r++ [s]) mh:=fun k=>by
 rw [h k];by_cases e1:aQ (aN q) k=true
 ·rw [if_pos e1,if_pos e1]
 · rw [if_neg e1,if_neg e1,iJ];by_cases e2:aQ r k=true
   ·rw [if_pos e2,if_pos (by rw [e2];rfl)]
   · rw [if_neg e2,if_neg];intro g;rw [not_eq_true]at e2 e1;rw [e2,Bool.false_or]at g;have:s=k:=by simpa [aQ]using g
     rw [this,iJ,e1,e2]at e;cases e
theorem HomI.new {q:List LUnit}{r:List aB}{mh:List (aB×Int)}(h:HomI q r mh){s:aB}(e:aQ (aN q++r) s=false) :HomI q (r++ [s]) (cB s ((q.length:Nat) :Int) mh) :=fun k=>by
 rw [iJ,Bool.or_eq_false_iff]at e;rw [qM,h k,iJ];by_cases ek:k=s
 · subst ek;rw [if_pos rfl,if_neg (by rw [e.1];simp),if_pos (by simp [aQ])]
 · rw [if_neg ek];have:aQ [s] k=false:=by simp [aQ,Ne.symm ek]
   rw [this,Bool.or_false]
theorem HomI.next {q:List LUnit}{u:LUnit}{mh:List (aB×Int)}(h:HomI q (aC u) mh) :HomI (q++ [u]) [] mh:=fun s=>by
 rw [h s,aJv,aOH,iJ,show aN [u] =aC u by simp [aN]];by_cases e1:aQ (aN q) s=true
 ·rw [if_pos e1,if_pos (by rw [e1];rfl),if_pos e1]
 · rw [if_neg e1,if_neg e1];rw [not_eq_true]at e1;rw [e1,Bool.false_or];by_cases e2:aQ (aC u) s=true
   ·rw [if_pos e2,if_pos e2,cA,if_pos e2];simp
   ·rw [if_neg e2,if_neg e2,if_neg (by simp [aQ])]
section
variable (l :List LUnit)
theorem aYO (u:LUnit)(hf:u.funs.length≤30)(q:List LUnit)(hi:q.length<1000) :∀ (t:List LFun) (k:Nat) (r:List aB) (tw:Bool) (m1 m2:List (aB×Int)),u.funs.drop k=t→ (aN q++r).length+t.length≤1000→TabI (aN q++r) tw m1 m2→HomI q r m2 →
  ∃tw' m1' m2',TabI (aN q++ (r++t.map LFun.name)) tw' m1' m2'∧HomI q (r++t.map LFun.name) m2'∧LeadsM PP 0 (aDP l u.funs ((u.funs.length:Nat) :Int) (k:Int) tw (aN q++r) m1 m2 (q.length:Int) (q.length:Int)).as (zO l ((q.length:Int) +1) tw' m1' m2' (aN q++ (r++t.map LFun.name))).as
 | [],k,r,tw,m1,m2,h,ho,ht,hh=>by
  have:=bA h;rw [List.map_nil,append_nil];exact⟨tw,m1,m2,ht,hh,aSl l u.funs _ k tw _ m1 m2 q.length q.length sd sd⟩
 | f::t,k,r,tw,m1,m2,h,ho,ht,hh=>by
  obtain⟨q1,q2,q3⟩ :=aZ h;simp only [length_cons]at ho;have g:=ht.f f.name;cases e:aQ (aN q++r) f.name
  case true=>
   rw [e,if_pos rfl]at g;have ht':=ht.old e;rw [append_assoc]at ht';obtain⟨tw',m1',m2',h1,h3,h2⟩ :=aYO u hf q hi t (k+1) (r++ [f.name]) true m1 m2 q2 (by simp at ho ⊢;omega) ht' (hh.old e);rw [append_assoc]at h1 h3;rw [append_assoc r [f.name]]at h2;have h0:= (aSj l u.funs ((u.funs.length:Nat) :Int) k tw (aN q++r) m1 m2 q.length q.length f _ sd sd sd g (by simp at ho ⊢;omega) sd);rw [append_assoc (aN q)]at h0;exact⟨tw',m1',m2',h1,h3,h0.trans h2⟩
  rw [e,if_neg (by simp)]at g;have ht':=ht.new e (q.length:Int);rw [append_assoc]at ht';obtain⟨tw',m1',m2',h1,h3,h2⟩ :=aYO u hf q hi t (k+1) (r++ [f.name]) tw (cB f.name (((aN q++r).length:Nat) :Int) m1) (cB f.name (q.length:Int) m2) q2 (by simp at ho ⊢;omega) ht' (hh.new e);rw [append_assoc]at h1 h3;rw [append_assoc r [f.name]]at h2;have h0:= (aSk l u.funs ((u.funs.length:Nat) :Int) k tw (aN q++r) m1 m2 q.length q.length f sd sd sd g (ht.h _ e) (by simp at ho ⊢;omega) sd);rw [append_assoc (aN q)]at h0;exact⟨tw',m1',m2',h1,h3,h0.trans h2⟩
theorem bER (hl:l.length≤10)(hu:∀u∈l,FewU u∧NumU u)(hg:l.all jJ=true) :∀ (t q:List LUnit) (tw:Bool) (m1 m2:List (aB×Int)),l=q++t→ (aN q).length≤30*q.length→TabI (aN q) tw m1 m2→HomI q [] m2 →
  ∃tw' mf mh,TabI (aN l) tw' mf mh∧HomI l [] mh∧Ends PP 0 (zO l (q.length:Int) tw m1 m2 (aN q)).as (.ret (.ptr 0 0)) (aD (THp l mf mh (aN l) tw') 4)
 | [],q,tw,m1,m2,h,ho,ht,hh=>by
  rw [append_nil]at h;subst h;exact⟨tw,m1,m2,ht,hh,aSi l l.length tw m1 m2 (aN l) sd⟩
 | u::t,q,tw,m1,m2,h,ho,ht,hh=>by
  have q1:l[q.length]?=some u:=by rw [h,List.getElem?_append_right (Nat.le_refl _)];simp
  have hlen:q.length<l.length:= (List.getElem?_eq_some_iff.1 q1).1;have hm:=List.mem_of_getElem? q1;have hf:= (hu u hm).1.f;have hp:=aOn u (hu u hm).1 (hu u hm).2;rw [List.all_eq_true.1 hg u hm]at hp;have ht0:TabI (aN q++ []) tw m1 m2:=by rw [append_nil];exact ht
  obtain⟨tw',m1',m2',h1,h3,h2⟩ :=aYO l u hf q (by omega) u.funs 0 [] tw m1 m2 rfl (by simp;omega) ht0 hh;have h0:=aSh l q.length tw m1 m2 (aN q) u true sd sd sd hp rfl;rw [List.nil_append]at h1 h2 h3;rw [append_nil]at h2;have eA:aN (q++ [u]) =aN q++u.funs.map LFun.name:=by rw [aOH];simp [aN,aC]
  have eL: ((q.length:Int) +1) = (((q++ [u]).length:Nat) :Int) :=by simp
  rw [←eA]at h1 h2;rw [eL]at h2;obtain⟨tw2,mf,mh,g1,g2,g3⟩ :=bER hl hu hg t (q++ [u]) tw' m1' m2' (by rw [h];simp) (by rw [eA];simp;omega) h1 h3.next
  exact⟨tw2,mf,mh,g1,g2,h0.ends (h2.ends g3)⟩
theorem bFS (hu:∀u∈l,FewU u∧NumU u)(h:gR l=true) :∃mf mh,TabI (aN l) (!cC (aN l)) mf mh∧HomI l [] mh ∧
  aCp PP (.enter 69 [.ilst 5 (map LUnit.av l) false]) (aD [] 0) (.ret (.ptr 0 0)) (aD (THp l mf mh (aN l) (!cC (aN l))) 4) :=by
 simp only [gR,and_eq_true,decide_eq_true_eq]at h;obtain⟨tw,mf,mh,h1,h3,h2⟩ :=bER l h.1 hu h.2 l [] false [] [] rfl (by simp [aN]) TabI.nil (fun s=>by simp [dE,aQ,aN]);have e:=h1.tw;subst e;refine⟨mf,mh,h1,h3,?_⟩
 suffices hh:Ends PP 0 (aOo l).as (.ret (.ptr 0 0)) (aD (THp l mf mh (aN l) (!cC (aN l))) 4)from⟨(aOo l).as.fr,by kernel_rfl,Eq.mp (by kernel_rfl) hh⟩
 exact(aLH l (by simp;omega)).ends h2
end
def addN (l:List LUnit)(O:List Int)(s:aB) :List Int:=if cA s l 0<0∨cA s l 0∈O then O else O++ [cA s l 0]
def oR (l:List LUnit) :List Int→List aB→List Int
 |O,[] =>O
 |O,s::t=>oR l (addN l O s) t
def rV (l:List LUnit)(n:Int) :List aB:= ((l[n.toNat]?).map LUnit.needs).getD []
def aBP (l:List LUnit) :Nat→List Int→Nat→List Int
 |0,O,_=>O
 | f+1,O,i=>match O[i]? with
  |none=>O
  |some n=>aBP l f (oR l O (rV l n)) (i+1)
theorem zX (s:aB) :∀ (l:List LUnit) (i:Nat),cA s l i< ((i+l.length:Nat) :Int)
 | [],i=>by simp [cA];omega
 | u ::l,i=>by
  rw [cA];split
  ·simp;omega
  · have:=zX s l (i+1);simp only [length_cons];omega
structure InU (l:List LUnit) (O:List Int) :Prop where
 nd:O.Nodup
 r:∀n∈O,0≤n∧n< (l.length:Int)
theorem InU.len {l:List LUnit}{O:List Int}(h:InU l O) :O.length≤l.length:=by
 have:=mX l.length (O.map Int.toNat) (by
  rw [List.nodup_iff_pairwise_ne];refine List.pairwise_map.2 ((List.nodup_iff_pairwise_ne.1 h.nd).imp_of_mem (fun {a b} ha hb hne e=>hne ?_));have:=h.r a ha;have:=h.r b hb
  omega) (fun x hx=>by
   obtain⟨n,hn,rfl⟩ :=List.mem_map.1 hx;have:=h.r n hn;omega)
 simpa using this
theorem InU.add {l:List LUnit}{O:List Int}(h:InU l O)(s:aB) :InU l (addN l O s) :=by
 unfold addN;split
 ·exact h
 · rename_i g;rw [not_or]at g;have hlt:=zX s l 0;refine⟨?_,fun n hn=>?_⟩
   · rw [List.nodup_append];refine⟨h.nd,by simp,fun a ha b hb e=>?_⟩;rw [List.mem_singleton.1 hb]at e;exact g.2 (e ▸ ha)
   · rcases List.mem_append.1 hn with k|k
     ·exact h.r n k
     ·rw [List.mem_singleton.1 k];omega
theorem InU.all {l:List LUnit}:∀ (t:List aB) {O:List Int},InU l O→InU l (oR l O t)
 | [],O,h=>h
 |s::t,O,h=>InU.all t (h.add s)
def SeenI (l:List LUnit)(b:List Bool)(O:List Int) :Prop:=b.length=l.length∧∀j,j<l.length→b[j]?=some (decide ((j:Int) ∈O))
theorem SeenI.new {l:List LUnit}{b:List Bool}{O:List Int}(h:SeenI l b O){n:Int}(h0:0≤n)(h1:n<l.length) :SeenI l (set b n.toNat true) (O++ [n]) :=by
 refine⟨by rw [length_set];exact h.1,fun j hj=>?_⟩;by_cases e:n.toNat=j
 · subst e;rw [List.getElem?_set_self (by rw [h.1];exact hj)];have: ((n.toNat:Nat) :Int) =n:=by omega
   rw [this];simp
 · rw [List.getElem?_set_ne e,h.2 j hj];congr 1;have: (j:Int) ≠n:=by omega
   simp [this]
section
variable (l :List LUnit) (mf mh:List (aB×Int)) (od:List aB) (m:Int) (tw:Bool)
theorem aSA (hh:HomI l [] mh)(hl:l.length≤10)(ns:List aB)(hn:ns.length≤1000)(y:Int)(P:List Int) :∀ (t:List aB) (j:Nat) (L:List Int) (b:List Bool) (k:Nat) (T:List Int),ns.drop j=t→L.drop k=y::T→SeenI l b (P++T) →InU l (P++T) →
  ∃L' b' k' T',L'.drop k'=y::T'∧P++T'=oR l (P++T) t∧SeenI l b' (P++T') ∧LeadsM PP 0 (aEb l ns ((ns.length:Nat) :Int) m tw L b P mf mh od (j:Int) k).as (aHD l m tw L' b' mf mh od (k'+1) P).as
 | [],j,L,b,k,T,h,hd,hS,hI=>by
  have:=bA h;have hlk:k<L.length:=by
   have:=congrArg length hd;simp at this;omega
  exact⟨L,b,k,T,hd,rfl,hS,bDm l ns _ m tw L b P mf mh od j k sd (by omega)⟩
 | s :: t,j,L,b,k,T,h,hd,hS,hI=>by
  obtain⟨q1,q2,q3⟩ :=aZ h;have hw:IntKind.i64.wrap ((j:Int) + (1:Int)) = (j:Int) + (1:Int) :=by apply wrap64<;>omega
  have hm:=hh s;rw [oR];by_cases e:aQ (aN l) s=true
  · rw [if_pos e]at hm;have h0:¬cA s l 0<0:=fun g=>by rw [(iK s l 0).1 g]at e;cases e
    have h1:=zX s l 0;rw [Nat.zero_add]at h1;have hb:=hS.2 (cA s l 0).toNat (by omega);rw [show(((cA s l 0).toNat:Nat) :Int) =cA s l 0 by omega]at hb;have hbl:=hS.1;by_cases g:cA s l 0∈P++T
    · rw [decide_eq_true g]at hb;have ea:addN l (P++T) s=P++T:=by unfold addN;rw [if_pos (.inr g)]
      rw [ea];obtain⟨L',b',k',T',r1,r2,r3,r4⟩ :=aSA hh hl ns hn y P t (j+1) L b k T q2 hd hS hI;exact⟨L',b',k',T',r1,r2,r3,(bDk l ns _ m tw L b P mf mh od j k s _ true sd sd sd hm (by omega) (by omega) hb rfl hw).trans r4⟩
    · rw [decide_eq_false g]at hb;have ea:addN l (P++T) s=P++ (T++ [cA s l 0]) :=by unfold addN;rw [if_neg (fun x=>x.elim h0 g),append_assoc]
      have hI2:=hI.add s;rw [ea]at hI2 ⊢;have hS2:=hS.new (n:=cA s l 0) (by omega) h1;rw [append_assoc]at hS2;have hkl:k≤L.length:=by
       have:=congrArg length hd;simp at this;omega
      have hTl:=hI2.len;obtain⟨L',b',k',T',r1,r2,r3,r4⟩ :=aSA hh hl ns hn y P t (j+1) (drop k L++ [cA s l 0]) (set b (cA s l 0).toNat true) 0 (T++ [cA s l 0]) q2 (by rw [List.drop_zero,hd];rfl) hS2 hI2;exact⟨L',b',k',T',r1,r2,r3,(bDj l ns _ m tw L b P mf mh od j k s _ false sd sd sd hm (by omega) (by omega) hb rfl hkl (by rw [hd];simp at hTl ⊢;omega) hw).trans r4⟩
  · rw [if_neg e,if_neg (by simp [aQ])]at hm;rw [not_eq_true]at e;have ea:addN l (P++T) s=P++T:=by unfold addN;rw [if_pos (.inl ((iK s l 0).2 e))]
    rw [ea];obtain⟨L',b',k',T',r1,r2,r3,r4⟩ :=aSA hh hl ns hn y P t (j+1) L b k T q2 hd hS hI;exact⟨L',b',k',T',r1,r2,r3,(bDl l ns _ m tw L b P mf mh od j k s sd sd sd hm hw).trans r4⟩
theorem bES (hh:HomI l [] mh)(hl:l.length≤10)(hn:∀u∈l,u.needs.length≤1000) :∀ (f i:Nat) (P T L:List Int) (b:List Bool) (k:Nat),P.length=i→l.length≤i+f→L.drop k=T→SeenI l b (P++T) →InU l (P++T) →
  Ends PP 0 (aHD l m tw L b mf mh od k P).as (.ret (.tup [.ilst 1 (map aY (aBP l f (P++T) i)) false,.int .i64 0])) (aD [] 0)
 | f,i,P,[],L,b,k,hi,hf,hd,hS,hI=>by
  have hlk:L.length-k=0:=by
   have:=congrArg length hd;simpa using this
  have e:aBP l f (P++ []) i=P:=by
   rw [append_nil];cases f with
   |zero=>rfl
   |succ f=>rw [aBP,List.getElem?_eq_none (by omega)]
  rw [e];exact bDi l m tw L b mf mh od k P (decide_eq_false (by omega))
 | 0,i,P,y::T,L,b,k,hi,hf,hd,hS,hI=>by
  have:=hI.len;simp at this;omega
 | f+1,i,P,y::T,L,b,k,hi,hf,hd,hS,hI=>by
  obtain⟨q1,q2,q3⟩ :=aZ hd;have hy:=hI.r y (by simp);have hlen:=hI.len;simp only [List.length_append,length_cons]at hlen;obtain⟨u,hu⟩ :∃u,l[y.toNat]?=some u:= ⟨_,List.getElem?_eq_getElem (by omega)⟩;have hun:=hn u (List.mem_of_getElem? hu);have eO:P++y::T= (P++ [y]) ++T:=by simp
  have e1:aBP l (f+1) (P++y::T) i=aBP l f (oR l (P++y::T) u.needs) (i+1) :=by
   rw [aBP,List.getElem?_append_right (by omega)];simp only [hi,Nat.sub_self,List.getElem?_cons_zero];unfold rV;rw [hu];rfl
  rw [e1];have h0:=bDh l m tw L b mf mh od k P y u (decide_eq_true (by omega)) (by decide) (by omega) (by simpa using q1) (by simp;omega) hy.1 hu;rw [eO]at hS hI ⊢;obtain⟨L',b',k',T',r1,r2,r3,r4⟩ :=aSA l mf mh od m tw hh hl u.needs hun y (P++ [y]) u.needs 0 L b k T rfl hd hS hI;have hI':=InU.all u.needs hI;rw [←r2]at hI';obtain⟨_,z2,_⟩ :=aZ r1;have ih:=bES hh hl hn f (i+1) (P++ [y]) T' L' b' (k'+1) (by simp;omega) (by omega) z2 r3 hI';rw [r2]at ih;exact h0.ends (r4.ends ih)
end
def wJ (l:List LUnit) :List Int×Int:=
 if gR l=true then(if cC (aN l) =true∧¬cA cV l 0<0 then(aBP l l.length [cA cV l 0] 0,0)else([],7))else([],2)
theorem aSB {E:Emb}{n:Nat}{e:Int}{cv:Value}(h:VR E (.tup [.ilst n [] true,.int .i64 e]) cv) :VR E (.tup [.ilst n [] false,.int .i64 e]) cv:=by
 simp only [VR]at h ⊢;obtain⟨us,h1,h2⟩ :=h;obtain⟨u,us',rfl,h3,h4⟩ :=h2.cons_inv;exact⟨_,h1,VRs.cons (pJ h3) h4⟩
theorem aYP {l:List LUnit}{n:Int}(h0:0≤n)(h1:n<l.length) :InU l [n] := ⟨by simp,fun x hx=>by rw [List.mem_singleton.1 hx];exact⟨h0,h1⟩⟩
section
variable (l :List LUnit)
theorem aL4 (hl:l.length≤11)(hu:∀u∈l,FewU u∧NumU u) :Pure PP 21 [.ilst 5 (map LUnit.av l) false] (.tup [.ilst 1 (map aY (wJ l).1) false,.int .i64 (wJ l).2]) :=by
 unfold wJ;by_cases h:gR l=true
 · rw [if_pos h];obtain⟨hl10,hg⟩ :=vW (fun u h=> (hu u h).1) h;obtain⟨mf,mh,ht,hh,hs⟩ :=bFS l hu h;have s0:=bGV l mf mh _ _ hs;have hm:=hh cV;have err:∀e:Int,Ends PP 0 (aSz l).as (.ret (.tup [.ilst 1 (map aY ([] :List Int)) true,.int .i64 e])) (aD [] 0) →Pure PP 21 [.ilst 5 (map LUnit.av l) false] (.tup [.ilst 1 (map aY ([] :List Int)) false,.int .i64 e]) :=fun e h=>
    aDA (dP (s:=aSz l) (by kernel_rfl) (by kernel_rfl) (by simp [keylessL,keyless]) (by simp [keylessL,keyless]) h) (fun E cv hv=>aSB hv)
   by_cases e:aQ (aN l) cV=true
   · rw [if_pos e]at hm;have hn:¬cA cV l 0<0:=fun g=>by rw [(iK cV l 0).1 g]at e;cases e
     have hlt:=zX cV l 0;rw [Nat.zero_add]at hlt;cases hd:cC (aN l)
     case false=>
      rw [hd]at s0;rw [if_neg (fun g=>by cases g.1)];exact err 7 (bDd l mf mh (aN l) true _ s0 hm rfl)
     rw [hd]at s0;rw [if_pos ⟨rfl,hn⟩];have hr: (replicate l.length false)[(cA cV l 0).toNat]?=some false:=by
      rw [List.getElem?_replicate,if_pos (by omega)]
     have h1:=bDe l mf mh (aN l) false _ false s0 hm rfl (by omega) (by omega) (by simp;omega) hr;have hS0:SeenI l (replicate l.length false) [] := ⟨by simp,fun j hj=>by rw [List.getElem?_replicate,if_pos hj];simp⟩;have hS:=hS0.new (n:=cA cV l 0) (by omega) hlt;have h2:=bES l mf mh (aN l) (cA cV l 0) false hh hl10 (fun u h=>by have:= (hu u h).1.n;omega) l.length 0 [] [cA cV l 0] [cA cV l 0] _ 0 rfl (by omega) rfl hS (aYP (by omega) hlt);exact dP (s:=aSz l) (by kernel_rfl) (by kernel_rfl) (by simp [keylessL,keyless]) (by simp [keylessL,keyless]) (h1.ends h2)
   · rw [if_neg e,if_neg (by simp [aQ])]at hm;rw [not_eq_true]at e;rw [if_neg (fun g=>g.2 ((iK cV l 0).2 e))];cases hd:cC (aN l)
     case false=>rw [hd]at s0;exact err 7 (bDf l mf mh (aN l) true s0 hm rfl)
     rw [hd]at s0;exact err 7 (bDg l mf mh (aN l) false s0 hm rfl)
 · rw [if_neg h];rw [not_eq_true]at h;exact aDA (dP (s:=bEQ l) (by kernel_rfl) (by kernel_rfl) (by simp [keylessL,keyless]) (by simp [keylessL,keyless]) (bDc l (aX2 l hu h _))) (fun E cv hv=>aSB hv)
end
end
end Go.Hb

set_option linter.defProp false
set_option linter.unusedVariables false
set_option linter.unusedSimpArgs false
set_option linter.unusedSectionVars false
set_option maxRecDepth 100000
set_option maxHeartbeats 4000000
namespace Go.Hb
open AV (ilst int keyless keylessL)
open Bool (and_eq_true)
open Int (tdiv tmod)
open List (append_assoc append_nil drop getElem?_of_mem length length_append map map_map mem_cons_of_mem mem_cons_self nil_append replicate take)
open Nat (le_refl le_trans mod_lt zero_add)
open Go.Proofs Tryz
noncomputable section
theorem aJw {p:Prog}(h:Fs p) :Pure PP 25 [PA p] (.tup [Prog.av (bU p),.int .i64 0]) :=by
 have hs:=h.sm;have h33:=mA p hs;rw [h.fo]at h33;have hss:=hs;simp only [aJ,and_eq_true,decide_eq_true_eq]at hss;obtain⟨⟨⟨⟨s1,s2⟩,s3⟩,_⟩,s5⟩ :=hss;have hp:=h.fine;obtain⟨hd,hlen,hin,hnode⟩ :=mY hs h.fo;have hmain:=iO h.fo;have ho:=aHv h;have his:=nC p;have hi:=aHC hp ho;have hrl:=aDV (aX p) 0
 have hz2:∀i:Int,0≤i→i<p.funs.length→ (dQ (aX p) 0)[i.toNat]?=some (iL (zU (dQ (aX p) 0) 0) i) :=fun i h0 h1=>by
  have h2:=aHr (dQ (aX p) 0) 0 i.toNat;rw [show(0:Int) + (i.toNat:Int) =i by omega]at h2;unfold iL;rw [h2,List.getElem?_eq_getElem (by omega)];rfl
 have hbd:∀i:Int,0≤i→i<p.funs.length→0≤iL (zU (dQ (aX p) 0) 0) i∧iL (zU (dQ (aX p) 0) 0) i≤1000000:=fun i h0 h1=>by
  have:=aOy (aX p) 0 _ _ (hz2 i h0 h1);omega
 have hm:∀i:Int,0≤i→i<p.funs.length→ (aX p)[i.toNat]?=some true→iL (zU (dQ (aX p) 0) 0) i=iL (mfT p) i:=fun i h0 h1 h2=>by
  obtain⟨r,r1,r2⟩ :=aLN h h2;rw [if_pos rfl,show((i.toNat:Nat) :Int) =i by omega]at r2;rw [hz2 i h0 h1]at r1;injection r1 with r1;rw [r2,r1]
 have hany:∀ (i:Nat) (x:Node),p.nodes[i]?=some x→_:=fun i x hx=>aGI (C:=numsL 0 p.cons.length) (mc:=sM p.cons.length) hz2 (aK6 _) hbd s2 (hnode i x hx) (by
  have h10:=List.all_eq_true.1 s5 x (List.mem_of_getElem? hx);simp only [aW,and_eq_true,decide_eq_true_eq]at h10;omega)
 have hsub:=lM (aX p) p.funs;have hsf:=aHs (pre p p.nodes.length) hsub;obtain⟨n,hA,hM,hB⟩ :=aOx hp (mf:=zU (dQ (aX p) 0) 0) (mc:=sM p.cons.length) (F:=dQ (aX p) 0) (C:=numsL 0 p.cons.length) (fun i x hx=> (hany i x hx).1) (aO (aX p) p.funs) (fun k hk=>hsub.subset hk) 0 (f:=p.nodes.length) (le_refl _) (hd.sublist hsf) (by have:=hsf.length_le;omega) (fun x hx=>hin x (hsf.subset hx));have hC1:=aYM (p:=p) (k:=p.nodes.length) (is:=aX p) ⟨by omega,by omega⟩ hmain.1 h33 hi his (hz2 p.main hmain.1 hmain.2) hM;have hn: ((fsT p).map (wB p (zU (dQ (aX p) 0) 0) (sM p.cons.length) (toT p) p.nodes.length)).flatten= (LT p).map fun k=>fK (mfT p) (sM p.cons.length) (toT p) (nodeAt p k) :=by
  have e1: (fsT p).map (wB p (zU (dQ (aX p) 0) 0) (sM p.cons.length) (toT p) p.nodes.length) = ((fsT p).map (pre p p.nodes.length)).map (map fun k=>fK (zU (dQ (aX p) 0) 0) (sM p.cons.length) (toT p) (nodeAt p k)) :=by
   rw [map_map];exact List.map_congr_left fun a _=>aQQ ..
  rw [e1,←List.map_flatten];refine List.map_congr_left fun k hk=>?_;obtain⟨k0,k1⟩ :=aJt h hk;obtain⟨x,hx⟩ :∃x,p.nodes[k.toNat]?=some x:= ⟨_,List.getElem?_eq_getElem (by omega)⟩;rw [fD hx];unfold fK;congr 1;unfold bN;split
  · rename_i h4;split
    ·rfl
    · have hnn:=aCW (by have:=h.fine.fsmall;omega) (h.node _ _ hx).1 h4 (by omega);rw [hm _ hnn.1 hnn.2 (aSt h hk hx h4 (by omega))]
  ·rfl
 have hmm:iL (zU (dQ (aX p) 0) 0) p.main=iL (mfT p) p.main:=hm _ hmain.1 hmain.2 (oI h).main
 change Pure PP 25 [PA p] (.tup [PA ⟨((fsT p).map (wB p (zU (dQ (aX p) 0) 0) (sM p.cons.length) (toT p) p.nodes.length)).flatten,(fsT p).map (fC (toT p)),iL (zU (dQ (aX p) 0) 0) p.main,p.cons⟩,.int .i64 0])at hC1
 rw [hn,hmm]at hC1;exact hC1
theorem aBQ (l:List LUnit) :∀ (t:List aB) (O:List Int),∃s,oR l O t=O++s
 | [],O=> ⟨[],by simp [oR]⟩
 | s::t,O=>by
  obtain⟨r,hr⟩ :=aBQ l t (addN l O s);rw [oR,hr];unfold addN;split
  ·exact⟨r,rfl⟩
  ·exact⟨[cA s l 0] ++r,by simp⟩
theorem aHE (l:List LUnit) :∀ (t:List aB) (O:List Int),∀s∈t,0≤cA s l 0→cA s l 0∈oR l O t
 | [],O,s,hs,_=>by cases hs
 | x ::t,O,s,hs,h0=>by
  rw [oR];rcases List.mem_cons.1 hs with e|hs
  · subst e;obtain⟨r,hr⟩ :=aBQ l t (addN l O s);rw [hr];refine List.mem_append_left _ ?_;unfold addN;split
    · rename_i g;rcases g with g|g
      ·omega
      ·exact g
    ·simp
  ·exact aHE l t _ s hs h0
theorem aEW {l:List LUnit}:∀ (k:Nat) (O:List Int) (i:Nat),InU l O→l.length≤i+k→ (∀j:Nat,j<i→∀n,O[j]?=some n→∀s∈rV l n,0≤cA s l 0→cA s l 0∈O) →
  InU l (aBP l k O i) ∧ (∀n∈O,n∈aBP l k O i) ∧∀n∈aBP l k O i,∀s∈rV l n,0≤cA s l 0→cA s l 0∈aBP l k O i
 | 0,O,i,hO,hk,hd=>by
  have:=hO.len;rw [aBP];refine⟨hO,fun _ h=>h,fun n hn=>?_⟩;obtain⟨j,hj⟩ :=getElem?_of_mem hn;have:= (List.getElem?_eq_some_iff.1 hj).1;exact hd j (by omega) n hj
 | k + 1,O,i,hO,hk,hd=>by
  rw [aBP];cases hx:O[i]? with
  | none=>
   have:=List.getElem?_eq_none_iff.1 hx;dsimp only;refine⟨hO,fun _ h=>h,fun n hn=>?_⟩;obtain⟨j,hj⟩ :=getElem?_of_mem hn;have:= (List.getElem?_eq_some_iff.1 hj).1;exact hd j (by omega) n hj
  | some n=>
   have hlt:= (List.getElem?_eq_some_iff.1 hx).1;obtain⟨r,hr⟩ :=aBQ l (rV l n) O
   obtain⟨h1,h2,h3⟩ :=aEW k (oR l O (rV l n)) (i+1) (hO.all _) (by omega) (fun j hj z hz s hs h0=>by
    rw [hr,List.getElem?_append_left (by omega)]at hz;by_cases e:j=i
    · subst e;rw [hx]at hz;cases hz;exact aHE l _ O s hs h0
    · rw [hr];exact List.mem_append_left _ (hd j (by omega) z hz s hs h0))
   exact⟨h1,fun x hx=>h2 x (by rw [hr];exact List.mem_append_left _ hx),h3⟩
def fL (l:List LUnit) :List Int:=aBP l l.length [cA cV l 0] 0
def dZ (l:List LUnit) :List Bool:= (List.range l.length).map fun(i:Nat) =>decide ((i:Int) ∈fL l)
theorem aAy (l:List LUnit) : (dZ l).length=l.length:=by simp [dZ]
theorem aCY {l:List LUnit}{i:Nat}(hi:i<l.length) : (dZ l)[i]?=some (decide ((i:Int) ∈fL l)) :=by
 rw [dZ,List.getElem?_map,List.getElem?_range hi];rfl
theorem aHF (s:aB) :∀ (l:List LUnit) (i:Nat),0≤cA s l i→∃j u,cA s l i= ((i+j:Nat) :Int) ∧l[j]?=some u∧aQ (aC u) s=true
 | [],i,h=>by simp [cA]at h
 | u ::l,i,h=>by
  rw [cA]at h ⊢;by_cases e:aQ (aC u) s=true
  · rw [if_pos e];exact⟨0,u,by simp,rfl,e⟩
  · rw [if_neg e]at h ⊢;obtain⟨j,v,h1,h2,h3⟩ :=aHF s l (i+1) h;exact⟨j+1,v,by rw [h1];congr 1;omega,by simpa using h2,h3⟩
theorem aOJ {α:Type}:∀ (is:List Bool) (l:List α) (d:Nat) (x:α),is[d]?=some true→l[d]?=some x→x∈aO is l
 | [],_,d,x,h,_=>by simp at h
 |_::_,[],d,x,_,h=>by simp at h
 | b::is,y::l,0,x,h,h2=>by
  simp at h h2;subst h;subst h2;simp [aO]
 | b::is,y::l,d+1,x,h,h2=>by
  have:=aOJ is l d x (by simpa using h) (by simpa using h2);cases b
  case true=>rw [aO];exact mem_cons_of_mem _ this
  rw [aO];exact this
theorem aUC :∀ {l m:List LUnit},l.Sublist m→aR l≤aR m:=fun {l m} h=>by
 induction h with
 |slnil=>exact le_refl _
 |cons a _ ih=>rw [aR];omega
 |cons_cons a _ ih=>rw [aR,aR];omega
theorem aRo {own:List aB}{t out:List aB}(h:∀s∈t,aQ own s=true) :tI own out t=out:=by
 induction t with
 |nil=>rfl
 | cons s t ih=>
  rw [tI];simp only [h s (mem_cons_self ..),Bool.true_or,if_true];exact ih fun x hx=>h x (mem_cons_of_mem _ hx)
theorem aHG {own:List aB}:∀ {l:List LUnit} {out:List aB},(∀u∈l,∀s∈u.needs,aQ own s=true) →zI own out l=out
 | [],out,_=>rfl
 | u::l,out,h=>by
  rw [zI,aRo (h u (mem_cons_self ..))];exact aHG fun v hv=>h v (mem_cons_of_mem _ hv)
theorem aYQ {U out:List Con}{c:Con}(hU:∀c∈U,∀d∈U,c.name=d.name→c.args=d.args)(ho:∀d∈out,d∈U)(hc:c∈U) :∃o,aEM out c=some o∧∀d∈o,d∈U:=by
 unfold aEM;split
 · refine⟨_,rfl,fun d hd=>?_⟩;rcases List.mem_append.1 hd with g|g
   ·exact ho d g
   ·rw [List.mem_singleton.1 g];exact hc
 · rename_i d hd;have h1:=List.find?_some hd;have h2:=List.mem_of_find?_eq_some hd;simp only [decide_eq_true_eq]at h1;rw [if_pos (hU d (ho d h2) c hc h1)];exact⟨_,rfl,ho⟩
theorem aOK {U:List Con}(hU:∀c∈U,∀d∈U,c.name=d.name→c.args=d.args) :∀ (t out:List Con),(∀d∈out,d∈U) → (∀d∈t,d∈U) →∃o,zK out t=some o∧∀d∈o,d∈U
 | [],out,ho,_=> ⟨out,rfl,ho⟩
 | c::t,out,ho,ht=>by
  obtain⟨o,h1,h2⟩ :=aYQ hU ho (ht c (mem_cons_self ..));rw [zK,h1];exact aOK hU t o h2 fun d hd=>ht d (mem_cons_of_mem _ hd)
theorem aOL {U:List Con}(hU:∀c∈U,∀d∈U,c.name=d.name→c.args=d.args) :∀ (l:List LUnit) (out:List Con),(∀d∈out,d∈U) → (∀u∈l,∀d∈u.cons,d∈U) →∃o,tJ out l=some o∧∀d∈o,d∈U
 | [],out,ho,_=> ⟨out,rfl,ho⟩
 | u::l,out,ho,hl=>by
  obtain⟨o,h1,h2⟩ :=aOK hU u.cons out ho (hl u (mem_cons_self ..));rw [tJ,h1];exact aOL hU l o h2 fun v hv=>hl v (mem_cons_of_mem _ hv)
theorem aRp {cs:List Con}(h: (cs.map Con.name).Nodup){c d:Con}(hc:c∈cs)(hd:d∈cs)(e:c.name=d.name) :c=d:=by
 obtain⟨i,hi⟩ :=getElem?_of_mem hc;obtain⟨j,hj⟩ :=getElem?_of_mem hd;have h1:=tL h hi;have h2:=tL h hj;rw [e,h2]at h1;have:i=j:=by omega
 subst this;rw [hi]at hj;injection hj
theorem bDn {cs o:List Con}(h: (cs.map Con.name).Nodup)(ho: (o.map Con.name).Nodup)(hs:∀d∈o,d∈cs) :o.length≤cs.length:=by
 have hx:∀c∈o,∃j:Nat,j<cs.length∧gI c.name cs 0=j:=fun c hc=>by
  obtain⟨i,hi⟩ :=getElem?_of_mem (hs c hc);exact⟨i,(List.getElem?_eq_some_iff.1 hi).1,tL h hi⟩
 have hn:o.Nodup:=by
  rw [List.nodup_iff_pairwise_ne,List.pairwise_map]at ho;rw [List.nodup_iff_pairwise_ne];exact ho.imp fun g e=>g (by rw [e])
 have:=mX cs.length (o.map fun c=> (gI c.name cs 0).toNat) (by
  rw [List.nodup_iff_pairwise_ne,List.pairwise_map];refine(List.nodup_iff_pairwise_ne.1 hn).imp_of_mem (fun {a b} ha hb hne e=>hne ?_);obtain⟨i,_,i2⟩ :=hx a ha;obtain⟨j,_,j2⟩ :=hx b hb;rw [i2,j2]at e;obtain⟨i',hi'⟩ :=getElem?_of_mem (hs a ha);obtain⟨j',hj'⟩ :=getElem?_of_mem (hs b hb);have e1:=tL h hi';have e2:=tL h hj';have:i'=j':=by omega
  subst this;rw [hi']at hj';injection hj') (fun x hx'=>by
  obtain⟨c,hc,rfl⟩ :=List.mem_map.1 hx';obtain⟨j,j1,j2⟩ :=hx c hc;rw [j2];omega)
 simpa using this
section
variable {l :List LUnit} {cs:List Con}
theorem aHH (h:LinkOk l cs) :InU l (fL l) ∧cA cV l 0∈fL l∧∀n∈fL l,∀s∈rV l n,0≤cA s l 0→cA s l 0∈fL l:=by
 have h0:=h.main;have h1:=zX cV l 0;obtain⟨a,b,c⟩ :=aEW (l:=l) l.length [cA cV l 0] 0 (aYP (by omega) (by omega)) (by omega) (fun j hj=>by omega);exact⟨a,b _ (by simp),c⟩
theorem aOM (h:LinkOk l cs){s:aB}(h0:0≤cA s l 0)(hn:cA s l 0∈fL l) :aQ (aN (aO (dZ l) l)) s=true:=by
 obtain⟨j,u,h1,h2,h3⟩ :=aHF s l 0 h0;rw [zero_add]at h1;have hj:= (List.getElem?_eq_some_iff.1 h2).1;have:=aOJ (dZ l) l j u (by rw [aCY hj,←h1];simp [hn]) h2;exact hasS_mem.2 (aHk this (hasS_mem.1 h3))
theorem aSC (h:LinkOk l cs) :∃cs',LinkOk (aO (dZ l) l) cs':=by
 have hsub:=lM (dZ l) l;obtain⟨n1,n2,n3⟩ :=aHH h;have hf:=oD h.cons (by simp);obtain⟨cs',c1,c2⟩ :=aOL (U:=cs) (fun c hc d hd e=>by rw [aRp hf.1 hc hd e]) (aO (dZ l) l) [] (by simp) (fun u hu d hd=>hf.2.2.2 u (hsub.subset hu) d hd);have hf':=oD c1 (by simp);have hlost:zJ (aO (dZ l) l) = [] :=by
  refine aHG fun u hu s hs=>?_;obtain⟨d,d1,d2⟩ :=aDX _ _ u hu;have hdl:= (List.getElem?_eq_some_iff.1 d2).1;rw [aCY hdl]at d1;simp only [Option.some.injEq,decide_eq_true_eq]at d1;have ho:=h.own (hsub.subset hu) (List.mem_append_right _ hs);have h0:0≤cA s l 0:=by
   by_cases g:cA s l 0<0
   ·rw [(iK s l 0).1 g]at ho;cases ho
   ·omega
  exact aOM h h0 (n3 _ d1 s (by unfold rV;rw [Int.toNat_natCast,d2];exact hs) h0)
 refine⟨cs',⟨le_trans hsub.length_le h.hl,fun u hu=>h.good u (hsub.subset hu),c1,?_,hlost,fun g=>?_,le_trans (aUC hsub) h.size,le_trans (bDn hf.1 hf'.1 c2) h.c20⟩⟩
 ·exact(jX _).2 (((jX _).1 h.differ).sublist (aHs aC hsub))
 · have:=aOM h (s:=cV) (by have:=h.main;omega) n2;rw [(iK cV _ 0).1 g]at this;cases this
def nE :List LUnit→Nat→List Int
 | [],_=>[]
 |u::t,i=>replicate u.funs.length (i:Int) ++nE t (i+1)
theorem aHI :∀ (l:List LUnit) (i:Nat),(nE l i).length= (aN l).length
 | [],_=>rfl
 |u::t,i=>by rw [nE,length_append,aHI t,jG,length_append];simp [aC]
theorem aJx :∀ (l1 l2:List LUnit) (u:LUnit) (i:Nat) {j:Nat},j< (aC u).length→ (nE (l1++u::l2) i)[(aN l1).length+j]?=some ((i+l1.length:Nat) :Int)
 | [],l2,u,i,j,hj=>by
  have hj:j<u.funs.length:=by simpa [aC]using hj
  rw [nil_append,nE,show(aN ([] :List LUnit)).length=0 from rfl,zero_add,List.getElem?_append_left (by simpa using hj),List.getElem?_replicate,if_pos hj];simp
 | v::l1,l2,u,i,j,hj=>by
  rw [List.cons_append,nE,jG,length_append,List.getElem?_append_right (by simp [aC];omega)];have e: (aC v).length+ (aN l1).length+j- (replicate v.funs.length (i:Int)).length= (aN l1).length+j:=by simp [aC];omega
  rw [e,aJx l1 l2 u (i+1) hj];congr 2;simp;omega
theorem aRq (h:LinkOk l cs){i:Nat}(hi: (aX (bL l cs))[i]?=some true) :∃v,(nE l 0)[i]?=some v∧v∈fL l:=by
 obtain⟨cs',h'⟩ :=aSC h;have E:=aOD (aAy l) h h';obtain⟨j,j1,j2,_⟩ :=E.reach2 h.fs h'.fs hi;have glen: (bL (aO (dZ l) l) cs').funs.length= (aN (aO (dZ l) l)).length:=lL _ 0;rw [glen]at j1;obtain⟨a1,u,a2,k,h1,h2,h3⟩ :=aFr _ _ j1;obtain⟨i1,i2,b1,b2,e1,e2,e3,e4,e5⟩ :=nD (dZ l) l a1 u a2 (aAy l) h1;have eg:gU (dZ l) l (j:Int) = (((aN b1).length+k:Nat) :Int) :=by
  rw [e1]
  conv=>lhs;rw [e2]
  rw [h3,←e4];exact aYs e3 h2
 have ei:i= (aN b1).length+k:=by omega
 have hb:b1.length<l.length:=by rw [e2];simp
 have hn:=aCY (l:=l) hb;rw [e1,List.getElem?_append_right (by omega),e3,Nat.sub_self]at hn;simp only [List.getElem?_cons_zero,Option.some.injEq]at hn;refine⟨(b1.length:Int),?_,of_decide_eq_true hn.symm⟩;have:=aJx b1 b2 u 0 h2;rw [zero_add,←e2]at this;rw [ei];exact this
end
def bET(a:Int):=tT 0 (start PP 102 [(nI a)])<|gd 10 4 (a<26) (gw 5 6 (97+a)<|.i [rn 1,.set 7 (.int .u8 (97+a))] [.a ((IntKind.u8.wrap (97+a)) = (97+a)) (congrArg (int .u8))]<|.i [rn 1,.ans (.ev (aH (kX (97+a))))] [hA (kJ [(.int .u8 (97+a))] =some (aH (kX (97+a))))]<|gE 3 1 (aH (kX (97+a))))<|.y fun b:aB=>.i [rn 3,.reg (.d::.ans (.ev (nI (tdiv a 26)))::.d::.pure (aH b)::.d::.ans (.ev (nI (tmod a 26)))::rd 3 [.own (aH (kX (IntKind.u8.wrap (IntKind.i64.wrap (97+ (tmod a 26)))))),.ans (.ev (aH (b++ (kX (IntKind.u8.wrap (IntKind.i64.wrap (97+ (tmod a 26)))))))),.d])] [hA (aC7 PP .quo 3 (nI a) (nI 26) false true=some (nI (tdiv a 26))),hA (Pure PP 102 [(nI (IntKind.i64.wrap ((tdiv a 26) -1)))] (aH b)),hA (aC7 PP .rem 3 (nI a) (nI 26) false true=some (nI (tmod a 26))),hA (kJ [(.int .u8 (IntKind.u8.wrap (IntKind.i64.wrap (97+ (tmod a 26)))))] =some (aH (kX (IntKind.u8.wrap (IntKind.i64.wrap (97+ (tmod a 26))))))),hA (aC7 PP .add 9 (aH b) (aH (kX (IntKind.u8.wrap (IntKind.i64.wrap (97+ (tmod a 26)))))) false false=some (aH (b++ (kX (IntKind.u8.wrap (IntKind.i64.wrap (97+ (tmod a 26)))))))),hr (int .u8 (IntKind.u8.wrap (IntKind.i64.wrap (97+ (tmod a 26))))),hr (int .u8 (IntKind.u8.wrap (IntKind.i64.wrap (97+ (tmod a 26)))))]<|gE 1 1 (aH (b++ (kX (IntKind.u8.wrap (IntKind.i64.wrap (97+ (tmod a 26)))))))
def bDo:=fun a b c d e=>bET a|>.t b c d e tv
def bDp:=fun a b c d e f g i=>bET a|>.f c b d e f g i tv
theorem aON :∀ (n:Nat),n≤1000000000→Pure PP 102 [.int .i64 (n:Int)] (aH (fN n)) :=by
 intro n
 induction n using Nat.strongRecOn with
 | ind n ih=>
  intro hn;by_cases h:n<26
  · rw [vQ h];exact aV (by kernel_rfl) rfl rfl (bDo n (by simp;omega) sd (wrap_u8 (by omega) (by omega)) (aI9 (by omega) (by omega)))
  · rw [vR h];have e1:tdiv (n:Int) 26= ((n / 26:Nat) :Int) :=by rw [Int.tdiv_eq_ediv_of_nonneg (by omega)];omega
    have e2:tmod (n:Int) 26= ((n % 26:Nat) :Int) :=by rw [Int.tmod_eq_emod_of_nonneg (by omega)];omega
    have e3:IntKind.i64.wrap (tdiv (n:Int) 26-1) = ((n / 26-1:Nat) :Int) :=by
     rw [e1];have: ((n / 26-1:Nat) :Int) = ((n / 26:Nat) :Int) -1:=by omega
     rw [this];exact sd
    have e4:IntKind.u8.wrap (IntKind.i64.wrap (97+tmod (n:Int) 26)) =97+ ((n % 26:Nat) :Int) :=by
     rw [e2];have:IntKind.i64.wrap (97+ ((n % 26:Nat) :Int)) =97+ ((n % 26:Nat) :Int) :=sd;rw [this];exact wrap_u8 (by omega) (by omega)
    have hl:=aXp (n / 26-1);have h0:=bDp n (fN (n / 26-1)) (by simp;omega) (bGx (by omega) (by omega)) (by rw [e3];exact ih _ (by omega) (by omega)) bGy (by rw [e4];exact aI9 (by omega) (by omega)) (bAS (by rw [e4];simp [kX];omega));rw [e4]at h0;exact aV (by kernel_rfl) rfl rfl h0
abbrev aOO (a:List aB):AV:=.gl 0 1 0 a.length false
def bEU(a:List aB):TS:=cQ PP 27 [(aOO a)] [oL 0 1 (map aH a)] 1
def aBR(a:List aB)(b:Int):TS:=⟨(tf 27 18 [(0,(aOO a)),(2,(.str 0 0)),(3,(nI b))] [kc f27 56,kl f27 56,.inBlock 0,kc f27 15]),[],[oL 0 1 (map aH a)],1⟩
def aHJ(a:List aB)(b:aB)(c d:Int):TS:=⟨(tf 64 18 [(0,(aOO a)),(1,(aH b)),(4,(bV false)),(5,(nI d))] [kc f64 52,kl f64 52,.inBlock 0,kc f64 7]),[(tf 27 18 [(0,(aOO a)),(2,(.str 0 0)),(3,(nI c)),(8,(bV false)),(9,(aOO a)),(11,(aH b))] [ko f27 224 8,kc f27 225,kc f27 113,kl f27 56,.inBlock 0,kc f27 15])],[oL 0 1 (map aH a)],1⟩
def bDq (a:List aB):=(tT 1 (bEU a)<|.W 11 1 [] (aBR a 0)) ⟨kk,trivial⟩
def bEV(b:List aB)(a:Int):=tT 1 (aBR b a)<|gpS 4 102 [(nI a)]<|fun c=>gV 0 39 [(aH c)]<|fun d=>.b 2 8 (!d) (gw 12 15 (a+1)<|.W 4 1 [] (aBR b (a+1)))<|gpS 2 102 [(nI a)]<|fun e=>.W 12 1 [] (aHJ b e a 0)
def bDr:=fun a b c d e f g i=>bEV a b c e d f|>.t g i ⟨kk,trivial⟩
def bDs:=fun a b c d e f g i j=>bEV a b c f d g|>.f i e j ⟨kk,trivial⟩
def aYR(a:List aB)(e:aB)(c b:Int):=tT 1 (aHJ a e c b)<|gd 8 9 (b< (a.length:Int)) (.i [rn 8,.ans (.ix)] [hA (0≤b),hA (b< (a.length:Int))]<|.y fun d:aB=>gj aH 0 a b.toNat d<|.b 3 17 (bM d.length (aA d) e.length (aA e)) (gw 15 15 (c+1)<|.W 4 1 [] (aBR a (c+1)))<|gw 6 11 (b+1)<|.W 3 1 [] (aHJ a e c (b+1)))<|gpS 15 102 [(nI c)]<|fun d=>.E 3 1 [] (aH d) [oL 0 1 (map aH a)] 1
def bDt:=fun a b c d e f g i j k l=>aYR a b c d|>.t f g i e j|>.t k l ⟨kk,trivial⟩
def bDu:=fun a b c d e f g i j k l=>aYR a b c d|>.t f g i e j|>.f k l ⟨kk,trivial⟩
def bDv:=fun a b c d e f g=>aYR a b c d|>.f f e g ⟨kk,trivial⟩
section
variable (o n:Int) (s:aB) (ks:List Term) (ps:List Pat)
end
abbrev SL (l:List aB) :List (Nat×AObj×Bool) :=[(0,.lst 1 (map aH l),true)]
section
variable (o n:Int) (s:aB) (ks:List Term) (ps:List Pat)
end
theorem aYS {a b:Nat}(ha:a<26)(hb:b<26)(h:kX (97+ (a:Int)) =kX (97+ (b:Int))) :a=b:=by
 have e1: (97+ (a:Int)).toNat=97+a:=by omega
 have e2: (97+ (b:Int)).toNat=97+b:=by omega
 simp only [kX,e1,e2,List.cons.injEq,and_true]at h;have h:=congrArg UInt8.toNat h;simp only [UInt8.toNat_ofNat']at h;have e3: (97+a) % 2 ^ 8=97+a:=Nat.mod_eq_of_lt (by omega);have e4: (97+b) % 2 ^ 8=97+b:=Nat.mod_eq_of_lt (by omega);omega
theorem aSD (n:Nat) :fN n≠ [] :=by
 have:=aDE 0 n (by simp [vS]);intro h;rw [h]at this;simp at this
theorem aYT :∀ (n m:Nat),fN n=fN m→n=m:=by
 intro n
 induction n using Nat.strongRecOn with
 | ind n ih=>
  intro m h
  have L:∀k:Nat,∃p,fN k=p++kX (97+ (k % 26:Nat)) ∧ (k<26→p= []) ∧ (¬k<26→p=fN (k / 26-1)) :=fun k=>by
   by_cases hk:k<26
   ·exact⟨[],by rw [vQ hk,Nat.mod_eq_of_lt hk];rfl,fun _=>rfl,fun g=>absurd hk g⟩
   ·exact⟨_,vR hk,fun g=>absurd g hk,fun _=>rfl⟩
  obtain⟨p,e1,p1,p2⟩ :=L n;obtain⟨q,e2,q1,q2⟩ :=L m;rw [e1,e2]at h;have hc:=List.append_inj' h (by simp [kX]);have hm:=aYS (mod_lt _ (by omega)) (mod_lt _ (by omega)) hc.2;by_cases hn:n<26
  · by_cases hm2:m<26
    ·omega
    · rw [p1 hn,q2 hm2]at hc;exact absurd hc.1.symm (aSD _)
  · by_cases hm2:m<26
    · rw [p2 hn,q1 hm2]at hc;exact absurd hc.1 (aSD _)
    · rw [p2 hn,q2 hm2]at hc;have:=ih (n / 26-1) (by omega) (m / 26-1) hc.1;omega
theorem aYU {α:Type}[DecidableEq α](f:Nat→α)(hf:∀i j,f i=f j→i=j) :∀ (n:Nat) (l:List α),l.length=n→∃i,i≤n∧f i∉l
 |0,l,h=> ⟨0,le_refl _,by rw [List.length_eq_zero_iff.1 h];simp⟩
 | n +1,l,h=>by
  by_cases hm:f (n+1) ∈l
  · obtain⟨i,hi,hn⟩ :=aYU f hf n (l.erase (f (n+1))) (by rw [List.length_erase_of_mem hm];omega);refine⟨i,by omega,fun g=>hn ((List.mem_erase_of_ne (fun e=>?_)).2 g)⟩;have:=hf _ _ e;omega
  ·exact⟨n+1,le_refl _,hm⟩
def zY (l:List aB)(i:Nat) :Bool:=mJ (fN i) && !aQ l (fN i)
def aHK (l:List aB) :Nat→Nat→aB
 |0,i=>fN i
 |f+1,i=>if zY l i=true then fN i else aHK l f (i+1)
def aHL (l:List aB) :aB:=aHK l (vS 6+l.length+1) 0
theorem bDw (l:List aB)(hl:l.length≤1000000) :∃j,j<vS 6+l.length+1∧zY l j=true:=by
 obtain⟨i,hi,hn⟩ :=aYU (fun i=>fN (vS 6+i)) (fun i j e=>by have:=aYT _ _ e;omega) l.length l rfl;refine⟨vS 6+i,by omega,?_⟩;have h8:vS 8=217180147158:=by kernel_rfl
 have h6:vS 6=321272406:=by kernel_rfl
 have hg:=aUo (n:=vS 6+i) (by omega) (by rw [h8,h6];omega);unfold zY;rw [hg];cases e:aQ l (fN (vS 6+i))
 case true=>exact absurd (hasS_mem.1 e) hn
 rfl
theorem aYV (l:List aB)(n:Nat)(hn:n≤900000000)(hl:l.length≤1000000) :∀ (t:List aB) (i:Nat),l.drop i=t →
  (aQ t (fN n) =true→LeadsM PP 1 (aHJ l (fN n) (n:Int) (i:Int)).as (aBR l ((n:Int) +1)).as) ∧ (aQ t (fN n) =false→Ends PP 1 (aHJ l (fN n) (n:Int) (i:Int)).as (.ret (aH (fN n))) (aD (SL l) 1))
 | [],i,h=>by
  have:=bA h;exact⟨fun g=>by simp [aQ]at g,fun _=>bDv l (fN n) n i (fN n) sd (aON n (by omega))⟩
 | y ::t,i,h=>by
  obtain⟨g1,g2,g3⟩ :=aZ h;obtain⟨a1,a2⟩ :=aYV l n hn hl t (i+1) g2;have e:aQ (y::t) (fN n) = (decide (y=fN n) ||aQ t (fN n)) :=by simp [aQ]
  rw [e];by_cases hy:y=fN n
  · have:=bDt l (fN n) n i y sd sd sd sd (by rw [eE];simp [hy]) sd;exact⟨fun _=>this,fun g=>by simp [hy]at g⟩
  · have:=bDu l (fN n) n i y sd sd sd sd (by rw [eE];simp [hy]) sd;rw [decide_eq_false hy,Bool.false_or];exact⟨fun g=>this.trans (a1 g),fun g=>this.ends (a2 g)⟩
theorem aOP (l:List aB)(hl:l.length≤1000000) :∀ (f i:Nat),(∃j,i≤j∧j<i+f∧zY l j=true) →i+f≤900000000→Ends PP 1 (aBR l (i:Int)).as (.ret (aH (aHK l f i))) (aD (SL l) 1)
 |0,i,⟨j,h1,h2,_⟩,_=>by omega
 | f+1,i,⟨j,h1,h2,h3⟩,hb=>by
  have hp:=aON i (by omega);have hn:=aGx (fN i)
  have ih:zY l i=false→Ends PP 1 (aBR l ((i:Int) +1)).as (.ret (aH (aHK l f (i+1)))) (aD (SL l) 1) :=fun hg=>by
   have hij:i≠j:=fun e=>by rw [e,h3]at hg;cases hg
   exact aOP l hl f (i+1) ⟨j,by omega,by omega,h3⟩ (by omega)
  rw [aHK];obtain⟨a1,a2⟩ :=aYV l i (by omega) hl l 0 rfl;cases hg:mJ (fN i)
  case false=>
   rw [hg]at hn;have e:zY l i=false:=by simp [zY,hg]
   rw [e,if_neg (by simp)];exact(bDr l i (fN i) false hp hn rfl sd).ends (ih e)
  rw [hg]at hn;have h0:=bDs l i (fN i) true (fN i) hp hn rfl hp;cases hh:aQ l (fN i)
  case true=>
   have e:zY l i=false:=by simp [zY,hh]
   rw [e,if_neg (by simp)];exact(h0.trans (a1 hh)).ends (ih e)
  have e:zY l i=true:=by simp [zY,hh,hg]
  rw [e,if_pos rfl];exact h0.ends (a2 hh)
theorem aYW (l:List aB)(hl:l.length≤1000000) :aF2 PP 1 (.enter 27 [.gl 0 1 0 (length l) false]) (aD (SL l) 1) (.ret (aH (aHL l))) (aD (SL l) 1) :=by
 have h6:vS 6=321272406:=by kernel_rfl
 obtain⟨j,h1,h2⟩ :=bDw l hl;have E:= (bDq l).ends (aOP l hl (vS 6+l.length+1) 0 ⟨j,by omega,by omega,h2⟩ (by rw [h6];omega));exact⟨(bEU l).as.fr,by kernel_rfl,Eq.mp (by kernel_rfl) E⟩
def bEW(a:List Int)(b:Int):TS:=cQ PP 97 [(iI a),(nI b)] [] 0
def aL5(a:List Int)(b c:Int):TS:=⟨(tf 97 19 [(0,(iI a)),(1,(nI b)),(4,(nI 0)),(7,(nI (a.length:Int))),(8,(nI c))] [kc f97 52,kl f97 52,.inBlock 0,kc f97 7]),[],[],0⟩
def bEX(a:List Int)(b:Int):TS:=cQ PP 23 [(iI a),(nI b)] [] 0
def bEY(a b:List Int):TS:=cQ PP 26 [(iI a),(iI b)] [] 0
def aL6(a b:List Int)(c:Int):TS:=⟨(tf 26 26 [(0,(iI a)),(1,(iI b)),(4,(bV false)),(12,(nI (a.length:Int))),(13,(nI c))] [kc f26 116,kl f26 116,.inBlock 0,kc f26 15]),[],[],0⟩
def bDx (a:List Int)(b:Int):=(tT 0 (bEW a b)<|gl 8 aY a<|.W 4 0 [] (aL5 a b 0)) tv
def aRr(b:List Int)(c a:Int):=tT 0 (aL5 b c a)<|gd 5 9 (a< (b.length:Int)) (gX aY 14 b a<|fun d=>.b 3 16 (c==d) (gE 7 0 (nI a))<|gw 5 18 (a+1)<|.W 3 0 [] (aL5 b c (a+1)))<|gE 7 0 (nI (-1))
def bDy:=fun a b c d e f g i=>aRr a b c|>.t e d f g|>.t i tv
def bDz:=fun a b c d e f g i j=>aRr a b c|>.t e d f g|>.f i j tv
def bDA:=fun a b c d=>aRr a b c|>.f d tv
def bDB (b:List Int)(c:Int):=fun a d=>(tT 0 (bEX b c)<|gpI 8 97 [(iI b),(nI c)]<|fun a=>gE 4 0 (bV (decide (a≥0)))) a d tv
def bFT(a b:List Int):=tT 0 (bEY a b)<|gl 8 aY a<|gl 1 aY b<|.b 2 10 ((a.length:Int) != (b.length:Int)) (gE 6 0 (bV false))<|gl 6 aY a<|.W 4 0 [] (aL6 a b 0)
def bDC:=fun a b c=>bFT a b|>.f c tv
def aYX(b c:List Int)(a:Int):=tT 0 (aL6 b c a)<|gd 5 14 (a< (b.length:Int)) (.y fun d:Int=>.y fun e:Int=>.i [rn 10,.reg (.d::.d::.ans (.idx (aY d))::rd 3 [.ans (.idx (aY e)),.d,.d])] [hA (0≤a),.a (((b)[a.toNat]?) =some d) (bS (f:=aY)),hA (0≤a),.a (((c)[a.toNat]?) =some e) (bS (f:=aY))]<|.b 0 24 (d != e) (gE 6 0 (bV false))<|gw 5 25 (a+1)<|.W 3 0 [] (aL6 b c (a+1)))<|gE 7 0 (bV true)
def bDD:=fun b c d e f g a i j k l=>aYX b c d|>.t g e f a i a j|>.f k l tv
def bDE:=fun a b c d=>aYX a b c|>.f d tv
section
variable {P :Program}
theorem cW {f:Nat}{args:List AV}{b:Bool}{cargs:List Value}(L:List Pf)(is:List Ins)(w:World)(hv:VRs (embOf w) args cargs)(hb:kR P f=true:=by kernel_rfl)(hk:keylessL args=true:=by kernel_rfl)(h0:aUB P is (start P f args) =some (.bool b,f,L.map Pf.p) :=by kernel_rfl) :
    Calls P f ⟨cargs⟩ w fun e w'=>e= .returned (.bool b) ∧GrownO w w':=aL1 hb hk h0 (aVn L) w hv
theorem cL {f:Nat}{args:List AV}{b:Bool}{cargs:List Value}{t:TS}(hl:LeadsM P 0 (start P f args).as t.as)(L:List Pf)(is:List Ins)(w:World)(hv:VRs (embOf w) args cargs)(hb:kR P f=true:=by kernel_rfl)(hk:keylessL args=true:=by kernel_rfl)(h0:aUB P is t=some (.bool b,f,L.map Pf.p) :=by kernel_rfl) :
    Calls P f ⟨cargs⟩ w fun e w'=>e= .returned (.bool b) ∧GrownO w w':=aE4 hb hk hl h0 (aVn L) w hv
end
abbrev aYY (a:List Con)(b:List LFun)(c d:List Node)(e:List Int)(f:Int)(g:List Con)(h:List aB):=[oC 2 [(.str 0 0),(iC a),(.gl 3 2 0 b.length false),(.gl 4 1 0 ([] :List aB).length false),(iN c),(iN d),(iI e),(nI f),(iC g),(.gl 5 1 0 h.length false)],oL 3 2 (map LFun.av b),oL 4 1 (map aH ([] :List aB)),oL 5 1 (map aH h)]
abbrev aRs (a:List Node)(b:List Int)(c:Int)(d:List Con)(e:List Node)(f:List Int)(g:Int)(h i:List Con)(j:List LFun)(k l:List Node)(m:List Int)(n:Int)(o:List Con)(p:List aB):=aD ([oC 0 [(iN a),(iI b),(nI c),(iC d)],oC 1 [(iN e),(iI f),(nI g),(iC h)]]++aYY i j k l m n o p) 7
abbrev oS (a:List LUnit):AV:=.ilst 5 (map LUnit.av a) false
abbrev aBS (a:Nat)(b:List Node)(c:List Int)(d:Int)(e:List Con):=oC a [(iN b),(iI c),(nI d),(iC e)]
abbrev aEc (a:Prog)(b:Int):AV:=.tup [(Prog.av a),(nI b)]
def aHM(a:List LUnit)(d:List Int)(e:List Node)(f:List Int)(g:Int)(i:List Con)(j:Int)(b:List LUnit)(c:List Int):TS:=⟨(tf 5 210 [(2,(bV false)),kp 3 0,(5,(iI d)),(7,(.gl 1 5 0 b.length false)),(8,(.gl 2 1 0 c.length false)),(53,(oS a)),(54,(nI (a.length:Int))),(55,(nI j))] [kc Tryz.f5 8180,kl Tryz.f5 8180,.inBlock 0,kc Tryz.f5 1023]),[],[aBS 0 e f g i,oL 1 5 (map LUnit.av b),oL 2 1 (jI c)],3⟩
def aEd(a:List LUnit)(d:List Int)(e:Int)(f:List Node)(g:List Int)(i:Int)(j:List Con)(b:List LUnit)(k:Int)(c:List Int)(l m:Int):TS:=⟨(tf 5 210 [(2,(bV false)),kp 3 0,(5,(iI d)),(7,(.gl 1 5 0 b.length false)),(8,(.gl 2 1 0 c.length false)),(9,(nI l)),(53,(oS a)),(54,(nI (a.length:Int))),(55,(nI m)),(69,(nI e)),(70,(nI k))] [kc Tryz.f5 4188572,kl Tryz.f5 4188572,.inBlock 2,.inBlock 1,kc Tryz.f5 65447,kl Tryz.f5 8180,.inBlock 0,kc Tryz.f5 1023]),[],[aBS 0 f g i j,oL 1 5 (map LUnit.av b),oL 2 1 (jI c)],3⟩
def aEe(l:List LUnit)(a:List Int)(b:List Bool)(c:Int)(d:List Node)(e:List Int)(f:Int)(g:List Con)(i:Int)(j:List LUnit)(k:List Int):TS:=⟨(tf 5 210 [(2,(bV false)),kp 3 0,(5,(iI a)),(7,(oS j)),(8,(iI k)),(85,(.ilst 1 (map eP b) false)),(86,(nI c)),(87,(nI i))] [kc Tryz.f5 32756,kl Tryz.f5 32756,.inBlock 4,kc Tryz.f5 4095]),[],[aBS 0 d e f g],1⟩
def aHN(t:List LUnit)(c:Int)(d:List Node)(e:List Int)(f:Int)(g:List Con)(i:List Node)(j:List Int)(k:Int)(l m:List Con)(n o:List Node)(p:List Int)(q:Int)(r:List Con)(s:Int)(a:List LFun)(b:List aB):TS:=⟨(tf 5 210 [(2,(bV false)),kp 15 0,kp 17 1,kp 19 2,(156,(nI c)),(157,(nI s))] [kc Tryz.f5 4194292,kl Tryz.f5 4194292,.inBlock 6,kc Tryz.f5 524287]),[],([aBS 0 d e f g,aBS 1 i j k l]++aYY m a n o p q r b),6⟩
def aEf(t:List LUnit)(a:Int)(b:List Node)(c:List Int)(d:Int)(e:List Con)(f:List Node)(g:List Int)(i:Int)(j k:List Con)(l m:List Node)(n:List Int)(o:Int)(p:List Con)(q:List LFun)(r:List aB)(s:Int):TS:=⟨(tf 5 210 [(2,(bV false)),kp 15 0,kp 17 1,kp 19 2,(191,(nI a)),(192,(nI s))] [kc Tryz.f5 8388596,kl Tryz.f5 8388596,.inBlock 8,kc Tryz.f5 1048575]),[],[aBS 0 b c d e,aBS 1 f g i j,oC 2 [(.str 0 0),(iC k),(.ilst 2 (map LFun.av q) false),(iS ([] :List aB)),(iN l),(iN m),(iI n),(nI o),(iC p),(iS r)]],3⟩
def bDF (a:List LUnit):=fun f b d c e g i j k l m n o p q=>(tT 0 (start PP 5 [(oS a)])<|gV 8 20 [(oS a)]<|fun f=>.b 2 24 (!f) .x<|.y fun b:Prog=>.y fun d:Int=>gp 5 12 [(oS a)] (aEc b d)<|.y fun c:List Int=>.y fun e:Int=>gp 10 21 [(oS a)] (.tup [(iI c),(nI e)])<|.b 12 37 (d != 0) .x<|.b 8 41 (e != 0) .x<|gl 1 aY c<|gl 1 LUnit.av a<|gd 3 48 ((c.length:Int) > (a.length:Int)) .x<|gV 1 22 [(Prog.av b)]<|fun g=>.b 3 52 (!g) .x<|gl 14 LUnit.av a<|.i [rn 4,.nilL 7 5] []<|gu 0 1 (map LUnit.av ([] :List LUnit))<|gs 0 7 (.gl 1 5 0 ([] :List LUnit).length false)<|.i [.nilL 8 1] []<|gu 0 2 (jI ([] :List Int))<|gs 0 8 (.gl 2 1 0 ([] :List Int).length false)<|.W 0 3 [0,1,2] (aHM a c b.nodes b.funs b.main b.cons 0 ([] :List LUnit) ([] :List Int))) f i|>.f j b d k c e l|>.f m|>.f n|>.f o g p|>.f q ⟨kk,⟨kk,trivial⟩⟩
def aRt(e:List LUnit)(g:List Int)(i:List Node)(c:List Int)(j:Int)(k:List Con)(b:Int)(f:List LUnit)(d:List Int):=tT 0 (aHM e g i c j k b f d)<|gd 5 56 (b< (e.length:Int)) (gX LUnit.av 7 e b<|fun a=>gV 10 23 [(iI g),(nI b)]<|fun l=>.b 1 62 l (ga 5 LUnit.av f [a]<|gl 6 LFun.av a.funs<|.W 4 6 [0,5,2] (aEd e g (a.funs.length:Int) i c j k (f++ [a]) 0 d b b))<|gl 6 LFun.av a.funs<|.W 4 4 [0,1,2] (aEd e g (a.funs.length:Int) i c j k f 0 d b b))<|gz 4 7 1 5 LUnit.av f false<|gz 0 8 2 1 aY d false<|gl 2 aY d<|gl 2 aY c<|.b 2 83 ((d.length:Int) != (c.length:Int)) .x<|.y fun a:List Bool=>gp 6 24 [(.agg [(iN i),(iI c),(nI j),(iC k)])] (.ilst 1 (map eP a) false)<|gl 0 eP a<|.W 4 3 [0] (aEe e g a (a.length:Int) i c j k 0 f d)
def bDG:=fun a b c d e f g i j k l m n o p q r=>aRt a b c d e f g i j|>.t m k n o l p|>.t q r ⟨kk,⟨kk,trivial⟩⟩
def bDH:=fun a b c d e f g i j k l m n o p q=>aRt a b c d e f g i j|>.t m k n o l p|>.f q ⟨kk,⟨kk,trivial⟩⟩
def bDI:=fun a b c d e f g i j k l m n=>aRt a b c d e f g i j|>.f l|>.f m k n tv
def aYZ(e:List LUnit)(f:List Int)(g:Int)(i:List Node)(j:List Int)(k:Int)(l:List Con)(m:List LUnit)(a:Int)(b:List Int)(c d:Int):=tT 0 (aEd e f g i j k l m a b c d)<|gd 5 71 (a<g) (ga 8 aY b [c]<|gw 5 76 (a+1)<|.W 3 5 [0,1,4] (aEd e f g i j k l m (a+1) (b++ [c]) c d))<|gw 5 77 (d+1)<|.W 3 3 [0,1,2] (aHM e f i j k l (d+1) m b)
def bDJ:=fun a b c d e f g i j k l m n o p=>aYZ a b c d e f g i j k l m|>.t n o p ⟨kk,⟨kk,trivial⟩⟩
def bDK:=fun a b c d e f g i j k l m n o=>aYZ a b c d e f g i j k l m|>.f n o ⟨kk,⟨kk,trivial⟩⟩
def aRu(e:List LUnit)(f:List Int)(g:List Bool)(i:Int)(j:List Node)(k:List Int)(l:Int)(m:List Con)(c:Int)(n:List LUnit)(o:List Int):=tT 0 (aEe e f g i j k l m c n o)<|gd 5 88 (c<i) (gX eP 7 g c<|fun d=>.b 8 93 d (gX aY 3 o c<|fun p=>gV 1 23 [(iI f),(nI p)]<|fun q=>.b 3 101 (!q) .x<|gw 5 102 (c+1)<|.W 3 1 [0] (aEe e f g i j k l m (c+1) n o))<|gw 14 102 (c+1)<|.W 3 1 [0] (aEe e f g i j k l m (c+1) n o))<|.y fun d:Prog=>.y fun p:Int=>gp 5 12 [(oS n)] (aEc d p)<|.b 13 110 (p != 0) .x<|gV 1 22 [(Prog.av d)]<|fun q=>.b 3 114 (!q) .x<|.y fun a:Prog=>.y fun r:Int=>gp 5 25 [(.agg [(iN j),(iI k),(nI l),(iC m)])] (aEc a r)<|.y fun b:Prog=>.y fun s:Int=>gp 10 25 [(Prog.av d)] (aEc b s)<|gl 12 Node.av a.nodes<|gl 2 Node.av b.nodes<|.b 2 132 ((a.nodes.length:Int) != (b.nodes.length:Int)) .x<|gV 4 26 [(iI a.funs),(iI b.funs)]<|fun t=>.b 3 140 (!t) .x<|.b 7 146 (a.main != b.main) .x<|gl 19 aY a.funs<|.i [rn 4,.cnil 4 2 2] []<|gu 0 5 (map LFun.av ([] :List LFun))<|gv 0 4 2 (.gl 5 2 0 ([] :List LFun).length false)<|.i [.cnil 4 3 1] []<|gu 0 6 (map aH ([] :List aB))<|gv 0 4 3 (.gl 6 1 0 ([] :List aB).length false)<|.i [.cnil 4 9 1] []<|gu 0 7 (map aH ([] :List aB))<|gv 0 4 9 (.gl 7 1 0 ([] :List aB).length false)<|.W 0 8 [2,3,4,5,6,7] (aHN e (a.funs.length:Int) a.nodes a.funs a.main a.cons b.nodes b.funs b.main b.cons a.cons a.nodes b.nodes b.funs b.main b.cons 0 ([] :List LFun) ([] :List aB))
def bDL:=fun b c d e f g i j k l m n o p q a r s t u v w=>aRu b c d e f g i j k l m|>.t q n a r|>.t s o a t p u|>.f v w tv
def bDM:=fun a b c d e f g i j k l m n o p q r=>aRu a b c d e f g i j k l|>.t n m o p|>.f q r tv
def bDN:=fun a b c d e f g i j k l m n o p q r s t u v w x y z A B C D F=>aRu a b c d e f g i j k l|>.f u m n v|>.f w o x|>.f y p q z r s A|>.f B t C|>.f D|>.f F ⟨kk,⟨kk,⟨kk,trivial⟩⟩⟩
def aY0(v:List LUnit)(w:Int)(i:List Node)(d:List Int)(j:Int)(k:List Con)(l:List Node)(m:List Int)(n:Int)(o p:List Con)(q r:List Node)(s:List Int)(t:Int)(u:List Con)(f:Int)(a:List LFun)(b:List aB):=tT 0 (aHN v w i d j k l m n o p q r s t u f a b)<|gd 5 158 (f<w) (.y fun e:aB=>.y fun c:Int=>.y fun g:LFun=>.i [rn 10,.reg (rd 5 (.call (aH e) (aRs i d j k l m n o p a q r s t u b)::rd 3 (.ans (.idx (aY c))::rd 3 (.app (map LFun.av (a++ [(LFun.mk e c)])) (a++ [(LFun.mk e c)]).length::rd 3 [])))),.reg (rd 6 [.ans (.ix),.d,.ans (.idx (LFun.av g)),.d,.app (map aH (b++ [g.name])) (b++ [g.name]).length,.d,.d])] [hA (Spec PP (.enter 27 [(.gl 5 1 0 b.length false)]) (aRs i d j k l m n o p a q r s t u b) (.ret (aH e)) (aRs i d j k l m n o p a q r s t u b)),hA (0≤f),.a (((d)[f.toNat]?) =some c) (bS (f:=aY)),hb LFun.av a,hA (length (a++ [(LFun.mk e c)]) ≤1000000),hc LFun.av a [(LFun.mk e c)],he LFun.av a [(LFun.mk e c)],hr (nI c),hr (nI c),hr (ilst 1 (jI d) false),hr (ilst 1 (jI d) false),hr (AV.gl 3 2 0 a.length false),hr (AV.gl 3 2 0 a.length false),hA (0≤f),hA (f< (((a++ [(LFun.mk e c)]).length:Nat) :Int)),.a ((((a++ [(LFun.mk e c)]))[f.toNat]?) =some g) (dN (f:=LFun.av)),hb aH b,hA (length (b++ [g.name]) ≤1000000),hc aH b [g.name],he aH b [g.name]]<|gw 3 188 (f+1)<|.W 3 10 [0,1,2,7,4,9] (aHN v w i d j k l m n o p q r s t u (f+1) (a++ [(LFun.mk e c)]) (b++ [g.name])))<|gy 4 2 2 3 2 LFun.av a false<|gy 0 2 3 4 1 aH ([] :List aB) false<|gy 0 2 9 5 1 aH b false<|gl 3 aY d<|.W 4 6 [0,1,2] (aEf v (d.length:Int) i d j k l m n o p q r s t u a b 0)
def bDO:=fun b c d e f g i j k l m n o p q r s t u v w x y z a A B C D F G=>aY0 b c d e f g i j k l m n o p q r s t u|>.t y v w x z a A B a C D F G ⟨kk,⟨kk,⟨kk,trivial⟩⟩⟩
def bDP:=fun a b c d e f g i j k l m n o p q r s t u=>aY0 a b c d e f g i j k l m n o p q r s t|>.f u tv
def bDQ (q:List LUnit)(e:Int)(r:List Node)(f:List Int)(s:Int)(t:List Con)(u:List Node)(g:List Int)(v:Int)(w i:List Con)(j k:List Node)(l:List Int)(m:Int)(n:List Con)(o:List LFun)(p:List aB)(a:Int):=fun b c d y x z A B C D=>(tT 0 (aEf q e r f s t u g v w i j k l m n o p a)<|gd 5 193 (a<e) (.y fun b:Int=>.y fun c:Int=>.y fun d:Bool=>.i [rn 10,.reg (rd 4 (.ans (.idx (aY b))::rd 4 [.ans (.idx (aY c)),.d,.pure (bV d),.d]))] [hA (0≤a),.a (((f)[a.toNat]?) =some b) (bS (f:=aY)),hA (0≤a),.a (((g)[a.toNat]?) =some c) (bS (f:=aY)),hA (Pure PP 28 [(.agg [(.str 0 0),(iC i),(.ilst 2 (map LFun.av o) false),(iS ([] :List aB)),(iN j),(iN k),(iI l),(nI m),(iC n),(iS p)]),(nI b),(nI c)] (bV d))]<|.b 0 207 (!d) .x<|gw 5 208 (a+1)<|.W 3 3 [0,1,2] (aEf q e r f s t u g v w i j k l m n o p (a+1))) .x)|>.t y b c d x z x A B|>.f C D tv
theorem bDR (l:List LUnit)(y0 y1:Bool)(h0:Pure PP 20 [(oS l)] (bV y0))(h1: (!y0) =true)(h2:Pure PP 6 [] (bV y1)) :
  ∀ (w:World) (cargs:List Value),VRs (embOf w) [.ilst 5 (map LUnit.av l) false] cargs→Calls PP 5 ⟨cargs⟩ w fun e w'=>e= .returned (.bool y1) ∧GrownO w w':=
 fun w cargs hv=>cW [qp h0,qp h1,qp h2] [rn 8,pB y0,rn 2,bt 24,rn 3,pB y1,rn 3] w hv
theorem bDS (l:List LUnit)(y0:Bool)(y1:Prog)(y2:Int)(y3:List Int)(y4:Int)(y5:Bool)(h0:Pure PP 20 [(oS l)] (bV y0))(h1: (!y0) =false)(h2:Pure PP 12 [(oS l)] (aEc y1 y2))(h3:Pure PP 21 [(oS l)] (.tup [(iI y3),(nI y4)]))(h4: (y2 != (0:Int)) =true)(h5:Pure PP 6 [] (bV y5)) :
  ∀ (w:World) (cargs:List Value),VRs (embOf w) [.ilst 5 (map LUnit.av l) false] cargs→Calls PP 5 ⟨cargs⟩ w fun e w'=>e= .returned (.bool y5) ∧GrownO w w':=
 fun w cargs hv=>cW [qp h0,qp h1,qp h2,qp h3,qp h4,qp h5] [rn 8,pB y0,rn 2,bf 24,rn 5,.pure (aEc y1 y2),rn 10,.pure (.tup [(iI y3),(nI y4)]),rn 12,bt 37,rn 3,pB y5,rn 3] w hv
theorem bDT (l:List LUnit)(t191:Int)(c0_0:List Node)(c0_1:List Int)(c0_2:Int)(c0_3:List Con)(c1_0:List Node)(c1_1:List Int)(w6:Int)(c1_3 c2_1:List Con)(c2_4 c2_5:List Node)(c2_6:List Int)(c2_7:Int)(c2_8:List Con)(w5:List LFun)(c2_9:List aB)(t192:Int)(y0:Bool)(h0:decide (t192<t191) =false)(h1:Pure PP 6 [] (bV y0))(hl:LeadsM PP 0 (start PP 5 [.ilst 5 (map LUnit.av l) false]).as (aEf l t191 c0_0 c0_1 c0_2 c0_3 c1_0 c1_1 w6 c1_3 c2_1 c2_4 c2_5 c2_6 c2_7 c2_8 w5 c2_9 t192).as) :
  ∀ (w:World) (cargs:List Value),VRs (embOf w) [.ilst 5 (map LUnit.av l) false] cargs→Calls PP 5 ⟨cargs⟩ w fun e w'=>e= .returned (.bool y0) ∧GrownO w w':=
 fun w cargs hv=>cL hl [qp h0,qp h1] [rn 5,bf 193,rn 4,pB y0,rn 3] w hv
theorem aOQ (l:List Int)(n:Int)(hl:l.length<1000000) :∀ (t:List Int) (i:Nat),l.drop i=t→∃r:Int,Ends PP 0 (aL5 l n (i:Int)).as (.ret (.int .i64 r)) (aD [] 0) ∧ (0≤r↔n∈t)
 | [],i,h=>by
  have:=bA h;exact⟨-1,bDA l n i (by simp;omega),by simp⟩
 | x ::t,i,h=>by
  obtain⟨q1,q2,q3⟩ :=aZ h;by_cases e:n=x
  ·exact⟨i,bDy l n i x (by simp;omega) (by omega) (by simpa using q1) (by simp [e]),by simp [e]⟩
  · obtain⟨r,h1,h2⟩ :=aOQ l n hl t (i+1) q2;exact⟨r,(bDz l n i x (by simp;omega) (by omega) (by simpa using q1) (by simp [e]) (by apply wrap64<;>omega)).ends h1,by rw [h2];simp [e]⟩
theorem aOR (l:List Int)(n:Int)(hl:l.length<1000000) :Pure PP 23 [.ilst 1 (map aY l) false,.int .i64 n] (.bool (decide (n∈l))) :=by
 obtain⟨r,h1,h2⟩ :=aOQ l n hl l 0 rfl;have hp:Pure PP 97 [.ilst 1 (map aY l) false,.int .i64 n] (.int .i64 r) :=dP (s:=bEW l n) (by kernel_rfl) (by kernel_rfl) (by simp [keylessL,keyless]) (by simp [keyless]) ((bDx l n).ends h1);have e:decide (n∈l) =decide (r≥0) :=by
  by_cases g:n∈l
  ·rw [decide_eq_true g,decide_eq_true (h2.2 g)]
  ·rw [decide_eq_false g,decide_eq_false (fun h=>g (h2.1 h))]
 rw [e];exact dP (s:=bEX l n) (by kernel_rfl) (by kernel_rfl) (by simp [keylessL,keyless]) (by simp [keyless]) (bDB l n r hp)
theorem aOS (a:List Int)(hl:a.length<1000000) :∀ (t:List Int) (i:Nat),a.drop i=t→Ends PP 0 (aL6 a a (i:Int)).as (.ret (.bool true)) (aD [] 0)
 | [],i,h=>by
  have:=bA h;exact bDE a a i (by simp;omega)
 | x::t,i,h=>by
  obtain⟨q1,q2,q3⟩ :=aZ h;exact(bDD a a i x x (by simp;omega) (by omega) (by simpa using q1) (by simpa using q1) (by simp) (by apply wrap64<;>omega)).ends (aOS a hl t (i+1) q2)
theorem aY1 (a:List Int)(hl:a.length<1000000) :Pure PP 26 [.ilst 1 (map aY a) false,.ilst 1 (map aY a) false] (.bool true) :=
 dP (s:=bEY a a) (by kernel_rfl) (by kernel_rfl) (by simp [keylessL,keyless]) (by simp [keyless]) ((bDC a a (by simp)).ends (aOS a hl a 0 rfl))
theorem aY2 (tk:List aB) : (AObj.lst 1 (map aH tk)).kl:=aG _ (fun _=>rfl) _
section
variable {l :List LUnit} {p:Prog}
theorem aY3 (N:List Int)(n:Nat)(hn:n≤1000)(l1:List LUnit)(i:Int)(i':Int) :∀ (k j:Nat) (l2:List Int),k+j=n→l2.length≤100000+j →
  LeadsM PP 0 (aEd l N (n:Int) p.nodes p.funs p.main p.cons l1 (j:Int) l2 i i').as (aEd l N (n:Int) p.nodes p.funs p.main p.cons l1 (n:Int) (l2++replicate k i) i i').as
 | 0,j,l2,h,hl=>by
  have:j=n:=by omega
  subst this;rw [List.replicate_zero,append_nil];exact LeadsM.refl _
 | k+1,j,l2,h,hl=>by
  have h1:=bDJ l N (n:Int) p.nodes p.funs p.main p.cons l1 (j:Int) l2 i i' (by simp;omega) (by simp;omega) (by apply wrap64<;>omega);have h2:=aY3 N n hn l1 i i' k (j+1) (l2++ [i]) (by omega) (by simp;omega);rw [append_assoc]at h2;exact h1.trans h2
theorem aL7 (hl:l.length≤10)(hf:∀u∈l,u.funs.length≤30)(hN: (fL l).length≤10) :∀ (t:List LUnit) (i:Nat) (l1:List LUnit) (l2:List Int),l.drop i=t→i≤l.length→l1.length≤i→l2.length≤30*i →
  LeadsM PP 0 (aHM l (fL l) p.nodes p.funs p.main p.cons (i:Int) l1 l2).as (aHM l (fL l) p.nodes p.funs p.main p.cons (l.length:Int) (l1++aO ((dZ l).drop i) t) (l2++nE t i)).as
 | [],i,l1,l2,h,hil,h1,h2=>by
  have:=bA h;have hi:l.length≤i:=by omega
  have e: (dZ l).drop i= [] :=List.drop_eq_nil_iff.2 (by rw [aAy];exact hi);have ek:aO ([] :List Bool) ([] :List LUnit) = [] :=rfl;rw [e,nE,ek,append_nil,append_nil,show i=l.length by omega];exact LeadsM.refl _
 | u ::t,i,l1,l2,h,hil,h1,h2=>by
  obtain⟨q1,q2,q3⟩ :=aZ h;have hi:= (List.getElem?_eq_some_iff.1 q1).1;have hu:=hf u (List.mem_of_getElem? q1);have hc:=aOR (fL l) (i:Int) (by omega);have hd: (dZ l).drop i=decide ((i:Int) ∈fL l) :: (dZ l).drop (i+1) :=by
   have hb:=aCY hi;obtain⟨g1,g2⟩ :=List.getElem?_eq_some_iff.1 hb;rw [List.drop_eq_getElem_cons g1,g2]
  have a2:=fun l1'=>aY3 (l:=l) (p:=p) (fL l) u.funs.length (by omega) l1' (i:Int) (i:Int) u.funs.length 0 l2 (by omega) (by omega);have a3:=fun l1'=>bDK l (fL l) (u.funs.length:Int) p.nodes p.funs p.main p.cons l1' (u.funs.length:Int) (l2++replicate u.funs.length (i:Int)) (i:Int) (i:Int) (by simp) (by apply wrap64<;>omega);rw [hd,nE,←append_assoc l2];by_cases g: (i:Int) ∈fL l
  · rw [decide_eq_true g]at hc ⊢;have a1:=bDG l (fL l) p.nodes p.funs p.main p.cons (i:Int) l1 l2 u true (by simp;omega) (by omega) (by simpa using q1) hc rfl (by simp;omega);have a4:=aL7 hl hf hN t (i+1) (l1++ [u]) (l2++replicate u.funs.length (i:Int)) q2 (by omega) (by simp;omega) (by simp;omega);rw [aO];rw [append_assoc l1]at a4;exact a1.trans ((a2 _).trans ((a3 _).trans a4))
  · rw [decide_eq_false g]at hc ⊢;have a1:=bDH l (fL l) p.nodes p.funs p.main p.cons (i:Int) l1 l2 u false (by simp;omega) (by omega) (by simpa using q1) hc rfl;have a4:=aL7 hl hf hN t (i+1) l1 (l2++replicate u.funs.length (i:Int)) q2 (by omega) (by omega) (by simp;omega);rw [aO];exact a1.trans ((a2 _).trans ((a3 _).trans a4))
theorem aY4 (is:List Bool)(his:is.length≤1000)(sm:List LUnit)(hm:List Int)(hN: (fL l).length≤10)(hr:∀i:Nat,is[i]?=some true→∃v,hm[i]?=some v∧v∈fL l) :∀ (t:List Bool) (i:Nat),is.drop i=t→i≤is.length →
  LeadsM PP 0 (aEe l (fL l) is (is.length:Int) p.nodes p.funs p.main p.cons (i:Int) sm hm).as (aEe l (fL l) is (is.length:Int) p.nodes p.funs p.main p.cons (is.length:Int) sm hm).as
 | [],i,h,hil=>by
  have:=bA h;rw [show i=is.length by omega];exact LeadsM.refl _
 | b::t,i,h,hil=>by
  obtain⟨q1,q2,q3⟩ :=aZ h;have hi:= (List.getElem?_eq_some_iff.1 q1).1;have ih:=aY4 is his sm hm hN hr t (i+1) q2 (by omega);cases b
  case true=>
   obtain⟨v,v1,v2⟩ :=hr i q1;have hc:=aOR (fL l) v (by omega);rw [decide_eq_true v2]at hc;exact(bDL l (fL l) is (is.length:Int) p.nodes p.funs p.main p.cons (i:Int) sm hm true v true (by simp;omega) (by omega) (by simpa using q1) rfl (by simpa using v1) hc rfl (by apply wrap64<;>omega)).trans ih
  exact(bDM l (fL l) is (is.length:Int) p.nodes p.funs p.main p.cons (i:Int) sm hm false (by simp;omega) (by omega) (by simpa using q1) rfl (by apply wrap64<;>omega)).trans ih
theorem aJy (a b:Prog)(ha:a.funs.length≤1000) :∀ (k j:Nat) (l3:List LFun) (l5:List aB),k+j=a.funs.length→l3.length=j→l3.map LFun.name=l5→∃ (l3':List LFun) (l5':List aB),
  LeadsM PP 0 (aHN l (a.funs.length:Int) a.nodes a.funs a.main a.cons b.nodes b.funs b.main b.cons a.cons a.nodes b.nodes b.funs b.main b.cons (j:Int) l3 l5).as (aHN l (a.funs.length:Int) a.nodes a.funs a.main a.cons b.nodes b.funs b.main b.cons a.cons a.nodes b.nodes b.funs b.main b.cons (a.funs.length:Int) l3' l5').as∧l3'.map LFun.name=l5'∧l3'.length=a.funs.length
 | 0,j,l3,l5,h,h1,h2=>by
  have:j=a.funs.length:=by omega
  exact⟨l3,l5,by rw [this];exact LeadsM.refl _,h2,by omega⟩
 | k+1,j,l3,l5,h,h1,h2=>by
  have h5:l5.length=j:=by rw [←h2];simp [h1]
  obtain⟨f,hf⟩ :∃f,a.funs[j]?=some f:= ⟨_,List.getElem?_eq_getElem (by omega)⟩;obtain⟨l3',l5',g1,g2,g3⟩ :=aJy a b ha k (j+1) (l3++ [⟨aHL l5,f⟩]) (l5++ [aHL l5]) (by omega) (by simp [h1]) (by simp [h2])
  have s:=bDO l (a.funs.length:Int) a.nodes a.funs a.main a.cons b.nodes b.funs b.main b.cons a.cons a.nodes b.nodes b.funs b.main b.cons (j:Int) l3 l5 (aHL l5) f ⟨aHL l5,f⟩ (by simp;omega)
   (aZo (ks:=[5]) (aYW l5 (by omega)) (by kernel_rfl) rfl (by kernel_rfl) (by kernel_rfl) ⟨aY2 l5,trivial⟩ (by kernel_rfl) ⟨aY2 l5,trivial⟩)
   (by omega) (by simpa using hf) (by simp;omega) (by simp;omega) (by rw [Int.toNat_natCast,List.getElem?_append_right (by omega),h1,Nat.sub_self];rfl) (by simp;omega) (by apply wrap64<;>omega)
  exact⟨l3',l5',s.trans g1,g2,g3⟩
theorem aOT (a b:Prog)(ha:a.funs.length≤1000)(hab:a.funs=b.funs)(l3:List LFun)(l5:List aB)(hs:∀f∈a.funs,Pure PP 28 [Mover.av ⟨⟨[],a.cons,l3,[],a.nodes⟩,b,l5⟩,.int .i64 f,.int .i64 f] (.bool true)) :∀ (t:List Int) (i:Nat),a.funs.drop i=t→i≤a.funs.length →
  LeadsM PP 0 (aEf l (a.funs.length:Int) a.nodes a.funs a.main a.cons b.nodes b.funs b.main b.cons a.cons a.nodes b.nodes b.funs b.main b.cons l3 l5 (i:Int)).as (aEf l (a.funs.length:Int) a.nodes a.funs a.main a.cons b.nodes b.funs b.main b.cons a.cons a.nodes b.nodes b.funs b.main b.cons l3 l5 (a.funs.length:Int)).as
 | [],i,h,hil=>by
  have:=bA h;rw [show i=a.funs.length by omega];exact LeadsM.refl _
 | f::t,i,h,hil=>by
  obtain⟨q1,q2,q3⟩ :=aZ h;have hi:= (List.getElem?_eq_some_iff.1 q1).1;have ih:=aOT a b ha hab l3 l5 hs t (i+1) q2 (by omega);exact(bDQ l (a.funs.length:Int) a.nodes a.funs a.main a.cons b.nodes b.funs b.main b.cons a.cons a.nodes b.nodes b.funs b.main b.cons l3 l5 (i:Int) f f true (by simp;omega) (by omega) (by simpa using q1) (by rw [←hab];simpa using q1) (hs f (List.mem_of_getElem? q1)) rfl (by apply wrap64<;>omega)).trans ih
end
theorem aY5 {l:List LUnit}{cs:List Con}(h:LinkOk l cs) :zM l= (bL l cs,0) :=by
 unfold zM;split
 · rename_i h0;split
   · rename_i hc;rw [h.cons]at hc;cases hc
   · rename_i c hc;rw [h.cons]at hc;injection hc with hc;subst hc;split
     · rename_i h1;split
       · have:=aSn (cs:=cs) h.hl h.good (ls:=[]) (by simp) (fun u hu=>by have:=aHl hu;rw [h1.2.1]at this;exact this);rw [this];simp only [vX];rfl
       · rename_i h6;exact absurd ⟨h.size,h.c20⟩ h6
     · rename_i h1;exact absurd ⟨h.differ,h.lost,h.main⟩ h1
 · rename_i h0;refine absurd ?_ h0;simp only [gR,and_eq_true,decide_eq_true_eq];exact⟨h.hl,List.all_eq_true.2 fun u hu=> (h.good u hu).formed⟩
theorem aOU {p q:Prog}{h g:Int→Int}(F:Fs p)(F':Fs q)(E:EmbP p q h g){l3:List LFun}(h3:l3.length= (bU p).funs.length) :MvR ⟨⟨[],(bU p).cons,l3,[],(bU p).nodes⟩,bU q,l3.map LFun.name⟩ :=by
 have G:=aEV F;have hd:=G.head;refine⟨fun i x hx=>?_,fun i x hx=>?_,rfl,rfl,by show l3.length≤1000;omega⟩
 · have hx: (bU p).nodes[i]?=some x:=hx;have hi:= (List.getElem?_eq_some_iff.1 hx).1;rw [E.trim_len F F']at hi;obtain⟨b,hb⟩ :∃b,(bU q).nodes[i]?=some b:= ⟨_,List.getElem?_eq_getElem hi⟩;obtain⟨a,ha,c1,c2,c3,c4⟩ :=E.trim_node F F' hb;rw [hx]at ha;injection ha with ha;subst ha;refine⟨b,hb,c1.symm,c2.symm,fun h4=>?_,c4⟩;obtain⟨d1,d2⟩ :=c3 (by rw [←c1];exact h4);refine⟨d1.symm,fun hn=>?_⟩;have:=d2 (by omega);show -1-x.n< (l3.length:Int);rw [h3,E.trim_funs F F',d1];exact this
 · have hx: (bU p).nodes[i]?=some x:=hx;have hn:=G.fine.node i x hx;have hs:=G.snode hx;simp only [aW,and_eq_true,decide_eq_true_eq]at hs
   have hz:bH x.pats≤1000*x.pats.length:=aAn fun q hq=>by
    have:= (rN (G.node i x hx).1).pats q hq;omega
   exact⟨hn.2.1,hs.1.2,by omega,hn.2.2⟩
theorem lTrims_calls (l:List LUnit)(hn:∀u∈l,NumU u)(hk:Pure PP 6 [] (.bool true)) :
  ∀ (w:World) (cargs:List Value),VRs (embOf w) [.ilst 5 (map LUnit.av l) false] cargs→Calls PP 5 ⟨cargs⟩ w fun e w'=>e= .returned (.bool true) ∧GrownO w w':=by
 have h0:=aRj l;cases e:kD l&&gR l
 case false=>rw [e]at h0;exact bDR l false true h0 rfl hk
 rw [e]at h0;simp only [and_eq_true]at e;obtain⟨e1,e2⟩ :=e;obtain⟨h11,hs⟩ :=aEL e1;have hf:∀u∈l,FewU u:=fun u h=>aGL (hs u h);have hfn:∀u∈l,FewU u∧NumU u:=fun u h=> ⟨hf u h,hn u h⟩;have a1:=aL4 l h11 hfn;rcases aOs hf with⟨_,h2⟩ | ⟨cs,H,h2⟩
 ·exact bDS l true (zM l).1 (zM l).2 (wJ l).1 (wJ l).2 true h0 rfl (aBJ l h11 hfn) a1 (by simp [h2]) hk
 · have a0:Pure PP 12 [.ilst 5 (map LUnit.av l) false] (.tup [Prog.av (bL l cs),.int .i64 0]) :=by
    have:=aBJ l h11 hfn;rw [h2]at this;exact this
   have a1:Pure PP 21 [.ilst 5 (map LUnit.av l) false] (.tup [.ilst 1 (map aY (fL l)) false,.int .i64 0]) :=by
    have hne:wJ l= (fL l,0) :=by
     unfold wJ fL;rw [if_pos e2,if_pos ⟨H.differ,H.main⟩]
    rw [hne]at a1;exact a1
   have hN:= (aHH H).1.len;have hl:=H.hl;obtain⟨cs',H'⟩ :=aSC H;have F:=H.fs;have F':=H'.fs;have E:=aOD (aAy l) H H';have r:=mA (bL l cs) F.sm;rw [F.fo]at r;have r':=mA (bL (aO (dZ l) l) cs') F'.sm;rw [F'.fo]at r';have hsub:=lM (dZ l) l;have a2:Pure PP 12 [.ilst 5 (map LUnit.av (aO (dZ l) l)) false] (.tup [Prog.av (bL (aO (dZ l) l) cs'),.int .i64 0]) :=by
    have:=aBJ (aO (dZ l) l) (by have:=H'.hl;omega) (fun u hu=>hfn u (hsub.subset hu));rw [aY5 H']at this;exact this
   have G:=aEV F;have hd:=G.head;have hrl:=nC (bL l cs);have hpd:=F.head;have hpf: (bL l cs).funs.length= (aN l).length:=lL l 0;have s0:=bDF l true (bL l cs) 0 (fL l) 0 true h0 rfl a0 a1 rfl rfl (by simp;omega) r rfl;have s1:=aL7 (p:=bL l cs) hl (fun u hu=> (hf u hu).f) (by omega) l 0 [] [] rfl (by omega) (by simp) (by simp);rw [nil_append,nil_append,List.drop_zero]at s1;have s2:=bDI l (fL l) (bL l cs).nodes (bL l cs).funs (bL l cs).main (bL l cs).cons (l.length:Int) (aO (dZ l) l) (nE l 0) (aX (bL l cs)) (by simp) (by rw [aHI,hpf];simp) (aHC F.fine (aHv F));have s3:=aY4 (l:=l) (p:=bL l cs) (aX (bL l cs)) (by omega) (aO (dZ l) l) (nE l 0) (by omega) (fun i hi=>aRq H hi) (aX (bL l cs)) 0 rfl (by omega)
   have s4:=bDN l (fL l) (aX (bL l cs)) ((aX (bL l cs)).length:Int) (bL l cs).nodes (bL l cs).funs (bL l cs).main (bL l cs).cons ((aX (bL l cs)).length:Int) (aO (dZ l) l) (nE l 0)
    (bL (aO (dZ l) l) cs') 0 true (bU (bL l cs)) 0 (bU (bL (aO (dZ l) l) cs')) 0 true (by simp) a2 rfl r' rfl (aJw F) (aJw F') (by rw [E.trim_len F F'];simp)
    (by rw [E.trim_funs F F'];exact aY1 _ (by rw [←E.trim_funs F F'];omega)) rfl (by rw [E.trim_main F F'];simp)
   obtain⟨l3,l5,s5,m1,m2⟩ :=aJy (l:=l) (bU (bL l cs)) (bU (bL (aO (dZ l) l) cs')) (by omega) (bU (bL l cs)).funs.length 0 [] [] (by omega) rfl rfl;subst m1;have M:=aOU F F' E m2
   have s6:=bDP l ((bU (bL l cs)).funs.length:Int) (bU (bL l cs)).nodes (bU (bL l cs)).funs (bU (bL l cs)).main (bU (bL l cs)).cons (bU (bL (aO (dZ l) l) cs')).nodes (bU (bL (aO (dZ l) l) cs')).funs (bU (bL (aO (dZ l) l) cs')).main (bU (bL (aO (dZ l) l) cs')).cons
    (bU (bL l cs)).cons (bU (bL l cs)).nodes (bU (bL (aO (dZ l) l) cs')).nodes (bU (bL (aO (dZ l) l) cs')).funs (bU (bL (aO (dZ l) l) cs')).main (bU (bL (aO (dZ l) l) cs')).cons ((bU (bL l cs)).funs.length:Int) l3 (l3.map LFun.name) (by simp)
   have s7:=aOT (l:=l) (bU (bL l cs)) (bU (bL (aO (dZ l) l) cs')) (by omega) (E.trim_funs F F') l3 (l3.map LFun.name) (fun f hf=>by
    have hr:=wH F f hf;rw [←dH]at hr;exact aOG M (by show(bU (bL l cs)).nodes.length<1000000;omega) (bU (bL l cs)).nodes.length f hr.1 hr.2 (by show(bU (bL l cs)).nodes.length-f.toNat≤_;omega)) (bU (bL l cs)).funs 0 rfl (by omega)
   exact bDT l _ _ _ _ _ _ _ _ _ _ _ _ _ _ _ _ _ _ true (by simp) hk (s0.trans (s1.trans (s2.trans (s3.trans (s4.trans (s5.trans (s6.trans s7)))))))
section
variable {H :Type} {enc:TypeId×Value→H} {w:World} {spare:Nat→Bool} {held:Bool}
theorem bGW {α:Type}{cs:List α}(h:cs.length=5) :∃a b c d e,cs= [a,b,c,d,e] :=by
 match cs,h with
 | [a,b,c,d,e],_=>exact⟨a,b,c,d,e,rfl⟩
section
theorem cells48 :Tryz.prog.cellsOf 48=5:=by kernel_rfl
theorem bDU :Tryz.prog.cellsOf 45=1:=by kernel_rfl
theorem cells68 :Tryz.prog.cellsOf 68=2:=by kernel_rfl
theorem cells46 :Tryz.prog.cellsOf 46=1:=by kernel_rfl
abbrev aY6 :={x:Node // -9223372036854775808≤x.n∧x.n≤9223372036854775807}
abbrev bEZ :={u:LUnit // NumU u}
theorem aRv (fuel:Nat)(cs:List Value)(x:DataW H×List MemPlace)(h:DataW.trod enc Tryz.prog w 0 spare held fuel 82 cs=some x) :∃p:aY6,Elt w 4 (Node.av p.1) cs:=by
 obtain⟨xs,m,rfl,rfl,hl,hlen,hf⟩ :=DataW.trod_struct Tryz.underlying82 h;rw [aRQ]at hl;obtain⟨c0,c1,c2,c3,rfl⟩ :=four hl;have h0:DataW.trod enc Tryz.prog w 0 spare held m 79 (([c0,c1,c2,c3].drop 0).take (Tryz.prog.cellsOf 79)) =xs[0]?:=hf 0 _ rfl;have h1:DataW.trod enc Tryz.prog w 0 spare held m 3 (([c0,c1,c2,c3].drop 1).take (Tryz.prog.cellsOf 3)) =xs[1]?:=hf 1 _ rfl;have h2:DataW.trod enc Tryz.prog w 0 spare held m 36 (([c0,c1,c2,c3].drop 2).take (Tryz.prog.cellsOf 36)) =xs[2]?:=hf 2 _ rfl;have h3:DataW.trod enc Tryz.prog w 0 spare held m 80 (([c0,c1,c2,c3].drop 3).take (Tryz.prog.cellsOf 80)) =xs[3]?:=hf 3 _ rfl;simp only [aZz,cells3,cells36,aRP,drop,take]at h0 h1 h2 h3;obtain⟨x0,h0⟩ :=got h0 hlen (by decide);obtain⟨x1,h1⟩ :=got h1 hlen (by decide);obtain⟨x2,h2⟩ :=got h2 hlen (by decide);obtain⟨x3,h3⟩ :=got h3 hlen (by decide);obtain⟨f,e0⟩ :=sZ Tryz.underlying79 h0;obtain⟨n,e1,hw⟩ :=DataW.trod_int Tryz.underlying3 h1;obtain⟨ks,c,e2,v2⟩ :=aST h2;obtain⟨ps,c',e3,v3⟩ :=jU Pat.av Tryz.underlying80 aGl (by omega) h3 (fun fu _ cs x hx=>aVz fu cs x hx);cases e0;cases e1;cases e2;cases e3;have hr: -9223372036854775808≤n∧n≤9223372036854775807:=by
  have e1:IntKind.i64.min= -9223372036854775808:=by decide
  have e2:IntKind.i64.max=9223372036854775807:=by decide
  have hw:=hw.2;simp only [Lit.wf,and_eq_true,decide_eq_true_eq]at hw;omega
 refine⟨⟨⟨f,n,ks,ps⟩,hr⟩,?_⟩;simp only [Node.av,aE];refine aCC (VRs.cons (by simp only [VR]) (VRs.cons (by simp only [VR]) (VRs.cons v2 (VRs.cons v3 (VRs.nil _))))) ?_;rfl
theorem aUD (fuel:Nat)(cs:List Value)(x:DataW H×List MemPlace)(h:DataW.trod enc Tryz.prog w 0 spare held fuel 68 cs=some x) :∃p:LFun,Elt w 2 (LFun.av p) cs:=by
 obtain⟨xs,m,rfl,rfl,hl,hlen,hf⟩ :=DataW.trod_struct Tryz.underlying68 h;rw [cells68]at hl;obtain⟨c0,c1,rfl⟩ :=two hl;have h0:DataW.trod enc Tryz.prog w 0 spare held m 9 (([c0,c1].drop 0).take (Tryz.prog.cellsOf 9)) =xs[0]?:=hf 0 _ rfl;have h1:DataW.trod enc Tryz.prog w 0 spare held m 3 (([c0,c1].drop 1).take (Tryz.prog.cellsOf 3)) =xs[1]?:=hf 1 _ rfl;simp only [cells9,cells3,drop,take]at h0 h1;obtain⟨x0,h0⟩ :=got h0 hlen (by decide);obtain⟨x1,h1⟩ :=got h1 hlen (by decide);obtain⟨s,c,e0,v0⟩ :=yV Tryz.underlying9 h0;obtain⟨n,e1⟩ :=sZ Tryz.underlying3 h1;cases e0;cases e1;refine⟨⟨s,n⟩,?_⟩;simp only [LFun.av];refine aCC (VRs.cons v0 (VRs.cons (by simp only [VR]) (VRs.nil _))) ?_;rfl
theorem aUE {fuel:Nat}{cs:List Value}{x:DataW H×List MemPlace}(h:DataW.trod enc Tryz.prog w 0 spare held fuel 46 cs=some x) :∃ (l:List aB) (c:Value),cs= [c] ∧VR (embOf w) (.ilst 1 (l.map aH) false) c:=
 jU aH Tryz.underlying46 cells9 (by omega) h (fun fu _ cs x hx=>by
  obtain⟨s,c,rfl,v⟩ :=yV Tryz.underlying9 hx;exact⟨s,aRO v rfl (aVx v rfl)⟩)
theorem aRw (fuel:Nat)(cs:List Value)(x:DataW H×List MemPlace)(h:DataW.trod enc Tryz.prog w 0 spare held fuel 48 cs=some x) :∃p:bEZ,Elt w 5 (LUnit.av p.1) cs:=by
 obtain⟨xs,m,rfl,rfl,hl,hlen,hf⟩ :=DataW.trod_struct Tryz.underlying48 h;rw [cells48]at hl;obtain⟨c0,c1,c2,c3,c4,rfl⟩ :=bGW hl;have h0:DataW.trod enc Tryz.prog w 0 spare held m 9 (([c0,c1,c2,c3,c4].drop 0).take (Tryz.prog.cellsOf 9)) =xs[0]?:=hf 0 _ rfl;have h1:DataW.trod enc Tryz.prog w 0 spare held m 37 (([c0,c1,c2,c3,c4].drop 1).take (Tryz.prog.cellsOf 37)) =xs[1]?:=hf 1 _ rfl;have h2:DataW.trod enc Tryz.prog w 0 spare held m 45 (([c0,c1,c2,c3,c4].drop 2).take (Tryz.prog.cellsOf 45)) =xs[2]?:=hf 2 _ rfl;have h3:DataW.trod enc Tryz.prog w 0 spare held m 46 (([c0,c1,c2,c3,c4].drop 3).take (Tryz.prog.cellsOf 46)) =xs[3]?:=hf 3 _ rfl;have h4:DataW.trod enc Tryz.prog w 0 spare held m 35 (([c0,c1,c2,c3,c4].drop 4).take (Tryz.prog.cellsOf 35)) =xs[4]?:=hf 4 _ rfl;simp only [cells9,cells37,bDU,cells46,cells35,drop,take]at h0 h1 h2 h3 h4;obtain⟨x0,h0⟩ :=got h0 hlen (by decide);obtain⟨x1,h1⟩ :=got h1 hlen (by decide);obtain⟨x2,h2⟩ :=got h2 hlen (by decide);obtain⟨x3,h3⟩ :=got h3 hlen (by decide);obtain⟨x4,h4⟩ :=got h4 hlen (by decide);obtain⟨s,c,e0,v0⟩ :=yV Tryz.underlying9 h0;obtain⟨ks,ck,e1,v1⟩ :=jU Con.av Tryz.underlying37 aML (by omega) h1 (fun fu _ cs x hx=>aVA fu cs x hx);obtain⟨fs,cf,e2,v2⟩ :=jU LFun.av Tryz.underlying45 cells68 (by omega) h2 (fun fu _ cs x hx=>aUD fu cs x hx);obtain⟨nd,cn,e3,v3⟩ :=aUE h3;obtain⟨ns,cx,e4,v4⟩ :=jU (fun p:aY6=>Node.av p.1) Tryz.underlying35 aRQ (by omega) h4 (fun fu _ cs x hx=>aRv fu cs x hx);cases e0;cases e1;cases e2;cases e3;cases e4;refine⟨⟨⟨s,ks,fs,nd,ns.map Subtype.val⟩,fun x hx=>?_⟩,?_⟩
 · obtain⟨p,_,rfl⟩ :=List.mem_map.1 hx;exact p.2
 · simp only [LUnit.av];rw [show ns.map (fun p:aY6=>Node.av p.1) =map Node.av (ns.map Subtype.val)by rw [map_map];rfl]at v4;refine aCC (VRs.cons v0 (VRs.cons v1 (VRs.cons v2 (VRs.cons v3 (VRs.cons v4 (VRs.nil _)))))) ?_;rfl
theorem lift_units (fuel:Nat)(cs:List Value)(x:DataW H×List MemPlace)(h:DataW.trod enc Tryz.prog w 0 spare held fuel 29 cs=some x) :∃ (l:List LUnit) (c:Value),(∀u∈l,NumU u) ∧cs= [c] ∧VR (embOf w) (.ilst 5 (map LUnit.av l) false) c:=by
 obtain⟨ys,c,e,v⟩ :=jU (fun p:bEZ=>LUnit.av p.1) Tryz.underlying29 cells48 (by omega) h (fun fu _ cs x hx=>aRw fu cs x hx);refine⟨ys.map Subtype.val,c,fun u hu=>?_,e,?_⟩
 · obtain⟨p,_,rfl⟩ :=List.mem_map.1 hu;exact p.2
 ·rw [map_map];exact v
end
end
end
end Go.Hb
