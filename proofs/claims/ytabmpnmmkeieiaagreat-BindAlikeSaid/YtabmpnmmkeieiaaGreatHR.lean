/- A machine on abstract values, its soundness, ways, plain laws. -/
import Derived.Test.YtabmpnmmkeieiaaGreatHF
import Derived.Test.YtabmpnmmkeieiaaGreatHG
import Derived.Test.YtabmpnmmkeieiaaGreatHJ
import Derived.Test.YtabmpnmmkeieiaaGreatHK
import Derived.Test.YtabmpnmmkeieiaaGreatHQ
set_option linter.defProp false
set_option linter.unusedVariables false
set_option linter.unusedSimpArgs false
set_option linter.unusedSectionVars false
set_option maxRecDepth 100000
set_option maxHeartbeats 4000000
namespace Go.Hb
open Bool (and_eq_true)
open Int (tmod)
open List (length length_cons length_set map mem_of_getElem? set)
open Terms (av)
open Go.Proofs
noncomputable section
mutual
theorem aUB (cs:List Con) :∀p:Pat,aV (pnP cs p) =aV p
 | .mk f n s ps=>by rw [pnP,aV,aV,aB2 cs ps]
theorem aB2 (cs:List Con) :∀ps:List Pat,aM (pT cs ps) =aM ps
 | [] =>by rw [pT]
 |p::ps=>by rw [pT,aM,aM,aUB cs p,aB2 cs ps]
end
theorem aEO (fs:List aB)(cs:List Con)(o:Int)(s:aB)(ps:List Pat) :∀ (ts:List Term) (i:Nat) (env:List aB) (a:Nat),(dW fs cs o s ps ts i env a).1.length=ts.length
 | [],i,env,a=>by rw [dW];rfl
 |t::ts,i,env,a=>by rw [dW,length_cons,aEO fs cs o s ps ts,length_cons]
mutual
theorem aKx (fs:List aB)(cs:List Con) :∀ (t:Term) (env:List aB) (a:Nat),tsm t=true→bD t≤1000→∀x∈fM fs cs t env a,aSU x
 | .mk o n s ks ps,env,a,hs,hz,x,hx=>by
  simp only [bD]at hz;have hkl:=pM ks;rw [tsm]at hs;simp only [and_eq_true,decide_eq_true_eq]at hs;obtain⟨⟨⟨_,hpl⟩,hsp⟩,hsk⟩ :=hs;have hsz:=lP ps hsp;rw [fM]at hx;rcases List.mem_cons.1 hx with e|hx
  · subst e;exact⟨by simp only [aEO];omega,by simp only [aB2];omega⟩
  ·exact aGe fs cs o s ps ks 0 env (a+1) hsk (by omega) x hx
theorem aGe (fs:List aB)(cs:List Con)(o:Int)(s:aB)(ps:List Pat) :∀ (ts:List Term) (i:Nat) (env:List aB) (a:Nat),aBL ts=true→aY ts≤1000→∀x∈ (dW fs cs o s ps ts i env a).2,aSU x
 | [],i,env,a,_,_,x,hx=>by rw [dW]at hx;cases hx
 | t::ts,i,env,a,hs,hz,x,hx=>by
  rw [aBL,and_eq_true]at hs;simp only [aY]at hz;rw [dW]at hx;rcases List.mem_append.1 hx with hx|hx
  ·exact aKx fs cs t _ _ hs.1 (by omega) x hx
  ·exact aGe fs cs o s ps ts _ _ _ hs.2 (by omega) x hx
end
theorem aKy (fs:List aB)(cs:List Con) :∀ (t:List FunD) (a:Nat),(∀f∈t,tsm f.bod=true∧bD f.bod≤1000) →∀x∈ (hJ fs cs t a).2,aSU x
 | [],a,_,x,hx=>by rw [hJ]at hx;cases hx
 | f::t,a,h,x,hx=>by
  rw [hJ]at hx;obtain⟨h1,h2⟩ :=h f (List.mem_cons_self ..);rcases List.mem_append.1 hx with hx|hx
  ·exact aKx fs cs f.bod _ _ h1 h2 x hx
  ·exact aKy fs cs t _ (fun y hy=>h y (List.mem_cons_of_mem _ hy)) x hx
theorem aGf (fs:List aB)(cs:List Con) :∀ (t:List FunD) (a:Nat),(hJ fs cs t a).1.length=t.length
 | [],a=>by rw [hJ];rfl
 |f::t,a=>by rw [hJ,length_cons,aGf fs cs t,length_cons]
theorem aUC (m:Mod)(hs:iL m=true) :FitP (wN m).1:=by
 have hz:FitP ZPr:= ⟨by simp [ZPr],by simp [ZPr],by simp [ZPr],fun x hx=>by cases hx⟩;unfold wN;cases ho:pO m with
 |false=>exact hz
 | true=>
  rw [if_pos rfl];have F:=aBT hs ho;have hfl:=F.fl;have hdl:=F.dl;split
  · split
    ·exact hz
    · have hl:=aJL (rF m) (gP m) m.funs 0 F.sz;have hf:=aGf (rF m) (gP m) m.funs 0;have hc:=aFW m.datas F.cl;refine⟨by unfold wM;simp only;omega,by unfold wM;simp only;omega,by unfold wM gP;simp only;omega,fun x hx=>?_⟩;exact aKy (rF m) (gP m) m.funs 0 (fun f hf=> ⟨F.sm f hf,by have:=F.sz f hf;omega⟩) x hx
  ·exact hz
def aEP(a:Mod)(b c:Int)(d:aB)(e:List Term)(f:List Pat)(g:Int):TS:=⟨(tf 4 83 [(2,(.int .u8 g)),kp 3 0,kp 4 1,(6,(bV false))] [kc Tryz.f4 52,kc Tryz.f4 53,kc Tryz.f4 7]),[],[oC 0 [(aA a.name),(.ilst 2 (map DataD.av a.datas) false),(.ilst 15 (FunDs.av a.funs) false)],oC 1 [(nI b),(nI c),(aA d),(.ilst 5 (av e) false),(iP f)]],2⟩
def aLX(t:Mod)(a b:Int)(c:aB)(d:List Term)(e:List Pat)(u f g:Int)(i:aB)(j:List Term)(k:List Pat)(l:List Node)(m:List Int)(n:Int)(o:List Con)(p:List Node)(q:List Int)(r:Int)(s:List Con):TS:=⟨(tf 4 83 [kp 4 0,(6,(bV false)),kp 9 1,kp 10 2,kp 12 3] [kc Tryz.f4 16372,kc Tryz.f4 16373,kc Tryz.f4 2047]),[],[oC 0 [(nI a),(nI b),(aA c),(.ilst 5 (av d) false),(iP e)],oC 1 [(nI f),(nI g),(aA i),(.ilst 5 (av j) false),(iP k)],oC 2 [(iN l),(iI m),(nI n),(iC o)],oC 3 [(iN p),(iI q),(nI r),(iC s)]],4⟩
def aUD(t:Mod)(a b:Int)(c:aB)(d:List Term)(e:List Pat)(u f g:Int)(i:aB)(j:List Term)(k:List Pat)(l:List Node)(m:List Int)(n:Int)(o:List Con)(p:List Node)(q:List Int)(r:Int)(s:List Con):TS:=⟨(tf 4 83 [kp 4 0,(6,(bV false)),kp 9 1,kp 10 2,kp 12 3] [kc Tryz.f4 4094,kc Tryz.f4 4095]),[],[oC 0 [(nI a),(nI b),(aA c),(.ilst 5 (av d) false),(iP e)],oC 1 [(nI f),(nI g),(aA i),(.ilst 5 (av j) false),(iP k)],oC 2 [(iN l),(iI m),(nI n),(iC o)],oC 3 [(iN p),(iI q),(nI r),(iC s)]],4⟩
def aEQ(a:Mod)(c d:Int)(e:aB)(f:List Term)(g:List Pat)(b:Int):=tT 0 (start PP 4 [(.agg [(aA a.name),(.ilst 2 (map DataD.av a.datas) false),(.ilst 15 (FunDs.av a.funs) false)]),(.agg [(nI c),(nI d),(aA e),(.ilst 5 (av f) false),(iP g)]),(.int .u8 b)])<|dR 10 8 [(.agg [(aA a.name),(.ilst 2 (map DataD.av a.datas) false),(.ilst 15 (FunDs.av a.funs) false)])]<|fun B=>.b 2 17 (!B) (.W 17 2 [0,1] (aEP a c d e f g b))<|dR 1 13 [(.agg [(nI c),(nI d),(aA e),(.ilst 5 (av f) false),(iP g)])]<|fun C=>.b 3 22 (!C) (.W 12 2 [0,1] (aEP a c d e f g b))<|dR 1 14 [(.agg [(aA a.name),(.ilst 2 (map DataD.av a.datas) false),(.ilst 15 (FunDs.av a.funs) false)])]<|fun D=>.b 3 27 (!D) (.W 7 2 [0,1] (aEP a c d e f g b))<|dR 1 15 [(.agg [(nI c),(nI d),(aA e),(.ilst 5 (av f) false),(iP g)])]<|fun F=>.b 3 31 (!F) (.W 2 2 [0,1] (aEP a c d e f g b))<|gw 6 34 b<|gm 2 cJ a.funs<|.i [.ans (.ev (nI (tmod b (a.funs.length:Int))))] [hA (rJ PP .rem 3 (nI b) (nI (a.funs.length:Int)) false false=some (nI (tmod b (a.funs.length:Int))))]<|.i [rn 12,.appN (FunDs.av a.funs) a.funs.length] [hA (a.funs.length≤1000000),hr (FunDs.av a.funs),.q (p:=length (FunDs.av a.funs) =a.funs.length) (aAK cJ _)]<|.i [rn 8,.ans (.ix)] [hA (0≤ (tmod b (a.funs.length:Int))),hA ((tmod b (a.funs.length:Int)) < (a.funs.length:Int))]<|.y fun i:aB=>.y fun j:aB=>.y fun k:Int=>.y fun l:Int=>.y fun m:aB=>.y fun n:List Typ=>.y fun o:Int=>.y fun p:Int=>.y fun q:aB=>.y fun r:List Typ=>.y fun u:Int=>.y fun v:Int=>.y fun w:aB=>.y fun x:List Term=>.y fun y:List Pat=>gjF cJ 1 a.funs ((tmod b (a.funs.length:Int)).toNat) (FunD.mk i j (Typ.mk k l m n) (Typ.mk o p q r) (Term.mk u v w x y))<|.i [rn 9,.ans (.ix)] [hA (0≤ (tmod b (a.funs.length:Int))),hA ((tmod b (a.funs.length:Int)) < (a.funs.length:Int))]<|.i [rn 1,.st (FunD.av (FunD.mk i j (Typ.mk k l m n) (Typ.mk o p q r) (Term.mk u v w x y))) (FunD.av (FunD.mk i j (Typ.mk k l m n) (Typ.mk o p q r) (Term.mk c d e f g)))] [.a (((a.funs)[(tmod b (a.funs.length:Int)).toNat]?) =some (FunD.mk i j (Typ.mk k l m n) (Typ.mk o p q r) (Term.mk u v w x y))) (rX cJ),hr (some (FunD.av (FunD.mk i j (Typ.mk k l m n) (Typ.mk o p q r) (Term.mk c d e f g))))]<|.i [.lset 3 (FunDs.av (set a.funs ((tmod b (a.funs.length:Int)).toNat) (FunD.mk i j (Typ.mk k l m n) (Typ.mk o p q r) (Term.mk c d e f g))))] [.q (p:=(FunDs.av a.funs).set (0+ (tmod b (a.funs.length:Int)).toNat) (FunD.av (FunD.mk i j (Typ.mk k l m n) (Typ.mk o p q r) (Term.mk c d e f g))) = (FunDs.av (set a.funs ((tmod b (a.funs.length:Int)).toNat) (FunD.mk i j (Typ.mk k l m n) (Typ.mk o p q r) (Term.mk c d e f g))))) (wZ cJ _ _ _)]<|.i [.set 42 (.gl 3 15 0 (set a.funs ((tmod b (a.funs.length:Int)).toNat) (FunD.mk i j (Typ.mk k l m n) (Typ.mk o p q r) (Term.mk c d e f g))).length false)] [.q (p:=(AV.gl 3 15 0 a.funs.length false) = (.gl 3 15 0 (set a.funs ((tmod b (a.funs.length:Int)).toNat) (FunD.mk i j (Typ.mk k l m n) (Typ.mk o p q r) (Term.mk c d e f g))).length false)) (dY (length_set ..).symm)]<|.i [.set 45 (.gl 3 15 0 (set a.funs ((tmod b (a.funs.length:Int)).toNat) (FunD.mk i j (Typ.mk k l m n) (Typ.mk o p q r) (Term.mk c d e f g))).length false)] [.q (p:=(AV.gl 3 15 0 a.funs.length false) = (.gl 3 15 0 (set a.funs ((tmod b (a.funs.length:Int)).toNat) (FunD.mk i j (Typ.mk k l m n) (Typ.mk o p q r) (Term.mk c d e f g))).length false)) (dY (length_set ..).symm)]<|.i [.set 51 (.gl 3 15 0 (set a.funs ((tmod b (a.funs.length:Int)).toNat) (FunD.mk i j (Typ.mk k l m n) (Typ.mk o p q r) (Term.mk c d e f g))).length false)] [.q (p:=(AV.gl 3 15 0 a.funs.length false) = (.gl 3 15 0 (set a.funs ((tmod b (a.funs.length:Int)).toNat) (FunD.mk i j (Typ.mk k l m n) (Typ.mk o p q r) (Term.mk c d e f g))).length false)) (dY (length_set ..).symm)]<|.y fun s:Prog=>.y fun z:Int=>gp 4 10 [(.agg [(aA a.name),(.ilst 2 (map DataD.av a.datas) false),(.ilst 15 (FunDs.av a.funs) false)])] (.tup [(Prog.av s),(nI z)])<|.i [rn 9,.cset 2 2 (.gl 3 15 0 (set a.funs ((tmod b (a.funs.length:Int)).toNat) (FunD.mk i j (Typ.mk k l m n) (Typ.mk o p q r) (Term.mk c d e f g))).length false)] [.a ((set a.funs ((tmod b (a.funs.length:Int)).toNat) (FunD.mk i j (Typ.mk k l m n) (Typ.mk o p q r) (Term.mk c d e f g))).length=a.funs.length) (p':=(AV.gl 3 15 0 a.funs.length false) = (.gl 3 15 0 (set a.funs ((tmod b (a.funs.length:Int)).toNat) (FunD.mk i j (Typ.mk k l m n) (Typ.mk o p q r) (Term.mk c d e f g))).length false)) (fun h=>(dY h.symm))]<|.i [rn 1,.frz 62 3 (FunDs.av (set a.funs ((tmod b (a.funs.length:Int)).toNat) (FunD.mk i j (Typ.mk k l m n) (Typ.mk o p q r) (Term.mk c d e f g))))] [.q (aSv (l:=(set a.funs ((tmod b (a.funs.length:Int)).toNat) (FunD.mk i j (Typ.mk k l m n) (Typ.mk o p q r) (Term.mk c d e f g))))),.q (p:=AV.frzOk 3 15 (FunDs.av (set a.funs ((tmod b (a.funs.length:Int)).toNat) (FunD.mk i j (Typ.mk k l m n) (Typ.mk o p q r) (Term.mk c d e f g)))) (FunDs.av (set a.funs ((tmod b (a.funs.length:Int)).toNat) (FunD.mk i j (Typ.mk k l m n) (Typ.mk o p q r) (Term.mk c d e f g)))) (.agg [(aA a.name),(.ilst 2 (map DataD.av a.datas) false),(.gl 3 15 0 (set a.funs ((tmod b (a.funs.length:Int)).toNat) (FunD.mk i j (Typ.mk k l m n) (Typ.mk o p q r) (Term.mk c d e f g))).length false)])) (by simp [AV.frzOk,AV.frzOkL,aA,cJ,List.take_of_length_le])]<|.y fun t:Prog=>.y fun A:Int=>gp 0 10 [(.agg [(aA a.name),(.ilst 2 (map DataD.av a.datas) false),(.ilst 15 (FunDs.av (set a.funs ((tmod b (a.funs.length:Int)).toNat) (FunD.mk i j (Typ.mk k l m n) (Typ.mk o p q r) (Term.mk c d e f g)))) false)])] (.tup [(Prog.av t),(nI A)])<|.b 13 68 (z != 0) (.W 6 7 [1,4,5,6] (aLX a c d e f g b u v w x y s.nodes s.funs s.main s.cons t.nodes t.funs t.main t.cons))<|.b 4 71 (A != 0) (.W 2 7 [1,4,5,6] (aLX a c d e f g b u v w x y s.nodes s.funs s.main s.cons t.nodes t.funs t.main t.cons))<|.W 3 7 [1,4,5,6] (aUD a c d e f g b u v w x y s.nodes s.funs s.main s.cons t.nodes t.funs t.main t.cons)
def bDj:=fun a b c d e f g i j k=>aEQ a b c d e f g i j|>.t k tv
def bDk:=fun a b c d e f g i j k l m n=>aEQ a b c d e f g i k|>.f l j m|>.t n tv
def bDl:=fun a b c d e f g i j k l m n o p q=>aEQ a b c d e f g i l|>.f m j n|>.f o k p|>.t q tv
def bDm:=fun a b c d e f g i j k l m n o p q r s t=>aEQ a b c d e f g i m|>.f n j o|>.f p k q|>.f r l s|>.t t tv
def bDn:=fun d e f g i j k l m n o p q r s t u v w x y z A B C D F G H I J K L M N O Q R S T U a b c V X Y Z=>aEQ d e f g i j k l J|>.f K m L|>.f M n N|>.f O o Q|>.f R S T U a b p q r s t u v w x y z A B C D c a b c F G V X H I Y|>.t Z tv
def bDo:=fun d e f g i j k l m n o p q r s t u v w x y z A B C D F G H I J K L M N O Q R S T U a b c V X Y Z a0=>aEQ d e f g i j k l J|>.f K m L|>.f M n N|>.f O o Q|>.f R S T U a b p q r s t u v w x y z A B C D c a b c F G V X H I Y|>.f Z|>.t a0 tv
def bDp:=fun d e f g i j k l m n o p q r s t u v w x y z A B C D F G H I J K L M N O Q R S T U a b c V X Y Z a0=>aEQ d e f g i j k l J|>.f K m L|>.f M n N|>.f O o Q|>.f R S T U a b p q r s t u v w x y z A B C D c a b c F G V X H I Y|>.f Z|>.f a0 tv
theorem aC8 (m:Mod)(t_op t_n:Int)(t_text:aB)(t_kids:List Term)(t_pats:List Pat)(u:Int)(y0:Bool)(h0:Pure PP 9 [] (bV y0))(hl:LeadsM PP 0 (start PP 4 [Mod.av m,(.agg [(nI t_op),(nI t_n),(aA t_text),(.ilst 5 (av t_kids) false),(iP t_pats)]),(.int .u8 u)]).as (aEP m t_op t_n t_text t_kids t_pats u).as) :
  ∀ (w:World) (cargs:List Value),VRs (embOf w) [Mod.av m,(.agg [(nI t_op),(nI t_n),(aA t_text),(.ilst 5 (av t_kids) false),(iP t_pats)]),(.int .u8 u)] cargs→Calls PP 4 ⟨cargs⟩ w fun e w'=>e= .returned (.bool y0) ∧GrownO w w':=
 fun w cargs hv=>cL hl [qp h0] [rn 1,pB y0,rn 3] w hv
theorem aNJ (m:Mod)(t_op t_n:Int)(t_text:aB)(t_kids:List Term)(t_pats:List Pat)(u y_op14 y_n15:Int)(y_text16:aB)(y_kids17:List Term)(y_pats18:List Pat)(c2_0:List Node)(c2_1:List Int)(c2_2:Int)(c2_3:List Con)(c3_0:List Node)(c3_1:List Int)(c3_2:Int)(c3_3:List Con)(y0:Bool)(h0:Pure PP 9 [] (bV y0))(hl:LeadsM PP 0 (start PP 4 [Mod.av m,(.agg [(nI t_op),(nI t_n),(aA t_text),(.ilst 5 (av t_kids) false),(iP t_pats)]),(.int .u8 u)]).as (aLX m t_op t_n t_text t_kids t_pats u y_op14 y_n15 y_text16 y_kids17 y_pats18 c2_0 c2_1 c2_2 c2_3 c3_0 c3_1 c3_2 c3_3).as) :
  ∀ (w:World) (cargs:List Value),VRs (embOf w) [Mod.av m,(.agg [(nI t_op),(nI t_n),(aA t_text),(.ilst 5 (av t_kids) false),(iP t_pats)]),(.int .u8 u)] cargs→Calls PP 4 ⟨cargs⟩ w fun e w'=>e= .returned (.bool y0) ∧GrownO w w':=
 fun w cargs hv=>cL hl [qp h0] [rn 1,pB y0,rn 3] w hv
theorem bDq (m:Mod)(t_op t_n:Int)(t_text:aB)(t_kids:List Term)(t_pats:List Pat)(u y_op14 y_n15:Int)(y_text16:aB)(y_kids17:List Term)(y_pats18:List Pat)(c2_0:List Node)(c2_1:List Int)(c2_2:Int)(c2_3:List Con)(c3_0:List Node)(c3_1:List Int)(c3_2:Int)(c3_3:List Con)(y0 y1 y2:Bool)(h0:Pure PP 12 [(.agg [(iN c2_0),(iI c2_1),(nI c2_2),(iC c2_3)]),(.agg [(iN c3_0),(iI c3_1),(nI c3_2),(iC c3_3)])] (bV y0))(h1:Pure PP 16 [(.agg [(nI y_op14),(nI y_n15),(aA y_text16),(.ilst 5 (av y_kids17) false),(iP y_pats18)]),(.agg [(nI t_op),(nI t_n),(aA t_text),(.ilst 5 (av t_kids) false),(iP t_pats)])] (bV y1))(h2: (y0==y1) =true)(h3:Pure PP 9 [] (bV y2))(hl:LeadsM PP 0 (start PP 4 [Mod.av m,(.agg [(nI t_op),(nI t_n),(aA t_text),(.ilst 5 (av t_kids) false),(iP t_pats)]),(.int .u8 u)]).as (aUD m t_op t_n t_text t_kids t_pats u y_op14 y_n15 y_text16 y_kids17 y_pats18 c2_0 c2_1 c2_2 c2_3 c3_0 c3_1 c3_2 c3_3).as) :
  ∀ (w:World) (cargs:List Value),VRs (embOf w) [Mod.av m,(.agg [(nI t_op),(nI t_n),(aA t_text),(.ilst 5 (av t_kids) false),(iP t_pats)]),(.int .u8 u)] cargs→Calls PP 4 ⟨cargs⟩ w fun e w'=>e= .returned (.bool y2) ∧GrownO w w':=
 fun w cargs hv=>cL hl [qp h0,qp h1,qp h2,qp h3,qr (AV.agg [(nI t_op),(nI t_n),(aA t_text),(.ilst 5 (av t_kids) false),(iP t_pats)]),qr (AV.agg [(nI t_op),(nI t_n),(aA t_text),(.ilst 5 (av t_kids) false),(iP t_pats)]),qr (AV.agg [(nI y_op14),(nI y_n15),(aA y_text16),(.ilst 5 (av y_kids17) false),(iP y_pats18)]),qr (AV.agg [(nI y_op14),(nI y_n15),(aA y_text16),(.ilst 5 (av y_kids17) false),(iP y_pats18)])] [.reg [.d,.d,.pure (bV y0),.d,.d,.pure (bV y1),.d,.d,.b 80 true,.pure (bV y2),.d,.d],rn 1] w hv
mutual
theorem aOA (l:List aB) :∀p:Pat,aV (aCN l p) =aV p
 | .mk f n s ps=>by rw [aCN,aV,aV,zZ l ps]
theorem zZ (l:List aB) :∀ps:List Pat,aM (hP l ps) =aM ps
 | [] =>by rw [hP]
 |p::ps=>by rw [hP,aM,aM,aOA l p,zZ l ps]
end
mutual
theorem aGg (l:List aB) :∀t:Term,fA (aFg l t) =fA t
 | .mk o n s ks ps=>by rw [aFg,fA,fA,aER l ks,zZ]
theorem aER (l:List aB) :∀ks:List Term,cZ (wJ l ks) =cZ ks
 | [] =>by rw [wJ]
 |k::ks=>by rw [wJ,cZ,cZ,aGg l k,aER l ks]
end
theorem aOB {t:Term}(h:CanF t) :fA (pR t) =fA t:=by
 unfold pR;rw [aGg,aH3 1000 t (cK t) h.ok (aEF h.lf)]
theorem aES {p:Pat}:∀ {ps:List Pat},p∈ps→aV p≤aM ps
 | [],h=>by cases h
 | q::ps,h=>by
  rw [aM];rcases List.mem_cons.1 h with rfl|h
  ·omega
  ·have:=aES h;omega
mutual
theorem bEW :∀t:Term,tsm t=true→nN t→bD t≤1000→uE t=true
 | .mk o n s ks ps,h,ht,hz=>by
  rw [tsm]at h;simp only [and_eq_true,decide_eq_true_eq]at h;obtain⟨⟨⟨_,hpl⟩,hsp⟩,hsk⟩ :=h;have h1:=lP ps hsp;have h2:=pM ks;rw [bD]at hz;rw [nN,arO]at ht;rw [uE];simp only [and_eq_true,decide_eq_true_eq,List.all_eq_true];refine⟨⟨⟨?_,by omega⟩,fun p hp=>by have:=aES hp;omega⟩,aUE ks hsk ht.2.2.2 (by omega)⟩;by_cases h15:o=15
  ·rw [if_pos h15];have:=ht.1.2.2.1 h15;simp;omega
  ·rw [if_neg h15]
theorem aUE :∀ks:List Term,aBL ks=true→gB ks→aY ks≤1000→lS ks=true
 | [],_,_,_=>rfl
 | k::ks,h,ht,hz=>by
  rw [aBL,and_eq_true]at h;rw [gB]at ht;rw [aY]at hz;rw [lS,bEW k h.1 ht.1 (by omega),aUE ks h.2 ht.2 (by omega)];rfl
end
theorem aUF {t:Term}(hs:tsm t=true)(hf:fH t=true)(hz:bD t≤80) :CanF t∧uE t=true∧fA t<1000000:=by
 obtain⟨h1,h2⟩ :=aKe t hf;have h3:=tQ t hs;exact⟨⟨h1,h2,by omega,by omega⟩,bEW t hs h1 (by omega),by omega⟩
def aCQ (m:Mod)(i:Nat)(f:FunD) :Mod:= ⟨m.name,m.datas,m.funs.set i f⟩
theorem aNK {m:Mod}{i:Nat}{n p:aB}{f g:Typ}{b b':Term}(h:m.funs[i]?=some (.mk n p f g b)) :rF (aCQ m i (.mk n p f g b')) =rF m:=by
 unfold rF aCQ;rw [List.map_set];exact aBi (by rw [List.getElem?_map,h];rfl)
theorem aET {m:Mod}{i:Nat}{n p:aB}{f g:Typ}{b b':Term}(h:m.funs[i]?=some (.mk n p f g b))(hs:iL m=true)(hb:mL b'=true) :iL (aCQ m i (.mk n p f g b')) =true:=by
 simp only [iL,aCQ,and_eq_true,length_set]at hs ⊢;refine⟨hs.1,List.all_eq_true.2 fun x hx=>?_⟩;have h5:=List.all_eq_true.1 hs.2;rcases List.mem_or_eq_of_mem_set hx with g|rfl
 ·exact h5 x g
 · have:=h5 _ (mem_of_getElem? h);simp only [mO,and_eq_true]at this ⊢;exact⟨this.1,hb⟩
theorem aNL {m:Mod}(h: (wN m).2=0) :pO m=true∧okM m=true∧ (wN m).1=wM m:=by
 unfold wN at h ⊢;cases h1:pO m with
 |false=>rw [h1]at h;simp at h
 | true=>
  rw [h1]at h;cases h2:okM m with
  |false=>rw [h2]at h;simp at h
  | true=>
   rw [h2]at h;cases h3:aCw (wM m).nodes with
   |true=>rw [h3]at h;simp at h
   |false=>exact⟨rfl,rfl,by simp⟩
theorem aUG {m:Mod}(h:okM m=true){f:FunD}(hf:f∈m.funs) :knT (rF m) (gP m) f.bod [f.par] =true:=by
 simp only [okM,and_eq_true]at h;exact List.all_eq_true.1 h.2 f hf
theorem aOC {m:Mod}{i:Nat}{n p:aB}{f g:Typ}{b b':Term}(h:m.funs[i]?=some (.mk n p f g b))(hs:iL m=true)(hb:mL b'=true)
  (h1: (wN m).2=0) (h2: (wN (aCQ m i (.mk n p f g b'))).2=0) (hc:CanF b) (hc':CanF b') : (wN m).1= (wN (aCQ m i (.mk n p f g b'))).1↔pR b=pR b':=by
 obtain⟨a1,a2,a3⟩ :=aNL h1;obtain⟨b1,b2,b3⟩ :=aNL h2;have F:=aBT hs a1;have F':=aBT (aET h hs hb) b1;have hi:= (List.getElem?_eq_some_iff.1 h).1;have m1:=mem_of_getElem? h;have m2: (FunD.mk n p f g b') ∈ (aCQ m i (.mk n p f g b')).funs:=mem_of_getElem? (i:=i) (by simp [aCQ,hi]);have k1:=aUG a2 m1;have k2:=aUG b2 m2;have t1:=F.tf _ m1;have t2:=F'.tf _ m2;have fl:=F.fl;rw [aNK h]at k2
 change knT (rF m) (gP m) b [p] =true at k1
 change knT (rF m) (gP m) b' [p] =true at k2
 change fH b=true at t1
 change fH b'=true at t2
 rw [aOu hc hc',←bF6 p,a3,b3];have e:wM (aCQ m i (.mk n p f g b')) = ⟨(hJ (rF m) (gP m) (m.funs.set i (.mk n p f g b')) 0).2,(hJ (rF m) (gP m) (m.funs.set i (.mk n p f g b')) 0).1,aZ (rF m) nL,gP m⟩ :=by
  unfold wM;rw [aNK h];rfl
 rw [e];constructor
 · intro g;unfold wM at g;rw [Prog.mk.injEq]at g;obtain⟨a,ha⟩ :=aKh (rF m) (gP m) m.funs i 0 n p _ _ b b' h (Prod.ext g.2.1 g.1);exact aNF (rF m) (gP m) (by simp;omega) b b' [p] [p] a t1 t2 k1 k2 ha
 · intro g;have:=aGb (rF m) (gP m) m.funs i 0 n p f _ b b' h (fun a=>aNE (rF m) (gP m) b b' [p] [p] a hc.ok hc'.ok g);unfold wM;rw [this]
theorem bH2 {u:Int}{n:Nat}(hu:0≤u∧u≤1000000)(h1:1≤n)(h5:n≤5) :rJ PP .rem 3 (.int .i64 u) (.int .i64 ((n:Nat) :Int)) false false=some (.int .i64 (tmod u ((n:Nat) :Int))) :=by
 have hn:¬ ((n:Nat) :Int) =0:=by omega
 simp [rJ,aBk];omega
theorem lAlike_calls (m:Mod)(t:Term)(u:Int)(hu:0≤u∧u<256)(hk:Pure PP 9 [] (.bool true))(w:World)(cargs:List Value)(hv:VRs (embOf w) [Mod.av m,Term.av t,.int .u8 u] cargs) :
  Calls Tryz.prog 4 ⟨cargs⟩ w fun e w'=>e= .returned (.bool true) ∧GrownO w w':=by
 have h0:=aSJ m;have h2:=aJi t;cases hs:iL m with
 | false=>
  rw [hs]at h0;obtain⟨o,n,s,ks,ps⟩ :=t;exact aC8 m o n s ks ps u true hk (bDj m o n s ks ps u false h0 (by rfl)) w cargs hv
 | true =>
  rw [hs]at h0;cases hst:mL t with
  | false=>
   rw [hst]at h2;obtain⟨o,n,s,ks,ps⟩ :=t;exact aC8 m o n s ks ps u true hk (bDk m o n s ks ps u true false h0 (by rfl) h2 (by rfl)) w cargs hv
  | true =>
   rw [hst]at h2;have h4:=aSL m (aEq hs);cases ho:pO m with
   | false=>
    rw [ho]at h4;obtain⟨o,n,s,ks,ps⟩ :=t;exact aC8 m o n s ks ps u true hk (bDl m o n s ks ps u true true false h0 (by rfl) h2 (by rfl) h4 (by rfl)) w cargs hv
   | true =>
    rw [ho]at h4;have hst':=hst;simp only [mL,and_eq_true,decide_eq_true_eq]at hst';have h6:=aI0 t (by have:=tQ t hst'.2;omega);cases hg:wC t with
    | false=>
     rw [hg]at h6;obtain⟨o,n,s,ks,ps⟩ :=t;exact aC8 m o n s ks ps u true hk (bDm m o n s ks ps u true true true false h0 (by rfl) h2 (by rfl) h4 (by rfl) h6 (by rfl)) w cargs hv
    | true=>
     rw [hg]at h6;simp only [wC,and_eq_true,decide_eq_true_eq]at hg;obtain⟨c1,c2,c3⟩ :=aUF hst'.2 hg.2 (by omega);have F:=aBT hs ho;have hl:1≤m.funs.length∧m.funs.length≤5:=by
      simp only [pO,cF,and_eq_true,decide_eq_true_eq]at ho;omega
     have em:tmod u ((length m.funs:Nat) :Int) =u % ((length m.funs:Nat) :Int) :=Int.tmod_eq_emod_of_nonneg hu.1;have r1:=Int.emod_nonneg u (show((length m.funs:Nat) :Int) ≠0 by omega);have r2:=Int.emod_lt_of_pos u (show(0:Int) < ((length m.funs:Nat) :Int)by omega);have h8:IntKind.i64.wrap u=u:=by apply wrap64<;>omega
     have h9:rJ Tryz.prog .rem 3 (.int .i64 u) (.int .i64 ((length m.funs:Nat) :Int)) false false=some (.int .i64 (tmod u ((length m.funs:Nat) :Int))) :=bH2 (by omega) hl.1 hl.2;rw [←em]at r1 r2;generalize hx:tmod u ((length m.funs:Nat) :Int) =x at h9 r1 r2;obtain⟨f,hf⟩ :∃f,m.funs[x.toNat]?=some f:= ⟨_,List.getElem?_eq_getElem (by omega)⟩;have d1:=F.sm f (mem_of_getElem? hf);have d2:=F.tf f (mem_of_getElem? hf);have d3:=F.sz f (mem_of_getElem? hf);obtain⟨nm,pr,ty1,ty2,b⟩ :=f
     change tsm b=true at d1
     change fH b=true at d2
     change bD b≤80 at d3
     obtain⟨e1,e2,e3⟩ :=aUF d1 d2 d3;have B1:=aEG m hs;have hs2:=aET hf hs hst;have B2:=aEG (aCQ m x.toNat (.mk nm pr ty1 ty2 t)) hs2;have A:= @aOC m x.toNat nm pr ty1 ty2 b t hf hs hst;have S:=aUz (wN m).1 (wN (aCQ m x.toNat (.mk nm pr ty1 ty2 t))).1 (aUC m hs);have L:=aUA b t e1 c1 e2 c2 (by rw [aOB e1];exact e3);generalize wN m=r at B1 A S;generalize hr2:wN (aCQ m x.toNat (.mk nm pr ty1 ty2 t)) =r2 at B2 A S;obtain⟨p1,er1⟩ :=r;obtain⟨p2,er2⟩ :=r2;have e1':=e1;clear hs2 hr2 e1 e2 e3 d1 d2 d3 F hst';obtain⟨y6,y7,y8,y9⟩ :=ty1;obtain⟨y10,y11,y12,y13⟩ :=ty2;obtain⟨y14,y15,y16,y17,y18⟩ :=b;obtain⟨o,n,s,ks,ps⟩ :=t;by_cases z1:er1=0
     · by_cases z2:er2=0
       · have A:=A z1 z2 e1' c1
         change Pure PP 12 [Prog.av p1,Prog.av p2] (.bool (kH (p1=p2)))at S
         rw [sH A]at S;exact bDq m o n s ks ps u y14 y15 y16 y17 y18 p1.nodes p1.funs p1.main p1.cons p2.nodes p2.funs p2.main p2.cons (kH (pR (.mk y14 y15 y16 y17 y18) =pR (.mk o n s ks ps))) (kH (pR (.mk y14 y15 y16 y17 y18) =pR (.mk o n s ks ps))) true S L (beq_self_eq_true _) hk (bDp m o n s ks ps u true true true true nm pr y6 y7 y8 y9 y10 y11 y12 y13 y14 y15 y16 y17 y18 p1 er1 p2 er2 h0 (by rfl) h2 (by rfl) h4 (by rfl) h6 (by rfl) h8 (by rw [hx];exact h9) (by omega) (by rw [hx];exact r1) (by rw [hx];exact r2) (by rw [hx];exact hf) B1 (by simp) (by rw [hx];exact B2) (by simp [z1]) (by simp [z2])) w cargs hv
       ·exact aNJ m o n s ks ps u y14 y15 y16 y17 y18 p1.nodes p1.funs p1.main p1.cons p2.nodes p2.funs p2.main p2.cons true hk (bDo m o n s ks ps u true true true true nm pr y6 y7 y8 y9 y10 y11 y12 y13 y14 y15 y16 y17 y18 p1 er1 p2 er2 h0 (by rfl) h2 (by rfl) h4 (by rfl) h6 (by rfl) h8 (by rw [hx];exact h9) (by omega) (by rw [hx];exact r1) (by rw [hx];exact r2) (by rw [hx];exact hf) B1 (by simp) (by rw [hx];exact B2) (by simp [z1]) (by simp [z2])) w cargs hv
     ·exact aNJ m o n s ks ps u y14 y15 y16 y17 y18 p1.nodes p1.funs p1.main p1.cons p2.nodes p2.funs p2.main p2.cons true hk (bDn m o n s ks ps u true true true true nm pr y6 y7 y8 y9 y10 y11 y12 y13 y14 y15 y16 y17 y18 p1 er1 p2 er2 h0 (by rfl) h2 (by rfl) h4 (by rfl) h6 (by rfl) h8 (by rw [hx];exact h9) (by omega) (by rw [hx];exact r1) (by rw [hx];exact r2) (by rw [hx];exact hf) B1 (by simp) (by rw [hx];exact B2) (by simp [z1])) w cargs hv
theorem lift_termT {H:Type}{enc:TypeId×Value→H}{w:World}{spare:Nat→Bool}{held:Bool}(fuel:Nat)(cs:List Value)(x:DataW H×List MemPlace)(h:DataW.trod enc Tryz.prog w 0 spare held fuel 41 cs=some x) :∃p:Term,VR (embOf w) (Term.av p) (.agg ⟨cs⟩) :=by
 obtain⟨p,hp⟩ :=aGd fuel cs x h;refine⟨p,?_⟩;obtain⟨o,n,s,ks,ps⟩ :=p;have:=aC7 hp;simp only [Term.av,VR];exact⟨_,rfl,this⟩
end
end Go.Hb
