/-
  OWN WORK (V149, H54, V150, V20g, H55, V151, V152, H56, H58, V153, V154, H57): a machine on abstract values, its soundness, ways through the text (the ways WRITTEN BY A PROGRAM), plain laws.
-/
import Derived.Test.YtabmpnmmkeieiaaGreatHF
import Derived.Test.YtabmpnmmkeieiaaGreatHG
import Derived.Test.YtabmpnmmkeieiaaGreatHJ
import Derived.Test.YtabmpnmmkeieiaaGreatHK
import Derived.Test.YtabmpnmmkeieiaaGreatHL
import Derived.Test.YtabmpnmmkeieiaaGreatHN
set_option linter.defProp false
set_option linter.unusedVariables false
set_option linter.unusedSimpArgs false
set_option linter.unusedSectionVars false
set_option maxRecDepth 100000
namespace Go.Hb
open Go.Proofs
set_option maxHeartbeats 4000000
noncomputable section
theorem nM :∀ps:List Pat,ps.all jL=true→aM ps≤16*ps.length
 | [],_=>by simp [aM]
 | p::ps,h=>by
  rw [List.all_cons,Bool.and_eq_true]at h;have:=nM ps h.2;have h1:=h.1;simp only [jL,Bool.and_eq_true,decide_eq_true_eq]at h1;rw [aM,List.length_cons];omega
mutual
theorem aDw :∀t:Term,tsm t=true→wB t≤200*bX t
 | .mk o n s ks ps,h=>by
  rw [tsm]at h;simp only [Bool.and_eq_true,decide_eq_true_eq]at h;obtain⟨⟨⟨_,hpl⟩,hsp⟩,hsk⟩ :=h;have h1:=nM ps hsp;have h2:=aBH ks hsk;rw [wB,bX];omega
theorem aBH :∀ts:List Term,xZ ts=true→kX ts≤200*bO ts
 | [],_=>by simp [kX]
 | t::ts,h=>by
  rw [xZ,Bool.and_eq_true]at h;have h1:=aDw t h.1;have h2:=aBH ts h.2;rw [kX,bO];omega
end
theorem yL {t:Typ}(h:oQ t=true) :bY t<1000000:=by
 simp only [oQ,Bool.and_eq_true,decide_eq_true_eq]at h;omega
theorem aKd :∀ {f:FunD},mY f=true→qC f
 | .mk n p f g b,h=>by
  simp only [mY,sD,Bool.and_eq_true,decide_eq_true_eq]at h;obtain⟨⟨⟨_,h1⟩,h2⟩,⟨h3,_⟩,h5⟩ :=h;have:=aDw b h5;exact⟨yL h1,yL h2,by omega⟩
theorem aDx {m:Mod}(h:jQ m=true) :∀f∈m.funs,qC f:=fun f hf=>by
 simp only [jQ,Bool.and_eq_true]at h;exact aKd (List.all_eq_true.1 h.2 f hf)
theorem aKe {m:Mod}(h:jQ m=true) :∀d∈m.datas,aDb d:=fun d hd c hc t ht=>by
 simp only [jQ,Bool.and_eq_true]at h;have h1:=List.all_eq_true.1 h.1.2 d hd;simp only [yA,Bool.and_eq_true]at h1;have h2:=List.all_eq_true.1 h1.2 c hc;simp only [vV,Bool.and_eq_true]at h2;exact yL (List.all_eq_true.1 h2.2 t ht)
structure Fit (m:Mod) :Prop where
 fl:m.funs.length≤8
 dl:m.datas.length≤6
 cl:∀d∈m.datas,d.cons.length≤8
 sz:∀f∈m.funs,bX f.bod≤80
 dp:∀f∈m.funs,dX f.bod≤16
 sm:∀f∈m.funs,tsm f.bod=true
 tf:∀f∈m.funs,hR f.bod=true
theorem aGw {m:Mod}(h:jQ m=true)(ho:sT m=true) :Fit m:=by
 have h0:=h;simp only [jQ,Bool.and_eq_true,decide_eq_true_eq]at h;obtain⟨⟨⟨⟨_,h2⟩,h3⟩,h4⟩,h5⟩ :=h
 have key:∀f∈m.funs,sD f.bod=true:=fun f hf=>by
  have:=List.all_eq_true.1 h5 f hf;obtain⟨n,p,a,b,c⟩ :=f;simp only [mY,Bool.and_eq_true]at this;exact this.2
 simp only [sT,Bool.and_eq_true]at ho;refine⟨by omega,by omega,fun d hd=>?_,fun f hf=>?_,fun f hf=>?_,fun f hf=>?_,fun f hf=>?_⟩
 · have:=List.all_eq_true.1 h4 d hd;simp only [yA,Bool.and_eq_true,decide_eq_true_eq]at this;omega
 ·have:=key f hf;simp only [sD,Bool.and_eq_true,decide_eq_true_eq]at this;exact this.1.1
 ·have:=key f hf;simp only [sD,Bool.and_eq_true,decide_eq_true_eq]at this;exact this.1.2
 ·have:=key f hf;simp only [sD,Bool.and_eq_true,decide_eq_true_eq]at this;exact this.2
 · have:=List.all_eq_true.1 ho.2 f hf;obtain⟨n,p,a,b,c⟩ :=f;simp only [kY,aAd,Bool.and_eq_true]at this;exact this.2.2
theorem aA8 :∀ds:List DataD,(∀d∈ds,d.cons.length≤8) → ((ds.map fun d=>d.cons.map mK).flatten).length≤8*ds.length
 | [],_=>by simp
 | d::ds,h=>by
  have h1:=h d (List.mem_cons_self ..);have h2:=aA8 ds (fun x hx=>h x (List.mem_cons_of_mem _ hx));simp only [List.map_cons,List.flatten_cons,List.length_append,List.length_map,List.length_cons];omega
theorem aDy (fs:List aC)(cs:List Con) :∀ (t:List FunD) (a:Nat),(∀f∈t,bX f.bod≤80) → (qZ fs cs t a).2.length≤80*t.length
 | [],a,_=>by simp [qZ]
 | f::t,a,h=>by
  have h1:=h f (List.mem_cons_self ..);have h2:=aDy fs cs t (a+ (oW fs cs f.bod [f.par] a).length) (fun x hx=>h x (List.mem_cons_of_mem _ hx));rw [qZ,List.length_append,qX,List.length_cons];rw [qX]at h2;omega
theorem aKf (m:Mod)(hs:jQ m=true) :Pure PP 11 [Mod.av m] (.tup [Prog.av (aAs m).1,.int .i64 (aAs m).2]) :=by
 have h14:=aRX m (aDx hs);refine cB (s:=aSM m) (by kernel_rfl) (by kernel_rfl) (by simp [AV.keylessL,yB]) (by simp [Prog.av,AV.keyless,AV.keylessL]) ?_;show aAt (aSM m) (aAs m);unfold aAs;cases ho:sT m with
 | false=>
  rw [ho]at h14;exact wV (bAH m false h14 rfl)
 | true =>
  rw [ho]at h14;rw [if_pos rfl];have F:=aGw hs ho;have hcl: (fA m).length≤48:=by
   have:=aA8 m.datas F.cl;have:=F.dl;unfold fA;omega
  have hfl:=F.fl;have hdl:=F.dl;have h47:=aSe m (by omega);have h48:=aSg m (by omega) (fun d hd=>by have:=F.cl d hd;omega);have h49:=sA (rA m) (by simp;omega);have h50:=aSh (fA m) (by omega);have h49b:=sA ((fA m).map Con.name) (by simp;omega);have h51:=qT (rA m) jD (by simp;omega);unfold okM;cases e1:eK (rA m)with
  | false=>
   rw [e1]at h49;exact wV (bAI m true _ _ false h14 rfl h47 h48 h49 rfl)
  | true=>
   rw [e1]at h49;cases e2:eK ((fA m).map Con.name)with
   | false=>
    rw [e2]at h49b;exact wV (bAJ m true _ _ true _ false h14 rfl h47 h48 h49 rfl h50 h49b rfl)
   | true=>
    rw [e2]at h49b;cases e3:eZ (rA m) jD with
    | false=>
     rw [e3]at h51;exact wV (bAK m true _ _ true _ true false h14 rfl h47 h48 h49 rfl h50 h49b rfl h51 rfl)
    | true=>
     rw [e3]at h51;refine LeadsM.ends (bAL m true _ _ true _ true true h14 rfl h47 h48 h49 rfl h50 h49b rfl h51 rfl) ?_;simp only [Bool.and_self,Bool.true_and];refine aSP m (rA m) (fA m) (by omega) (fun f hf=>aIa (rA m) (fA m) (by omega) (by simp;omega) f.bod [f.par] (by have:=F.sz f hf;omega) (F.sm f hf) (F.tf f hf) (by have:=F.dp f hf;simp;omega)) (by simp;omega) m.funs 0 rfl (fun hk=>?_) (fun hk=>?_)
     · have hk':knM m m.funs=true:=hk;rw [if_pos hk'];refine aLK m (rA m) (fA m) _ (by omega) (fun f hf L hL=>aIq (rA m) (fA m) (by omega) (by simp;omega) f.bod [f.par] L (by have:=F.sz f hf;omega) (F.sm f hf) (F.tf f hf) (by have:=F.dp f hf;simp;omega) (by have:=F.sz f hf;omega)) (fun f hf=>by have:=F.sz f hf;omega) m.funs 0 [] [] rfl (by simp) rfl ?_;have hl:=aDy (rA m) (fA m) m.funs 0 F.sz;have:=aIs m (fA m) (aAr m).nodes (dR (rA m) jD) (aAr m).funs (by unfold aAr;simp only;omega) (aAr m).nodes 0 rfl;exact this
     · have hk':knM m m.funs=false:=hk;rw [hk'];rfl
end
end Go.Hb
namespace Go.Hb
open Go.Proofs
noncomputable section
open Go.Proofs Tryz
def bC5(a b:Int)(c:aC)(d:List Pat):TS:=bF PP 185 [(.agg [(nI a),(nI b),(aA c),(iP d)])] [] 0
def aSQ(a b:Int)(c:aC)(d:List Pat):TS:=⟨(tf 271 8 [kp 1 0,kp 3 1] [kc f271 15]),[(tf 185 18 [(2,.nils),(3,(nI 0)),kp 4 2] [.inRF 3,.inBlock 0,kc f185 31] (defers:=[.col 4]))],[oC 0 [(.ptr 5 0)],oC 1 [(.func 272 [] [(.ptr 6 0),(.ptr 1 0)])],oC 2 [(.gl 7 1 0 ([] :List aC).length false)],(3,(.loop .ready none 185 (uM [kp 4 2]) 18 [10] (kd f185 244) (kd f185 245) 4),false),(4,(.defd false),false),oC 5 [(nI a),(nI b),(aA c),(iP d)],oC 6 [(.yield 3)],oL 7 1 (List.map aA ([] :List aC))],8⟩
def bC6(b c:Int)(d:aC)(e:List Pat)(a:List aC):TS:=⟨(tf 185 18 [kp 4 2,(10,(.ptr 5 2))] [kc f185 244,.beginRound,kc f185 245] (roundOf:=some 3)),[],[oC 0 [(.ptr 5 0)],oC 1 [(.func 272 [] [(.ptr 6 0),(.ptr 1 0)])],oC 2 [(.gl 7 1 0 a.length false)],(3,(.loop .ready none 185 (uM [kp 4 2]) 18 [10] (kd f185 244) (kd f185 245) 4),false),(4,(.defd false),false),oC 5 [(nI b),(nI c),(aA d),(iP e)],oC 6 [(.yield 3)],oL 7 1 (List.map aA a)],8⟩
def bC7(b c:Int)(d:aC)(e:List Pat)(i j:Int)(f:aC)(g:List Pat)(a:List aC):TS:=⟨(tf 185 18 [kp 4 2,(10,(.iptr [(aA f),(iP g)]))] [kc f185 244,.beginRound,kc f185 245] (roundOf:=some 3)),[],[oC 0 [(.ptr 5 0)],oC 1 [(.func 272 [] [(.ptr 6 0),(.ptr 1 0)])],oC 2 [(.gl 7 1 0 a.length false)],(3,(.loop .ready none 185 (uM [kp 4 2]) 18 [10] (kd f185 244) (kd f185 245) 4),false),(4,(.defd false),false),oC 5 [(nI b),(nI c),(aA d),(iP e)],oC 6 [(.yield 3)],oL 7 1 (List.map aA a)],8⟩
def aSR(b c:Int)(d:aC)(e:List Pat)(a:List aC):TS:=bF PP 272 [(.ptr 5 0),(.ptr 6 0),(.ptr 1 0)] [oC 0 [(.ptr 5 0)],oC 1 [(.func 272 [] [(.ptr 6 0),(.ptr 1 0)])],oC 2 [(.gl 7 1 0 a.length false)],(3,(.loop .ready none 185 (uM [kp 4 2]) 18 [10] (kd f185 244) (kd f185 245) 4),false),(4,(.defd false),false),oC 5 [(nI b),(nI c),(aA d),(iP e)],oC 6 [(.yield 3)],oL 7 1 (List.map aA a)] 8
def aDz(c d:Int)(e:aC)(a:List Pat)(g b:List aC)(f:Int):TS:=⟨(tf 272 37 [kp 0 5,kp 2 1,(4,(bV false)),(23,(nI (a.length:Int))),(24,(nI f))] [kc f272 116,kl f272 116,.inBlock 0,kc f272 15]),[],[oC 0 [(.ptr 5 0)],oC 1 [(.func 272 [] [(.ptr 6 0),(.ptr 1 0)])],oC 2 [(.gl 7 1 0 b.length false)],(3,(.loop .ready none 185 (uM [kp 4 2]) 18 [10] (kd f185 244) (kd f185 245) 4),false),(4,(.defd false),false),oC 5 [(nI c),(nI d),(aA e),(iP a)],oC 6 [(.yield 3)],oL 7 1 (List.map aA b)],8⟩
def aSS(b c:Int)(d:aC)(e:List Pat)(f g:Int)(i:aC)(j:List Pat)(a:List aC):TS:=bF PP 272 [(.iptr [(nI f),(nI g),(aA i),(iP j)]),(.ptr 6 0),(.ptr 1 0)] [oC 0 [(.ptr 5 0)],oC 1 [(.func 272 [] [(.ptr 6 0),(.ptr 1 0)])],oC 2 [(.gl 7 1 0 a.length false)],(3,(.loop .ready none 185 (uM [kp 4 2]) 18 [10] (kd f185 244) (kd f185 245) 4),false),(4,(.defd false),false),oC 5 [(nI b),(nI c),(aA d),(iP e)],oC 6 [(.yield 3)],oL 7 1 (List.map aA a)] 8
def aDA(c d:Int)(e:aC)(f:List Pat)(g i:Int)(j:aC)(a:List Pat)(l b:List aC)(k:Int):TS:=⟨(tf 272 37 [(0,(.iptr [(nI g),(nI i),(aA j),(iP a)])),kp 2 1,(4,(bV false)),(23,(nI (a.length:Int))),(24,(nI k))] [kc f272 116,kl f272 116,.inBlock 0,kc f272 15]),[],[oC 0 [(.ptr 5 0)],oC 1 [(.func 272 [] [(.ptr 6 0),(.ptr 1 0)])],oC 2 [(.gl 7 1 0 b.length false)],(3,(.loop .ready none 185 (uM [kp 4 2]) 18 [10] (kd f185 244) (kd f185 245) 4),false),(4,(.defd false),false),oC 5 [(nI c),(nI d),(aA e),(iP f)],oC 6 [(.yield 3)],oL 7 1 (List.map aA b)],8⟩
def bFL(a b:Int)(c:aC)(d:List Pat):=tT 0 (bC5 a b c d)<|gpI 10 234 [(.agg [(nI a),(nI b),(aA c),(iP d)])]<|fun e=>.b 2 8 (e != 0) (.i [rn 7,.nilI 2 1] []<|gE 0 1 (.tup [(.ilst 1 (List.map aA ([] :List aC)) true),(nI 2)]))<|.i [rn 25,.lkeep 4 [4]] []<|.i [rn 13,.cnil 1 0 1] []<|gu 0 7 (List.map aA ([] :List aC))<|gv 0 1 0 (.gl 7 1 0 ([] :List aC).length false)<|.W 0 8 [2,6,1,4,3,0,5,7] (aSQ a b c d)
def bAW:=fun a b c d e f g=>bFL a b c d e f|>.f g ⟨kk,trivial⟩
def bAX (b c:Int)(d:aC)(e:List Pat):=fun a f=>(tT 0 (aSQ b c d e)<|.y fun a:List aC=>gk 3 (.enter 272 [(.ptr 5 0),(.ptr 6 0),(.ptr 1 0)]) [oC 0 [(.ptr 5 0)],oC 1 [(.func 272 [] [(.ptr 6 0),(.ptr 1 0)])],oC 2 [(.gl 7 1 0 ([] :List aC).length false)],(3,(.loop .ready none 185 (uM [kp 4 2]) 18 [10] (kd f185 244) (kd f185 245) 4),false),(4,(.defd false),false),oC 5 [(nI b),(nI c),(aA d),(iP e)],oC 6 [(.yield 3)],oL 7 1 (List.map aA ([] :List aC))] 8 (bV true) [oC 0 [(.ptr 5 0)],oC 1 [(.func 272 [] [(.ptr 6 0),(.ptr 1 0)])],oC 2 [(.gl 8 1 0 (([] :List aC) ++a).length false)],(3,(.loop .ready none 185 (uM [kp 4 2]) 18 [10] (kd f185 244) (kd f185 245) 4),false),(4,(.defd false),false),oC 5 [(nI b),(nI c),(aA d),(iP e)],oC 6 [(.yield 3)],oL 8 1 (List.map aA (([] :List aC) ++a))] 9<|gz 13 2 8 1 aA (([] :List aC) ++a) false<|gE 0 9 (.tup [(iS (([] :List aC) ++a)),(nI 0)])) a f tv
def bAY (c d:Int)(a:aC)(e:List Pat)(b:List aC):=fun f=>(tT 8 (bC6 c d a e b)<|.i [rn 5,.reg (rd 5 [.app (List.map aA (b++ [a])) (b++ [a]).length,.d])] [hb aA b,hA (List.length (b++ [a]) ≤1000000),hc aA b [a],he aA b [a]]<|.E 1 10 [9] (bV true) [oC 0 [(.ptr 5 0)],oC 1 [(.func 272 [] [(.ptr 6 0),(.ptr 1 0)])],oC 2 [(.gl 8 1 0 (b++ [a]).length false)],(3,(.loop .ready none 185 (uM [kp 4 2]) 18 [10] (kd f185 244) (kd f185 245) 4),false),(4,(.defd false),false),oC 5 [(nI c),(nI d),(aA a),(iP e)],oC 6 [(.yield 3)],oL 8 1 (List.map aA (b++ [a]))] 9) f ⟨kk,trivial⟩
def bAZ (c d:Int)(e:aC)(f:List Pat)(g i:Int)(b:aC)(j:List Pat)(a:List aC):=fun k=>(tT 8 (bC7 c d e f g i b j a)<|.i [rn 5,.reg (rd 5 [.app (List.map aA (a++ [b])) (a++ [b]).length,.d])] [hb aA a,hA (List.length (a++ [b]) ≤1000000),hc aA a [b],he aA a [b]]<|.E 1 10 [9] (bV true) [oC 0 [(.ptr 5 0)],oC 1 [(.func 272 [] [(.ptr 6 0),(.ptr 1 0)])],oC 2 [(.gl 8 1 0 (a++ [b]).length false)],(3,(.loop .ready none 185 (uM [kp 4 2]) 18 [10] (kd f185 244) (kd f185 245) 4),false),(4,(.defd false),false),oC 5 [(nI c),(nI d),(aA e),(iP f)],oC 6 [(.yield 3)],oL 8 1 (List.map aA (a++ [b]))] 9) k ⟨kk,trivial⟩
def bC8(c e:Int)(a:aC)(d:List Pat)(b:List aC):=tT 7 (aSR c e a d b)<|.o (.i [rn 6,.reg (rd 6 (.b 11 true::rd 4 [.call (bV true) (aG [oC 0 [(.ptr 5 0)],oC 1 [(.func 272 [] [(.ptr 6 0),(.ptr 1 0)])],oC 2 [(.gl 8 1 0 (b++ [a]).length false)],(3,(.loop .ready none 185 (uM [kp 4 2]) 18 [10] (kd f185 244) (kd f185 245) 4),false),(4,(.defd false),false),oC 5 [(nI c),(nI e),(aA a),(iP d)],oC 6 [(.yield 3)],oL 8 1 (List.map aA (b++ [a]))] 9),.d,.d]))] [hA ((c==2) =true),hA (Spec PP (.round 3 [(.ptr 5 2)]) (aG [oC 0 [(.ptr 5 0)],oC 1 [(.func 272 [] [(.ptr 6 0),(.ptr 1 0)])],oC 2 [(.gl 7 1 0 b.length false)],(3,(.loop .ready none 185 (uM [kp 4 2]) 18 [10] (kd f185 244) (kd f185 245) 4),false),(4,(.defd false),false),oC 5 [(nI c),(nI e),(aA a),(iP d)],oC 6 [(.yield 3)],oL 7 1 (List.map aA b)] 8) (.ret (bV true)) (aG [oC 0 [(.ptr 5 0)],oC 1 [(.func 272 [] [(.ptr 6 0),(.ptr 1 0)])],oC 2 [(.gl 8 1 0 (b++ [a]).length false)],(3,(.loop .ready none 185 (uM [kp 4 2]) 18 [10] (kd f185 244) (kd f185 245) 4),false),(4,(.defd false),false),oC 5 [(nI c),(nI e),(aA a),(iP d)],oC 6 [(.yield 3)],oL 8 1 (List.map aA (b++ [a]))] 9))]<|gm 9 aH d<|.W 4 9 [8] (aDz c e a d b (b++ [a]) 0))<|.i [rn 6,.reg (rd 6 (.b 11 false::rd 7 []))] [hA ((c==2) =false)]<|gm 9 aH d<|.W 4 8 [7] (aDz c e a d b b 0)
def bA0:=fun a b c d e f g=>bC8 a b c d e|>.1 f g ⟨kk,trivial⟩
def bA1:=fun a b c d e f=>bC8 a b c d e|>.2 f ⟨kk,trivial⟩
def bC9(c d:Int)(e:aC)(b:List Pat)(m a:List aC)(f:Int):=tT 7 (aDz c d e b m a f)<|gd 5 25 (f< (b.length:Int)) (.y fun i:Int=>.y fun j:Int=>.y fun k:aC=>.y fun l:List Pat=>.y fun g:List aC=>.i [rn 10,.reg (rd 6 [.ans (.idx (Pat.av (Pat.mk i j k l))),.call (bV true) (aG [oC 0 [(.ptr 5 0)],oC 1 [(.func 272 [] [(.ptr 6 0),(.ptr 1 0)])],oC 2 [(.gl 8 1 0 (a++g).length false)],(3,(.loop .ready none 185 (uM [kp 4 2]) 18 [10] (kd f185 244) (kd f185 245) 4),false),(4,(.defd false),false),oC 5 [(nI c),(nI d),(aA e),(iP b)],oC 6 [(.yield 3)],oL 8 1 (List.map aA (a++g))] 9),.d])] [hA (0≤f),.a (((b)[f.toNat]?) =some (Pat.mk i j k l)) (cS aH),hA (Spec PP (.enter 272 [(.iptr [(nI i),(nI j),(aA k),(iP l)]),(.ptr 6 0),(.ptr 1 0)]) (aG [oC 0 [(.ptr 5 0)],oC 1 [(.func 272 [] [(.ptr 6 0),(.ptr 1 0)])],oC 2 [(.gl 7 1 0 a.length false)],(3,(.loop .ready none 185 (uM [kp 4 2]) 18 [10] (kd f185 244) (kd f185 245) 4),false),(4,(.defd false),false),oC 5 [(nI c),(nI d),(aA e),(iP b)],oC 6 [(.yield 3)],oL 7 1 (List.map aA a)] 8) (.ret (bV true)) (aG [oC 0 [(.ptr 5 0)],oC 1 [(.func 272 [] [(.ptr 6 0),(.ptr 1 0)])],oC 2 [(.gl 8 1 0 (a++g).length false)],(3,(.loop .ready none 185 (uM [kp 4 2]) 18 [10] (kd f185 244) (kd f185 245) 4),false),(4,(.defd false),false),oC 5 [(nI c),(nI d),(aA e),(iP b)],oC 6 [(.yield 3)],oL 8 1 (List.map aA (a++g))] 9))]<|gw 5 36 (f+1)<|.W 3 9 [8] (aDz c d e b m (a++g) (f+1)))<|.E 7 8 [7] (bV true) [oC 0 [(.ptr 5 0)],oC 1 [(.func 272 [] [(.ptr 6 0),(.ptr 1 0)])],oC 2 [(.gl 7 1 0 a.length false)],(3,(.loop .ready none 185 (uM [kp 4 2]) 18 [10] (kd f185 244) (kd f185 245) 4),false),(4,(.defd false),false),oC 5 [(nI c),(nI d),(aA e),(iP b)],oC 6 [(.yield 3)],oL 7 1 (List.map aA a)] 8
def bA2:=fun a b c d e f g i j k l m n o p q r=>bC9 a b c d e f g|>.t n i j k l m o p q r ⟨kk,trivial⟩
def bA3:=fun a b c d e f g i=>bC9 a b c d e f g|>.f i ⟨kk,trivial⟩
def bDa(c d:Int)(e:aC)(f:List Pat)(i j:Int)(b:aC)(g:List Pat)(a:List aC):=tT 7 (aSS c d e f i j b g a)<|.o (.i [rn 6,.reg (rd 6 (.b 11 true::rd 4 [.call (bV true) (aG [oC 0 [(.ptr 5 0)],oC 1 [(.func 272 [] [(.ptr 6 0),(.ptr 1 0)])],oC 2 [(.gl 8 1 0 (a++ [b]).length false)],(3,(.loop .ready none 185 (uM [kp 4 2]) 18 [10] (kd f185 244) (kd f185 245) 4),false),(4,(.defd false),false),oC 5 [(nI c),(nI d),(aA e),(iP f)],oC 6 [(.yield 3)],oL 8 1 (List.map aA (a++ [b]))] 9),.d,.d]))] [hA ((i==2) =true),hA (Spec PP (.round 3 [(.iptr [(aA b),(iP g)])]) (aG [oC 0 [(.ptr 5 0)],oC 1 [(.func 272 [] [(.ptr 6 0),(.ptr 1 0)])],oC 2 [(.gl 7 1 0 a.length false)],(3,(.loop .ready none 185 (uM [kp 4 2]) 18 [10] (kd f185 244) (kd f185 245) 4),false),(4,(.defd false),false),oC 5 [(nI c),(nI d),(aA e),(iP f)],oC 6 [(.yield 3)],oL 7 1 (List.map aA a)] 8) (.ret (bV true)) (aG [oC 0 [(.ptr 5 0)],oC 1 [(.func 272 [] [(.ptr 6 0),(.ptr 1 0)])],oC 2 [(.gl 8 1 0 (a++ [b]).length false)],(3,(.loop .ready none 185 (uM [kp 4 2]) 18 [10] (kd f185 244) (kd f185 245) 4),false),(4,(.defd false),false),oC 5 [(nI c),(nI d),(aA e),(iP f)],oC 6 [(.yield 3)],oL 8 1 (List.map aA (a++ [b]))] 9))]<|gm 9 aH g<|.W 4 9 [8] (aDA c d e f i j b g a (a++ [b]) 0))<|.i [rn 6,.reg (rd 6 (.b 11 false::rd 7 []))] [hA ((i==2) =false)]<|gm 9 aH g<|.W 4 8 [7] (aDA c d e f i j b g a a 0)
def bA4:=fun a b c d e f g i j k l=>bDa a b c d e f g i j|>.1 k l ⟨kk,trivial⟩
def bA5:=fun a b c d e f g i j k=>bDa a b c d e f g i j|>.2 k ⟨kk,trivial⟩
def bDb(b c:Int)(d:aC)(e:List Pat)(n o:Int)(p:aC)(i:List Pat)(q a:List aC)(f:Int):=tT 7 (aDA b c d e n o p i q a f)<|gd 5 25 (f< (i.length:Int)) (.y fun j:Int=>.y fun k:Int=>.y fun l:aC=>.y fun m:List Pat=>.y fun g:List aC=>.i [rn 10,.reg (rd 6 [.ans (.idx (Pat.av (Pat.mk j k l m))),.call (bV true) (aG [oC 0 [(.ptr 5 0)],oC 1 [(.func 272 [] [(.ptr 6 0),(.ptr 1 0)])],oC 2 [(.gl 8 1 0 (a++g).length false)],(3,(.loop .ready none 185 (uM [kp 4 2]) 18 [10] (kd f185 244) (kd f185 245) 4),false),(4,(.defd false),false),oC 5 [(nI b),(nI c),(aA d),(iP e)],oC 6 [(.yield 3)],oL 8 1 (List.map aA (a++g))] 9),.d])] [hA (0≤f),.a (((i)[f.toNat]?) =some (Pat.mk j k l m)) (cS aH),hA (Spec PP (.enter 272 [(.iptr [(nI j),(nI k),(aA l),(iP m)]),(.ptr 6 0),(.ptr 1 0)]) (aG [oC 0 [(.ptr 5 0)],oC 1 [(.func 272 [] [(.ptr 6 0),(.ptr 1 0)])],oC 2 [(.gl 7 1 0 a.length false)],(3,(.loop .ready none 185 (uM [kp 4 2]) 18 [10] (kd f185 244) (kd f185 245) 4),false),(4,(.defd false),false),oC 5 [(nI b),(nI c),(aA d),(iP e)],oC 6 [(.yield 3)],oL 7 1 (List.map aA a)] 8) (.ret (bV true)) (aG [oC 0 [(.ptr 5 0)],oC 1 [(.func 272 [] [(.ptr 6 0),(.ptr 1 0)])],oC 2 [(.gl 8 1 0 (a++g).length false)],(3,(.loop .ready none 185 (uM [kp 4 2]) 18 [10] (kd f185 244) (kd f185 245) 4),false),(4,(.defd false),false),oC 5 [(nI b),(nI c),(aA d),(iP e)],oC 6 [(.yield 3)],oL 8 1 (List.map aA (a++g))] 9))]<|gw 5 36 (f+1)<|.W 3 9 [8] (aDA b c d e n o p i q (a++g) (f+1)))<|.E 7 8 [7] (bV true) [oC 0 [(.ptr 5 0)],oC 1 [(.func 272 [] [(.ptr 6 0),(.ptr 1 0)])],oC 2 [(.gl 7 1 0 a.length false)],(3,(.loop .ready none 185 (uM [kp 4 2]) 18 [10] (kd f185 244) (kd f185 245) 4),false),(4,(.defd false),false),oC 5 [(nI b),(nI c),(aA d),(iP e)],oC 6 [(.yield 3)],oL 7 1 (List.map aA a)] 8
def bA6:=fun a b c d e f g i j k l m n o p q r s t u v=>bDb a b c d e f g i j k l|>.t r m n o p q s t u v ⟨kk,trivial⟩
def bA7:=fun a b c d e f g i j k l m=>bDb a b c d e f g i j k l|>.f m ⟨kk,trivial⟩
end
end Go.Hb
namespace Go.Hb
open Go.Proofs
set_option maxHeartbeats 4000000
noncomputable section
mutual
def nmP :Pat→List aC
 | .mk f _ s ps=> (if f=2 then [s]else []) ++yM ps
def yM :List Pat→List aC
 | [] =>[]
 |p::ps=>nmP p++yM ps
end
abbrev bFM :AObj:=.loop .ready none 185 (uM [(4,.ptr 2 0)]) 18 [10] (cd Tryz.f185 [1,1,1,0,1,0,0]) (cd Tryz.f185 [1,1,1,0,1,0,1]) 4
abbrev aGx (f n:Int)(s:aC)(ps:List Pat) :AObj:=.cells (putCells .leaf 0 [.int .i64 f,.int .i64 n,aA s,.ilst 4 (Pats.av ps) false]) 4 [] false
abbrev HNm (f n:Int)(s:aC)(ps:List Pat)(b:Nat)(l:List aC) :List (Nat×AObj×Bool) :=[(0,.cells (putCells .leaf 0 [.ptr 5 0]) 1 [] false,false),(1,.cells (putCells .leaf 0 [.func 272 [] [.ptr 6 0,.ptr 1 0]]) 1 [] false,false),(2,.cells (putCells .leaf 0 [.gl b 1 0 (List.length l) false]) 1 [] false,false),(3,bFM,false),(4,.defd false,false),(5,aGx f n s ps,false),(6,.cells (putCells .leaf 0 [.yield 3]) 1 [] false,false),(b,.lst 1 (List.map aA l),true)]
theorem klS (l:List aC) : (AObj.lst 1 (List.map aA l)).kl:=aL _ (fun _=>rfl) _
section
variable (f n:Int) (s:aC) (ps:List Pat)
theorem nRr (l:List aC)(h:l.length<1000000) :Spec PP (.round 3 [.ptr 5 2]) (aG (HNm f n s ps 7 l) 8) (.ret (.bool true)) (aG (HNm f n s ps 8 (l++ [s])) 9) :=
 ⟨(bC6 f n s ps l).as.fr,by kernel_rfl,Eq.mp (by kernel_rfl) (bAY f n s ps l (by simp;omega))⟩
theorem nRi (f' n':Int)(s':aC)(ps':List Pat)(l:List aC)(h:l.length<1000000) :Spec PP (.round 3 [.iptr [aA s',.ilst 4 (Pats.av ps') false]]) (aG (HNm f n s ps 7 l) 8) (.ret (.bool true)) (aG (HNm f n s ps 8 (l++ [s'])) 9) :=
 ⟨(bC7 f n s ps f' n' s' ps' l).as.fr,by kernel_rfl,Eq.mp (by kernel_rfl) (bAZ f n s ps f' n' s' ps' l (by simp;omega))⟩
def aLL (p:Pat) :Prop:=∀l:List aC,l.length+aQ p≤1000000→qQ PP 7 (.enter 272 [.iptr (AV.cells (Pat.av p)),.ptr 6 0,.ptr 1 0]) (aG (HNm f n s ps 7 l) 8) (.ret (.bool true)) (aG (HNm f n s ps 7 (l++nmP p)) 8)
mutual
theorem aGy :∀p,(nmP p).length≤aQ p
 | .mk f _ s ps=>by
  have:=aIt ps;rw [nmP,aQ,List.length_append];split<;>simp<;>omega
theorem aIt :∀ps,(yM ps).length≤aM ps
 | [] =>by simp [yM]
 | p::ps=>by
  have h1:=aGy p;have h2:=aIt ps;rw [yM,aM,List.length_append];omega
end
theorem aIu (f' n':Int)(s':aC)(ps':List Pat)(l0:List aC)(hl:ps'.length<1000000)(ih:∀q∈ps',aLL f n s ps q) :∀ (t:List Pat) (i:Nat) (l:List aC),ps'.drop i=t→l.length+aM t≤1000000 →
  Ends PP 7 (aDA f n s ps f' n' s' ps' l0 l (i:Int)).as (.ret (.bool true)) (aG (HNm f n s ps 7 (l++yM t)) 8)
 | [],i,l,h,_=>by
  have:=bA h;rw [yM,List.append_nil];exact bA7 f n s ps f' n' s' ps' l0 l i sd
 | .mk f2 n2 s2 ps2::t,i,l,h,hb=>by
  obtain⟨g1,g2,g3⟩ :=aZ h;have hi:= (List.getElem?_eq_some_iff.1 g1).1;simp only [aM]at hb;have hnl:=aGy (.mk f2 n2 s2 ps2);have hs:=ih _ (List.mem_of_getElem? g1) l (by omega)
  have hs':=fE (m:=7) (ks:=[0,1,2,3,4,5,6,7]) (n2:=8) (n3:=9) (v':=.bool true) (args':=[.iptr [.int .i64 f2,.int .i64 n2,aA s2,.ilst 4 (Pats.av ps2) false],.ptr 6 0,.ptr 1 0]) (lc:=HNm f n s ps 7 l) (lc':=HNm f n s ps 8 (l++nmP (.mk f2 n2 s2 ps2)))
   hs (by rfl) (by rfl) (by kernel_rfl) (by rfl) (by rfl) (by kernel_rfl) (by kernel_rfl) ⟨klS _,trivial⟩ (by kernel_rfl) ⟨klS _,trivial⟩ (by kernel_rfl) (by kernel_rfl) (by kernel_rfl) (by kernel_rfl) (by kernel_rfl) (by kernel_rfl) (by kernel_rfl)
  have h1:=bA6 f n s ps f' n' s' ps' l0 l i f2 n2 s2 ps2 _ sd sd sd hs' sd;rw [yM,←List.append_assoc];exact h1.ends (aIu f' n' s' ps' l0 hl ih t (i+1) _ g2 (by rw [List.length_append];omega))
mutual
theorem aMZ :∀p:Pat,aQ p<1000000→aLL f n s ps p
 | .mk f' n' s' ps',hp=>fun l hl=>by
  simp only [aQ]at hp hl;have:=bK ps';refine⟨(aSS f n s ps f' n' s' ps' l).as.fr,by kernel_rfl,?_⟩;have E:Ends PP 7 (aSS f n s ps f' n' s' ps' l).as (.ret (.bool true)) (aG (HNm f n s ps 7 (l++nmP (.mk f' n' s' ps'))) 8) :=by
   have L:=fun l2 h2=>aIu f n s ps f' n' s' ps' l (by omega) (yN ps' (by omega)) ps' 0 l2 rfl h2;rw [nmP];by_cases h2:f'=2
   · rw [if_pos h2,←List.append_assoc];exact(bA4 f n s ps f' n' s' ps' l (by simp [h2]) (nRi f n s ps f' n' s' ps' l (by omega))).ends (L _ (by simp;omega))
   · rw [if_neg h2,List.nil_append];exact(bA5 f n s ps f' n' s' ps' l (by simp [h2])).ends (L l (by omega))
  exact Eq.mp (by kernel_rfl) E
theorem yN :∀qs:List Pat,aM qs<1000000→∀q∈qs,aLL f n s ps q
 | [],_,q,hq=>by cases hq
 | p::qs,h,q,hq=>by
  simp only [aM]at h;rcases List.mem_cons.1 hq with e|hq
  ·rw [e];exact aMZ p (by omega)
  ·exact yN qs (by omega) q hq
end
theorem aIv (l0:List aC)(hl:ps.length<1000000)(ih:∀q∈ps,aLL f n s ps q) :∀ (t:List Pat) (i:Nat) (l:List aC),ps.drop i=t→l.length+aM t≤1000000 →
  Ends PP 7 (aDz f n s ps l0 l (i:Int)).as (.ret (.bool true)) (aG (HNm f n s ps 7 (l++yM t)) 8)
 | [],i,l,h,_=>by
  have:=bA h;rw [yM,List.append_nil];exact bA3 f n s ps l0 l i sd
 | .mk f2 n2 s2 ps2::t,i,l,h,hb=>by
  obtain⟨g1,g2,g3⟩ :=aZ h;have hi:= (List.getElem?_eq_some_iff.1 g1).1;simp only [aM]at hb;have hnl:=aGy (.mk f2 n2 s2 ps2);have hs:=ih _ (List.mem_of_getElem? g1) l (by omega)
  have hs':=fE (m:=7) (ks:=[0,1,2,3,4,5,6,7]) (n2:=8) (n3:=9) (v':=.bool true) (args':=[.iptr [.int .i64 f2,.int .i64 n2,aA s2,.ilst 4 (Pats.av ps2) false],.ptr 6 0,.ptr 1 0]) (lc:=HNm f n s ps 7 l) (lc':=HNm f n s ps 8 (l++nmP (.mk f2 n2 s2 ps2)))
   hs (by rfl) (by rfl) (by kernel_rfl) (by rfl) (by rfl) (by kernel_rfl) (by kernel_rfl) ⟨klS _,trivial⟩ (by kernel_rfl) ⟨klS _,trivial⟩ (by kernel_rfl) (by kernel_rfl) (by kernel_rfl) (by kernel_rfl) (by kernel_rfl) (by kernel_rfl) (by kernel_rfl)
  have h1:=bA2 f n s ps l0 l i f2 n2 s2 ps2 _ sd sd sd hs' sd;rw [yM,←List.append_assoc];exact h1.ends (aIv l0 hl ih t (i+1) _ g2 (by rw [List.length_append];omega))
end
theorem bFN (f n:Int)(s:aC)(ps:List Pat)(hp:aQ (.mk f n s ps) <1000000) :qQ PP 7 (.enter 272 [.ptr 5 0,.ptr 6 0,.ptr 1 0]) (aG (HNm f n s ps 7 []) 8) (.ret (.bool true)) (aG (HNm f n s ps 7 (nmP (.mk f n s ps))) 8) :=by
 simp only [aQ]at hp;have:=bK ps;refine⟨(aSR f n s ps []).as.fr,by kernel_rfl,?_⟩;have E:Ends PP 7 (aSR f n s ps []).as (.ret (.bool true)) (aG (HNm f n s ps 7 (nmP (.mk f n s ps))) 8) :=by
  have L:=fun l2 h2=>aIv f n s ps [] (by omega) (yN f n s ps ps (by omega)) ps 0 l2 rfl h2;rw [nmP];by_cases h2:f=2
  · rw [if_pos h2];exact(bA0 f n s ps [] (by simp [h2]) (nRr f n s ps [] (by simp))).ends (L _ (by simp;omega))
  · rw [if_neg h2];exact(bA1 f n s ps [] (by simp [h2])).ends (L [] (by simp;omega))
 exact Eq.mp (by kernel_rfl) E
theorem aST (p:Pat)(hp:aQ p<1000000)(hg:wA p=true) :Pure PP 185 [Pat.av p] (.tup [.ilst 1 (List.map aA (nmP p)) false,.int .i64 0]) :=by
 have h0:=aHO p hp;obtain⟨f,n,s,ps⟩ :=p;rw [if_pos hg]at h0;refine cB (s:=bC5 f n s ps) (by kernel_rfl) (by kernel_rfl) (by simp [AV.keylessL,eE]) (by simp [AV.keyless,AV.keylessL]) ?_;have h1:=bAW f n s ps 0 h0 (by simp)
 have hs':=fE (m:=7) (ks:=[0,1,2,3,4,5,6,7]) (n2:=8) (n3:=9) (v':=.bool true) (args':=[.ptr 5 0,.ptr 6 0,.ptr 1 0]) (lc:=HNm f n s ps 7 []) (lc':=HNm f n s ps 8 (nmP (.mk f n s ps)))
  (bFN f n s ps hp) (by rfl) (by rfl) (by kernel_rfl) (by rfl) (by rfl) (by kernel_rfl) (by kernel_rfl) ⟨klS _,trivial⟩ (by kernel_rfl) ⟨klS _,trivial⟩ (by kernel_rfl) (by kernel_rfl) (by kernel_rfl) (by kernel_rfl) (by kernel_rfl) (by kernel_rfl) (by kernel_rfl)
 exact h1.ends (bAX f n s ps (nmP (.mk f n s ps)) hs')
end
end Go.Hb
namespace Go.Hb
open Go.Proofs
variable {P :Program}
theorem Spec.pan0 {c:AIn}{h h':Hp}{ch:List (AV×Bool)}(s:Spec P c h (.pan ch) h') :bBU P c h ch h':=by
 obtain⟨g,hg,he⟩ :=s;refine⟨g,hg,fun E w G r f _ cl base=>?_⟩;obtain⟨cl',w',E',s1,⟨ps,rfl,g2⟩,r2,x2⟩ :=he (Nat.le_refl _) E G [] w f rfl r cl base;exact⟨ps,w',E',s1,g2,r2,x2.toExt r⟩
theorem aSU {rs:List Rec}{k:Nat}(h0:∀r∈rs,r.1=k→Spec P r.2.1 r.2.2.1 (.ret r.2.2.2.1) r.2.2.2.2) :zK P (sO rs) k:=fun c h v h' e=>by
 unfold sO at e;split at e
 · rename_i r hr;split at e
   · rename_i hc;obtain⟨rfl,rfl⟩ :=hc;have h1:=List.find?_some hr;have:=h0 r (List.mem_of_find?_eq_some hr) (Nat.eq_of_beq_eq_true h1);simp only [Option.some.injEq]at e;rw [e]at this;exact this.sound
   ·cases e
 ·cases e
theorem wW {call:bM}{nt:Nat}{l:List Oper}:∀ {p1 p2:List Plan} {r r1 r2:RS},eA P call nt l p1 r=some r1→eA P call nt l p2 r1=some r2→eA P call nt l (p1++p2) r=some r2
 | [],_,r,r1,r2,h1,h2=>by simp only [eA,Option.some.injEq]at h1;subst h1;exact h2
 | p ::p1,p2,r,r1,r2,h1,h2=>by
  simp only [eA]at h1;split at h1
  · rename_i r' hr;simp only [List.cons_append,eA,hr];exact wW h1 h2
  ·cases h1
noncomputable section
def aDB (P:Program)(nt:Nat)(ops:Array Oper)(tm:T AV)(h:Hp)(e:Nat)(is1:List RIns)(v:AV)(h2:Hp)(is2:List RIns)(os:List (Option Ans))(ch:List (AV×Bool))(h':Hp) :Option (List Prop) :=
 let pl:=dD ops
 bif pl.ok then
  match fL P nt pl.ops is1 (pl.plans.take e) {tm,h:={h with nb:=h.nb+pl.fresh},stages:=[],s:=0,pend:=[],next:=h.nb,again:=[]},pl.plans.drop e with
  | some (r1,ps1,rs1),p::pl2=>match bU r1.tm pl.ops p.o,p.kd with
   | some true,.eff=>match jR P (aP r1.h r1.s r1.pend) r1.tm p.o with
    | some (.call c) =>match hJ r1.tm nt p.o.dst v with
     | some tm2=>match fL P nt pl.ops is2 pl2 {r1 with tm:=tm2,h:=h2,stages:=r1.h::r1.stages,s:=Nat.succ r1.s} with
      | some (r3,ps3,rs3) =>bif xK (keysOf (rs1++ (r1.s,c,aP r1.h r1.s r1.pend,v,h2) ::rs3))then
        some (ps1++ (ps3++ (pK P (r3.h::r3.stages) r3.s r3.again os++ [Spec P c (aP r1.h r1.s r1.pend) (.pan ch) h'])))else none
      |none=>none
     |none=>none
    |_=>none
   |_,_=>none
  |_,_=>none
 else none
end
theorem aGz {m:Nat}{s:AS}{id:Nat}{ops:Array Oper}{k:List AItem}(hm:s.fr.mode= .run)(hcs:s.cs= [])(hd:s.fr.defers= []){fd:Func}(hfd:P.funcs[s.fr.fn]?=some fd)(htd:s.fr.todo= .code (.region id ops true) ::k){e:Nat}{is1:List RIns}{v:AV}{h2:Hp}{is2:List RIns}{os:List (Option Ans)}{ch:List (AV×Bool)}{h':Hp}{ps:List Prop}
  (h0:aDB P s.fr.nt ops s.fr.tm s.h e is1 v h2 is2 os ch h'=some ps) (hp:∀p∈ps,p) :Ends P m s (.pan ch) h':=by
 unfold aDB at h0;simp only at h0;cases hok: (dD ops).ok with
 |false=>rw [hok]at h0;cases h0
 | true =>
  rw [hok]at h0;simp only [cond]at h0;split at h0
  · rename_i r1 ps1 rs1 p pl2 hx1 hdr;split at h0
    · rename_i hw hk;split at h0
      · rename_i c ha;split at h0
        · rename_i tm2 htm2;split at h0
          · rename_i r3 ps3 rs3 hx3;cases hn:xK (keysOf (rs1++ (r1.s,c,aP r1.h r1.s r1.pend,v,h2) ::rs3))with
            |false=>rw [hn]at h0;cases h0
            | true=>
             rw [hn]at h0;simp only at h0;cases h0;have q1:∀q∈ps1,q:=fun q hq=>hp q (List.mem_append_left _ hq);have q3:∀q∈ps3,q:=fun q hq=>hp q (List.mem_append_right _ (List.mem_append_left _ hq));have q4:∀q∈pK P (r3.h::r3.stages) r3.s r3.again os,q:=fun q hq=>hp q (List.mem_append_right _ (List.mem_append_right _ (List.mem_append_left _ hq)));have q5:Spec P c (aP r1.h r1.s r1.pend) (.pan ch) h':=hp _ (List.mem_append_right _ (List.mem_append_right _ (List.mem_append_right _ (List.mem_singleton_self _))));have hor:=aAL hn;have hst1:=iY (call:=sO (rs1++ (r1.s,c,aP r1.h r1.s r1.pend,v,h2) ::rs3)) hx1 q1 (fun x hx=>hor x (List.mem_append_left _ hx));have hst3:=iY (call:=sO (rs1++ (r1.s,c,aP r1.h r1.s r1.pend,v,h2) ::rs3)) hx3 q3 (fun x hx=>hor x (List.mem_append_right _ (List.mem_cons_of_mem _ hx)));have hrec:=hor _ (List.mem_append_right _ (List.mem_cons_self ..));simp only at hrec;have hst2:iW P (sO (rs1++ (r1.s,c,aP r1.h r1.s r1.pend,v,h2) ::rs3)) s.fr.nt (dD ops).ops p r1=some {r1 with tm:=tm2,h:=h2,stages:=r1.h::r1.stages,s:=Nat.succ r1.s}:=by
              simp only [iW,hw,hk,ha,hrec,htm2]
             have hrr:eA P (sO (rs1++ (r1.s,c,aP r1.h r1.s r1.pend,v,h2) ::rs3)) s.fr.nt (dD ops).ops (dD ops).plans {tm:=s.fr.tm,h:={s.h with nb:=s.h.nb+ (dD ops).fresh},stages:=[],s:=0,pend:=[],next:=s.h.nb,again:=[]}=some r3:=by
              rw [←List.take_append_drop e (dD ops).plans,hdr];exact wW hst1 (by simp only [eA,hst2];exact hst3)
             have hck:pG P (r3.h::r3.stages) r3.s r3.again:=nG q4;have hpe: (dD ops).plans[e]?=some p:=by
              have:=List.getElem?_drop (xs:= (dD ops).plans) (i:=e) (j:=0);rw [hdr,Nat.add_zero]at this;simpa using this.symm
             have hel:e<ops.toList.length:=by
              have hlen: (dD ops).plans.length=ops.toList.length:=kL _ _ _ _;have:= (List.getElem?_eq_some_iff.1 hpe).1;omega
             have hpo:p=nX ops.toList e ops.toList[e] :=by
              have h9:=tZ (jE ops.toList []) (eX ops.toList 0) ops.toList 0 e;rw [List.getElem?_eq_getElem hel,Option.map_some,Nat.zero_add]at h9;have h8: (dD ops).plans[e]?=some (nX ops.toList e ops.toList[e]) :=h9;rw [hpe]at h8;cases h8;rfl
             have hspec:∀k,k≠r1.s→zK P (sO (rs1++ (r1.s,c,aP r1.h r1.s r1.pend,v,h2) ::rs3)) k:=fun k hk=>aSU fun x hx ex=>by
              rcases List.mem_append.1 hx with g|g
              ·exact kN hx1 q1 x g
              · rcases List.mem_cons.1 g with rfl|g
                ·exact absurd ex.symm hk
                ·exact kN hx3 q3 x g
             intro hm0 E fr ccs w f fs rl cl base;rw [hcs]at fs;obtain rfl:=fs.nil_inv;obtain⟨afr,cs,h⟩ :=s;simp only at hm hd hfd htd hrr hst1 f rl hcs ⊢;have e0:=f.run hm;have ed:fr.defers= [] :=by
              have:=f.defers;rw [hd]at this;simpa only [DRs]using this
             have ef:fr.fn=afr.fn:=f.fn;generalize fr.fn=fn at e0 ef;generalize fr.tmps=tmps at e0;generalize fr.todo=todo at e0;generalize fr.defers=ds at e0 ed;generalize fr.kind=kd at e0;generalize fr.roundOf=ro at e0;subst e0 ed;have ft:=f.todo;simp only [htd]at ft;obtain⟨i,ck,e1,i1,i2⟩ :=ft.cons_inv;subst e1;simp only [IR]at i1;subst i1;obtain⟨E',w',tmps',is',pp,s1,c1,r1',x1⟩ :=aBL (o:=ops.toList[e]) hok hrr hck hst1 (List.getElem?_eq_getElem hel) (by rw [hpo]at hk;exact hk) hspec (by rw [hpo]at hw;exact hw) (by rw [hpo]at ha;exact ha) q5.pan0 rl f.tm id fn [] kd ro ck (cl::base);refine⟨cl.raise pp,w',E',s1.trans (.one (nW (chain:=pp) rfl rfl (fd:=fd) (by show P.funcs[fn]?=_;rw [ef];exact hfd))),⟨pp,rfl,c1⟩,r1',x1.toM hm0⟩
          ·cases h0
        ·cases h0
      ·cases h0
    ·cases h0
  ·cases h0
noncomputable section
def bFO (P:Program)(m:Nat)(is:List Ins)(s:TS)(e:Nat)(is1:List RIns)(v:AV)(h2:Hp)(is2:List RIns)(os:List (Option Ans))(ch:List (AV×Bool))(h':Hp)(hp:List (Nat×AObj×Bool))(nb:Nat)(ks:List Nat) :Option (Nat×List (AV×Bool) ×List (Option AObj) ×List Prop) :=
 match uL P is s.as with
 | some (s1,ps) =>match s1.cs,s1.fr.defers,s1.fr.mode,s1.fr.todo,P.funcs[s1.fr.fn]? with
  | [],[],.run,.code (.region _ ops true) ::_,some _=>match aDB P s1.fr.nt ops s1.fr.tm s1.h e is1 v h2 is2 os ch h' with
   |some qs=>some (h'.nb,ch,nH h' (dM m nb h'.nb ks) hp,ps++qs)
   |none=>none
  |_,_,_,_,_=>none
 |none=>none
end
theorem sJ {m:Nat}{is:List Ins}{s:TS}{e:Nat}{is1:List RIns}{v:AV}{h2:Hp}{is2:List RIns}{os:List (Option Ans)}{ch:List (AV×Bool)}{h':Hp}{hp:List (Nat×AObj×Bool)}{nb:Nat}{ks:List Nat}{n1:Nat}{ps:List Prop}
  (h0:bFO P m is s e is1 v h2 is2 os ch h' hp nb ks=some (n1,aKB (dM m nb n1 ks) ch,fS (dM m nb n1 ks) hp,ps))
  (hok:cY m ⟨⟨0,0,[],[],[],.run,.normal,none⟩,[],hp,nb⟩ ks=true) (hkl:fM hp) (hps:AllP ps) :Ends P m s.as (.pan ch) (aG hp nb) :=by
 unfold bFO at h0;split at h0
 · rename_i s1 qs h1;split at h0
   · rename_i id ops k fd hcs hd hm htd hfd;split at h0
     · rename_i qs2 hx;simp only [Option.some.injEq,Prod.mk.injEq]at h0;obtain⟨rfl,h3,h4,rfl⟩ :=h0;refine(iG h1 (fun p hpp=>hps.mem p (List.mem_append_left _ hpp))).ends ?_;intro hm0 E fr ccs w f fs r cl base;obtain⟨cl',w',E',g1,⟨ps',rfl,g2⟩,g3,g4⟩ :=aGz (m:=m) hm hcs hd hfd htd hx (fun p hpp=>hps.mem p (List.mem_append_right _ hpp)) hm0 E fr ccs w f fs r cl base;obtain⟨q1,q2⟩ :=kO hok h4 hkl g3;rw [h3]at g2;exact⟨_,w',_,g1,⟨ps',rfl,aFC g2⟩,q1,g4.trans q2⟩
     ·cases h0
   ·cases h0
 ·cases h0
end Go.Hb
namespace Go.Hb
open Go.Proofs
noncomputable section
open Go.Proofs Tryz
def aLM(a b:List (aC×Int))(c:List Int)(d e:Int)(f:aC)(g:List Pat):TS:=bF PP 107 [(.agg [(.map 0),(.map 1),(iI c)]),(.agg [(nI d),(nI e),(aA f),(iP g)])] [(0,(.map (aB aA aO 0 a) a.length),true),(1,(.map (aB aA aO 0 b) b.length),true)] 2
theorem bA8 (mf: (List (aC×Int)))(mc: (List (aC×Int)))(ar:List Int)(q_form q_n:Int)(q_text:aC)(q_parts:List Pat)(h0:Spec PP (.enter 106 [(iP q_parts),(.func 107 [(.agg [(.map 0),(.map 1),(iI ar)])] [])]) (aG [(0,(.map (aB aA aO 0 mf) mf.length),true),(1,(.map (aB aA aO 0 mc) mc.length),true),oC 2 [(.map 0),(.map 1),(iI ar)],oC 3 [(nI q_form),(nI q_n),(aA q_text),(iP q_parts)],oC 4 [(nI 0),(nI 0),(.str 0 0),.nils]] 6) (.pan [((.iface 82 (.agg [])),false)]) (aG [(0,(.map (aB aA aO 0 mf) mf.length),true),(1,(.map (aB aA aO 0 mc) mc.length),true),oC 2 [(.map 0),(.map 1),(iI ar)],oC 3 [(nI q_form),(nI q_n),(aA q_text),(iP q_parts)],oC 4 [(nI 0),(nI 0),(.str 0 0),.nils]] 6)) :
  Ends PP 2 (aLM mf mc ar q_form q_n q_text q_parts).as (.pan [((.iface 82 (.agg [])),false)]) (aG [(0,(.map (aB aA aO 0 mf) mf.length),true),(1,(.map (aB aA aO 0 mc) mc.length),true)] 2) :=
 sJ (n1:=6) (ks:=[]) (e:=8) (is1:=[.d,.d,.d,.d,.d,.d,.d,.d]) (v:= (iP ([] :List Pat))) (h2:=aG [(0,(.map (aB aA aO 0 mf) mf.length),true),(1,(.map (aB aA aO 0 mc) mc.length),true),oC 2 [(.map 0),(.map 1),(iI ar)],oC 3 [(nI q_form),(nI q_n),(aA q_text),(iP q_parts)],oC 4 [(nI 0),(nI 0),(.str 0 0),.nils]] 6) (is2:=[.d,.d,.d]) (os:=[]) (h':=aG [(0,(.map (aB aA aO 0 mf) mf.length),true),(1,(.map (aB aA aO 0 mc) mc.length),true),oC 2 [(.map 0),(.map 1),(iI ar)],oC 3 [(nI q_form),(nI q_n),(aA q_text),(iP q_parts)],oC 4 [(nI 0),(nI 0),(.str 0 0),.nils]] 6) (hp:=[(0,(.map (aB aA aO 0 mf) mf.length),true),(1,(.map (aB aA aO 0 mc) mc.length),true)]) (ch:=[((.iface 82 (.agg [])),false)]) (ps:=[(nI q_n) = (nI q_n),(nI q_n) = (nI q_n),(nI q_form) = (nI q_form),(nI q_form) = (nI q_form),Spec PP (.enter 106 [(iP q_parts),(.func 107 [(.agg [(.map 0),(.map 1),(iI ar)])] [])]) (aG [(0,(.map (aB aA aO 0 mf) mf.length),true),(1,(.map (aB aA aO 0 mc) mc.length),true),oC 2 [(.map 0),(.map 1),(iI ar)],oC 3 [(nI q_form),(nI q_n),(aA q_text),(iP q_parts)],oC 4 [(nI 0),(nI 0),(.str 0 0),.nils]] 6) (.pan [((.iface 82 (.agg [])),false)]) (aG [(0,(.map (aB aA aO 0 mf) mf.length),true),(1,(.map (aB aA aO 0 mc) mc.length),true),oC 2 [(.map 0),(.map 1),(iI ar)],oC 3 [(nI q_form),(nI q_n),(aA q_text),(iP q_parts)],oC 4 [(nI 0),(nI 0),(.str 0 0),.nils]] 6)]) (is:=[.run 7]) (by kernel_rfl) (by kernel_rfl) ⟨aI (fun _=>rfl) (fun _=>rfl) _ _ _,⟨aI (fun _=>rfl) (fun _=>rfl) _ _ _,trivial⟩⟩ ⟨rfl,rfl,rfl,rfl,h0⟩
def bDc(a b:List (aC×Int))(c:List Int)(d:List Pat):TS:=bF PP 106 [(iP d),(.func 107 [(.agg [(.map 0),(.map 1),(iI c)])] [])] [(0,(.map (aB aA aO 0 a) a.length),true),(1,(.map (aB aA aO 0 b) b.length),true)] 2
def aGA(a b:List (aC×Int))(e:List Int)(c:List Pat)(f:Int)(d:List Pat):TS:=⟨(tf 106 22 [(1,(.func 107 [(.agg [(.map 0),(.map 1),(iI e)])] [])),(4,.nils),(5,(.gl 2 4 0 d.length false)),(8,(iP c)),(9,(nI (c.length:Int))),(10,(nI f))] [kc f106 116,kl f106 116,.inBlock 0,kc f106 15]),[],[(0,(.map (aB aA aO 0 a) a.length),true),(1,(.map (aB aA aO 0 b) b.length),true),oL 2 4 (Pats.av d)],3⟩
def aSV(a b:List (aC×Int))(f:List Int)(c d:Int)(g:aC)(e:List Pat):=tT 2 (aLM a b f c d g e)<|.y fun i:List Pat=>.i [rn 7,.reg (rd 8 (.call (iP i) (aG [(0,(.map (aB aA aO 0 a) a.length),true),(1,(.map (aB aA aO 0 b) b.length),true),oC 2 [(.map 0),(.map 1),(iI f)],oC 3 [(nI c),(nI d),(aA g),(iP e)],oC 4 [(nI 0),(nI 0),(.str 0 0),.nils]] 6)::rd 3 []))] [hA (Spec PP (.enter 106 [(iP e),(.func 107 [(.agg [(.map 0),(.map 1),(iI f)])] [])]) (aG [(0,(.map (aB aA aO 0 a) a.length),true),(1,(.map (aB aA aO 0 b) b.length),true),oC 2 [(.map 0),(.map 1),(iI f)],oC 3 [(nI c),(nI d),(aA g),(iP e)],oC 4 [(nI 0),(nI 0),(.str 0 0),.nils]] 6) (.ret (iP i)) (aG [(0,(.map (aB aA aO 0 a) a.length),true),(1,(.map (aB aA aO 0 b) b.length),true),oC 2 [(.map 0),(.map 1),(iI f)],oC 3 [(nI c),(nI d),(aA g),(iP e)],oC 4 [(nI 0),(nI 0),(.str 0 0),.nils]] 6)),hr (nI d),hr (nI d),hr (nI c),hr (nI c)]<|.b 7 18 (c==6) (gm 7 aH e<|.o (gK 0 (.enter 109 [(.agg [(.map 0),(.map 1),(iI f)]),(aA g),(nI (e.length:Int))]) [(0,(.map (aB aA aO 0 a) a.length),true),(1,(.map (aB aA aO 0 b) b.length),true),oC 2 [(.map 0),(.map 1),(iI f)],oC 3 [(nI c),(nI d),(aA g),(iP e)],oC 4 [(nI 0),(nI 0),(.str 0 0),.nils],oC 5 [(nI c),(nI d),(.str 0 0),(iP i)]] 6 [((.iface 82 (.agg [])),false)] [(0,(.map (aB aA aO 0 a) a.length),true),(1,(.map (aB aA aO 0 b) b.length),true),oC 2 [(.map 0),(.map 1),(iI f)],oC 3 [(nI c),(nI d),(aA g),(iP e)],oC 4 [(nI 0),(nI 0),(.str 0 0),.nils],oC 5 [(nI c),(nI d),(.str 0 0),(iP i)]] 6<|.P 0 6 [] [((.iface 82 (.agg [])),false)] [(0,(.map (aB aA aO 0 a) a.length),true),(1,(.map (aB aA aO 0 b) b.length),true)] 2)<|.y fun j:Int=>gk 0 (.enter 109 [(.agg [(.map 0),(.map 1),(iI f)]),(aA g),(nI (e.length:Int))]) [(0,(.map (aB aA aO 0 a) a.length),true),(1,(.map (aB aA aO 0 b) b.length),true),oC 2 [(.map 0),(.map 1),(iI f)],oC 3 [(nI c),(nI d),(aA g),(iP e)],oC 4 [(nI 0),(nI 0),(.str 0 0),.nils],oC 5 [(nI c),(nI d),(.str 0 0),(iP i)]] 6 (nI j) [(0,(.map (aB aA aO 0 a) a.length),true),(1,(.map (aB aA aO 0 b) b.length),true),oC 2 [(.map 0),(.map 1),(iI f)],oC 3 [(nI c),(nI d),(aA g),(iP e)],oC 4 [(nI 0),(nI 0),(.str 0 0),.nils],oC 5 [(nI c),(nI d),(.str 0 0),(iP i)]] 6<|.E 9 6 [] (.agg [(nI c),(nI j),(.str 0 0),(iP i)]) [(0,(.map (aB aA aO 0 a) a.length),true),(1,(.map (aB aA aO 0 b) b.length),true)] 2)<|.E 8 6 [] (.agg [(nI c),(nI d),(.str 0 0),(iP i)]) [(0,(.map (aB aA aO 0 a) a.length),true),(1,(.map (aB aA aO 0 b) b.length),true)] 2
def bA9:=fun a b c d e f g i j k l=>aSV a b c d e f g i j|>.t k|>.1 l ⟨aI (fun _=>rfl) (fun _=>rfl) _ _ _,⟨aI (fun _=>rfl) (fun _=>rfl) _ _ _,trivial⟩⟩
def bBa:=fun a b c d e f g i j k l m=>aSV a b c d e f g i k|>.t l|>.2 j m ⟨aI (fun _=>rfl) (fun _=>rfl) _ _ _,⟨aI (fun _=>rfl) (fun _=>rfl) _ _ _,trivial⟩⟩
def bBb:=fun a b c d e f g i j k=>aSV a b c d e f g i j|>.f k ⟨aI (fun _=>rfl) (fun _=>rfl) _ _ _,⟨aI (fun _=>rfl) (fun _=>rfl) _ _ _,trivial⟩⟩
def bBc (b c:List (aC×Int))(d:List Int)(a:List Pat):=(tT 2 (bDc b c d a)<|gm 12 aH a<|.i [rn 4,.nilL 5 4] []<|gu 0 2 (Pats.av ([] :List Pat))<|gs 0 5 (.gl 2 4 0 ([] :List Pat).length false)<|.W 0 3 [2] (aGA b c d a 0 ([] :List Pat))) ⟨aI (fun _=>rfl) (fun _=>rfl) _ _ _,⟨aI (fun _=>rfl) (fun _=>rfl) _ _ _,⟨cC,trivial⟩⟩⟩
def aSW(a b:List (aC×Int))(j:List Int)(k:List Pat)(i:Int)(c:List Pat):=tT 2 (aGA a b j k i c)<|gd 5 11 (i< (k.length:Int)) (mU 6 k i<|fun d e f g=>.o (gK 8 (.enter 107 [(.agg [(.map 0),(.map 1),(iI j)]),(.agg [(nI d),(nI e),(aA f),(iP g)])]) [(0,(.map (aB aA aO 0 a) a.length),true),(1,(.map (aB aA aO 0 b) b.length),true),oL 2 4 (Pats.av c),oC 3 [(nI d),(nI e),(aA f),(iP g)]] 4 [((.iface 82 (.agg [])),false)] [(0,(.map (aB aA aO 0 a) a.length),true),(1,(.map (aB aA aO 0 b) b.length),true),oL 2 4 (Pats.av c),oC 3 [(nI d),(nI e),(aA f),(iP g)]] 4<|.P 0 4 [] [((.iface 82 (.agg [])),false)] [(0,(.map (aB aA aO 0 a) a.length),true),(1,(.map (aB aA aO 0 b) b.length),true)] 2)<|.y fun l:Int=>.y fun m:Int=>.y fun n:aC=>.y fun o:List Pat=>gk 8 (.enter 107 [(.agg [(.map 0),(.map 1),(iI j)]),(.agg [(nI d),(nI e),(aA f),(iP g)])]) [(0,(.map (aB aA aO 0 a) a.length),true),(1,(.map (aB aA aO 0 b) b.length),true),oL 2 4 (Pats.av c),oC 3 [(nI d),(nI e),(aA f),(iP g)]] 4 (.agg [(nI l),(nI m),(aA n),(iP o)]) [(0,(.map (aB aA aO 0 a) a.length),true),(1,(.map (aB aA aO 0 b) b.length),true),oL 2 4 (Pats.av c),oC 3 [(nI d),(nI e),(aA f),(iP g)]] 4<|gA 1 aH c [(Pat.mk l m n o)]<|gw 5 20 (i+1)<|.W 3 6 [5] (aGA a b j k (i+1) (c++ [(Pat.mk l m n o)])))<|gZ 8 4 2 4 aH cC c false<|.E 0 3 [] (iP c) [(0,(.map (aB aA aO 0 a) a.length),true),(1,(.map (aB aA aO 0 b) b.length),true)] 2
def bBd:=fun a b c d e f g i j k l m n o=>aSW a b c d e f|>.t l g i j k m n|>.1 o ⟨aI (fun _=>rfl) (fun _=>rfl) _ _ _,⟨aI (fun _=>rfl) (fun _=>rfl) _ _ _,trivial⟩⟩
def bBe:=fun a b c d e f g i j k l m n o p q r s t u=>aSW a b c d e f|>.t p g i j k q r|>.2 l m n o s t u ⟨aI (fun _=>rfl) (fun _=>rfl) _ _ _,⟨aI (fun _=>rfl) (fun _=>rfl) _ _ _,⟨cC,trivial⟩⟩⟩
def bBf:=fun a b c d e f g=>aSW a b c d e f|>.f g ⟨aI (fun _=>rfl) (fun _=>rfl) _ _ _,⟨aI (fun _=>rfl) (fun _=>rfl) _ _ _,trivial⟩⟩
end
end Go.Hb
namespace Go.Hb
open Go.Proofs
set_option maxHeartbeats 4000000
noncomputable section
abbrev WL (mf mc:List (aC×Int)) :List (Nat×AObj×Bool) :=[(0,kV mf,true),(1,kV mc,true)]
theorem aIw (mf mc:List (aC×Int)) :fM (WL mf mc) := ⟨aI (fun _=>rfl) (fun _=>rfl) _ _ _,aI (fun _=>rfl) (fun _=>rfl) _ _ _,trivial⟩
theorem frW {f:Nat}{args:List AV}{res:Res}{mf mc:List (aC×Int)}{lc:List (Nat×AObj×Bool)}{n2:Nat}(h:Spec PP (.enter f args) (WH mf mc) res (WH mf mc))(hv:sP res)
  (h1:AV.renL (dM 0 2 n2 [0,1]) args=args:=by kernel_rfl) (hl:nH (aG lc n2) (dM 0 2 n2 [0,1]) (WL mf mc) =fS (dM 0 2 n2 [0,1]) (WL mf mc) :=by kernel_rfl) (hx:dW n2 lc=true:=by kernel_rfl)
  (hlt: [0,1].all (fun k=>Nat.blt k n2) =true:=by kernel_rfl) (hout:uN (namesT (dM 0 2 n2 [0,1]) (WL mf mc)) [0,1] (aG lc n2) lc=nJ lc:=by kernel_rfl) :Spec PP (.enter f args) (aG lc n2) res (aG lc n2) :=
 cI h h1 hv (by kernel_rfl) hl (aIw mf mc) hl (aIw mf mc) (by kernel_rfl) (by kernel_rfl) hx hx (by kernel_rfl) hlt hout (by kernel_rfl)
mutual
def wP (mc:List (aC×Int))(ar:List Int) :Pat→Option Pat
 | .mk f n s ps=>match wPs mc ar ps with
  |none=>none
  | some qs=>if f=6 then(match aGq mc ar s (List.length ps)with
   |none=>none
   |some k=>some (.mk f k [] qs))else some (.mk f n [] qs)
def wPs (mc:List (aC×Int))(ar:List Int) :List Pat→Option (List Pat)
 | [] =>some []
 | p::ps=>match wP mc ar p with
  |none=>none
  | some q=>match wPs mc ar ps with
   |none=>none
   |some qs=>some (q::qs)
end
abbrev WVa (ar:List Int) :AV:=.agg [.map 0,.map 1,.ilst 1 (List.map aO ar) false]
def bEr :Option Pat→Res
 |none=>.pan UB
 |some p=>.ret (Pat.av p)
def aM0 (acc:List Pat) :Option (List Pat) →Res
 |none=>.pan UB
 |some qs=>.ret (.ilst 4 (Pats.av (acc++qs)) false)
theorem aKg :sP (.pan UB) :=fun x hx=>by
 simp only [UB,List.mem_singleton]at hx;subst hx;rfl
theorem bBg :∀o,sP (bEr o)
 |none=>aKg
 |some p=>eE p
theorem aLO (acc:List Pat) :∀o,sP (aM0 acc o)
 |none=>aKg
 |some qs=>by simp [aM0,sP,AV.keyless]
theorem aGB :∀o,sP (aMR o)
 |none=>aKg
 |some n=>rfl
section
variable (mf mc:List (aC×Int)) (ar:List Int)
def WPS (p:Pat) :Prop:=Spec PP (.enter 107 [WVa ar,Pat.av p]) (WH mf mc) (bEr (wP mc ar p)) (WH mf mc)
theorem aIx (ql:List Pat)(hl:ql.length<1000000)(ih:∀p∈ql,WPS mf mc ar p) :∀ (t:List Pat) (i:Nat) (acc:List Pat),ql.drop i=t→acc.length=i →
  Ends PP 2 (aGA mf mc ar ql (i:Int) acc).as (aM0 acc (wPs mc ar t)) (WH mf mc)
 | [],i,acc,h,_=>by
  have:=bA h;rw [wPs];simp only [aM0,List.append_nil];exact bBf mf mc ar ql i acc sd
 | .mk f n s ps::t,i,acc,h,ha=>by
  obtain⟨g1,g2,g3⟩ :=aZ h;have hi:= (List.getElem?_eq_some_iff.1 g1).1;have hs:=ih _ (List.mem_of_getElem? g1);unfold WPS at hs;have hs':=frW (lc:=[(0,kV mf,true),(1,kV mc,true),(2,.lst 4 (Pats.av acc),true),(3,aGx f n s ps,false)]) (n2:=4) hs (bBg _);rw [wPs];cases hw:wP mc ar (.mk f n s ps)with
  | none=>
   rw [hw]at hs';exact bBd mf mc ar ql i acc f n s ps sd sd sd hs'
  | some q=>
   rw [hw]at hs';obtain⟨f',n',s',ps'⟩ :=q;have h1:=bBe mf mc ar ql i acc f n s ps f' n' s' ps' sd sd sd hs' (by simp;omega) sd;have h2:=aIx ql hl ih t (i+1) (acc++ [.mk f' n' s' ps']) g2 (by simp [ha]);simp only;cases hr:wPs mc ar t with
   |none=>rw [hr]at h2;exact h1.ends h2
   | some qs=>
    rw [hr]at h2;simp only [aM0]at h2 ⊢;rw [show acc++ .mk f' n' s' ps'::qs= (acc++ [.mk f' n' s' ps']) ++qs by simp];exact h1.ends h2
theorem aIy (ql:List Pat)(hl:ql.length<1000000)(ih:∀p∈ql,WPS mf mc ar p) :Spec PP (.enter 106 [.ilst 4 (Pats.av ql) false,.func 107 [WVa ar] []]) (WH mf mc) (aM0 [] (wPs mc ar ql)) (WH mf mc) :=
 ⟨(bDc mf mc ar ql).as.fr,by kernel_rfl,Eq.mp (by kernel_rfl) ((bBc mf mc ar ql).ends (aIx mf mc ar ql hl ih ql 0 [] rfl rfl))⟩
mutual
theorem aSX (hn:∀s n,cJ s mc=some n→0≤n∧n<ar.length) :∀p:Pat,aQ p<1000000→WPS mf mc ar p
 | .mk f n s ps,hp=>by
  simp only [aQ]at hp;have:=bK ps;have hm:=aIy mf mc ar ps (by omega) (aA9 hn ps (by omega));have hm':=frW (lc:=[(0,kV mf,true),(1,kV mc,true),(2,.cells (putCells .leaf 0 [.map 0,.map 1,.ilst 1 (List.map aO ar) false]) 3 [] false,false),(3,aGx f n s ps,false),(4,.cells (putCells .leaf 0 [.int .i64 0,.int .i64 0,.str 0 0,.nils]) 4 [] false,false)]) (n2:=6) hm (aLO _ _);refine⟨(aLM mf mc ar f n s ps).as.fr,by kernel_rfl,?_⟩;have E:Ends PP 2 (aLM mf mc ar f n s ps).as (bEr (wP mc ar (.mk f n s ps))) (WH mf mc) :=by
   rw [wP];cases hr:wPs mc ar ps with
   | none=>
    rw [hr]at hm';exact bA8 mf mc ar f n s ps hm'
   | some qs=>
    rw [hr]at hm';simp only;by_cases h6:f=6
    · rw [if_pos h6];have hc:=aId mf mc ar s (List.length ps) (hn s);have hc':=frW (lc:=[(0,kV mf,true),(1,kV mc,true),(2,.cells (putCells .leaf 0 [.map 0,.map 1,.ilst 1 (List.map aO ar) false]) 3 [] false,false),(3,aGx f n s ps,false),(4,.cells (putCells .leaf 0 [.int .i64 0,.int .i64 0,.str 0 0,.nils]) 4 [] false,false),(5,.cells (putCells .leaf 0 [.int .i64 f,.int .i64 n,.str 0 0,.ilst 4 (Pats.av qs) false]) 4 [] false,false)]) (n2:=6) hc (aGB _);cases hk:aGq mc ar s (List.length ps)with
      | none=>
       rw [hk]at hc';exact bA9 mf mc ar f n s ps qs hm' (by simp [h6]) hc'
      | some k=>
       rw [hk]at hc';exact bBa mf mc ar f n s ps qs k hm' (by simp [h6]) hc'
    · rw [if_neg h6];exact bBb mf mc ar f n s ps qs hm' (by simp [h6])
  exact Eq.mp (by kernel_rfl) E
theorem aA9 (hn:∀s n,cJ s mc=some n→0≤n∧n<ar.length) :∀qs:List Pat,aM qs<1000000→∀p∈qs,WPS mf mc ar p
 | [],_,p,hp=>by cases hp
 | q::qs,h,p,hp=>by
  simp only [aM]at h;rcases List.mem_cons.1 hp with e|hp
  ·rw [e];exact aSX hn q (by omega)
  ·exact aA9 hn qs (by omega) p hp
end
end
end
end Go.Hb
namespace Go.Hb
open Go.Proofs
noncomputable section
theorem bBh {P:Program}{α:Type}{f:α→AV}{t:TypeId}{e:Nat}(hu:tB P t e=true){xs:List α}{kk:IntKind} :
  bCW P t (.ilst e (List.map f xs) false) none (some (.int kk ((List.length xs:Nat) :Int))) (some (.int kk ((List.length xs:Nat) :Int))) (.ilst e (List.map f xs) true) :=by
 refine⟨_,_,_,oG,vO (by omega),vO (by omega),.inr ⟨?_,?_⟩⟩
 ·unfold mP;split<;>simp_all
 · unfold tC;simp only [hu,cond,Option.getD_some,Option.getD_none,List.length_map];rw [if_pos ⟨by omega,Nat.le_refl _,by simp⟩];simp [List.take_of_length_le]
end
end Go.Hb
namespace Go.Hb
open Go.Proofs
noncomputable section
open Go.Proofs Tryz
def bDd(a b:List (aC×Int))(d:List Int)(e:List aC)(c:List ONode)(f g:Int)(i:aC)(j:List Term)(k:List Pat):TS:=bF PP 44 [(.ptr 2 0),(.agg [(.map 0),(.map 1),(iI d),(iS e)]),(.agg [(nI f),(nI g),(aA i),(.ilst 5 (Terms.av j) false),(iP k)])] [(0,(.map (aB aA aO 0 a) a.length),true),(1,(.map (aB aA aO 0 b) b.length),true),oC 2 [(.gl 3 4 0 c.length false)],oL 3 4 (List.map ONode.av c)] 4
def aBa(a b:List (aC×Int))(d:List Int)(e:List aC)(c:List ONode)(f g:Int)(i:aC)(j:List Term)(k:List Pat):TS:=⟨(tf 44 94 [kp 0 2,kp 4 3,kp 5 4,(6,(nI 0))] [kc f44 6,kc f44 7]),[],[(0,(.map (aB aA aO 0 a) a.length),true),(1,(.map (aB aA aO 0 b) b.length),true),oC 2 [(.gl 5 4 0 c.length false)],oC 3 [(.map 0),(.map 1),(iI d),(iS e)],oC 4 [(nI f),(nI g),(aA i),(.ilst 5 (Terms.av j) false),(iP k)],oL 5 4 (List.map ONode.av c)],6⟩
def vE(b c:List (aC×Int))(e:List Int)(f:List aC)(g:List ONode)(i j:Int)(k:aC)(a:List Term)(l:List Pat)(d:List ONode):TS:=⟨(tf 44 94 [kp 0 2,kp 4 3,kp 5 4,(6,(nI 0)),(7,(nI (g.length:Int))),(59,(.ilst 5 (Terms.av a) false)),(60,(nI (a.length:Int))),(61,(nI 0))] [kc f44 1012,kl f44 1012,.inBlock 1,kc f44 127]),[],[(0,(.map (aB aA aO 0 b) b.length),true),(1,(.map (aB aA aO 0 c) c.length),true),oC 2 [(.gl 5 4 0 d.length false)],oC 3 [(.map 0),(.map 1),(iI e),(iS f)],oC 4 [(nI i),(nI j),(aA k),(.ilst 5 (Terms.av a) false),(iP l)],oL 5 4 (List.map ONode.av d)],6⟩
def aSY(b c:List (aC×Int))(e:List Int)(f:List aC)(g:List ONode)(i j:Int)(k:aC)(a:List Term)(l:List Pat)(m:Int)(d:List ONode):TS:=⟨(tf 44 94 [kp 0 2,kp 4 3,kp 5 4,(6,(nI 0)),(7,(nI (g.length:Int))),(11,(nI m)),(59,(.ilst 5 (Terms.av a) false)),(60,(nI (a.length:Int))),(61,(nI 0))] [kc f44 64819,.inBlock 2,kc f44 8103,kl f44 1012,.inBlock 1,kc f44 127]),[],[(0,(.map (aB aA aO 0 b) b.length),true),(1,(.map (aB aA aO 0 c) c.length),true),oC 2 [(.gl 5 4 0 d.length false)],oC 3 [(.map 0),(.map 1),(iI e),(iS f)],oC 4 [(nI i),(nI j),(aA k),(.ilst 5 (Terms.av a) false),(iP l)],oL 5 4 (List.map ONode.av d)],6⟩
def aLP(b c:List (aC×Int))(e:List Int)(f:List aC)(g:List ONode)(i j:Int)(k:aC)(a:List Term)(l:List Pat)(m:Int)(d:List ONode)(n:Nat)(o p:Int)(q:List Pat):TS:=⟨(tf 44 94 [kp 0 2,kp 4 3,kp 5 4,(6,(nI 0)),(7,(nI (g.length:Int))),(11,(nI m)),(59,(.ilst 5 (Terms.av a) false)),(60,(nI (a.length:Int))),(61,(nI 0))] [kc f44 64819,.inBlock 2,kc f44 8103,kl f44 1012,.inBlock 1,kc f44 127]),[],[(0,(.map (aB aA aO 0 b) b.length),true),(1,(.map (aB aA aO 0 c) c.length),true),oC 2 [(.gl 5 4 0 d.length false)],oC 3 [(.map 0),(.map 1),(iI e),(iS f)],oC 4 [(nI i),(nI j),(aA k),(.ilst 5 (Terms.av a) false),(iP l)],(5,(.lst 4 (List.set (List.map ONode.av d) n (.agg [(nI o),(nI p),(.gl 6 1 0 ([] :List Int).length false),(iP q)]))),false),oL 6 1 (jI ([] :List Int))],7⟩
def yO(b c:List (aC×Int))(e:List Int)(f:List aC)(g:List ONode)(i j:Int)(k:aC)(a:List Term)(l:List Pat)(d:List ONode)(m:List Int)(n:Value)(o:Int):TS:=⟨(tf 44 94 [kp 0 2,kp 4 3,kp 5 4,(6,(nI 0)),(7,(nI (g.length:Int))),(59,(.ilst 5 (Terms.av a) false)),(60,(nI (a.length:Int))),(61,(nI o))] [kc f44 1012,kl f44 1012,.inBlock 1,kc f44 127]),[],[(0,(.map (aB aA aO 0 b) b.length),true),(1,(.map (aB aA aO 0 c) c.length),true),oC 2 [(.gl 5 4 0 d.length false)],oC 3 [(.map 0),(.map 1),(iI e),(iS f)],oC 4 [(nI i),(nI j),(aA k),(.ilst 5 (Terms.av a) false),(iP l)],oL 5 4 (List.map ONode.av d),(6,(.lstv n 1 (jI m)),true)],7⟩
def aSZ(b c:List (aC×Int))(e:List Int)(f:List aC)(g:List ONode)(i j:Int)(k:aC)(a:List Term)(l:List Pat)(m:Int)(d:List ONode)(n:List Int)(o:Value)(p:Int):TS:=⟨(tf 44 94 [kp 0 2,kp 4 3,kp 5 4,(6,(nI 0)),(7,(nI (g.length:Int))),(11,(nI m)),(59,(.ilst 5 (Terms.av a) false)),(60,(nI (a.length:Int))),(61,(nI p))] [kc f44 64819,.inBlock 2,kc f44 8103,kl f44 1012,.inBlock 1,kc f44 127]),[],[(0,(.map (aB aA aO 0 b) b.length),true),(1,(.map (aB aA aO 0 c) c.length),true),oC 2 [(.gl 5 4 0 d.length false)],oC 3 [(.map 0),(.map 1),(iI e),(iS f)],oC 4 [(nI i),(nI j),(aA k),(.ilst 5 (Terms.av a) false),(iP l)],oL 5 4 (List.map ONode.av d),(6,(.lstv o 1 (jI n)),true)],7⟩
def aLQ(b c:List (aC×Int))(f:List Int)(g:List aC)(i:List ONode)(j k:Int)(l:aC)(a:List Term)(m:List Pat)(n:Int)(d:List ONode)(e:List Int)(o:Int)(p:Nat)(q r:Int)(s:List Pat):TS:=⟨(tf 44 94 [kp 0 2,kp 4 3,kp 5 4,(6,(nI 0)),(7,(nI (i.length:Int))),(11,(nI n)),(59,(.ilst 5 (Terms.av a) false)),(60,(nI (a.length:Int))),(61,(nI o))] [kc f44 64819,.inBlock 2,kc f44 8103,kl f44 1012,.inBlock 1,kc f44 127]),[],[(0,(.map (aB aA aO 0 b) b.length),true),(1,(.map (aB aA aO 0 c) c.length),true),oC 2 [(.gl 5 4 0 d.length false)],oC 3 [(.map 0),(.map 1),(iI f),(iS g)],oC 4 [(nI j),(nI k),(aA l),(.ilst 5 (Terms.av a) false),(iP m)],(5,(.lst 4 (List.set (List.map ONode.av d) p (.agg [(nI q),(nI r),(.gl 6 1 0 e.length false),(iP s)]))),false),oL 6 1 (jI e)],7⟩
def bBi (a b:List (aC×Int))(c:List Int)(d:List aC)(e:List ONode)(f g:Int)(i:aC)(j:List Term)(k:List Pat):=(tT 3 (bDd a b c d e f g i j k)<|.W 7 6 [4,5,3] (aBa a b c d e f g i j k)) ⟨aI (fun _=>rfl) (fun _=>rfl) _ _ _,⟨aI (fun _=>rfl) (fun _=>rfl) _ _ _,⟨(aL _ (fun _=>bH _) _),trivial⟩⟩⟩
def aIz(d e:List (aC×Int))(i:List Int)(k:List aC)(a:List ONode)(b c:Int)(j:aC)(g:List Term)(l:List Pat):=tT 3 (aBa d e i k a b c j g l)<|.y fun f:List Pat=>.i [rn 9,.reg (rd 9 (.call (iP f) (aG [(0,(.map (aB aA aO 0 d) d.length),true),(1,(.map (aB aA aO 0 e) e.length),true),oC 2 [(.gl 5 4 0 a.length false)],oC 3 [(.map 0),(.map 1),(iI i),(iS k)],oC 4 [(nI b),(nI c),(aA j),(.ilst 5 (Terms.av g) false),(iP l)],oL 5 4 (List.map ONode.av a)] 7)::rd 3 []))] [hA (Spec PP (.enter 106 [(iP l),(.func 107 [(.agg [(.map 0),(.map 1),(iI i)])] [])]) (aG [(0,(.map (aB aA aO 0 d) d.length),true),(1,(.map (aB aA aO 0 e) e.length),true),oC 2 [(.gl 5 4 0 a.length false)],oC 3 [(.map 0),(.map 1),(iI i),(iS k)],oC 4 [(nI b),(nI c),(aA j),(.ilst 5 (Terms.av g) false),(iP l)],oL 5 4 (List.map ONode.av a)] 7) (.ret (iP f)) (aG [(0,(.map (aB aA aO 0 d) d.length),true),(1,(.map (aB aA aO 0 e) e.length),true),oC 2 [(.gl 5 4 0 a.length false)],oC 3 [(.map 0),(.map 1),(iI i),(iS k)],oC 4 [(nI b),(nI c),(aA j),(.ilst 5 (Terms.av g) false),(iP l)],oL 5 4 (List.map ONode.av a)] 7)),hr (nI c),hr (nI c),hr (nI b),hr (nI b)]<|.b 12 30 (b==4) (.o (gK 5 (.enter 108 [(.agg [(.map 0),(.map 1),(iI i),(iS k)]),(aA j)]) [(0,(.map (aB aA aO 0 d) d.length),true),(1,(.map (aB aA aO 0 e) e.length),true),oC 2 [(.gl 5 4 0 a.length false)],oC 3 [(.map 0),(.map 1),(iI i),(iS k)],oC 4 [(nI b),(nI c),(aA j),(.ilst 5 (Terms.av g) false),(iP l)],oL 5 4 (List.map ONode.av a),oC 6 [(nI b),(nI c),.nils,(iP f)]] 7 [((.iface 82 (.agg [])),false)] [(0,(.map (aB aA aO 0 d) d.length),true),(1,(.map (aB aA aO 0 e) e.length),true),oC 2 [(.gl 5 4 0 a.length false)],oC 3 [(.map 0),(.map 1),(iI i),(iS k)],oC 4 [(nI b),(nI c),(aA j),(.ilst 5 (Terms.av g) false),(iP l)],oL 5 4 (List.map ONode.av a),oC 6 [(nI b),(nI c),.nils,(iP f)]] 7<|.P 0 7 [] [((.iface 82 (.agg [])),false)] [(0,(.map (aB aA aO 0 d) d.length),true),(1,(.map (aB aA aO 0 e) e.length),true)] 3)<|.y fun m:Int=>gk 5 (.enter 108 [(.agg [(.map 0),(.map 1),(iI i),(iS k)]),(aA j)]) [(0,(.map (aB aA aO 0 d) d.length),true),(1,(.map (aB aA aO 0 e) e.length),true),oC 2 [(.gl 5 4 0 a.length false)],oC 3 [(.map 0),(.map 1),(iI i),(iS k)],oC 4 [(nI b),(nI c),(aA j),(.ilst 5 (Terms.av g) false),(iP l)],oL 5 4 (List.map ONode.av a),oC 6 [(nI b),(nI c),.nils,(iP f)]] 7 (nI m) [(0,(.map (aB aA aO 0 d) d.length),true),(1,(.map (aB aA aO 0 e) e.length),true),oC 2 [(.gl 5 4 0 a.length false)],oC 3 [(.map 0),(.map 1),(iI i),(iS k)],oC 4 [(nI b),(nI c),(aA j),(.ilst 5 (Terms.av g) false),(iP l)],oL 5 4 (List.map ONode.av a),oC 6 [(nI b),(nI c),.nils,(iP f)]] 7<|.i [rn 5,.reg (rd 7 (.app (List.map ONode.av (a++ [(ONode.mk b m KV.nil f)])) (a++ [(ONode.mk b m KV.nil f)]).length::rd 3 []))] [hb ONode.av a,hA (List.length (a++ [(ONode.mk b m KV.nil f)]) ≤1000000),hc ONode.av a [(ONode.mk b m KV.nil f)],he ONode.av a [(ONode.mk b m KV.nil f)]]<|gm 5 bG g<|.W 4 9 [3,4,8] (vE d e i k a b c j g l (a++ [(ONode.mk b m KV.nil f)])))<|.b 6 37 (b==14) (gm 8 bG g<|.o (gK 0 (.enter 109 [(.agg [(.map 0),(.map 1),(iI i)]),(aA j),(nI (g.length:Int))]) [(0,(.map (aB aA aO 0 d) d.length),true),(1,(.map (aB aA aO 0 e) e.length),true),oC 2 [(.gl 5 4 0 a.length false)],oC 3 [(.map 0),(.map 1),(iI i),(iS k)],oC 4 [(nI b),(nI c),(aA j),(.ilst 5 (Terms.av g) false),(iP l)],oL 5 4 (List.map ONode.av a),oC 6 [(nI b),(nI c),.nils,(iP f)]] 7 [((.iface 82 (.agg [])),false)] [(0,(.map (aB aA aO 0 d) d.length),true),(1,(.map (aB aA aO 0 e) e.length),true),oC 2 [(.gl 5 4 0 a.length false)],oC 3 [(.map 0),(.map 1),(iI i),(iS k)],oC 4 [(nI b),(nI c),(aA j),(.ilst 5 (Terms.av g) false),(iP l)],oL 5 4 (List.map ONode.av a),oC 6 [(nI b),(nI c),.nils,(iP f)]] 7<|.P 0 7 [] [((.iface 82 (.agg [])),false)] [(0,(.map (aB aA aO 0 d) d.length),true),(1,(.map (aB aA aO 0 e) e.length),true)] 3)<|.y fun m:Int=>gk 0 (.enter 109 [(.agg [(.map 0),(.map 1),(iI i)]),(aA j),(nI (g.length:Int))]) [(0,(.map (aB aA aO 0 d) d.length),true),(1,(.map (aB aA aO 0 e) e.length),true),oC 2 [(.gl 5 4 0 a.length false)],oC 3 [(.map 0),(.map 1),(iI i),(iS k)],oC 4 [(nI b),(nI c),(aA j),(.ilst 5 (Terms.av g) false),(iP l)],oL 5 4 (List.map ONode.av a),oC 6 [(nI b),(nI c),.nils,(iP f)]] 7 (nI m) [(0,(.map (aB aA aO 0 d) d.length),true),(1,(.map (aB aA aO 0 e) e.length),true),oC 2 [(.gl 5 4 0 a.length false)],oC 3 [(.map 0),(.map 1),(iI i),(iS k)],oC 4 [(nI b),(nI c),(aA j),(.ilst 5 (Terms.av g) false),(iP l)],oL 5 4 (List.map ONode.av a),oC 6 [(nI b),(nI c),.nils,(iP f)]] 7<|.i [rn 5,.reg (rd 7 (.app (List.map ONode.av (a++ [(ONode.mk b m KV.nil f)])) (a++ [(ONode.mk b m KV.nil f)]).length::rd 3 []))] [hb ONode.av a,hA (List.length (a++ [(ONode.mk b m KV.nil f)]) ≤1000000),hc ONode.av a [(ONode.mk b m KV.nil f)],he ONode.av a [(ONode.mk b m KV.nil f)]]<|gm 5 bG g<|.W 4 9 [3,4,8] (vE d e i k a b c j g l (a++ [(ONode.mk b m KV.nil f)])))<|.i [rn 4,.reg (rd 7 (.app (List.map ONode.av (a++ [(ONode.mk b c KV.nil f)])) (a++ [(ONode.mk b c KV.nil f)]).length::rd 3 []))] [hb ONode.av a,hA (List.length (a++ [(ONode.mk b c KV.nil f)]) ≤1000000),hc ONode.av a [(ONode.mk b c KV.nil f)],he ONode.av a [(ONode.mk b c KV.nil f)]]<|gm 5 bG g<|.W 4 9 [3,4,8] (vE d e i k a b c j g l (a++ [(ONode.mk b c KV.nil f)]))
def bBj:=fun a b c d e f g i j k l m n o=>aIz a b c d e f g i j k l m|>.t n|>.1 o ⟨aI (fun _=>rfl) (fun _=>rfl) _ _ _,⟨aI (fun _=>rfl) (fun _=>rfl) _ _ _,trivial⟩⟩
def bBk:=fun a b c d e f g i j k l m n o p q=>aIz a b c d e f g i j k l n|>.t o|>.2 m p q ⟨aI (fun _=>rfl) (fun _=>rfl) _ _ _,⟨aI (fun _=>rfl) (fun _=>rfl) _ _ _,⟨(aL _ (fun _=>bH _) _),trivial⟩⟩⟩
def bBl:=fun a b c d e f g i j k l m n o p=>aIz a b c d e f g i j k l m|>.f n|>.t o|>.1 p ⟨aI (fun _=>rfl) (fun _=>rfl) _ _ _,⟨aI (fun _=>rfl) (fun _=>rfl) _ _ _,trivial⟩⟩
def bBm:=fun a b c d e f g i j k l m n o p q r=>aIz a b c d e f g i j k l n|>.f o|>.t p|>.2 m q r ⟨aI (fun _=>rfl) (fun _=>rfl) _ _ _,⟨aI (fun _=>rfl) (fun _=>rfl) _ _ _,⟨(aL _ (fun _=>bH _) _),trivial⟩⟩⟩
def bBn:=fun a b c d e f g i j k l m n o p=>aIz a b c d e f g i j k l m|>.f n|>.f o p ⟨aI (fun _=>rfl) (fun _=>rfl) _ _ _,⟨aI (fun _=>rfl) (fun _=>rfl) _ _ _,⟨(aL _ (fun _=>bH _) _),trivial⟩⟩⟩
def bDe(c d:List (aC×Int))(e:List Int)(f:List aC)(g:List ONode)(o p:Int)(q:aC)(i:List Term)(r:List Pat)(a:List ONode):=tT 3 (vE c d e f g o p q i r a)<|gd 5 62 (0< (i.length:Int)) (aCR 7 i 0<|fun j k l m n=>.y fun s:List aC=>.y fun t:List Node=>.i [rn 6,.reg (rd 4 [.pure (iS s),.call (.agg [(.map 0),(.map 1),(iI e),(iS (f++s))]) (aG [(0,(.map (aB aA aO 0 c) c.length),true),(1,(.map (aB aA aO 0 d) d.length),true),oC 2 [(.gl 5 4 0 a.length false)],oC 3 [(.map 0),(.map 1),(iI e),(iS f)],oC 4 [(nI o),(nI p),(aA q),(.ilst 5 (Terms.av i) false),(iP r)],oL 5 4 (List.map ONode.av a),oC 6 [(nI j),(nI k),(aA l),(.ilst 5 (Terms.av m) false),(iP n)]] 7),.d,.call (nI (a.length:Int)) (aG [(0,(.map (aB aA aO 0 c) c.length),true),(1,(.map (aB aA aO 0 d) d.length),true),oC 2 [(.gl 7 4 0 (a++List.map Node.o t).length false)],oC 3 [(.map 0),(.map 1),(iI e),(iS f)],oC 4 [(nI o),(nI p),(aA q),(.ilst 5 (Terms.av i) false),(iP r)],oC 6 [(nI j),(nI k),(aA l),(.ilst 5 (Terms.av m) false),(iP n)],oL 7 4 (List.map ONode.av (a++List.map Node.o t))] 8),.d])] [hA (Pure PP 111 [(.agg [(nI o),(nI p),(aA q),(.ilst 5 (Terms.av i) false),(iP r)]),(nI 0)] (iS s)),hA (Spec PP (.enter 110 [(.agg [(.map 0),(.map 1),(iI e),(iS f)]),(iS s)]) (aG [(0,(.map (aB aA aO 0 c) c.length),true),(1,(.map (aB aA aO 0 d) d.length),true),oC 2 [(.gl 5 4 0 a.length false)],oC 3 [(.map 0),(.map 1),(iI e),(iS f)],oC 4 [(nI o),(nI p),(aA q),(.ilst 5 (Terms.av i) false),(iP r)],oL 5 4 (List.map ONode.av a),oC 6 [(nI j),(nI k),(aA l),(.ilst 5 (Terms.av m) false),(iP n)]] 7) (.ret (.agg [(.map 0),(.map 1),(iI e),(iS (f++s))])) (aG [(0,(.map (aB aA aO 0 c) c.length),true),(1,(.map (aB aA aO 0 d) d.length),true),oC 2 [(.gl 5 4 0 a.length false)],oC 3 [(.map 0),(.map 1),(iI e),(iS f)],oC 4 [(nI o),(nI p),(aA q),(.ilst 5 (Terms.av i) false),(iP r)],oL 5 4 (List.map ONode.av a),oC 6 [(nI j),(nI k),(aA l),(.ilst 5 (Terms.av m) false),(iP n)]] 7)),hA (Spec PP (.enter 44 [(.ptr 2 0),(.agg [(.map 0),(.map 1),(iI e),(iS (f++s))]),(.agg [(nI j),(nI k),(aA l),(.ilst 5 (Terms.av m) false),(iP n)])]) (aG [(0,(.map (aB aA aO 0 c) c.length),true),(1,(.map (aB aA aO 0 d) d.length),true),oC 2 [(.gl 5 4 0 a.length false)],oC 3 [(.map 0),(.map 1),(iI e),(iS f)],oC 4 [(nI o),(nI p),(aA q),(.ilst 5 (Terms.av i) false),(iP r)],oL 5 4 (List.map ONode.av a),oC 6 [(nI j),(nI k),(aA l),(.ilst 5 (Terms.av m) false),(iP n)]] 7) (.ret (nI (a.length:Int))) (aG [(0,(.map (aB aA aO 0 c) c.length),true),(1,(.map (aB aA aO 0 d) d.length),true),oC 2 [(.gl 7 4 0 (a++List.map Node.o t).length false)],oC 3 [(.map 0),(.map 1),(iI e),(iS f)],oC 4 [(nI o),(nI p),(aA q),(.ilst 5 (Terms.av i) false),(iP r)],oC 6 [(nI j),(nI k),(aA l),(.ilst 5 (Terms.av m) false),(iP n)],oL 7 4 (List.map ONode.av (a++List.map Node.o t))] 8)),hr (AV.agg [(nI j),(nI k),(aA l),(.ilst 5 (Terms.av m) false),(iP n)]),hr (AV.agg [(nI j),(nI k),(aA l),(.ilst 5 (Terms.av m) false),(iP n)]),hr (AV.agg [(nI j),(nI k),(aA l),(.ilst 5 (Terms.av m) false),(iP n)]),hr (AV.agg [(.map 0),(.map 1),(iI e),(iS f)]),hr (AV.agg [(.map 0),(.map 1),(iI e),(iS f)])]<|.W 0 8 [3,4,7] (aSY c d e f g o p q i r (a.length:Int) (a++List.map Node.o t)))<|.y fun b:ONode=>.i [rn 8,.lw 5 (List.map ONode.av (List.set a g.length (ONode.mk b.op b.n (KV.row []) b.pats)))] [.a (a[g.length]?=some b) (p':=(List.map ONode.av a) ≠ []) aFJ,.a (a[g.length]?=some b∧b.kv=KV.nil) (p':=VW (List.map ONode.av a) (List.map ONode.av (List.set a g.length (ONode.mk b.op b.n (KV.row []) b.pats)))) fun⟨ha,hb⟩=>(aNP ha hb)]<|.i [.cset 2 0 (.gl 5 4 0 (List.set a g.length (ONode.mk b.op b.n (KV.row []) b.pats)).length false)] [.q (p:=(AV.gl 5 4 0 a.length false) = (.gl 5 4 0 (List.set a g.length (ONode.mk b.op b.n (KV.row []) b.pats)).length false)) (gR (List.length_set ..).symm)]<|.E 0 6 [5] (nI (g.length:Int)) [(0,(.map (aB aA aO 0 c) c.length),true),(1,(.map (aB aA aO 0 d) d.length),true),oC 2 [(.gl 3 4 0 (List.set a g.length (ONode.mk b.op b.n (KV.row []) b.pats)).length false)],oL 3 4 (List.map ONode.av (List.set a g.length (ONode.mk b.op b.n (KV.row []) b.pats)))] 4
def bBo:=fun a b c d e f g i j k l m n o p q r s t u v w x y=>bDe a b c d e f g i j k l|>.t t m n o p q u v r s w x y ⟨aI (fun _=>rfl) (fun _=>rfl) _ _ _,⟨aI (fun _=>rfl) (fun _=>rfl) _ _ _,⟨(aL _ (fun _=>bH _) _),trivial⟩⟩⟩
def bBp:=fun b c d e f g i j k l m n o a p=>bDe b c d e f g i j k l m|>.f o n a ⟨a,p⟩ ⟨aI (fun _=>rfl) (fun _=>rfl) _ _ _,⟨aI (fun _=>rfl) (fun _=>rfl) _ _ _,⟨(aL _ (fun _=>bH _) _),trivial⟩⟩⟩
def bDf(c d:List (aC×Int))(f:List Int)(g:List aC)(i:List ONode)(q r:Int)(s:aC)(j:List Term)(t:List Pat)(a:List ONode)(e:List Int)(k:Value)(v:Int):=tT 3 (yO c d f g i q r s j t a e k v)<|gd 5 62 (v< (j.length:Int)) (aCR 7 j v<|fun l m n o p=>.y fun u:List aC=>.y fun w:List Node=>.i [rn 6,.reg (rd 4 [.pure (iS u),.call (.agg [(.map 0),(.map 1),(iI f),(iS (g++u))]) (aG [(0,(.map (aB aA aO 0 c) c.length),true),(1,(.map (aB aA aO 0 d) d.length),true),oC 2 [(.gl 5 4 0 a.length false)],oC 3 [(.map 0),(.map 1),(iI f),(iS g)],oC 4 [(nI q),(nI r),(aA s),(.ilst 5 (Terms.av j) false),(iP t)],oL 5 4 (List.map ONode.av a),(6,(.lstv k 1 (jI e)),true),oC 7 [(nI l),(nI m),(aA n),(.ilst 5 (Terms.av o) false),(iP p)]] 8),.d,.call (nI (a.length:Int)) (aG [(0,(.map (aB aA aO 0 c) c.length),true),(1,(.map (aB aA aO 0 d) d.length),true),oC 2 [(.gl 8 4 0 (a++List.map Node.o w).length false)],oC 3 [(.map 0),(.map 1),(iI f),(iS g)],oC 4 [(nI q),(nI r),(aA s),(.ilst 5 (Terms.av j) false),(iP t)],(6,(.lstv k 1 (jI e)),true),oC 7 [(nI l),(nI m),(aA n),(.ilst 5 (Terms.av o) false),(iP p)],oL 8 4 (List.map ONode.av (a++List.map Node.o w))] 9),.d])] [hA (Pure PP 111 [(.agg [(nI q),(nI r),(aA s),(.ilst 5 (Terms.av j) false),(iP t)]),(nI v)] (iS u)),hA (Spec PP (.enter 110 [(.agg [(.map 0),(.map 1),(iI f),(iS g)]),(iS u)]) (aG [(0,(.map (aB aA aO 0 c) c.length),true),(1,(.map (aB aA aO 0 d) d.length),true),oC 2 [(.gl 5 4 0 a.length false)],oC 3 [(.map 0),(.map 1),(iI f),(iS g)],oC 4 [(nI q),(nI r),(aA s),(.ilst 5 (Terms.av j) false),(iP t)],oL 5 4 (List.map ONode.av a),(6,(.lstv k 1 (jI e)),true),oC 7 [(nI l),(nI m),(aA n),(.ilst 5 (Terms.av o) false),(iP p)]] 8) (.ret (.agg [(.map 0),(.map 1),(iI f),(iS (g++u))])) (aG [(0,(.map (aB aA aO 0 c) c.length),true),(1,(.map (aB aA aO 0 d) d.length),true),oC 2 [(.gl 5 4 0 a.length false)],oC 3 [(.map 0),(.map 1),(iI f),(iS g)],oC 4 [(nI q),(nI r),(aA s),(.ilst 5 (Terms.av j) false),(iP t)],oL 5 4 (List.map ONode.av a),(6,(.lstv k 1 (jI e)),true),oC 7 [(nI l),(nI m),(aA n),(.ilst 5 (Terms.av o) false),(iP p)]] 8)),hA (Spec PP (.enter 44 [(.ptr 2 0),(.agg [(.map 0),(.map 1),(iI f),(iS (g++u))]),(.agg [(nI l),(nI m),(aA n),(.ilst 5 (Terms.av o) false),(iP p)])]) (aG [(0,(.map (aB aA aO 0 c) c.length),true),(1,(.map (aB aA aO 0 d) d.length),true),oC 2 [(.gl 5 4 0 a.length false)],oC 3 [(.map 0),(.map 1),(iI f),(iS g)],oC 4 [(nI q),(nI r),(aA s),(.ilst 5 (Terms.av j) false),(iP t)],oL 5 4 (List.map ONode.av a),(6,(.lstv k 1 (jI e)),true),oC 7 [(nI l),(nI m),(aA n),(.ilst 5 (Terms.av o) false),(iP p)]] 8) (.ret (nI (a.length:Int))) (aG [(0,(.map (aB aA aO 0 c) c.length),true),(1,(.map (aB aA aO 0 d) d.length),true),oC 2 [(.gl 8 4 0 (a++List.map Node.o w).length false)],oC 3 [(.map 0),(.map 1),(iI f),(iS g)],oC 4 [(nI q),(nI r),(aA s),(.ilst 5 (Terms.av j) false),(iP t)],(6,(.lstv k 1 (jI e)),true),oC 7 [(nI l),(nI m),(aA n),(.ilst 5 (Terms.av o) false),(iP p)],oL 8 4 (List.map ONode.av (a++List.map Node.o w))] 9)),hr (AV.agg [(nI l),(nI m),(aA n),(.ilst 5 (Terms.av o) false),(iP p)]),hr (AV.agg [(nI l),(nI m),(aA n),(.ilst 5 (Terms.av o) false),(iP p)]),hr (AV.agg [(nI l),(nI m),(aA n),(.ilst 5 (Terms.av o) false),(iP p)]),hr (AV.agg [(.map 0),(.map 1),(iI f),(iS g)]),hr (AV.agg [(.map 0),(.map 1),(iI f),(iS g)])]<|.W 0 9 [3,4,8,6] (aSZ c d f g i q r s j t (a.length:Int) (a++List.map Node.o w) e k v))<|.y fun b:ONode=>.i [rn 8,.vfrz 6 5 (List.map ONode.av (List.set a i.length (ONode.mk b.op b.n (KV.row e) b.pats)))] [.a (a[i.length]?=some b) (p':=(List.map ONode.av a) ≠ []) aFJ,hk aO e,.a (a[i.length]?=some b∧b.kv=KV.val k) (p':=VQ k 1 (jI e) (List.map ONode.av a) (List.map ONode.av (List.set a i.length (ONode.mk b.op b.n (KV.row e) b.pats)))) fun⟨ha,hb⟩=>(aNQ ha hb)]<|.i [.cset 2 0 (.gl 5 4 0 (List.set a i.length (ONode.mk b.op b.n (KV.row e) b.pats)).length false)] [.q (p:=(AV.gl 5 4 0 a.length false) = (.gl 5 4 0 (List.set a i.length (ONode.mk b.op b.n (KV.row e) b.pats)).length false)) (gR (List.length_set ..).symm)]<|.E 0 7 [5] (nI (i.length:Int)) [(0,(.map (aB aA aO 0 c) c.length),true),(1,(.map (aB aA aO 0 d) d.length),true),oC 2 [(.gl 3 4 0 (List.set a i.length (ONode.mk b.op b.n (KV.row e) b.pats)).length false)],oL 3 4 (List.map ONode.av (List.set a i.length (ONode.mk b.op b.n (KV.row e) b.pats)))] 4
def bBq:=fun a b c d e f g i j k l m n o p q r s t u v w x y z A B=>bDf a b c d e f g i j k l m n o|>.t w p q r s t x y u v z A B ⟨aI (fun _=>rfl) (fun _=>rfl) _ _ _,⟨aI (fun _=>rfl) (fun _=>rfl) _ _ _,⟨(aL _ (fun _=>bH _) _),⟨kk,trivial⟩⟩⟩⟩
def bBr:=fun b c d e f g i j k l m n o p q r a s=>bDf b c d e f g i j k l m n o p|>.f r q a ⟨a,s⟩ ⟨aI (fun _=>rfl) (fun _=>rfl) _ _ _,⟨aI (fun _=>rfl) (fun _=>rfl) _ _ _,⟨(aL _ (fun _=>bH _) _),trivial⟩⟩⟩
theorem bBs (mf: (List (aC×Int)))(mc: (List (aC×Int)))(ar:List Int)(pls:List aC)(L:List ONode)(t_op t_n:Int)(t_text:aC)(t_kids:List Term)(t_pats:List Pat)(h0:Spec PP (.enter 106 [(iP t_pats),(.func 107 [(.agg [(.map 0),(.map 1),(iI ar)])] [])]) (aG [(0,(.map (aB aA aO 0 mf) mf.length),true),(1,(.map (aB aA aO 0 mc) mc.length),true),oC 2 [(.gl 5 4 0 L.length false)],oC 3 [(.map 0),(.map 1),(iI ar),(iS pls)],oC 4 [(nI t_op),(nI t_n),(aA t_text),(.ilst 5 (Terms.av t_kids) false),(iP t_pats)],oL 5 4 (List.map ONode.av L)] 7) (.pan [((.iface 82 (.agg [])),false)]) (aG [(0,(.map (aB aA aO 0 mf) mf.length),true),(1,(.map (aB aA aO 0 mc) mc.length),true),oC 2 [(.gl 5 4 0 L.length false)],oC 3 [(.map 0),(.map 1),(iI ar),(iS pls)],oC 4 [(nI t_op),(nI t_n),(aA t_text),(.ilst 5 (Terms.av t_kids) false),(iP t_pats)],oL 5 4 (List.map ONode.av L)] 7)) :
  Ends PP 3 (aBa mf mc ar pls L t_op t_n t_text t_kids t_pats).as (.pan [((.iface 82 (.agg [])),false)]) (aG [(0,(.map (aB aA aO 0 mf) mf.length),true),(1,(.map (aB aA aO 0 mc) mc.length),true)] 3) :=
 sJ (n1:=7) (ks:=[]) (e:=9) (is1:=[.d,.d,.d,.d,.d,.d,.d,.d,.d]) (v:= (iP ([] :List Pat))) (h2:=aG [(0,(.map (aB aA aO 0 mf) mf.length),true),(1,(.map (aB aA aO 0 mc) mc.length),true),oC 2 [(.gl 5 4 0 L.length false)],oC 3 [(.map 0),(.map 1),(iI ar),(iS pls)],oC 4 [(nI t_op),(nI t_n),(aA t_text),(.ilst 5 (Terms.av t_kids) false),(iP t_pats)],oL 5 4 (List.map ONode.av L)] 7) (is2:=[.d,.d,.d]) (os:=[]) (h':=aG [(0,(.map (aB aA aO 0 mf) mf.length),true),(1,(.map (aB aA aO 0 mc) mc.length),true),oC 2 [(.gl 5 4 0 L.length false)],oC 3 [(.map 0),(.map 1),(iI ar),(iS pls)],oC 4 [(nI t_op),(nI t_n),(aA t_text),(.ilst 5 (Terms.av t_kids) false),(iP t_pats)],oL 5 4 (List.map ONode.av L)] 7) (hp:=[(0,(.map (aB aA aO 0 mf) mf.length),true),(1,(.map (aB aA aO 0 mc) mc.length),true)]) (ch:=[((.iface 82 (.agg [])),false)]) (ps:=[(nI t_n) = (nI t_n),(nI t_n) = (nI t_n),(nI t_op) = (nI t_op),(nI t_op) = (nI t_op),Spec PP (.enter 106 [(iP t_pats),(.func 107 [(.agg [(.map 0),(.map 1),(iI ar)])] [])]) (aG [(0,(.map (aB aA aO 0 mf) mf.length),true),(1,(.map (aB aA aO 0 mc) mc.length),true),oC 2 [(.gl 5 4 0 L.length false)],oC 3 [(.map 0),(.map 1),(iI ar),(iS pls)],oC 4 [(nI t_op),(nI t_n),(aA t_text),(.ilst 5 (Terms.av t_kids) false),(iP t_pats)],oL 5 4 (List.map ONode.av L)] 7) (.pan [((.iface 82 (.agg [])),false)]) (aG [(0,(.map (aB aA aO 0 mf) mf.length),true),(1,(.map (aB aA aO 0 mc) mc.length),true),oC 2 [(.gl 5 4 0 L.length false)],oC 3 [(.map 0),(.map 1),(iI ar),(iS pls)],oC 4 [(nI t_op),(nI t_n),(aA t_text),(.ilst 5 (Terms.av t_kids) false),(iP t_pats)],oL 5 4 (List.map ONode.av L)] 7)]) (is:=[.run 9]) (by kernel_rfl) (by kernel_rfl) ⟨aI (fun _=>rfl) (fun _=>rfl) _ _ _,⟨aI (fun _=>rfl) (fun _=>rfl) _ _ _,trivial⟩⟩ ⟨rfl,rfl,rfl,rfl,h0⟩
theorem bBt (mf: (List (aC×Int)))(mc: (List (aC×Int)))(ar:List Int)(pls:List aC)(L:List ONode)(t_op t_n:Int)(t_text:aC)(t_kids:List Term)(t_pats:List Pat)(l5:List ONode)(y_op0 y_n1:Int)(y_text2:aC)(y_kids3:List Term)(y_pats4:List Pat)(y5:List aC)(h0:decide ((0:Int) < (t_kids.length:Int)) =true)(h1:0≤ (0:Int))(h2: ((t_kids)[(0:Int).toNat]?) =some (Term.mk y_op0 y_n1 y_text2 y_kids3 y_pats4))(h3:Pure PP 111 [(.agg [(nI t_op),(nI t_n),(aA t_text),(.ilst 5 (Terms.av t_kids) false),(iP t_pats)]),(nI 0)] (iS y5))(h4:Spec PP (.enter 110 [(.agg [(.map 0),(.map 1),(iI ar),(iS pls)]),(iS y5)]) (aG [(0,(.map (aB aA aO 0 mf) mf.length),true),(1,(.map (aB aA aO 0 mc) mc.length),true),oC 2 [(.gl 5 4 0 l5.length false)],oC 3 [(.map 0),(.map 1),(iI ar),(iS pls)],oC 4 [(nI t_op),(nI t_n),(aA t_text),(.ilst 5 (Terms.av t_kids) false),(iP t_pats)],oL 5 4 (List.map ONode.av l5),oC 6 [(nI y_op0),(nI y_n1),(aA y_text2),(.ilst 5 (Terms.av y_kids3) false),(iP y_pats4)]] 7) (.ret (.agg [(.map 0),(.map 1),(iI ar),(iS (pls++y5))])) (aG [(0,(.map (aB aA aO 0 mf) mf.length),true),(1,(.map (aB aA aO 0 mc) mc.length),true),oC 2 [(.gl 5 4 0 l5.length false)],oC 3 [(.map 0),(.map 1),(iI ar),(iS pls)],oC 4 [(nI t_op),(nI t_n),(aA t_text),(.ilst 5 (Terms.av t_kids) false),(iP t_pats)],oL 5 4 (List.map ONode.av l5),oC 6 [(nI y_op0),(nI y_n1),(aA y_text2),(.ilst 5 (Terms.av y_kids3) false),(iP y_pats4)]] 7))(h5:Spec PP (.enter 44 [(.ptr 2 0),(.agg [(.map 0),(.map 1),(iI ar),(iS (pls++y5))]),(.agg [(nI y_op0),(nI y_n1),(aA y_text2),(.ilst 5 (Terms.av y_kids3) false),(iP y_pats4)])]) (aG [(0,(.map (aB aA aO 0 mf) mf.length),true),(1,(.map (aB aA aO 0 mc) mc.length),true),oC 2 [(.gl 5 4 0 l5.length false)],oC 3 [(.map 0),(.map 1),(iI ar),(iS pls)],oC 4 [(nI t_op),(nI t_n),(aA t_text),(.ilst 5 (Terms.av t_kids) false),(iP t_pats)],oL 5 4 (List.map ONode.av l5),oC 6 [(nI y_op0),(nI y_n1),(aA y_text2),(.ilst 5 (Terms.av y_kids3) false),(iP y_pats4)]] 7) (.pan [((.iface 82 (.agg [])),false)]) (aG [(0,(.map (aB aA aO 0 mf) mf.length),true),(1,(.map (aB aA aO 0 mc) mc.length),true),oC 3 [(.map 0),(.map 1),(iI ar),(iS pls)],oC 4 [(nI t_op),(nI t_n),(aA t_text),(.ilst 5 (Terms.av t_kids) false),(iP t_pats)],oC 6 [(nI y_op0),(nI y_n1),(aA y_text2),(.ilst 5 (Terms.av y_kids3) false),(iP y_pats4)]] 7)) :
  Ends PP 3 (vE mf mc ar pls L t_op t_n t_text t_kids t_pats l5).as (.pan [((.iface 82 (.agg [])),false)]) (aG [(0,(.map (aB aA aO 0 mf) mf.length),true),(1,(.map (aB aA aO 0 mc) mc.length),true)] 3) :=
 sJ (n1:=7) (ks:=[]) (e:=7) (is1:=[.d,.d,.d,.d,.pure (iS y5),.call (.agg [(.map 0),(.map 1),(iI ar),(iS (pls++y5))]) (aG [(0,(.map (aB aA aO 0 mf) mf.length),true),(1,(.map (aB aA aO 0 mc) mc.length),true),oC 2 [(.gl 5 4 0 l5.length false)],oC 3 [(.map 0),(.map 1),(iI ar),(iS pls)],oC 4 [(nI t_op),(nI t_n),(aA t_text),(.ilst 5 (Terms.av t_kids) false),(iP t_pats)],oL 5 4 (List.map ONode.av l5),oC 6 [(nI y_op0),(nI y_n1),(aA y_text2),(.ilst 5 (Terms.av y_kids3) false),(iP y_pats4)]] 7),.d]) (v:= (nI 0)) (h2:=aG [(0,(.map (aB aA aO 0 mf) mf.length),true),(1,(.map (aB aA aO 0 mc) mc.length),true),oC 3 [(.map 0),(.map 1),(iI ar),(iS pls)],oC 4 [(nI t_op),(nI t_n),(aA t_text),(.ilst 5 (Terms.av t_kids) false),(iP t_pats)],oC 6 [(nI y_op0),(nI y_n1),(aA y_text2),(.ilst 5 (Terms.av y_kids3) false),(iP y_pats4)]] 7) (is2:=[.d]) (os:=[]) (h':=aG [(0,(.map (aB aA aO 0 mf) mf.length),true),(1,(.map (aB aA aO 0 mc) mc.length),true),oC 3 [(.map 0),(.map 1),(iI ar),(iS pls)],oC 4 [(nI t_op),(nI t_n),(aA t_text),(.ilst 5 (Terms.av t_kids) false),(iP t_pats)],oC 6 [(nI y_op0),(nI y_n1),(aA y_text2),(.ilst 5 (Terms.av y_kids3) false),(iP y_pats4)]] 7) (hp:=[(0,(.map (aB aA aO 0 mf) mf.length),true),(1,(.map (aB aA aO 0 mc) mc.length),true)]) (ch:=[((.iface 82 (.agg [])),false)]) (ps:=[decide ((0:Int) < (t_kids.length:Int)) =true,0≤ (0:Int),(Terms.av t_kids)[(0:Int).toNat]?=some (Term.av (Term.mk y_op0 y_n1 y_text2 y_kids3 y_pats4)),Pure PP 111 [(.agg [(nI t_op),(nI t_n),(aA t_text),(.ilst 5 (Terms.av t_kids) false),(iP t_pats)]),(nI 0)] (iS y5),Spec PP (.enter 110 [(.agg [(.map 0),(.map 1),(iI ar),(iS pls)]),(iS y5)]) (aG [(0,(.map (aB aA aO 0 mf) mf.length),true),(1,(.map (aB aA aO 0 mc) mc.length),true),oC 2 [(.gl 5 4 0 l5.length false)],oC 3 [(.map 0),(.map 1),(iI ar),(iS pls)],oC 4 [(nI t_op),(nI t_n),(aA t_text),(.ilst 5 (Terms.av t_kids) false),(iP t_pats)],oL 5 4 (List.map ONode.av l5),oC 6 [(nI y_op0),(nI y_n1),(aA y_text2),(.ilst 5 (Terms.av y_kids3) false),(iP y_pats4)]] 7) (.ret (.agg [(.map 0),(.map 1),(iI ar),(iS (pls++y5))])) (aG [(0,(.map (aB aA aO 0 mf) mf.length),true),(1,(.map (aB aA aO 0 mc) mc.length),true),oC 2 [(.gl 5 4 0 l5.length false)],oC 3 [(.map 0),(.map 1),(iI ar),(iS pls)],oC 4 [(nI t_op),(nI t_n),(aA t_text),(.ilst 5 (Terms.av t_kids) false),(iP t_pats)],oL 5 4 (List.map ONode.av l5),oC 6 [(nI y_op0),(nI y_n1),(aA y_text2),(.ilst 5 (Terms.av y_kids3) false),(iP y_pats4)]] 7),(AV.agg [(nI y_op0),(nI y_n1),(aA y_text2),(.ilst 5 (Terms.av y_kids3) false),(iP y_pats4)]) = (AV.agg [(nI y_op0),(nI y_n1),(aA y_text2),(.ilst 5 (Terms.av y_kids3) false),(iP y_pats4)]),(AV.agg [(nI y_op0),(nI y_n1),(aA y_text2),(.ilst 5 (Terms.av y_kids3) false),(iP y_pats4)]) = (AV.agg [(nI y_op0),(nI y_n1),(aA y_text2),(.ilst 5 (Terms.av y_kids3) false),(iP y_pats4)]),(AV.agg [(nI y_op0),(nI y_n1),(aA y_text2),(.ilst 5 (Terms.av y_kids3) false),(iP y_pats4)]) = (AV.agg [(nI y_op0),(nI y_n1),(aA y_text2),(.ilst 5 (Terms.av y_kids3) false),(iP y_pats4)]),(AV.agg [(.map 0),(.map 1),(iI ar),(iS pls)]) = (AV.agg [(.map 0),(.map 1),(iI ar),(iS pls)]),(AV.agg [(.map 0),(.map 1),(iI ar),(iS pls)]) = (AV.agg [(.map 0),(.map 1),(iI ar),(iS pls)]),Spec PP (.enter 44 [(.ptr 2 0),(.agg [(.map 0),(.map 1),(iI ar),(iS (pls++y5))]),(.agg [(nI y_op0),(nI y_n1),(aA y_text2),(.ilst 5 (Terms.av y_kids3) false),(iP y_pats4)])]) (aG [(0,(.map (aB aA aO 0 mf) mf.length),true),(1,(.map (aB aA aO 0 mc) mc.length),true),oC 2 [(.gl 5 4 0 l5.length false)],oC 3 [(.map 0),(.map 1),(iI ar),(iS pls)],oC 4 [(nI t_op),(nI t_n),(aA t_text),(.ilst 5 (Terms.av t_kids) false),(iP t_pats)],oL 5 4 (List.map ONode.av l5),oC 6 [(nI y_op0),(nI y_n1),(aA y_text2),(.ilst 5 (Terms.av y_kids3) false),(iP y_pats4)]] 7) (.pan [((.iface 82 (.agg [])),false)]) (aG [(0,(.map (aB aA aO 0 mf) mf.length),true),(1,(.map (aB aA aO 0 mc) mc.length),true),oC 3 [(.map 0),(.map 1),(iI ar),(iS pls)],oC 4 [(nI t_op),(nI t_n),(aA t_text),(.ilst 5 (Terms.av t_kids) false),(iP t_pats)],oC 6 [(nI y_op0),(nI y_n1),(aA y_text2),(.ilst 5 (Terms.av y_kids3) false),(iP y_pats4)]] 7)]) (is:=[.run 5,.b 62 true,.run 7,.ans (.idx (Term.av (Term.mk y_op0 y_n1 y_text2 y_kids3 y_pats4))),.run 6]) (by kernel_rfl) (by kernel_rfl) ⟨aI (fun _=>rfl) (fun _=>rfl) _ _ _,⟨aI (fun _=>rfl) (fun _=>rfl) _ _ _,trivial⟩⟩ ⟨h0,h1,(cS bG h2),h3,h4,rfl,rfl,rfl,rfl,rfl,h5⟩
theorem bBu (mf: (List (aC×Int)))(mc: (List (aC×Int)))(ar:List Int)(pls:List aC)(L:List ONode)(t_op t_n:Int)(t_text:aC)(t_kids:List Term)(t_pats:List Pat)(kid11:Int)(l5:List ONode)(ix:Nat)(w_op w_n:Int)(w_pats:List Pat)(h0:0≤ ((L.length:Nat) :Int))(h1: ((L.length:Nat) :Int) < ((l5.length:Nat) :Int))(h2: ((L.length:Nat) :Int).toNat=ix)(h3:ix<List.length l5)(h4:List.length (([] :List Int) ++ [kid11]) ≤1000000){res:Res}{h':Hp}(hk:∀ua un uc,Ends PP 3 (let u:=Value.slice ua un uc; (yO mf mc ar pls L t_op t_n t_text t_kids t_pats (List.set l5 ix (ONode.mk w_op w_n (KV.val u) w_pats)) (([] :List Int) ++ [kid11]) u 1)).as res h') :
  Ends PP 3 (aLP mf mc ar pls L t_op t_n t_text t_kids t_pats kid11 l5 ix w_op w_n w_pats).as res h':=
 sG (n1:=9) (t:=fun u=> (yO mf mc ar pls L t_op t_n t_text t_kids t_pats (List.set l5 ix (ONode.mk w_op w_n (KV.val u) w_pats)) (([] :List Int) ++ [kid11]) u 1)) (k:=5) (b:=8) (i:=ix) (o:=2) (ys:=fun u=> (List.map ONode.av (List.set l5 ix (ONode.mk w_op w_n (KV.val u) w_pats)))) (ks:=[3,4,5,8]) (ps:=fun u=>[NQ (List.set (List.map ONode.av l5) ix (.agg [(nI w_op),(nI w_n),(.gl 8 1 0 (([] :List Int) ++ [kid11]).length false),(iP w_pats)])) ix 2 8 1 (jI (([] :List Int) ++ [kid11])).length u (List.map ONode.av (List.set l5 ix (ONode.mk w_op w_n (KV.val u) w_pats))),0≤ ((L.length:Nat) :Int),((L.length:Nat) :Int) < ((l5.length:Nat) :Int),(List.set (List.map ONode.av l5) ix (.agg [(nI w_op),(nI w_n),(.gl 6 1 0 ([] :List Int).length false),(iP w_pats)]))[(0+ ((L.length:Nat) :Int).toNat)]?=some (.agg [(nI w_op),(nI w_n),(.gl 6 1 0 ([] :List Int).length false),(iP w_pats)]),0+ ([] :List Int).length≤List.length (jI ([] :List Int)),List.length (([] :List Int) ++ [kid11]) ≤1000000,List.take ([] :List Int).length (List.drop 0 (jI ([] :List Int))) ++ (jI [kid11]) = (jI (([] :List Int) ++ [kid11])),([] :List Int).length+List.length (jI [kid11]) =List.length (([] :List Int) ++ [kid11]),0≤ ((L.length:Nat) :Int),((L.length:Nat) :Int) < ((l5.length:Nat) :Int),(List.set (List.map ONode.av l5) ix (.agg [(nI w_op),(nI w_n),(.gl 6 1 0 ([] :List Int).length false),(iP w_pats)]))[(0+ ((L.length:Nat) :Int).toNat)]?=some (.agg [(nI w_op),(nI w_n),(.gl 6 1 0 ([] :List Int).length false),(iP w_pats)]),lM (.agg [(nI w_op),(nI w_n),(.gl 6 1 0 ([] :List Int).length false),(iP w_pats)]) 2 [(.gl 8 1 0 (([] :List Int) ++ [kid11]).length false)] =some (.agg [(nI w_op),(nI w_n),(.gl 8 1 0 (([] :List Int) ++ [kid11]).length false),(iP w_pats)]),(AV.gl 5 4 0 l5.length false) = (AV.gl 5 4 0 l5.length false),(AV.gl 5 4 0 l5.length false) = (AV.gl 5 4 0 l5.length false),(List.set (List.map ONode.av l5) ix (.agg [(nI w_op),(nI w_n),(.gl 6 1 0 ([] :List Int).length false),(iP w_pats)])).set (0+ ((L.length:Nat) :Int).toNat) (.agg [(nI w_op),(nI w_n),(.gl 8 1 0 (([] :List Int) ++ [kid11]).length false),(iP w_pats)]) = (List.set (List.map ONode.av l5) ix (.agg [(nI w_op),(nI w_n),(.gl 8 1 0 (([] :List Int) ++ [kid11]).length false),(iP w_pats)])),(AV.gl 5 4 0 l5.length false) = (.gl 5 4 0 (List.set l5 ix (ONode.mk w_op w_n (KV.val u) w_pats)).length false),(AV.gl 5 4 0 l5.length false) = (.gl 5 4 0 (List.set l5 ix (ONode.mk w_op w_n (KV.val u) w_pats)).length false),(AV.gl 5 4 0 l5.length false) = (.gl 5 4 0 (List.set l5 ix (ONode.mk w_op w_n (KV.val u) w_pats)).length false)]) (is:=[.reg [.d,.d,.d,.d,.d,.d,.d,.d,.d,.d,.ans (.ix),.d,.ans (.idx (.agg [(nI w_op),(nI w_n),(.gl 6 1 0 ([] :List Int).length false),(iP w_pats)])),.d,.d,.app (jI (([] :List Int) ++ [kid11])) (([] :List Int) ++ [kid11]).length,.ans (.ix),.d,.st (.agg [(nI w_op),(nI w_n),(.gl 6 1 0 ([] :List Int).length false),(iP w_pats)]) (.agg [(nI w_op),(nI w_n),(.gl 8 1 0 (([] :List Int) ++ [kid11]).length false),(iP w_pats)])],.lset 5 (List.set (List.map ONode.av l5) ix (.agg [(nI w_op),(nI w_n),(.gl 8 1 0 (([] :List Int) ++ [kid11]).length false),(iP w_pats)])),.run 1]) (is2:=fun u=>[.set 77 (.gl 5 4 0 (List.set l5 ix (ONode.mk w_op w_n (KV.val u) w_pats)).length false),.set 82 (.gl 5 4 0 (List.set l5 ix (ONode.mk w_op w_n (KV.val u) w_pats)).length false),.cset 2 0 (.gl 5 4 0 (List.set l5 ix (ONode.mk w_op w_n (KV.val u) w_pats)).length false),.run 5]) (fun u=>by kernel_rfl) (fun u=>by kernel_rfl) (fun u=> ⟨aI (fun _=>rfl) (fun _=>rfl) _ _ _,⟨aI (fun _=>rfl) (fun _=>rfl) _ _ _,⟨(aL _ (fun _=>bH _) _),⟨(aL _ (fun _=>rfl) _),trivial⟩⟩⟩⟩) (fun u=> ⟨(aLA [(nI w_op),(nI w_n)] [(iP w_pats)] h3 (List.length_map ..) (by simp) rfl),h0,h1,(vD h2 h3),(aAP _ _),h4,(aAQ _ _ _),(aAR _ _ _),h0,h1,(vD h2 h3),rfl,rfl,rfl,(aGs h2),(gR (List.length_set ..).symm),(gR (List.length_set ..).symm),(gR (List.length_set ..).symm)⟩) hk
theorem bBv (mf: (List (aC×Int)))(mc: (List (aC×Int)))(ar:List Int)(pls:List aC)(L:List ONode)(t_op t_n:Int)(t_text:aC)(t_kids:List Term)(t_pats:List Pat)(l5:List ONode)(k6:List Int)(u6:Value)(t61 y_op0 y_n1:Int)(y_text2:aC)(y_kids3:List Term)(y_pats4:List Pat)(y5:List aC)(h0:decide (t61< (t_kids.length:Int)) =true)(h1:0≤t61)(h2: ((t_kids)[t61.toNat]?) =some (Term.mk y_op0 y_n1 y_text2 y_kids3 y_pats4))(h3:Pure PP 111 [(.agg [(nI t_op),(nI t_n),(aA t_text),(.ilst 5 (Terms.av t_kids) false),(iP t_pats)]),(nI t61)] (iS y5))(h4:Spec PP (.enter 110 [(.agg [(.map 0),(.map 1),(iI ar),(iS pls)]),(iS y5)]) (aG [(0,(.map (aB aA aO 0 mf) mf.length),true),(1,(.map (aB aA aO 0 mc) mc.length),true),oC 2 [(.gl 5 4 0 l5.length false)],oC 3 [(.map 0),(.map 1),(iI ar),(iS pls)],oC 4 [(nI t_op),(nI t_n),(aA t_text),(.ilst 5 (Terms.av t_kids) false),(iP t_pats)],oL 5 4 (List.map ONode.av l5),(6,(.lstv u6 1 (jI k6)),true),oC 7 [(nI y_op0),(nI y_n1),(aA y_text2),(.ilst 5 (Terms.av y_kids3) false),(iP y_pats4)]] 8) (.ret (.agg [(.map 0),(.map 1),(iI ar),(iS (pls++y5))])) (aG [(0,(.map (aB aA aO 0 mf) mf.length),true),(1,(.map (aB aA aO 0 mc) mc.length),true),oC 2 [(.gl 5 4 0 l5.length false)],oC 3 [(.map 0),(.map 1),(iI ar),(iS pls)],oC 4 [(nI t_op),(nI t_n),(aA t_text),(.ilst 5 (Terms.av t_kids) false),(iP t_pats)],oL 5 4 (List.map ONode.av l5),(6,(.lstv u6 1 (jI k6)),true),oC 7 [(nI y_op0),(nI y_n1),(aA y_text2),(.ilst 5 (Terms.av y_kids3) false),(iP y_pats4)]] 8))(h5:Spec PP (.enter 44 [(.ptr 2 0),(.agg [(.map 0),(.map 1),(iI ar),(iS (pls++y5))]),(.agg [(nI y_op0),(nI y_n1),(aA y_text2),(.ilst 5 (Terms.av y_kids3) false),(iP y_pats4)])]) (aG [(0,(.map (aB aA aO 0 mf) mf.length),true),(1,(.map (aB aA aO 0 mc) mc.length),true),oC 2 [(.gl 5 4 0 l5.length false)],oC 3 [(.map 0),(.map 1),(iI ar),(iS pls)],oC 4 [(nI t_op),(nI t_n),(aA t_text),(.ilst 5 (Terms.av t_kids) false),(iP t_pats)],oL 5 4 (List.map ONode.av l5),(6,(.lstv u6 1 (jI k6)),true),oC 7 [(nI y_op0),(nI y_n1),(aA y_text2),(.ilst 5 (Terms.av y_kids3) false),(iP y_pats4)]] 8) (.pan [((.iface 82 (.agg [])),false)]) (aG [(0,(.map (aB aA aO 0 mf) mf.length),true),(1,(.map (aB aA aO 0 mc) mc.length),true),oC 3 [(.map 0),(.map 1),(iI ar),(iS pls)],oC 4 [(nI t_op),(nI t_n),(aA t_text),(.ilst 5 (Terms.av t_kids) false),(iP t_pats)],(6,(.lstv u6 1 (jI k6)),true),oC 7 [(nI y_op0),(nI y_n1),(aA y_text2),(.ilst 5 (Terms.av y_kids3) false),(iP y_pats4)]] 8)) :
  Ends PP 3 (yO mf mc ar pls L t_op t_n t_text t_kids t_pats l5 k6 u6 t61).as (.pan [((.iface 82 (.agg [])),false)]) (aG [(0,(.map (aB aA aO 0 mf) mf.length),true),(1,(.map (aB aA aO 0 mc) mc.length),true)] 3) :=
 sJ (n1:=8) (ks:=[]) (e:=7) (is1:=[.d,.d,.d,.d,.pure (iS y5),.call (.agg [(.map 0),(.map 1),(iI ar),(iS (pls++y5))]) (aG [(0,(.map (aB aA aO 0 mf) mf.length),true),(1,(.map (aB aA aO 0 mc) mc.length),true),oC 2 [(.gl 5 4 0 l5.length false)],oC 3 [(.map 0),(.map 1),(iI ar),(iS pls)],oC 4 [(nI t_op),(nI t_n),(aA t_text),(.ilst 5 (Terms.av t_kids) false),(iP t_pats)],oL 5 4 (List.map ONode.av l5),(6,(.lstv u6 1 (jI k6)),true),oC 7 [(nI y_op0),(nI y_n1),(aA y_text2),(.ilst 5 (Terms.av y_kids3) false),(iP y_pats4)]] 8),.d]) (v:= (nI 0)) (h2:=aG [(0,(.map (aB aA aO 0 mf) mf.length),true),(1,(.map (aB aA aO 0 mc) mc.length),true),oC 3 [(.map 0),(.map 1),(iI ar),(iS pls)],oC 4 [(nI t_op),(nI t_n),(aA t_text),(.ilst 5 (Terms.av t_kids) false),(iP t_pats)],(6,(.lstv u6 1 (jI k6)),true),oC 7 [(nI y_op0),(nI y_n1),(aA y_text2),(.ilst 5 (Terms.av y_kids3) false),(iP y_pats4)]] 8) (is2:=[.d]) (os:=[]) (h':=aG [(0,(.map (aB aA aO 0 mf) mf.length),true),(1,(.map (aB aA aO 0 mc) mc.length),true),oC 3 [(.map 0),(.map 1),(iI ar),(iS pls)],oC 4 [(nI t_op),(nI t_n),(aA t_text),(.ilst 5 (Terms.av t_kids) false),(iP t_pats)],(6,(.lstv u6 1 (jI k6)),true),oC 7 [(nI y_op0),(nI y_n1),(aA y_text2),(.ilst 5 (Terms.av y_kids3) false),(iP y_pats4)]] 8) (hp:=[(0,(.map (aB aA aO 0 mf) mf.length),true),(1,(.map (aB aA aO 0 mc) mc.length),true)]) (ch:=[((.iface 82 (.agg [])),false)]) (ps:=[decide (t61< (t_kids.length:Int)) =true,0≤t61,(Terms.av t_kids)[t61.toNat]?=some (Term.av (Term.mk y_op0 y_n1 y_text2 y_kids3 y_pats4)),Pure PP 111 [(.agg [(nI t_op),(nI t_n),(aA t_text),(.ilst 5 (Terms.av t_kids) false),(iP t_pats)]),(nI t61)] (iS y5),Spec PP (.enter 110 [(.agg [(.map 0),(.map 1),(iI ar),(iS pls)]),(iS y5)]) (aG [(0,(.map (aB aA aO 0 mf) mf.length),true),(1,(.map (aB aA aO 0 mc) mc.length),true),oC 2 [(.gl 5 4 0 l5.length false)],oC 3 [(.map 0),(.map 1),(iI ar),(iS pls)],oC 4 [(nI t_op),(nI t_n),(aA t_text),(.ilst 5 (Terms.av t_kids) false),(iP t_pats)],oL 5 4 (List.map ONode.av l5),(6,(.lstv u6 1 (jI k6)),true),oC 7 [(nI y_op0),(nI y_n1),(aA y_text2),(.ilst 5 (Terms.av y_kids3) false),(iP y_pats4)]] 8) (.ret (.agg [(.map 0),(.map 1),(iI ar),(iS (pls++y5))])) (aG [(0,(.map (aB aA aO 0 mf) mf.length),true),(1,(.map (aB aA aO 0 mc) mc.length),true),oC 2 [(.gl 5 4 0 l5.length false)],oC 3 [(.map 0),(.map 1),(iI ar),(iS pls)],oC 4 [(nI t_op),(nI t_n),(aA t_text),(.ilst 5 (Terms.av t_kids) false),(iP t_pats)],oL 5 4 (List.map ONode.av l5),(6,(.lstv u6 1 (jI k6)),true),oC 7 [(nI y_op0),(nI y_n1),(aA y_text2),(.ilst 5 (Terms.av y_kids3) false),(iP y_pats4)]] 8),(AV.agg [(nI y_op0),(nI y_n1),(aA y_text2),(.ilst 5 (Terms.av y_kids3) false),(iP y_pats4)]) = (AV.agg [(nI y_op0),(nI y_n1),(aA y_text2),(.ilst 5 (Terms.av y_kids3) false),(iP y_pats4)]),(AV.agg [(nI y_op0),(nI y_n1),(aA y_text2),(.ilst 5 (Terms.av y_kids3) false),(iP y_pats4)]) = (AV.agg [(nI y_op0),(nI y_n1),(aA y_text2),(.ilst 5 (Terms.av y_kids3) false),(iP y_pats4)]),(AV.agg [(nI y_op0),(nI y_n1),(aA y_text2),(.ilst 5 (Terms.av y_kids3) false),(iP y_pats4)]) = (AV.agg [(nI y_op0),(nI y_n1),(aA y_text2),(.ilst 5 (Terms.av y_kids3) false),(iP y_pats4)]),(AV.agg [(.map 0),(.map 1),(iI ar),(iS pls)]) = (AV.agg [(.map 0),(.map 1),(iI ar),(iS pls)]),(AV.agg [(.map 0),(.map 1),(iI ar),(iS pls)]) = (AV.agg [(.map 0),(.map 1),(iI ar),(iS pls)]),Spec PP (.enter 44 [(.ptr 2 0),(.agg [(.map 0),(.map 1),(iI ar),(iS (pls++y5))]),(.agg [(nI y_op0),(nI y_n1),(aA y_text2),(.ilst 5 (Terms.av y_kids3) false),(iP y_pats4)])]) (aG [(0,(.map (aB aA aO 0 mf) mf.length),true),(1,(.map (aB aA aO 0 mc) mc.length),true),oC 2 [(.gl 5 4 0 l5.length false)],oC 3 [(.map 0),(.map 1),(iI ar),(iS pls)],oC 4 [(nI t_op),(nI t_n),(aA t_text),(.ilst 5 (Terms.av t_kids) false),(iP t_pats)],oL 5 4 (List.map ONode.av l5),(6,(.lstv u6 1 (jI k6)),true),oC 7 [(nI y_op0),(nI y_n1),(aA y_text2),(.ilst 5 (Terms.av y_kids3) false),(iP y_pats4)]] 8) (.pan [((.iface 82 (.agg [])),false)]) (aG [(0,(.map (aB aA aO 0 mf) mf.length),true),(1,(.map (aB aA aO 0 mc) mc.length),true),oC 3 [(.map 0),(.map 1),(iI ar),(iS pls)],oC 4 [(nI t_op),(nI t_n),(aA t_text),(.ilst 5 (Terms.av t_kids) false),(iP t_pats)],(6,(.lstv u6 1 (jI k6)),true),oC 7 [(nI y_op0),(nI y_n1),(aA y_text2),(.ilst 5 (Terms.av y_kids3) false),(iP y_pats4)]] 8)]) (is:=[.run 5,.b 62 true,.run 7,.ans (.idx (Term.av (Term.mk y_op0 y_n1 y_text2 y_kids3 y_pats4))),.run 6]) (by kernel_rfl) (by kernel_rfl) ⟨aI (fun _=>rfl) (fun _=>rfl) _ _ _,⟨aI (fun _=>rfl) (fun _=>rfl) _ _ _,trivial⟩⟩ ⟨h0,h1,(cS bG h2),h3,h4,rfl,rfl,rfl,rfl,rfl,h5⟩
theorem bBw (mf: (List (aC×Int)))(mc: (List (aC×Int)))(ar:List Int)(pls:List aC)(L:List ONode)(t_op t_n:Int)(t_text:aC)(t_kids:List Term)(t_pats:List Pat)(kid11:Int)(l5:List ONode)(k6:List Int)(t61:Int)(ix:Nat)(w_op w_n:Int)(w_pats:List Pat)(h0:0≤ ((L.length:Nat) :Int))(h1: ((L.length:Nat) :Int) < ((l5.length:Nat) :Int))(h2: ((L.length:Nat) :Int).toNat=ix)(h3:ix<List.length l5)(h4:List.length (k6++ [kid11]) ≤1000000)(h5: (IntKind.i64.wrap (t61+ (1:Int))) = (t61+ (1:Int))){res:Res}{h':Hp}(hk:∀ua un uc,Ends PP 3 (let u:=Value.slice ua un uc; (yO mf mc ar pls L t_op t_n t_text t_kids t_pats (List.set l5 ix (ONode.mk w_op w_n (KV.val u) w_pats)) (k6++ [kid11]) u (t61+ (1:Int)))).as res h') :
  Ends PP 3 (aLQ mf mc ar pls L t_op t_n t_text t_kids t_pats kid11 l5 k6 t61 ix w_op w_n w_pats).as res h':=
 sG (n1:=9) (t:=fun u=> (yO mf mc ar pls L t_op t_n t_text t_kids t_pats (List.set l5 ix (ONode.mk w_op w_n (KV.val u) w_pats)) (k6++ [kid11]) u (t61+ (1:Int)))) (k:=5) (b:=8) (i:=ix) (o:=2) (ys:=fun u=> (List.map ONode.av (List.set l5 ix (ONode.mk w_op w_n (KV.val u) w_pats)))) (ks:=[3,4,5,8]) (ps:=fun u=>[NQ (List.set (List.map ONode.av l5) ix (.agg [(nI w_op),(nI w_n),(.gl 8 1 0 (k6++ [kid11]).length false),(iP w_pats)])) ix 2 8 1 (jI (k6++ [kid11])).length u (List.map ONode.av (List.set l5 ix (ONode.mk w_op w_n (KV.val u) w_pats))),0≤ ((L.length:Nat) :Int),((L.length:Nat) :Int) < ((l5.length:Nat) :Int),(List.set (List.map ONode.av l5) ix (.agg [(nI w_op),(nI w_n),(.gl 6 1 0 k6.length false),(iP w_pats)]))[(0+ ((L.length:Nat) :Int).toNat)]?=some (.agg [(nI w_op),(nI w_n),(.gl 6 1 0 k6.length false),(iP w_pats)]),0+k6.length≤List.length (jI k6),List.length (k6++ [kid11]) ≤1000000,List.take k6.length (List.drop 0 (jI k6)) ++ (jI [kid11]) = (jI (k6++ [kid11])),k6.length+List.length (jI [kid11]) =List.length (k6++ [kid11]),0≤ ((L.length:Nat) :Int),((L.length:Nat) :Int) < ((l5.length:Nat) :Int),(List.set (List.map ONode.av l5) ix (.agg [(nI w_op),(nI w_n),(.gl 6 1 0 k6.length false),(iP w_pats)]))[(0+ ((L.length:Nat) :Int).toNat)]?=some (.agg [(nI w_op),(nI w_n),(.gl 6 1 0 k6.length false),(iP w_pats)]),lM (.agg [(nI w_op),(nI w_n),(.gl 6 1 0 k6.length false),(iP w_pats)]) 2 [(.gl 8 1 0 (k6++ [kid11]).length false)] =some (.agg [(nI w_op),(nI w_n),(.gl 8 1 0 (k6++ [kid11]).length false),(iP w_pats)]),(AV.gl 5 4 0 l5.length false) = (AV.gl 5 4 0 l5.length false),(AV.gl 5 4 0 l5.length false) = (AV.gl 5 4 0 l5.length false),(List.set (List.map ONode.av l5) ix (.agg [(nI w_op),(nI w_n),(.gl 6 1 0 k6.length false),(iP w_pats)])).set (0+ ((L.length:Nat) :Int).toNat) (.agg [(nI w_op),(nI w_n),(.gl 8 1 0 (k6++ [kid11]).length false),(iP w_pats)]) = (List.set (List.map ONode.av l5) ix (.agg [(nI w_op),(nI w_n),(.gl 8 1 0 (k6++ [kid11]).length false),(iP w_pats)])),(AV.gl 5 4 0 l5.length false) = (.gl 5 4 0 (List.set l5 ix (ONode.mk w_op w_n (KV.val u) w_pats)).length false),(AV.gl 5 4 0 l5.length false) = (.gl 5 4 0 (List.set l5 ix (ONode.mk w_op w_n (KV.val u) w_pats)).length false),(AV.gl 5 4 0 l5.length false) = (.gl 5 4 0 (List.set l5 ix (ONode.mk w_op w_n (KV.val u) w_pats)).length false),(nI (IntKind.i64.wrap (t61+ (1:Int)))) = (nI (t61+ (1:Int)))]) (is:=[.reg [.d,.d,.d,.d,.d,.d,.d,.d,.d,.d,.ans (.ix),.d,.ans (.idx (.agg [(nI w_op),(nI w_n),(.gl 6 1 0 k6.length false),(iP w_pats)])),.d,.d,.app (jI (k6++ [kid11])) (k6++ [kid11]).length,.ans (.ix),.d,.st (.agg [(nI w_op),(nI w_n),(.gl 6 1 0 k6.length false),(iP w_pats)]) (.agg [(nI w_op),(nI w_n),(.gl 8 1 0 (k6++ [kid11]).length false),(iP w_pats)])],.lset 5 (List.set (List.map ONode.av l5) ix (.agg [(nI w_op),(nI w_n),(.gl 8 1 0 (k6++ [kid11]).length false),(iP w_pats)])),.run 1]) (is2:=fun u=>[.set 77 (.gl 5 4 0 (List.set l5 ix (ONode.mk w_op w_n (KV.val u) w_pats)).length false),.set 82 (.gl 5 4 0 (List.set l5 ix (ONode.mk w_op w_n (KV.val u) w_pats)).length false),.cset 2 0 (.gl 5 4 0 (List.set l5 ix (ONode.mk w_op w_n (KV.val u) w_pats)).length false),.run 2,.set 92 (nI (t61+ (1:Int))),.run 3]) (fun u=>by kernel_rfl) (fun u=>by kernel_rfl) (fun u=> ⟨aI (fun _=>rfl) (fun _=>rfl) _ _ _,⟨aI (fun _=>rfl) (fun _=>rfl) _ _ _,⟨(aL _ (fun _=>bH _) _),⟨(aL _ (fun _=>rfl) _),trivial⟩⟩⟩⟩) (fun u=> ⟨(aLA [(nI w_op),(nI w_n)] [(iP w_pats)] h3 (List.length_map ..) (by simp) rfl),h0,h1,(vD h2 h3),(aAP _ _),h4,(aAQ _ _ _),(aAR _ _ _),h0,h1,(vD h2 h3),rfl,rfl,rfl,(aGs h2),(gR (List.length_set ..).symm),(gR (List.length_set ..).symm),(gR (List.length_set ..).symm),(congrArg (AV.int .i64) h5)⟩) hk
end
end Go.Hb
namespace Go.Hb
open Go.Proofs
noncomputable section
def bDg(a:List aC):TS:=bF PP 184 [(iS a)] [] 0
def bBx (a:List aC):=(tT 0 (bDg a)<|gl 8 aA a<|gl 1 aA a<|.i [.ans (.ev (.ilst 1 (List.map aA a) true))] [.q (p:=bCW PP 92 (iS a) none (some (nI (a.length:Int))) (some (nI (a.length:Int))) (.ilst 1 (List.map aA a) true)) (bBh (by kernel_rfl))]<|gE 3 0 (.ilst 1 (List.map aA a) true)) tv
end
end Go.Hb
namespace Go.Hb
open Go.Proofs
set_option maxHeartbeats 4000000
noncomputable section
mutual
theorem aIA :∀p:Pat,aAX p=true→nmP p=hI p
 | .mk f n s ps,h=>by
  rw [aAX,Bool.and_eq_true]at h;rw [nmP,hI];by_cases h2:f=2
  · rw [if_pos h2,if_pos h2];have h1:=h.1;simp only [bL,h2,Bool.and_eq_true,decide_eq_true_eq]at h1;simp at h1;have:ps= [] :=List.length_eq_zero_iff.1 (by simpa using h1.1.1);rw [this,yM];rfl
  · rw [if_neg h2,if_neg h2,List.nil_append];exact aER ps h.2
theorem aER :∀ps:List Pat,sR ps=true→yM ps=fV ps
 | [],_=>by rw [yM,fV]
 | p::ps,h=>by
  rw [sR,Bool.and_eq_true]at h;rw [yM,fV,aIA p h.1,aER ps h.2]
end
theorem aM1 {p:Pat}(hg:wA p=true) :Pure PP 185 [Pat.av p] (.tup [.ilst 1 (List.map aA (hI p)) false,.int .i64 0]) :=by
 have h:=hg;simp only [wA,Bool.and_eq_true,decide_eq_true_eq]at h;rw [←aIA p h.1.2];exact aST p (by omega) hg
theorem aIB (o n:Int)(s:aC)(ks:List Term)(ps:List Pat)(k:Nat)(hk:k≤1000)(h15:o=15→k≤ps.length)(hp:∀p∈ps,wA p=true) :Pure PP 111 [Term.av (.mk o n s ks ps),.int .i64 (k:Int)] (.ilst 1 (List.map aA (bZ o s ps k)) false) :=by
 have W:∀ {l:List aC} {x:Bool},Ends PP 0 (aSl o n s ks ps (k:Int)).as (.ret (.ilst 1 (List.map aA l) x)) (aG [] 0) →Pure PP 111 [Term.av (.mk o n s ks ps),.int .i64 (k:Int)] (.ilst 1 (List.map aA l) false) :=fun {l x} he=>by
  have h0:Pure PP 111 [Term.av (.mk o n s ks ps),.int .i64 (k:Int)] (.ilst 1 (List.map aA l) x) :=cB (s:=aSl o n s ks ps (k:Int)) (by kernel_rfl) (by kernel_rfl) (by simp [AV.keylessL,gV,AV.keyless]) (by simp [AV.keyless]) he;cases x with
  |false=>exact h0
  |true=>exact aEJ h0 (fun E cv h=>aAf h)
 unfold bZ;by_cases h5:o=5
 ·rw [if_pos (.inl h5)];exact W (aZZ o n s ks ps k (by simp [h5]))
 · by_cases h27:o=27
   ·rw [if_pos (.inr h27)];exact W (aZ0 o n s ks ps k (by simp [h5]) (by simp [h27]))
   · rw [if_neg (by simp [h5,h27])];by_cases h7:o=7
     · rw [if_pos h7];by_cases hk1:k=1
       ·rw [if_pos hk1];exact W (aZ1 o n s ks ps k (by simp [h5]) (by simp [h27]) (by simp [h7]) (by simp [hk1]))
       ·rw [if_neg hk1];exact W (aZ2 o n s ks ps k (by simp [h5]) (by simp [h27]) (by simp [h7]) (by simp;omega) (by simp [h7]))
     · rw [if_neg h7];by_cases ho:o=15
       · rw [if_pos ho];cases k with
         |zero=>exact W (aZ4 o n s ks ps _ (by simp [h5]) (by simp [h27]) (by simp [h7]) (by simp [ho]) (by simp))
         | succ j=>
          have hj:=h15 ho;obtain⟨p,hpj⟩ :∃p,ps[j]?=some p:= ⟨_,List.getElem?_eq_getElem (by omega)⟩;simp only [hpj];have hg:=hp p (List.mem_of_getElem? hpj);have hn:=aM1 hg;obtain⟨f',n',s',ps'⟩ :=p;have e: ((j+1:Nat) :Int) -1= (j:Int) :=by omega
          exact W (aZ3 o n s ks ps ((j+1:Nat) :Int) f' n' s' ps' _ 0 (by simp [h5]) (by simp [h27]) (by simp [h7]) (by simp [ho]) (by simp;try omega) (by apply wrap64<;>omega) (by omega) (by rw [e,Int.toNat_natCast];exact hpj) hn)
       ·rw [if_neg ho];exact W (aZ5 o n s ks ps k (by simp [h5]) (by simp [h27]) (by simp [h7]) (by simp [ho]))
theorem aS0 (l:List aC) :Pure PP 184 [.ilst 1 (List.map aA l) false] (.ilst 1 (List.map aA l) true) :=
 cB (s:=bDg l) (by kernel_rfl) (by kernel_rfl) (by simp [AV.keylessL,AV.keyless]) (by simp [AV.keyless]) (bBx l)
abbrev SCa (ar:List Int)(pl:List aC) :AV:=.agg [.map 0,.map 1,.ilst 1 (List.map aO ar) false,.ilst 1 (List.map aA pl) false]
theorem aS1 (mf mc:List (aC×Int))(ar:List Int)(q:aC)(pl l:List aC)(h: ((q::pl) ++l).length≤1000000) :Spec PP (.enter 110 [SCa ar (q::pl),.ilst 1 (List.map aA l) false]) (WH mf mc) (.ret (SCa ar ((q::pl) ++l))) (WH mf mc) :=
 ⟨(bCK mf mc ar q pl l).as.fr,by kernel_rfl,Eq.mp (by kernel_rfl) (aZO mf mc ar q pl l (aS0 (q::pl) _) h)⟩
theorem aS2 {mf mc:List (aC×Int)}{ar:List Int}{q:aC}{pl l:List aC}{lc:List (Nat×AObj×Bool)}{n2:Nat}(h: ((q::pl) ++l).length≤1000000)(e3:2-2+n2=n2)
  (hl:nH (aG lc n2) (dM 0 2 n2 [0,1]) (WL mf mc) =fS (dM 0 2 n2 [0,1]) (WL mf mc) :=by kernel_rfl) (hl':nH (aG lc n2) (kD 2 n2 [0,1]) (WL mf mc) =fS (kD 2 n2 [0,1]) (WL mf mc) :=by kernel_rfl) (hx:dW n2 lc=true:=by kernel_rfl)
  (hlt: [0,1].all (fun k=>Nat.blt k n2) =true:=by kernel_rfl) (hout:uN (namesT (kD 2 n2 [0,1]) (WL mf mc)) [0,1] (aG lc n2) lc=nJ lc:=by kernel_rfl) (ha:AV.renL (dM 0 2 n2 [0,1]) [SCa ar (q::pl),.ilst 1 (List.map aA l) false] = [SCa ar (q::pl),.ilst 1 (List.map aA l) false] :=by kernel_rfl) (hv:AV.ren (kD 2 n2 [0,1]) (SCa ar ((q::pl) ++l)) =SCa ar ((q::pl) ++l) :=by kernel_rfl) :
  Spec PP (.enter 110 [SCa ar (q::pl),.ilst 1 (List.map aA l) false]) (aG lc n2) (.ret (SCa ar ((q::pl) ++l))) (aG lc n2) :=
 fE (m:=2) (ks:=[0,1]) (nb:=2) (nb':=2) (aS1 mf mc ar q pl l h) e3 hv ha rfl rfl (by kernel_rfl) hl (aIw mf mc) hl' (aIw mf mc) (by kernel_rfl) (by kernel_rfl) hx hx hlt hout (by kernel_rfl)
end
end Go.Hb
namespace Go.Hb
open Go.Proofs
set_option maxHeartbeats 4000000
noncomputable section
theorem sK {P:Program}{f:Nat}{args args':List AV}{res:Res}{l l' lc lc':List (Nat×AObj×Bool)}{m nb nb' n2 n3:Nat}{ks:List Nat}
  (h0:qQ P m (.enter f args) (aG l nb) res (aG l' nb')) (e3:nb'-m+n2=n3) (hv:sP res) (hargs:AV.renL (dM 0 nb n2 ks) args=args') (hm:Nat.ble m nb=true) (hm':Nat.ble m nb'=true)
  (hin:cY 0 ⟨⟨0,0,[],[],[],.run,.normal,none⟩,[],l,nb⟩ ks=true) (hl:nH (aG lc n2) (dM 0 nb n2 ks) l=fS (dM 0 nb n2 ks) l) (hkl:fM l)
  (hl':nH (aG lc' n3) (kD m n2 ks) l'=fS (kD m n2 ks) l') (hkl':fM l') (hpl:rW l'=true) (hk':dW nb' l'=true)
  (hx:dW n2 lc=true) (hx':dW n3 lc'=true) (hlt:ks.all (fun k=>Nat.blt k n2) =true) (hout:uN (namesT (kD m n2 ks) l') ks (aG lc n2) lc'=nJ lc') (hll:nJ l'= (l'.map fun p=> (aG l' nb').look p.1)) :
  Spec P (.enter f args') (aG lc n2) res (aG lc' n3) :=by
 subst e3;exact aEq h0 (fun _ g=>bBV hv g) hargs hm hm' hin hl hkl hl' hkl' hpl hk' hx hx' hlt hout hll
abbrev MKc (b n:Nat) :AObj:=.cells (putCells .leaf 0 [.gl b 4 0 n false]) 1 [] false
abbrev MH (mf mc:List (aC×Int))(L:List ONode) :List (Nat×AObj×Bool) :=[(0,kV mf,true),(1,kV mc,true),(2,MKc 3 (List.length L),false),(3,OL L,true)]
theorem aKh (mf mc:List (aC×Int))(L:List ONode) :fM (MH mf mc L) := ⟨aI (fun _=>rfl) (fun _=>rfl) _ _ _,aI (fun _=>rfl) (fun _=>rfl) _ _ _,oJ L,trivial⟩
def aS3 (mf mc:List (aC×Int))(ar:List Int)(pl:List aC)(o n:Int)(s:aC)(k:Nat) :Option Int:=
 if o=4 then aEM mf pl s else if o=14 then aGq mc ar s k else some n
mutual
def mT (mf mc:List (aC×Int))(ar:List Int) :Term→List aC→Nat→Option (List Node)
 | .mk o n s ks ps,pl,a=>match wPs mc ar ps,aS3 mf mc ar pl o n s (List.length ks),mTs mf mc ar o s ps ks 0 pl (a+1)with
  |some qs,some N,some r=>some (⟨o,N,r.1,qs⟩ ::r.2)
  |_,_,_=>none
def mTs (mf mc:List (aC×Int))(ar:List Int)(o:Int)(s:aC)(ps:List Pat) :List Term→Nat→List aC→Nat→Option (List Int×List Node)
 | [],_,_,_=>some ([],[])
 | t::ts,i,pl,a=>match mT mf mc ar t (pl++bZ o s ps i) a with
  |none=>none
  | some ns=>match mTs mf mc ar o s ps ts (i+1) pl (a+ns.length)with
   |none=>none
   |some r=>some (((a:Nat) :Int) ::r.1,ns++r.2)
end
mutual
theorem aGC (mf mc:List (aC×Int))(ar:List Int) :∀ (t:Term) (pl:List aC) (a:Nat) (ns:List Node),mT mf mc ar t pl a=some ns→ns.length=bX t
 | .mk o n s ks ps,pl,a,ns,h=>by
  rw [mT]at h;split at h
  · rename_i qs N r h1 h2 h3;cases h;rw [List.length_cons,aLR mf mc ar o s ps ks 0 pl (a+1) r h3,bX]
  ·cases h
theorem aLR (mf mc:List (aC×Int))(ar:List Int)(o:Int)(s:aC)(ps:List Pat) :∀ (ts:List Term) (i:Nat) (pl:List aC) (a:Nat) (r:List Int×List Node),mTs mf mc ar o s ps ts i pl a=some r→r.2.length=bO ts
 | [],i,pl,a,r,h=>by rw [mTs]at h;cases h;rfl
 | t ::ts,i,pl,a,r,h=>by
  rw [mTs]at h;split at h
  ·cases h
  · rename_i ns h1;split at h
    ·cases h
    · rename_i r1 h2;cases h;rw [List.length_append,aGC mf mc ar t _ _ ns h1,aLR mf mc ar o s ps ts _ _ _ r1 h2,bO]
end
def bEs (L:List ONode) :Option (List Node) →Res
 |none=>.pan UB
 |some _=>.ret (.int .i64 ((List.length L:Nat) :Int))
def hpN (mf mc:List (aC×Int))(L:List ONode) :Option (List Node) →Hp
 |none=>aG (WL mf mc) 3
 |some ns=>aG (MH mf mc (L++List.map Node.o ns)) 4
def MPS (mf mc:List (aC×Int))(ar:List Int)(t:Term)(pl:List aC)(L:List ONode)(r:Option (List Node)) :Prop:=
 qQ PP 3 (.enter 44 [.ptr 2 0,SCa ar pl,Term.av t]) (aG (MH mf mc L) 4) (bEs L r) (hpN mf mc L r)
def aES (mf mc:List (aC×Int))(L:List ONode)(s:TS)(r:Option (List Node)) :Prop:=Ends PP 3 s.as (bEs L r) (hpN mf mc L r)
section
variable (mf mc:List (aC×Int)) (ar:List Int) (q:aC) (pl:List aC) (L:List ONode) (o n:Int) (s:aC) (ks:List Term) (ps:List Pat)
theorem aM3 (kid:Int)(l:List ONode){ix:Nat}{a b:Int}{P:List Pat}(h:l[ix]?=some ⟨a,b,.nil,P⟩) :LeadsM PP 3 (aSY mf mc ar (q::pl) L o n s ks ps kid l).as (aLP mf mc ar (q::pl) L o n s ks ps kid l ix a b P).as:=
 aSF (k:=5) (e0:=4) (e:=1) (by kernel_rfl) (by kernel_rfl) (aLB (f:=ONode.av) [.int .i64 a,.int .i64 b] [.ilst 4 (Pats.av P) false] h rfl) (by kernel_rfl)
theorem aM4 (kid:Int)(l:List ONode)(k3:List Int)(u:Value)(i:Int){ix:Nat}{a b:Int}{P:List Pat}(h:l[ix]?=some ⟨a,b,.val u,P⟩) :LeadsM PP 3 (aSZ mf mc ar (q::pl) L o n s ks ps kid l k3 u i).as (aLQ mf mc ar (q::pl) L o n s ks ps kid l k3 i ix a b P).as:=
 aLz (k:=5) (b:=6) (e0:=4) (e:=1) (u:=u) (xs:=List.map aO k3) (n:=List.length k3) (by kernel_rfl) (by kernel_rfl) (by decide) (List.length_map ..) (aLB (f:=ONode.av) [.int .i64 a,.int .i64 b] [.ilst 4 (Pats.av P) false] h rfl) (by kernel_rfl)
variable (hkl :ks.length≤900) (h15:o=15→ks.length≤ps.length+1) (hps:∀p∈ps,aQ p≤1000) (hpg:∀p∈ps,wA p=true) (he:pl.length≤900000)
 (ih:∀t∈ks,∀ (e:List aC) (M:List ONode),e.length≤pl.length+1000→M.length+bX t≤1000000→MPS mf mc ar t (q::e) M (mT mf mc ar t (q::e) M.length))
include hkl h15 hps hpg he ih
theorem aIC (v:Int)(P:List Pat) :∀ (ts:List Term) (i:Nat) (u:Value) (r0:List Node) (k3:List Int),ks.drop i=ts→k3.length=i→L.length+1+r0.length+bO ts≤1000000 →
  aES mf mc L (yO mf mc ar (q::pl) L o n s ks ps (L++ ⟨o,v,.val u,P⟩ ::List.map Node.o r0) k3 u (i:Int)) ((mTs mf mc ar o s ps ts i (q::pl) (L.length+1+r0.length)).map fun r=> ⟨o,v,k3++r.1,P⟩ :: (r0++r.2))
 | [],i,u,r0,k3,h,hk,_=>by
  have:=bA h;have h1:=bBr mf mc ar (q::pl) L o n s ks ps (L++ ⟨o,v,.val u,P⟩ ::List.map Node.o r0) k3 u i ⟨o,v,.val u,P⟩ sd (mE ..) rfl;rw [mF]at h1;rw [mTs];simp only [Option.map_some,List.append_nil];exact h1
 | .mk o' n' s' ks' ps'::ts,i,u,r0,k3,h,hk,hb=>by
  obtain⟨g1,g2,g3⟩ :=aZ h;have hi:= (List.getElem?_eq_some_iff.1 g1).1;simp only [bO]at hb;have hbl:=qV hps o s i;have hb1:=aIB o n s ks ps i (by omega) (fun h=>by have:=h15 h;omega) hpg;have hlen: (L++ (⟨o,v,.val u,P⟩ :ONode) ::List.map Node.o r0).length=L.length+1+r0.length:=by simp;omega
  have hs:=ih _ (List.mem_of_getElem? g1) (pl++bZ o s ps i) (L++ ⟨o,v,.val u,P⟩ ::List.map Node.o r0) (by simp;omega) (by rw [hlen];omega);rw [hlen]at hs
  have hw:=aS2 (mf:=mf) (mc:=mc) (ar:=ar) (q:=q) (pl:=pl) (l:=bZ o s ps i) (n2:=8)
   (lc:=[(0,kV mf,true),(1,kV mc,true),(2,MKc 5 (List.length (L++ (⟨o,v,.val u,P⟩ :ONode) ::List.map Node.o r0)),false),(3,.cells (putCells .leaf 0 [.map 0,.map 1,.ilst 1 (List.map aO ar) false,.ilst 1 (List.map aA (q::pl)) false]) 4 [] false,false),(4,eI o n s ks ps,false),(5,OL (L++ ⟨o,v,.val u,P⟩ ::List.map Node.o r0),true),(6,.lstv u 1 (List.map aO k3),true),(7,eI o' n' s' ks' ps',false)]) (by simp;omega) rfl
  rw [mTs];have hns:∀ns,mT mf mc ar (.mk o' n' s' ks' ps') (q::pl++bZ o s ps i) (L.length+1+r0.length) =some ns→ns.length=bX (.mk o' n' s' ks' ps') :=fun ns h=>aGC mf mc ar _ _ _ ns h;have hcons:q:: (pl++bZ o s ps i) =q::pl++bZ o s ps i:=rfl;rw [hcons]at hs;cases hm:mT mf mc ar (.mk o' n' s' ks' ps') (q::pl++bZ o s ps i) (L.length+1+r0.length)with
  | none=>
   rw [hm]at hs
   have hs':=sK (m:=3) (ks:=[0,1,2,5]) (n2:=8) (n3:=8) (args':=[.ptr 2 0,SCa ar (q::pl++bZ o s ps i),Term.av (.mk o' n' s' ks' ps')])
    (lc:=[(0,kV mf,true),(1,kV mc,true),(2,MKc 5 (List.length (L++ (⟨o,v,.val u,P⟩ :ONode) ::List.map Node.o r0)),false),(3,.cells (putCells .leaf 0 [.map 0,.map 1,.ilst 1 (List.map aO ar) false,.ilst 1 (List.map aA (q::pl)) false]) 4 [] false,false),(4,eI o n s ks ps,false),(5,OL (L++ ⟨o,v,.val u,P⟩ ::List.map Node.o r0),true),(6,.lstv u 1 (List.map aO k3),true),(7,eI o' n' s' ks' ps',false)])
    (lc':=[(0,kV mf,true),(1,kV mc,true),(3,.cells (putCells .leaf 0 [.map 0,.map 1,.ilst 1 (List.map aO ar) false,.ilst 1 (List.map aA (q::pl)) false]) 4 [] false,false),(4,eI o n s ks ps,false),(6,.lstv u 1 (List.map aO k3),true),(7,eI o' n' s' ks' ps',false)])
    hs (by rfl) aKg (by kernel_rfl) (by rfl) (by rfl) (by kernel_rfl) (by kernel_rfl) (aKh _ _ _) (by kernel_rfl) (aIw _ _) (by kernel_rfl) (by kernel_rfl) (by kernel_rfl) (by kernel_rfl) (by kernel_rfl) (by kernel_rfl) (by kernel_rfl)
   exact bBv mf mc ar (q::pl) L o n s ks ps (L++ ⟨o,v,.val u,P⟩ ::List.map Node.o r0) k3 u i o' n' s' ks' ps' _ sd sd sd hb1 hw hs'
  | some ns=>
   have hnl:=hns ns hm;rw [hm]at hs
   have hs':=fE (m:=3) (ks:=[0,1,2,5]) (n2:=8) (n3:=9) (v':=.int .i64 ((List.length (L++ (⟨o,v,.val u,P⟩ :ONode) ::List.map Node.o r0) :Nat) :Int)) (args':=[.ptr 2 0,SCa ar (q::pl++bZ o s ps i),Term.av (.mk o' n' s' ks' ps')])
    (lc:=[(0,kV mf,true),(1,kV mc,true),(2,MKc 5 (List.length (L++ (⟨o,v,.val u,P⟩ :ONode) ::List.map Node.o r0)),false),(3,.cells (putCells .leaf 0 [.map 0,.map 1,.ilst 1 (List.map aO ar) false,.ilst 1 (List.map aA (q::pl)) false]) 4 [] false,false),(4,eI o n s ks ps,false),(5,OL (L++ ⟨o,v,.val u,P⟩ ::List.map Node.o r0),true),(6,.lstv u 1 (List.map aO k3),true),(7,eI o' n' s' ks' ps',false)])
    (lc':=[(0,kV mf,true),(1,kV mc,true),(2,MKc 8 (List.length ((L++ (⟨o,v,.val u,P⟩ :ONode) ::List.map Node.o r0) ++List.map Node.o ns)),false),(3,.cells (putCells .leaf 0 [.map 0,.map 1,.ilst 1 (List.map aO ar) false,.ilst 1 (List.map aA (q::pl)) false]) 4 [] false,false),(4,eI o n s ks ps,false),(6,.lstv u 1 (List.map aO k3),true),(7,eI o' n' s' ks' ps',false),(8,OL ((L++ ⟨o,v,.val u,P⟩ ::List.map Node.o r0) ++List.map Node.o ns),true)])
    hs (by rfl) (by rfl) (by kernel_rfl) (by rfl) (by rfl) (by kernel_rfl) (by kernel_rfl) (aKh _ _ _) (by kernel_rfl) (aKh _ _ _) (by kernel_rfl) (by kernel_rfl) (by kernel_rfl) (by kernel_rfl) (by kernel_rfl) (by kernel_rfl) (by kernel_rfl)
   have h0:=bBq mf mc ar (q::pl) L o n s ks ps (L++ ⟨o,v,.val u,P⟩ ::List.map Node.o r0) k3 u i o' n' s' ks' ps' _ ns sd sd sd hb1 hw hs';have e2: (L++ (⟨o,v,.val u,P⟩ :ONode) ::List.map Node.o r0) ++List.map Node.o ns=L++ ⟨o,v,.val u,P⟩ ::List.map Node.o (r0++ns) :=by simp
   rw [e2,hlen]at h0;refine LeadsM.ends (h0.trans (aM4 mf mc ar q pl L o n s ks ps _ _ k3 u i (mE L _ _))) ?_;refine bBw mf mc ar (q::pl) L o n s ks ps _ _ k3 i (List.length L) o v P (by omega) (by simp;omega) (by omega) (by simp) (by simp;omega) sd (fun ua un uc=>?_);have hr:=aIC v P ts (i+1) (.slice ua un uc) (r0++ns) (k3++ [((L.length+1+r0.length:Nat) :Int)]) g2 (by simp [hk]) (by simp;omega);dsimp only;rw [mF];rw [List.length_append,←Nat.add_assoc]at hr;cases ht:mTs mf mc ar o s ps ts (i+1) (q::pl) (L.length+1+r0.length+ns.length)with
   |none=>rw [ht]at hr;exact hr
   | some r=>
    rw [ht]at hr;simp only [Option.map_some,List.append_assoc,List.singleton_append]at hr ⊢;exact hr
theorem aS4 (v:Int)(P:List Pat)(hb:L.length+1+bO ks≤1000000) :
  aES mf mc L (vE mf mc ar (q::pl) L o n s ks ps (L++ [⟨o,v,.nil,P⟩])) ((mTs mf mc ar o s ps ks 0 (q::pl) (L.length+1)).map fun r=> ⟨o,v,r.1,P⟩ ::r.2) :=by
 cases hks:ks with
 | nil=>
  subst hks;have h1:=bBp mf mc ar (q::pl) L o n s [] ps (L++ [⟨o,v,.nil,P⟩]) ⟨o,v,.nil,P⟩ (by simp) (mE ..) rfl;rw [mF]at h1;rw [mTs];exact h1
 | cons t ts=>
  obtain⟨o',n',s',ks',ps'⟩ :=t;have g1:ks[0]?=some (.mk o' n' s' ks' ps') :=by rw [hks];rfl
  rw [←hks];have hbl:=qV hps o s 0;have hb1:=aIB o n s ks ps 0 (by omega) (fun h=>by have:=h15 h;omega) hpg;have hlen: (L++ [(⟨o,v,.nil,P⟩ :ONode)]).length=L.length+1:=by simp
  have hb0:bX (.mk o' n' s' ks' ps') +bO ts=bO ks:=by rw [hks,bO]
  have hs:=ih _ (List.mem_of_getElem? g1) (pl++bZ o s ps 0) (L++ [⟨o,v,.nil,P⟩]) (by simp;omega) (by rw [hlen];omega);rw [hlen]at hs
  have hw:=aS2 (mf:=mf) (mc:=mc) (ar:=ar) (q:=q) (pl:=pl) (l:=bZ o s ps 0) (n2:=7)
   (lc:=[(0,kV mf,true),(1,kV mc,true),(2,MKc 5 (List.length (L++ [(⟨o,v,.nil,P⟩ :ONode)])),false),(3,.cells (putCells .leaf 0 [.map 0,.map 1,.ilst 1 (List.map aO ar) false,.ilst 1 (List.map aA (q::pl)) false]) 4 [] false,false),(4,eI o n s ks ps,false),(5,OL (L++ [⟨o,v,.nil,P⟩]),true),(6,eI o' n' s' ks' ps',false)]) (by simp;omega) rfl
  have ep:mTs mf mc ar o s ps ks 0 (q::pl) (L.length+1) =mTs mf mc ar o s ps (.mk o' n' s' ks' ps'::ts) 0 (q::pl) (L.length+1) :=by rw [hks]
  rw [ep,mTs];have hns:∀ns,mT mf mc ar (.mk o' n' s' ks' ps') (q::pl++bZ o s ps 0) (L.length+1) =some ns→ns.length=bX (.mk o' n' s' ks' ps') :=fun ns h=>aGC mf mc ar _ _ _ ns h;have hcons:q:: (pl++bZ o s ps 0) =q::pl++bZ o s ps 0:=rfl;rw [hcons]at hs;cases hm:mT mf mc ar (.mk o' n' s' ks' ps') (q::pl++bZ o s ps 0) (L.length+1)with
  | none=>
   rw [hm]at hs
   have hs':=sK (m:=3) (ks:=[0,1,2,5]) (n2:=7) (n3:=7) (args':=[.ptr 2 0,SCa ar (q::pl++bZ o s ps 0),Term.av (.mk o' n' s' ks' ps')])
    (lc:=[(0,kV mf,true),(1,kV mc,true),(2,MKc 5 (List.length (L++ [(⟨o,v,.nil,P⟩ :ONode)])),false),(3,.cells (putCells .leaf 0 [.map 0,.map 1,.ilst 1 (List.map aO ar) false,.ilst 1 (List.map aA (q::pl)) false]) 4 [] false,false),(4,eI o n s ks ps,false),(5,OL (L++ [⟨o,v,.nil,P⟩]),true),(6,eI o' n' s' ks' ps',false)])
    (lc':=[(0,kV mf,true),(1,kV mc,true),(3,.cells (putCells .leaf 0 [.map 0,.map 1,.ilst 1 (List.map aO ar) false,.ilst 1 (List.map aA (q::pl)) false]) 4 [] false,false),(4,eI o n s ks ps,false),(6,eI o' n' s' ks' ps',false)])
    hs (by rfl) aKg (by kernel_rfl) (by rfl) (by rfl) (by kernel_rfl) (by kernel_rfl) (aKh _ _ _) (by kernel_rfl) (aIw _ _) (by kernel_rfl) (by kernel_rfl) (by kernel_rfl) (by kernel_rfl) (by kernel_rfl) (by kernel_rfl) (by kernel_rfl)
   exact bBt mf mc ar (q::pl) L o n s ks ps (L++ [(⟨o,v,.nil,P⟩ :ONode)]) o' n' s' ks' ps' _ (by rw [hks];simp) (by omega) (by simpa using g1) hb1 hw hs'
  | some ns=>
   have hnl:=hns ns hm;rw [hm]at hs
   have hs':=fE (m:=3) (ks:=[0,1,2,5]) (n2:=7) (n3:=8) (v':=.int .i64 ((List.length (L++ [(⟨o,v,.nil,P⟩ :ONode)]) :Nat) :Int)) (args':=[.ptr 2 0,SCa ar (q::pl++bZ o s ps 0),Term.av (.mk o' n' s' ks' ps')])
    (lc:=[(0,kV mf,true),(1,kV mc,true),(2,MKc 5 (List.length (L++ [(⟨o,v,.nil,P⟩ :ONode)])),false),(3,.cells (putCells .leaf 0 [.map 0,.map 1,.ilst 1 (List.map aO ar) false,.ilst 1 (List.map aA (q::pl)) false]) 4 [] false,false),(4,eI o n s ks ps,false),(5,OL (L++ [⟨o,v,.nil,P⟩]),true),(6,eI o' n' s' ks' ps',false)])
    (lc':=[(0,kV mf,true),(1,kV mc,true),(2,MKc 7 (List.length ((L++ [(⟨o,v,.nil,P⟩ :ONode)]) ++List.map Node.o ns)),false),(3,.cells (putCells .leaf 0 [.map 0,.map 1,.ilst 1 (List.map aO ar) false,.ilst 1 (List.map aA (q::pl)) false]) 4 [] false,false),(4,eI o n s ks ps,false),(6,eI o' n' s' ks' ps',false),(7,OL ((L++ [⟨o,v,.nil,P⟩]) ++List.map Node.o ns),true)])
    hs (by rfl) (by rfl) (by kernel_rfl) (by rfl) (by rfl) (by kernel_rfl) (by kernel_rfl) (aKh _ _ _) (by kernel_rfl) (aKh _ _ _) (by kernel_rfl) (by kernel_rfl) (by kernel_rfl) (by kernel_rfl) (by kernel_rfl) (by kernel_rfl) (by kernel_rfl)
   have h0:=bBo mf mc ar (q::pl) L o n s ks ps (L++ [(⟨o,v,.nil,P⟩ :ONode)]) o' n' s' ks' ps' _ ns (by rw [hks];simp) (by omega) (by simpa using g1) hb1 hw hs';have e2: (L++ [(⟨o,v,.nil,P⟩ :ONode)]) ++List.map Node.o ns=L++ ⟨o,v,.nil,P⟩ ::List.map Node.o ns:=by simp
   rw [e2,hlen]at h0;refine LeadsM.ends (h0.trans (aM3 mf mc ar q pl L o n s ks ps _ _ (mE L _ _))) ?_;refine bBu mf mc ar (q::pl) L o n s ks ps _ _ (List.length L) o v P (by omega) (by simp;omega) (by omega) (by simp) (by simp) (fun ua un uc=>?_);have hr:=aIC mf mc ar q pl L o n s ks ps hkl h15 hps hpg he ih v P ts 1 (.slice ua un uc) ns [((L.length+1:Nat) :Int)] (by rw [hks];rfl) rfl (by omega);dsimp only;rw [mF];cases ht:mTs mf mc ar o s ps ts (0+1) (q::pl) (L.length+1+ns.length)with
   |none=>rw [show(0+1) =1 from rfl]at ht;rw [ht]at hr;exact hr
   | some r=>
    rw [show(0+1) =1 from rfl]at ht;rw [ht]at hr;simp only [Option.map_some,List.singleton_append]at hr ⊢;exact hr
end
end
end Go.Hb
namespace Go.Hb
open Go.Proofs
noncomputable section
open Go.Proofs Tryz
def aS5(a:Mod):TS:=bF PP 10 [(.agg [(aA a.name),(.ilst 2 (List.map DataD.av a.datas) false),(.ilst 15 (FunDs.av a.funs) false)])] [] 0
def aGD(a:Mod)(f:List Con)(g:List Int)(b c:List (aC×Int))(i:Int)(d:List Int)(e:List ONode):TS:=⟨(tf 10 59 [kp 2 0,kp 3 1,kp 4 2,(5,(iC f)),kp 6 3,(7,(.gl 4 1 0 d.length false)),(23,(.ilst 15 (FunDs.av a.funs) false)),(24,(nI (a.funs.length:Int))),(25,(nI i))] [kc f10 2036,kl f10 2036,.inBlock 0,kc f10 255] (defers:=[.fn 42 [(.ptr 0 0),(.ptr 1 0)]])),[],[oC 0 [.nils,.nils,(nI 0),.nils],oC 1 [(nI 0)],oC 2 [(.map 5),(.map 6),(iI g)],oC 3 [(.gl 7 4 0 e.length false)],oL 4 1 (jI d),(5,(.map (aB aA aO 0 b) b.length),true),(6,(.map (aB aA aO 0 c) c.length),true),oL 7 4 (List.map ONode.av e)],8⟩
def bDh(a:Node):TS:=bF PP 46 [(Node.av a)] [] 0
def bDi(a:List Node):TS:=bF PP 112 [(iN a),(.func 46 [] [])] [] 0
def aGE(a:List Node)(b:Int):TS:=⟨(tf 112 19 [(0,(iN a)),(1,(.func 46 [] [])),(4,(nI 0)),(7,(nI (a.length:Int))),(8,(nI b))] [kc f112 52,kl f112 52,.inBlock 0,kc f112 7]),[],[],0⟩
def bDj(a:List Node):TS:=bF PP 45 [(iN a),(.func 46 [] [])] [] 0
def aS6(a:Mod):=tT 0 (aS5 a)<|gpI 10 41 [(.agg [(aA a.name),(.ilst 2 (List.map DataD.av a.datas) false),(.ilst 15 (FunDs.av a.funs) false)])]<|fun f=>.b 2 12 (f != 0) (.i [rn 8,.cnilI 1 0 4] []<|.i [.cnilI 1 1 1] []<|.i [.cnilI 1 3 2] []<|gE 0 3 (.tup [(.agg [(.ilst 4 (jN ([] :List Node)) true),(.ilst 1 (jI ([] :List Int)) true),(nI 0),(.ilst 2 (jC ([] :List Con)) true)]),(nI 2)]))<|.o (gK 10 (.enter 43 [(.agg [(aA a.name),(.ilst 2 (List.map DataD.av a.datas) false),(.ilst 15 (FunDs.av a.funs) false)])]) [oC 0 [(aA a.name),(.ilst 2 (List.map DataD.av a.datas) false),(.ilst 15 (FunDs.av a.funs) false)],oC 1 [.nils,.nils,(nI 0),.nils],oC 2 [(nI 0)]] 3 [((.iface 82 (.agg [])),false)] [oC 0 [(aA a.name),(.ilst 2 (List.map DataD.av a.datas) false),(.ilst 15 (FunDs.av a.funs) false)],oC 1 [.nils,.nils,(nI 0),.nils],oC 2 [(nI 0)]] 3<|.i [rn 31,.cnilI 1 0 4] []<|.i [.cnilI 1 1 1] []<|.i [.cnilI 1 3 2] []<|gE 0 4 (.tup [(.agg [(.ilst 4 (jN ([] :List Node)) true),(.ilst 1 (jI ([] :List Int)) true),(nI 0),(.ilst 2 (jC ([] :List Con)) true)]),(nI 7)]))<|.y fun b:List (aC×Int)=>.y fun c:List (aC×Int)=>.y fun d:List Int=>.y fun e:List Con=>gk 10 (.enter 43 [(.agg [(aA a.name),(.ilst 2 (List.map DataD.av a.datas) false),(.ilst 15 (FunDs.av a.funs) false)])]) [oC 0 [(aA a.name),(.ilst 2 (List.map DataD.av a.datas) false),(.ilst 15 (FunDs.av a.funs) false)],oC 1 [.nils,.nils,(nI 0),.nils],oC 2 [(nI 0)]] 3 (.tup [(.agg [(.map 3),(.map 4),(iI d)]),(iC e)]) [oC 0 [(aA a.name),(.ilst 2 (List.map DataD.av a.datas) false),(.ilst 15 (FunDs.av a.funs) false)],oC 1 [.nils,.nils,(nI 0),.nils],oC 2 [(nI 0)],(3,(.map (aB aA aO 0 b) b.length),true),(4,(.map (aB aA aO 0 c) c.length),true)] 5<|gm 22 cD a.funs<|.i [rn 4,.nilL 7 1] []<|gu 0 7 (jI ([] :List Int))<|gs 0 7 (.gl 7 1 0 ([] :List Int).length false)<|.i [.cnil 6 0 4] []<|gu 0 8 (List.map ONode.av ([] :List ONode))<|gv 0 6 0 (.gl 8 4 0 ([] :List ONode).length false)<|.W 0 9 [1,2,5,6,7,3,4,8] (aGD a e d b c 0 ([] :List Int) ([] :List ONode))
def bBy:=fun a b c d=>aS6 a b c|>.t d tv
def bBz:=fun a b c d e=>aS6 a b c|>.f d|>.1 e tv
def bBA:=fun a b c d e f g i j=>aS6 a b g|>.f i|>.2 c d e f j ⟨kk,⟨aI (fun _=>rfl) (fun _=>rfl) _ _ _,⟨aI (fun _=>rfl) (fun _=>rfl) _ _ _,⟨(aL _ (fun _=>bH _) _),trivial⟩⟩⟩⟩
def aLS(y:Mod)(z:List Con)(f:List Int)(a d:List (aC×Int))(o:Int)(e:List Int)(b:List ONode):=tT 0 (aGD y z f a d o e b)<|gd 5 26 (o< (y.funs.length:Int)) (.y fun p:aC=>.y fun g:aC=>.y fun q:Int=>.y fun r:Int=>.y fun s:aC=>.y fun t:List Typ=>.y fun u:Int=>.y fun v:Int=>.y fun w:aC=>.y fun x:List Typ=>.y fun i:Int=>.y fun j:Int=>.y fun k:aC=>.y fun l:List Term=>.y fun m:List Pat=>giF cD 6 y.funs o (FunD.mk p g (Typ.mk q r s t) (Typ.mk u v w x) (Term.mk i j k l m))<|.o (gK 14 (.enter 44 [(.ptr 3 0),(.agg [(.map 5),(.map 6),(iI f),(.slice 9 0 1 1 1 true)]),(.agg [(nI i),(nI j),(aA k),(.ilst 5 (Terms.av l) false),(iP m)])]) [oC 0 [.nils,.nils,(nI 0),.nils],oC 1 [(nI 0)],oC 2 [(.map 5),(.map 6),(iI f)],oC 3 [(.gl 7 4 0 b.length false)],oL 4 1 (jI e),(5,(.map (aB aA aO 0 a) a.length),true),(6,(.map (aB aA aO 0 d) d.length),true),oL 7 4 (List.map ONode.av b),oC 8 [(aA p),(aA g),(nI q),(nI r),(aA s),(.ilst 4 (Typs.av t) false),(nI u),(nI v),(aA w),(.ilst 4 (Typs.av x) false),(nI i),(nI j),(aA k),(.ilst 5 (Terms.av l) false),(iP m)],oC 9 [(aA g)]] 10 [((.iface 82 (.agg [])),false)] [oC 0 [.nils,.nils,(nI 0),.nils],oC 1 [(nI 0)],oC 2 [(.map 5),(.map 6),(iI f)],oL 4 1 (jI e),(5,(.map (aB aA aO 0 a) a.length),true),(6,(.map (aB aA aO 0 d) d.length),true),oC 8 [(aA p),(aA g),(nI q),(nI r),(aA s),(.ilst 4 (Typs.av t) false),(nI u),(nI v),(aA w),(.ilst 4 (Typs.av x) false),(nI i),(nI j),(aA k),(.ilst 5 (Terms.av l) false),(iP m)]] 10<|.i [rn 31,.cnilI 0 0 4] []<|.i [.cnilI 0 1 1] []<|.i [.cnilI 0 3 2] []<|gE 0 11 (.tup [(.agg [(.ilst 4 (jN ([] :List Node)) true),(.ilst 1 (jI ([] :List Int)) true),(nI 0),(.ilst 2 (jC ([] :List Con)) true)]),(nI 7)]))<|.y fun A:List Node=>gk 14 (.enter 44 [(.ptr 3 0),(.agg [(.map 5),(.map 6),(iI f),(.slice 9 0 1 1 1 true)]),(.agg [(nI i),(nI j),(aA k),(.ilst 5 (Terms.av l) false),(iP m)])]) [oC 0 [.nils,.nils,(nI 0),.nils],oC 1 [(nI 0)],oC 2 [(.map 5),(.map 6),(iI f)],oC 3 [(.gl 7 4 0 b.length false)],oL 4 1 (jI e),(5,(.map (aB aA aO 0 a) a.length),true),(6,(.map (aB aA aO 0 d) d.length),true),oL 7 4 (List.map ONode.av b),oC 8 [(aA p),(aA g),(nI q),(nI r),(aA s),(.ilst 4 (Typs.av t) false),(nI u),(nI v),(aA w),(.ilst 4 (Typs.av x) false),(nI i),(nI j),(aA k),(.ilst 5 (Terms.av l) false),(iP m)],oC 9 [(aA g)]] 10 (nI (b.length:Int)) [oC 0 [.nils,.nils,(nI 0),.nils],oC 1 [(nI 0)],oC 2 [(.map 5),(.map 6),(iI f)],oC 3 [(.gl 10 4 0 (b++List.map Node.o A).length false)],oL 4 1 (jI e),(5,(.map (aB aA aO 0 a) a.length),true),(6,(.map (aB aA aO 0 d) d.length),true),oC 8 [(aA p),(aA g),(nI q),(nI r),(aA s),(.ilst 4 (Typs.av t) false),(nI u),(nI v),(aA w),(.ilst 4 (Typs.av x) false),(nI i),(nI j),(aA k),(.ilst 5 (Terms.av l) false),(iP m)],oL 10 4 (List.map ONode.av (b++List.map Node.o A))] 11<|ga 1 aO e [(b.length:Int)]<|gw 5 41 (o+1)<|.W 3 13 [0,1,2,3,12,5,6,10] (aGD y z f a d (o+1) (e++ [(b.length:Int)]) (b++List.map Node.o A)))<|.y fun c:List Node=>.i [rn 3,.lset 7 (jN c)] [.a (b=List.map Node.o c) (p':=(List.map ONode.av b) = (jN c)) aEQ]<|.i [.cset 3 0 (.gl 7 4 0 c.length false)] [.a (c.length=b.length) (p':=(AV.gl 7 4 0 b.length false) = (.gl 7 4 0 c.length false)) (fun h=>(gR h.symm))]<|gy 0 3 0 7 4 Node.av c false<|gz 0 7 4 1 aO e false<|.o (.y fun n:Int=>.i [.reg (rd 7 (.ans (.look (some (oH (strOf [109,97,105,110]) a,(aO n))))::rd 3 []))] [.a (cJ (strOf [109,97,105,110]) a=some n) (p':=dU (aA (strOf [109,97,105,110])) (aB aA aO 0 a) 0=some (some (oH (strOf [109,97,105,110]) a,(aO n)))) (kB eV)]<|dG 7 45 [(iN c),(.func 46 [] [])]<|fun B=>.b 1 56 B (.i [rn 25,.cnilI 0 0 4] []<|.i [.cnilI 0 1 1] []<|.i [.cnilI 0 3 2] []<|gE 0 8 (.tup [(.agg [(.ilst 4 (jN ([] :List Node)) true),(.ilst 1 (jI ([] :List Int)) true),(nI 0),(.ilst 2 (jC ([] :List Con)) true)]),(nI 3)]))<|gE 26 8 (.tup [(.agg [(iN c),(iI e),(nI n),(iC z)]),(nI 0)]))<|.i [.reg (rd 7 (.ans (.look none)::rd 3 []))] [.a (cJ (strOf [109,97,105,110]) a=none) (p':=dU (aA (strOf [109,97,105,110])) (aB aA aO 0 a) 0=some none) (kA eV)]<|dG 7 45 [(iN c),(.func 46 [] [])]<|fun n=>.b 1 56 n (.i [rn 25,.cnilI 0 0 4] []<|.i [.cnilI 0 1 1] []<|.i [.cnilI 0 3 2] []<|gE 0 8 (.tup [(.agg [(.ilst 4 (jN ([] :List Node)) true),(.ilst 1 (jI ([] :List Int)) true),(nI 0),(.ilst 2 (jC ([] :List Con)) true)]),(nI 3)]))<|gE 26 8 (.tup [(.agg [(iN c),(iI e),(nI 0),(iC z)]),(nI 0)])
def bBB:=fun a b c d e f g i j k l m n o p q r s t u v w x y z A B=>aLS a b c d e f g i|>.t y j k l m n o p q r s t u v w x z A|>.1 B tv
def bBC:=fun a b c d e f g i j k l m n o p q r s t u v w x y z A B C D F=>aLS a b c d e f g i|>.t z j k l m n o p q r s t u v w x A B|>.2 y C D F ⟨kk,⟨aI (fun _=>rfl) (fun _=>rfl) _ _ _,⟨aI (fun _=>rfl) (fun _=>rfl) _ _ _,⟨(aL _ (fun _=>bH _) _),trivial⟩⟩⟩⟩
def bBD:=fun a b c d e f g i j k l m n o p q r=>aLS a b c d e f g i|>.f m j n o|>.1 k p l q|>.t r tv
def bBE:=fun a b c d e f g i j k l m n o p q r=>aLS a b c d e f g i|>.f m j n o|>.1 k p l q|>.f r tv
def bDk(a:Node):=tT 0 (bDh a)<|.b 11 6 (a.op==4) (gE 7 1 (bV (decide (a.n≥30))))<|gE 7 1 (bV false)
def bBF:=fun a b=>bDk a|>.t b tv
def bBG:=fun a b=>bDk a|>.f b tv
def bBH (a:List Node):=(tT 0 (bDi a)<|gl 8 Node.av a<|.W 4 0 [] (aGE a 0)) tv
def aS7(b:List Node)(a:Int):=tT 0 (aGE b a)<|gd 5 9 (a< (b.length:Int)) (gX Node.av 14 b a<|fun c=>dG 1 46 [(Node.av c)]<|fun d=>.b 1 16 d (gE 7 0 (nI a))<|gw 5 18 (a+1)<|.W 3 0 [] (aGE b (a+1)))<|gE 7 0 (nI (-1))
def bBI:=fun a b c d e f g i j=>aS7 a b|>.t e c f g d i|>.t j tv
def bBJ:=fun a b c d e f g i j k=>aS7 a b|>.t e c f g d i|>.f j k tv
def bBK:=fun a b c=>aS7 a b|>.f c tv
def bBL (b:List Node):=fun a c=>(tT 0 (bDj b)<|gpI 8 112 [(iN b),(.func 46 [] [])]<|fun a=>gE 4 0 (bV (decide (a≥0)))) a c tv
end
end Go.Hb
