/- A machine on abstract values, its soundness, ways, plain laws. -/
import Derived.Test.YtlgoblkihmkmcaaGreatHF
import Derived.Test.YtlgoblkihmkmcaaGreatHG
import Derived.Test.YtlgoblkihmkmcaaGreatHK
import Derived.Test.YtlgoblkihmkmcaaGreatHM
import Derived.Test.YtlgoblkihmkmcaaGreatHN
import Derived.Test.YtlgoblkihmkmcaaGreatHJ
set_option linter.defProp false
set_option linter.unusedVariables false
set_option linter.unusedSimpArgs false
set_option linter.unusedSectionVars false
set_option maxRecDepth 100000
set_option maxHeartbeats 4000000
namespace Go.Hb
open Bool (and_eq_true)
open Eq (mp)
open List (append_assoc append_nil drop length length_cons length_map length_set map mem_of_getElem? nil_append set singleton_append take)
open Option (getD_none getD_some)
open Pats (av)
open Go.Proofs Tryz
noncomputable section
theorem kZ0 {α β:Type}{f:α→AV}{g:β→AV}{n:Nat}{l:List (α×β)}{c:Nat}(hf:∀a,AV.keyless (f a) =true:=by exact fun _=>rfl)(hg:∀a,AV.keyless (g a) =true:=by exact fun _=>rfl) : (AObj.map (aK f g n l) c).kl:=aH hf hg n l c
theorem kR0 {p:Prop}(h:p:=by kernel_rfl) :p:=h
abbrev MkC (nm:aA)(cs:List Con)(fns:List LFun)(nd:List aA)(L:List ONode)(b d e x y:Nat) :AObj:=.cells (putCells .leaf 0 [aD nm,.ilst 2 (map Con.av cs) false,.gl b 2 0 (length fns) false,.gl d 1 0 (length nd) false,.gl e 4 0 (length L) false,.map x,.map y]) 7 [] false
abbrev yW (nm:aA)(cs:List Con)(fns:List LFun)(nd:List aA)(L:List ONode)(mc mf:List (aA×Int)) :List (Nat×AObj×Bool) :=
 [(0,MkC nm cs fns nd L 3 4 5 1 2,false),(1,pO mc,true),(2,pO mf,true),(3,fO fns,true),(4,gV nd,true),(5,OL L,true)]
abbrev Rf7 :Res:=.pan [(.iface 174 (.agg [.int .i64 7]),false)]
theorem aCw (nm:aA)(cs:List Con)(fns:List LFun)(nd:List aA)(L:List ONode)(mc mf:List (aA×Int)) :iV (yW nm cs fns nd L mc mf) := ⟨kU _,kU _,jV _,fV _,aGA _,trivial⟩
def aNr (cs:List Con)(mc:List (aA×Int)) :Prop:=∀s,cI s mc=if 0≤dX s cs 0 then some (dX s cs 0)else none
def aR0 (own:List aA)(mf:List (aA×Int)) :Prop:=mf.length=own.length∧∀s,cI s mf=if cA own s=true then some (dB s own 0)else none
theorem aNs (l:List aA)(s:aA)(hl:l.length<1000000) :∀ (t:List aA) (i:Nat),l.drop i=t→Ends PP 1 (aLb l s (i:Int)).as (.ret (.int .i64 (dB s t i))) (aG [(0,gV l,true)] 1)
 | [],i,h=>by
  have:=aZ h;exact aO2 l s i|>.f sd ⟨kk,trivial⟩
 | x ::t,i,h=>by
  obtain⟨q1,q2,q3⟩ :=aY h;have hi:= (List.getElem?_eq_some_iff.1 q1).1;rw [dB];by_cases e:x=s
  · rw [if_pos e];exact aO2 l s i|>.t sd sd sd x sd|>.t (by rw [fR];simp [e]) ⟨kk,trivial⟩
  · rw [if_neg e];exact(aO2 l s i|>.t sd sd sd x sd|>.f (by rw [fR];simpa using fun h=>e h.symm) sd ⟨kk,trivial⟩).ends (aNs l s hl t (i+1) q2)
theorem aVl (l:List aA)(s:aA)(hl:l.length<1000000) :Spec PP (.enter 135 [.gl 0 1 0 (length l) false,aD s]) (aG [(0,gV l,true)] 1) (.ret (.int .i64 (dB s l 0))) (aG [(0,gV l,true)] 1) :=
 ⟨(aY8 l s).as.fr,by kernel_rfl,mp kR0 ((aXf l s).ends (aNs l s hl l 0 rfl))⟩
section
variable (nm :aA) (cs:List Con) (fns:List LFun) (nd:List aA) (L:List ONode) (mc mf:List (aA×Int))
def aVm (b:Bool)(v:AV) :Res:=bif b then .ret v else Rf7
theorem aVn (s:aA)(k:Int)(hm:aNr cs mc) :Spec PP (.enter 143 [.ptr 0 0,aD s,.int .i64 k]) (aG (yW nm cs fns nd L mc mf) 6) (aVm (ckn cs s k) (.int .i64 (dX s cs 0))) (aG (yW nm cs fns nd L mc mf) 6) :=by
 refine⟨(aVk nm cs fns nd L mc mf s k).as.fr,by kernel_rfl,?_⟩;have E:Ends PP 6 (aVk nm cs fns nd L mc mf s k).as (aVm (ckn cs s k) (.int .i64 (dX s cs 0))) (aG (yW nm cs fns nd L mc mf) 6) :=by
  have hg:=hm s;unfold ckn;by_cases h0:0≤dX s cs 0
  · rw [if_pos h0]at hg;obtain⟨c,hcc⟩ :=aG3 h0;rw [hcc,decide_eq_true h0,Bool.true_and];by_cases ha:c.args=k
    · simp only [ha,decide_true];have e: (c.args != k) =false:=by simp [ha]
      have hr:=aU8 7 (aG (yW nm cs fns nd L mc mf) 6);rw [←e]at hr;exact aO3 nm cs fns nd L mc mf s k|>.1 _ hg c h0 hcc|>.2 hr ⟨kZ0,⟨kZ0,⟨kk,⟨kk,⟨aI _ (fun _=>bE _) _,trivial⟩⟩⟩⟩⟩
    · simp only [ha,decide_false];have e: (c.args != k) =true:=by simp [ha]
      have hr:=aHh 7 (aG (yW nm cs fns nd L mc mf) 6);rw [←e]at hr;exact aO3 nm cs fns nd L mc mf s k|>.1 _ hg c h0 hcc|>.1 hr ⟨kZ0,⟨kZ0,⟨kk,⟨kk,⟨aI _ (fun _=>bE _) _,trivial⟩⟩⟩⟩⟩
  · rw [if_neg h0]at hg;rw [decide_eq_false h0,Bool.false_and];exact aO3 nm cs fns nd L mc mf s k|>.2 hg|>.1 (aHh 7 _) ⟨kZ0,⟨kZ0,⟨kk,⟨kk,⟨aI _ (fun _=>bE _) _,trivial⟩⟩⟩⟩⟩
 exact mp kR0 E
theorem aZ3 (b:Bool)(v:Int) :aIh (aVm b (.int .i64 v)) :=by
 cases b
 ·unfold aVm;simp only [cond];intro x hx;simp at hx;subst hx;rfl
 ·rfl
theorem aVo {s:aA}{k:Int}(hm:aNr cs mc){lc:List (Nat×AObj×Bool)}{n2:Nat}
  (h1:AV.renL (fA 0 6 n2 [0,1,2,3,4,5]) [.ptr 0 0,aD s,.int .i64 k] = [.ptr 0 0,aD s,.int .i64 k] :=by kernel_rfl) (hl:sB (aG lc n2) (fA 0 6 n2 [0,1,2,3,4,5]) (yW nm cs fns nd L mc mf) =jB (fA 0 6 n2 [0,1,2,3,4,5]) (yW nm cs fns nd L mc mf) :=by kernel_rfl) (hx:hJ n2 lc=true:=by kernel_rfl)
  (hlt: [0,1,2,3,4,5].all (fun k=>Nat.blt k n2) =true:=by kernel_rfl) (hout:aC5 (namesT (fA 0 6 n2 [0,1,2,3,4,5]) (yW nm cs fns nd L mc mf)) [0,1,2,3,4,5] (aG lc n2) lc=rE lc:=by kernel_rfl) :
  Spec PP (.enter 143 [.ptr 0 0,aD s,.int .i64 k]) (aG lc n2) (aVm (ckn cs s k) (.int .i64 (dX s cs 0))) (aG lc n2) :=
 eM (aVn nm cs fns nd L mc mf s k hm) h1 (aZ3 _ _) kR0 hl (aCw ..) hl (aCw ..) kR0 kR0 hx hx kR0 hlt hout kR0
theorem aNt (s:aA)(env:List aA)(own:List aA)(hf:aR0 own mf)(hol:own.length≤1000)(hnd:nd.length≤900000) :∀ (i:Nat),i≤env.length→i≤1000000 →
  Ends PP 4 (aLc nm cs fns nd L mc mf s env ((i:Int) -1)).as
   (.ret (.int .i64 (if 0≤nU env s i then nU env s i else(if cA own s=true then -1-dB s own 0 else if cA nd s=true then -1- (own.length:Int) -dB s nd 0 else -1- (own.length:Int) - (nd.length:Int)))))
   (aG (yW nm cs fns (nd++if 0≤nU env s i then []else if cA own s=true then []else if cA nd s=true then []else [s]) L mc mf) 6)
 | 0,_,_=>by
  rw [nU];simp only [show ¬ ((0:Int) ≤ -1)by omega,if_false];have hg:=hf.2 s;have hd: (decide ((((0:Nat) :Int) -1) ≥ (0:Int))) =false:=by simp
  have h1:=aA1 s own 0;have h2:=aA1 s nd 0;cases hb:cA own s
  case true=>
   rw [hb]at hg;simp only [if_true,append_nil]at hg ⊢;exact aHl nm cs fns nd L mc mf s env _|>.f hd|>.1 _ hg (by apply wrap64<;>omega) ⟨kZ0,⟨kZ0,⟨kk,⟨kk,⟨aI _ (fun _=>bE _) _,trivial⟩⟩⟩⟩⟩
  rw [hb]at hg;simp only [Bool.false_eq_true,if_false]at hg ⊢
  have hs:Spec PP (.enter 135 [.gl 9 1 0 (length nd) false,aD s]) (aG [(0,MkC nm cs fns nd L 3 9 10 1 2,false),(1,pO mc,true),(2,pO mf,true),(3,fO fns,true),(4,.loop .exhausted none 142 (mkT [(4,.ptr 6 0),(6,.ptr 7 0)]) 67 [14,15] (cd Tryz.f142 [1,0,1,0,0]) (cd Tryz.f142 [1,0,1,0,1]) 8,false),(5,.cells (putCells .leaf 0 [.ilst 1 (map aD env) false]) 1 [] false,false),(6,.cells (putCells .leaf 0 [aD s]) 1 [] false,false),(7,.cells (putCells .leaf 0 [.int .i64 0]) 1 [] false,false),(8,.defd false,false),(9,gV nd,true),(10,OL L,true)] 11) (.ret (.int .i64 (dB s nd 0)))
    (aG [(0,MkC nm cs fns nd L 3 9 10 1 2,false),(1,pO mc,true),(2,pO mf,true),(3,fO fns,true),(4,.loop .exhausted none 142 (mkT [(4,.ptr 6 0),(6,.ptr 7 0)]) 67 [14,15] (cd Tryz.f142 [1,0,1,0,0]) (cd Tryz.f142 [1,0,1,0,1]) 8,false),(5,.cells (putCells .leaf 0 [.ilst 1 (map aD env) false]) 1 [] false,false),(6,.cells (putCells .leaf 0 [aD s]) 1 [] false,false),(7,.cells (putCells .leaf 0 [.int .i64 0]) 1 [] false,false),(8,.defd false,false),(9,gV nd,true),(10,OL L,true)] 11) :=
   eM (ks:=[9]) (aVl nd s (by omega)) kR0 rfl kR0 kR0 ⟨fV _,trivial⟩ kR0 ⟨fV _,trivial⟩
  cases hb2:cA nd s
  case true=>
   simp only [if_true,append_nil];have h3:¬dB s nd 0<0:=fun h=>by rw [aA3]at h;rw [hb2]at h;cases h
   rw [←hf.1];exact aHl nm cs fns nd L mc mf s env _|>.f hd|>.2|>.2 _ hg hs|>.f (by simp;omega) (by have:=hf.1;apply wrap64<;>omega) (by have:=hf.1;apply wrap64<;>omega) ⟨kZ0,⟨kZ0,⟨kk,⟨kk,⟨aI _ (fun _=>bE _) _,trivial⟩⟩⟩⟩⟩
  simp only [Bool.false_eq_true,if_false];have h3:dB s nd 0<0:= (aA3 s nd 0).2 hb2;rw [←hf.1];exact aHl nm cs fns nd L mc mf s env _|>.f hd|>.2|>.1 _ hg hs (by simp;omega) (by simp;omega) (by have:=hf.1;apply wrap64<;>omega) (by have:=hf.1;apply wrap64<;>omega) ⟨kZ0,⟨kZ0,⟨kk,⟨kk,⟨aI _ (fun _=>bE _) _,trivial⟩⟩⟩⟩⟩
 | i +1,hi,hb=>by
  obtain⟨y,hy⟩ :∃y,env[i]?=some y:= ⟨_,List.getElem?_eq_getElem (by omega)⟩;have e: ((i+1:Nat) :Int) -1= (i:Int) :=by omega
  rw [e];by_cases h:y=s
  · subst h;have ep:nU env y (i+1) = (i:Int) :=by rw [nU,if_pos hy]
    rw [ep];simp only [Int.natCast_nonneg,if_true,append_nil];exact aHl nm cs fns nd L mc mf y env i|>.t (by simp) y (by omega) (by rw [Int.toNat_natCast];exact hy)|>.t (by rw [fR];simp) ⟨kZ0,⟨kZ0,⟨kk,⟨kk,⟨aI _ (fun _=>bE _) _,trivial⟩⟩⟩⟩⟩
  · have ep:nU env s (i+1) =nU env s i:=by rw [nU,if_neg (by rw [hy];simpa using h)]
    rw [ep];exact(aHl nm cs fns nd L mc mf s env i|>.t (by simp) y (by omega) (by rw [Int.toNat_natCast];exact hy)|>.f (by rw [fR];simpa using h) (by apply wrap64<;>omega) ⟨kZ0,⟨kZ0,⟨kk,⟨kk,⟨aI _ (fun _=>bE _) _,trivial⟩⟩⟩⟩⟩).ends (aNt s env own hf hol hnd i (by omega) (by omega))
theorem aVp (own nd env:List aA)(s:aA) :aBR own nd env s= (if 0≤rU env s then rU env s else(if cA own s=true then -1-dB s own 0 else if cA nd s=true then -1- (own.length:Int) -dB s nd 0 else -1- (own.length:Int) - (nd.length:Int)),if 0≤rU env s then []else if cA own s=true then []else if cA nd s=true then []else [s]) :=by
 unfold aBR;split
 ·rfl
 · split
   ·rfl
   ·split<;>rfl
theorem aVq (s:aA)(env:List aA)(own:List aA)(hf:aR0 own mf)(hol:own.length≤1000)(hnd:nd.length≤900000)(he:env.length≤1000000) :
  nE PP 4 (.enter 142 [.ptr 0 0,aD s,.ilst 1 (map aD env) false]) (aG (yW nm cs fns nd L mc mf) 6) (.ret (.int .i64 (aBR own nd env s).1)) (aG (yW nm cs fns (nd++ (aBR own nd env s).2) L mc mf) 6) :=by
 rw [aVp];exact⟨(aY9 nm cs fns nd L mc mf s env).as.fr,by kernel_rfl,mp kR0 ((aXg nm cs fns nd L mc mf s env (by apply wrap64<;>omega)).ends (aNt nm cs fns nd L mc mf s env own hf hol hnd env.length (Nat.le_refl _) he))⟩
abbrev aCx :AObj:=.cells (putCells .leaf 0 [.int .i64 0,.int .i64 0,.str 0 0,.nils]) 4 [] false
abbrev aNu (fns:List LFun)(mc mf:List (aA×Int)) :List (Nat×AObj×Bool) :=[(1,pO mc,true),(2,pO mf,true),(3,fO fns,true)]
theorem aNv (fns:List LFun)(mc mf:List (aA×Int)) :iV (aNu fns mc mf) := ⟨kU _,kU _,jV _,trivial⟩
def PAS (p:Pat)(env:List aA) :Prop:=nE PP 6 (.enter 144 [.ptr 0 0,Pat.av p,.gl 6 1 0 (length env) false]) (aG (yW nm cs fns nd L mc mf++ [(6,gV env,true)]) 7)
 (.ret (.tup [Pat.av (pnP cs p),.gl 6 1 0 (length (env++nmP p)) false])) (aG (yW nm cs fns nd L mc mf++ [(6,gV (env++nmP p),true)]) 7)
def PAN (p:Pat)(env:List aA) :Prop:=nE PP 6 (.enter 144 [.ptr 0 0,Pat.av p,.gl 6 1 0 (length env) false]) (aG (yW nm cs fns nd L mc mf++ [(6,gV env,true)]) 7) Rf7 (aG (aNu fns mc mf) 6)
def PAR (p:Pat)(env:List aA) :Prop:=if knP cs p=true then PAS nm cs fns nd L mc mf p env else PAN nm cs fns nd L mc mf p env
theorem aNw :aIh Rf7:=by intro x hx;simp at hx;subst hx;rfl
abbrev PCt (f v:Int)(b n:Nat) :AObj:=.cells (putCells .leaf 0 [.int .i64 f,.int .i64 v,.str 0 0,.gl b 4 0 n false]) 4 [] false
abbrev PLs (l:List Pat) :AObj:=.lst 4 (av l)
theorem aNx (f n:Int)(s:aA)(ps:List Pat)(env:List aA)(v:Int)(hpl:ps.length<1000000)(ih:∀p∈ps,∀e:List aA,e.length+bA p≤900000→PAR nm cs fns nd L mc mf p e) :∀ (t:List Pat) (i:Nat) (e1:List aA) (acc:List Pat),ps.drop i=t→acc.length+t.length<1000000→e1.length+aQ t≤900000 →
  (aHP cs t=true→Ends PP 6 (aAG nm cs fns nd L mc mf f n s ps env e1 v (i:Int) acc).as (.ret (.tup [.agg [.int .i64 f,.int .i64 v,.str 0 0,.ilst 4 (av (acc++iJ cs t)) false],.gl 6 1 0 (length (e1++aEx t)) false])) (aG (yW nm cs fns nd L mc mf++ [(6,gV (e1++aEx t),true)]) 7)) ∧
  (aHP cs t=false→Ends PP 6 (aAG nm cs fns nd L mc mf f n s ps env e1 v (i:Int) acc).as Rf7 (aG (aNu fns mc mf) 6))
 | [],i,e1,acc,h,_,_=>by
  have:=aZ h;rw [iJ,aEx,append_nil,append_nil];exact⟨fun _=>aO4 nm cs fns nd L mc mf f n s ps env e1 v i acc|>.f sd ⟨kZ0,⟨kZ0,⟨kk,⟨kk,⟨aI _ (fun _=>bE _) _,⟨kk,trivial⟩⟩⟩⟩⟩⟩,fun h=>by rw [aHP]at h;cases h⟩
 | .mk f' n' s' ps'::t,i,e1,acc,h,hb,he=>by
  obtain⟨g1,g2,g3⟩ :=aY h;have hi:= (List.getElem?_eq_some_iff.1 g1).1;simp only [length_cons]at hb;simp only [aQ]at he;have hs:=ih _ (mem_of_getElem? g1) e1 (by omega);unfold PAR at hs;rw [aHP,aEx,iJ];have hnl:=aQQ (.mk f' n' s' ps');cases hk:knP cs (.mk f' n' s' ps')
  case true=>
   rw [hk,if_pos rfl]at hs;rw [Bool.true_and];generalize nmP (.mk f' n' s' ps') =w at hs hnl ⊢;unfold PAS at hs;rw [pnP]at hs ⊢
   have hs':=iY (m:=6) (ks:=[0,1,2,3,4,5,6]) (n2:=12) (n3:=13) (v':=.tup [.agg [.int .i64 f',.int .i64 (if f'=6 then dX s' cs 0 else n'),aD [],.ilst 4 (av (iJ cs ps')) false],.gl 12 1 0 (length (e1++w)) false])
    (args':=[.ptr 0 0,Pat.av (.mk f' n' s' ps'),.gl 6 1 0 (length e1) false])
    (lc:=yW nm cs fns nd L mc mf++ [(6,gV e1,true),(7,aCx,false),(8,PCt f v 9 (length acc),false),(9,PLs acc,true),(10,rY f' n' s' ps',false),(11,aCx,false)])
    (lc':=yW nm cs fns nd L mc mf++ [(7,aCx,false),(8,PCt f v 9 (length acc),false),(9,PLs acc,true),(10,rY f' n' s' ps',false),(11,aCx,false),(12,gV (e1++w),true)])
    hs (by rfl) kR0 kR0 (by rfl) (by rfl) kR0 kR0 ⟨kU _,kU _,jV _,fV _,aGA _,fV _,trivial⟩ kR0 ⟨kU _,kU _,jV _,fV _,aGA _,fV _,trivial⟩
   have h1:=aO4 nm cs fns nd L mc mf f n s ps env e1 v i acc|>.t sd f' n' s' ps' sd sd|>.2 w f' (if f'=6 then dX s' cs 0 else n') [] (iJ cs ps') hs' (by simp;omega) sd ⟨kZ0,⟨kZ0,⟨kk,⟨kk,⟨aI _ (fun _=>bE _) _,⟨kk,⟨dV,trivial⟩⟩⟩⟩⟩⟩⟩;have:=aNx f n s ps env v hpl ih t (i+1) (e1++w) (acc++ [.mk f' (if f'=6 then dX s' cs 0 else n') [] (iJ cs ps')]) g2 (by simp;omega) (by simp;omega);simp only [append_assoc,singleton_append]at this;exact⟨fun h=>h1.ends (this.1 h),fun h=>h1.ends (this.2 h)⟩
  rw [hk,if_neg (by simp)]at hs;rw [Bool.false_and];refine⟨fun h=> (by cases h),fun _=>?_⟩;unfold PAN at hs
  have hs':=rZ (m:=6) (ks:=[0,1,2,3,4,5,6]) (n2:=12) (n3:=12)
   (args':=[.ptr 0 0,Pat.av (.mk f' n' s' ps'),.gl 6 1 0 (length e1) false])
   (lc:=yW nm cs fns nd L mc mf++ [(6,gV e1,true),(7,aCx,false),(8,PCt f v 9 (length acc),false),(9,PLs acc,true),(10,rY f' n' s' ps',false),(11,aCx,false)])
   (lc':=aNu fns mc mf++ [(7,aCx,false),(8,PCt f v 9 (length acc),false),(9,PLs acc,true),(10,rY f' n' s' ps',false),(11,aCx,false)])
   hs (by rfl) aNw kR0 (by rfl) (by rfl) kR0 kR0 ⟨kU _,kU _,jV _,fV _,aGA _,fV _,trivial⟩ kR0 (aNv ..)
  exact aO4 nm cs fns nd L mc mf f n s ps env e1 v i acc|>.t sd f' n' s' ps' sd sd|>.1 hs' ⟨kZ0,⟨kZ0,⟨kk,trivial⟩⟩⟩
variable (hm :aNr cs mc)
include hm
mutual
theorem aNy :∀ (p:Pat) (env:List aA),xI p=true→env.length+bA p≤900000→PAR nm cs fns nd L mc mf p env
 | .mk f n s ps,env,hF,he=>by
  simp only [bA]at he;rw [xI,and_eq_true]at hF;have hpl:=dN ps;have ih:=aQR ps hF.2 (by omega);have Lp:=fun v e1 h=>aNx nm cs fns nd L mc mf f n s ps env v (by omega) (fun p hp e he2=>ih p hp e he2) ps 0 e1 [] rfl (by simp;omega) h;simp only [nil_append]at Lp;unfold PAR;rw [knP];by_cases h6:f=6
  · rw [if_pos h6];have hq:=aVo nm cs fns nd L mc mf (s:=s) (k:= (length ps:Int)) hm (lc:=yW nm cs fns nd L mc mf++ [(6,gV env,true),(7,rY f n s ps,false),(8,aCx,false),(9,.cells (putCells .leaf 0 [.int .i64 f,.int .i64 n,.str 0 0,.nils]) 4 [] false,false)]) (n2:=10);cases hk:ckn cs s (length ps)
    case true=>
     rw [hk]at hq;rw [Bool.true_and];have hL:=Lp (dX s cs 0) env (by omega);have h0:=aLd nm cs fns nd L mc mf f n s ps env|>.f (by simp [h6])|>.t (by simp [h6])|>.2 _ hq ⟨kZ0,⟨kZ0,⟨kk,⟨kk,⟨aI _ (fun _=>bE _) _,⟨kk,⟨dV,trivial⟩⟩⟩⟩⟩⟩⟩;cases hk2:aHP cs ps
     case true=>
      rw [if_pos rfl];have E:Ends PP 6 (aDC nm cs fns nd L mc mf f n s ps env).as (.ret (.tup [Pat.av (pnP cs (.mk f n s ps)),.gl 6 1 0 (length (env++nmP (.mk f n s ps))) false])) (aG (yW nm cs fns nd L mc mf++ [(6,gV (env++nmP (.mk f n s ps)),true)]) 7) :=by
       rw [pnP,nmP,if_pos h6,if_neg (by omega),nil_append];exact h0.ends (hL.1 hk2)
      exact⟨(aDC nm cs fns nd L mc mf f n s ps env).as.fr,by kernel_rfl,mp kR0 E⟩
     rw [if_neg (by simp)];exact⟨(aDC nm cs fns nd L mc mf f n s ps env).as.fr,by kernel_rfl,mp kR0 (h0.ends (hL.2 hk2))⟩
    rw [hk]at hq;rw [Bool.false_and,if_neg (by simp)];exact⟨(aDC nm cs fns nd L mc mf f n s ps env).as.fr,by kernel_rfl,mp kR0 (aLd nm cs fns nd L mc mf f n s ps env|>.f (by simp [h6])|>.t (by simp [h6])|>.1 hq ⟨kZ0,⟨kZ0,⟨kk,trivial⟩⟩⟩)⟩
  · rw [if_neg h6,Bool.true_and];have R:LeadsM PP 6 (aDC nm cs fns nd L mc mf f n s ps env).as (aAG nm cs fns nd L mc mf f n s ps env (env++if f=2 then [s]else []) n 0 []).as:=by
     by_cases h2:f=2
     · rw [if_pos h2];exact aLd nm cs fns nd L mc mf f n s ps env|>.t (by simp [h2]) (by simp;omega) ⟨kZ0,⟨kZ0,⟨kk,⟨kk,⟨aI _ (fun _=>bE _) _,⟨kk,⟨dV,trivial⟩⟩⟩⟩⟩⟩⟩
     · rw [if_neg h2,append_nil];exact aLd nm cs fns nd L mc mf f n s ps env|>.f (by simp [h2])|>.f (by simp [h6]) ⟨kZ0,⟨kZ0,⟨kk,⟨kk,⟨aI _ (fun _=>bE _) _,⟨kk,⟨dV,trivial⟩⟩⟩⟩⟩⟩⟩
    have hL:=Lp n (env++if f=2 then [s]else []) (by split<;>simp<;>omega);cases hk2:aHP cs ps
    case true=>
     rw [if_pos rfl];have E:Ends PP 6 (aDC nm cs fns nd L mc mf f n s ps env).as (.ret (.tup [Pat.av (pnP cs (.mk f n s ps)),.gl 6 1 0 (length (env++nmP (.mk f n s ps))) false])) (aG (yW nm cs fns nd L mc mf++ [(6,gV (env++nmP (.mk f n s ps)),true)]) 7) :=by
      rw [pnP,nmP,if_neg h6,←append_assoc];exact R.ends (hL.1 hk2)
     exact⟨(aDC nm cs fns nd L mc mf f n s ps env).as.fr,by kernel_rfl,mp kR0 E⟩
    rw [if_neg (by simp)];exact⟨(aDC nm cs fns nd L mc mf f n s ps env).as.fr,by kernel_rfl,mp kR0 (R.ends (hL.2 hk2))⟩
theorem aQR :∀ (ps:List Pat),mU ps=true→aQ ps≤900000→∀p∈ps,∀e:List aA,e.length+bA p≤900000→PAR nm cs fns nd L mc mf p e
 | [],_,_,p,hp=>by cases hp
 | q::ps,hF,h,p,hp=>by
  simp only [aQ]at h;rw [mU,and_eq_true]at hF;rcases List.mem_cons.1 hp with e|hp
  ·rw [e];exact fun e he=>aNy q e hF.1 he
  ·exact aQR ps hF.2 (by omega) p hp
end
end
abbrev aFC (a:Nat)(b c:Int)(d:List Pat):=oC a [nI b,nI c,.nils,.gl 9 4 0 d.length false]
abbrev aQS (a:Nat)(b:List (Int× (List aA))):Nat×AObj×Bool:=(a,.map (aK bM (lN 1 aD) 0 b) b.length,true)
abbrev aXh (a:Nat)(b:List ONode):=oL a 4 (map ONode.av b)
abbrev aFD (a:Nat)(b:List aA):=oL a 1 (map aD b)
abbrev aFE (a:Nat)(b:List (aA×Int)):Nat×AObj×Bool:=(a,.map (aK aD bM 0 b) b.length,true)
abbrev aQT (a:Nat)(b:List LFun):=oL a 2 (map LFun.av b)
abbrev aXi (a:Nat)(b:aA)(c:List Con)(d:List LFun)(e:List aA)(f:List ONode):=oC a [aD b,iC c,.gl 3 2 0 d.length false,.gl 7 1 0 e.length false,.gl 8 4 0 f.length false,.map 1,.map 2]
abbrev aFF (a:List Term):AV:=.ilst 5 (Terms.av a) false
abbrev aQU (a:Nat)(b c:Int)(d:aA)(e:List Term)(f:List Pat):=oC a [nI b,nI c,aD d,aFF e,iP f]
abbrev aA5 (a:aA)(b:List Con)(c:List LFun)(d:List aA)(e:List ONode)(f g:List (aA×Int))(h i:Int)(j:aA)(k:List Term)(l:List Pat)(m:Int)(n:List Pat)(o:List (Int× (List aA))):=[aXi 0 a b c d e,aFE 1 f,aFE 2 g,aQT 3 c,aQU 4 h i j k l,aFC 5 h m n,aQS 6 o,aFD 7 d,aXh 8 e,oL 9 4 (av n)]
abbrev gR (a:Nat)(b:List aA):=oL a 1 (map aD b)
abbrev xW (a:Nat)(b:aA)(c:List Con)(d:List LFun)(e:List aA)(f:List ONode):=oC a [aD b,iC c,.gl 3 2 0 d.length false,.gl 5 1 0 e.length false,.gl 6 4 0 f.length false,.map 1,.map 2]
abbrev aU (a:Nat)(b:List (aA×Int)):Nat×AObj×Bool:=(a,.map (aK aD bM 0 b) b.length,true)
abbrev fW (a:Nat)(b:List (Int× (List aA))):Nat×AObj×Bool:=(a,.map (aK bM (lN 1 aD) 0 b) b.length,true)
abbrev cH (a:Nat)(b:List LFun):=oL a 2 (map LFun.av b)
abbrev aA6 (a:aA)(b:List Con)(c:List LFun)(d:List aA)(e:List ONode)(f g:List (aA×Int))(h:List (Int× (List aA))):=[xW 0 a b c d e,aU 1 f,aU 2 g,cH 3 c,fW 4 h,gR 5 d]
abbrev aA7 (a:Nat)(b c:Int)(d:aA)(e:List Pat):=oC a [nI b,nI c,aD d,iP e]
abbrev aQV (a:aA)(b:List Con)(c:List LFun)(d:List aA)(e:List ONode)(f g:List (aA×Int))(h i:Int)(j:aA)(k:List Term)(l:List Pat)(m:Int)(n:List Pat)(o:List (Int× (List aA)))(p q:Int)(r:aA)(s:List Pat)(t:List aA):=aG [oC 0 [aD a,iC b,.gl 3 2 0 c.length false,.gl 7 1 0 d.length false,.gl 8 4 0 e.length false,.map 1,.map 2],(1,.map (aK aD bM 0 f) f.length,true),(2,.map (aK aD bM 0 g) g.length,true),oL 3 2 (map LFun.av c),oC 4 [nI h,nI i,aD j,aFF k,iP l],oC 5 [nI h,nI m,.nils,.gl 9 4 0 n.length false],(6,.map (aK bM (lN 1 aD) 0 o) o.length,true),oL 7 1 (map aD d),oL 8 4 (map ONode.av e),oL 9 4 (av n),aA7 10 p q r s,oC 11 [nI 0,nI 0,.str 0 0,.nils],oL 12 1 (map aD t)] 13
abbrev aDD (a:Nat):=oC a [nI 0,nI 0,.str 0 0,.nils]
abbrev aDE (a:List aA):AV:=.gl 12 1 0 a.length false
abbrev aFG (a:List aA):AV:=.gl 11 1 0 a.length false
abbrev aO8 (a:List aA)(b:aA)(c:List Con)(d:List LFun)(e:List aA)(f:List ONode)(g h:List (aA×Int))(i j:Int)(k:aA)(l:List Term)(m:List Pat)(n:Int)(o:List Pat)(p:List (Int× (List aA)))(q r:Int)(s:aA)(t:List Pat):=Spec PP (.enter 145 [iS a]) (aG (aA5 b c d e f g h i j k l m n o p++[aA7 10 q r s t,aDD 11]) 12) (.ret (aDE a)) (aQV b c d e f g h i j k l m n o p q r s t a)
abbrev aVr (a b:Int)(c:aA)(d:List Pat)(e:List aA)(f:aA)(g:List Con)(h:List LFun)(i:List aA)(j:List ONode)(k l:List (aA×Int))(m n:Int)(o:aA)(p:List Term)(q:List Pat)(r:Int)(s:List Pat)(t:List (Int× (List aA))):=Spec PP (.enter 144 [.ptr 0 0,.agg [nI a,nI b,aD c,iP d],aDE e]) (aQV f g h i j k l m n o p q r s t a b c d e) (.pan [(.iface 174 (.agg [nI 7]),false)]) (aG [aFE 1 k,aFE 2 l,aQT 3 h,aQU 4 m n o p q,aFC 5 m r s,aQS 6 t,oL 9 4 (av s),aA7 10 a b c d,aDD 11] 13)
abbrev aO9 (a:List aA)(b:aA)(c:List Con)(d:List LFun)(e:List aA)(f:List ONode)(g h:List (aA×Int))(i j:Int)(k:aA)(l:List Term)(m:List Pat)(n:Int)(o:List Pat)(p:List (Int× (List aA))):=Spec PP (.enter 145 [iS a]) (aG (aA5 b c d e f g h i j k l m n o p) 11) (.ret (aFG a)) (aG (aA5 b c d e f g h i j k l m n o p++[aFD 11 a]) 12)
abbrev aVs (a:aA)(b:List Con)(c:List LFun)(d:List aA)(e:List ONode)(f g:List (aA×Int))(h i:Int)(j:aA)(k:List Term)(l:List Pat)(m:Int)(n:List Pat)(o:List (Int× (List aA)))(p q:Int)(r:aA)(s:List Pat)(t u:List aA):=aG (aA5 a b c d e f g h i j k l m n o++[aA7 10 p q r s,aDD 11,oL 13 1 (map aD (t++u))]) 14
abbrev aLe (a:aA)(b:List Con)(c:List LFun)(d:List aA)(e:List ONode)(f g:List (aA×Int))(h i:Int)(j:aA)(k:List Term)(l:List Pat)(m:Int)(n:List Pat)(o:List (Int× (List aA)))(p q:Int)(r:aA)(s:List Pat)(t:List aA):=aG (aA5 a b c d e f g h i j k l m n o++[aA7 10 p q r s,aDD 11,aFD 12 t]) 13
abbrev aPa (a:aA)(b:List Con)(c:List LFun)(d:List aA)(e:List ONode)(f g:List (aA×Int))(h i:Int)(j:aA)(k:List Term)(l:List Pat)(m:Int)(n:List Pat)(o:List (Int× (List aA)))(p:List aA):=aG (aA5 a b c d e f g h i j k l m n o++[aFD 11 p]) 12
abbrev aEy (a:Nat)(b:aA)(c:List Con)(d:List LFun)(e:List aA)(f:List ONode):=oC a [aD b,iC c,.gl 3 2 0 d.length false,.gl 4 1 0 e.length false,.gl 5 4 0 f.length false,.map 1,.map 2]
abbrev aEz (a b c:Int)(d:List Pat):AV:=.agg [nI a,nI b,.gl 9 1 0 (([] :List Int) ++ [c]).length false,iP d]
abbrev qH (a b:Int)(c:List Pat):AV:=.agg [nI a,nI b,.gl 7 1 0 ([] :List Int).length false,iP c]
abbrev qI (a b:Int)(c:aA)(d:List Term)(e:List Pat):AV:=.agg [nI a,nI b,aD c,aFF d,iP e]
abbrev eF (a:Nat)(b c:Int)(d:aA)(e:List Term)(f:List Pat):=oC a [nI b,nI c,aD d,aFF e,iP f]
abbrev aA8 (a b:Int)(c:List Int)(d:Int)(e:List Pat):AV:=.agg [nI a,nI b,.gl 9 1 0 (c++ [d]).length false,iP e]
abbrev qJ (a b:Int)(c:List Int)(d:List Pat):AV:=.agg [nI a,nI b,.gl 7 1 0 c.length false,iP d]
abbrev aFH (a:Nat)(b:List ONode)(c:List Node):=oL a 4 (map ONode.av (b++map Node.o c))
abbrev jM (a:List aA)(b:aA):AV:=.gl 12 1 0 (a++ [b]).length false
abbrev aA9 (a:Nat)(b c:Int):=oC a [nI b,nI c,.nils,.nils]
abbrev xX (a b:List aA):AV:=.gl 13 1 0 (a++b).length false
abbrev aDF (a:Nat)(b c:List aA):=oL a 1 (map aD (b++c))
abbrev aBa (a:List Term):AV:=.ilst 5 (Terms.av a) false
abbrev fK (a:Nat)(b:List ONode):=oL a 4 (map ONode.av b)
abbrev lJ:AV:=.iface 174 (.agg [nI 7])
abbrev tJ (a:List LFun):AV:=.gl 3 2 0 a.length false
def vI(f:aA)(g:List Con)(a:List LFun)(b:List aA)(c:List ONode)(d e:List (aA×Int))(i j:Int)(k:aA)(l:List Term)(m:List Pat)(n:List aA):TS:=bH PP 82 [.ptr 0 0,qI i j k l m,iS n] [aEy 0 f g a b c,aU 1 d,aU 2 e,cH 3 a,gR 4 b,fK 5 c] 6
def nW(k:aA)(l:List Con)(b:List LFun)(s:List aA)(c:List ONode)(d e:List (aA×Int))(f m:Int)(n:aA)(o:List Term)(a:List Pat)(p:List aA)(q:Int)(g:List aA)(r:Int)(i:List (Int× (List aA)))(j:List Pat):TS:=⟨tf 82 152 [kp 0 0,(2,iS p),kp 4 4,(6,nI 0),kp 7 5,(8,.map 6),(45,iP a),(46,nI (a.length:Int)),(47,nI r)] [kc f82 500,kl f82 500,.inBlock 1,kc f82 63],[],[oC 0 [aD k,iC l,tJ b,.gl 7 1 0 g.length false,.gl 8 4 0 c.length false,.map 1,.map 2],aU 1 d,aU 2 e,cH 3 b,eF 4 f m n o a,aFC 5 f q j,fW 6 i,gR 7 g,fK 8 c,oL 9 4 (av j)],10⟩
def tY(i:aA)(j:List Con)(a:List LFun)(m:List aA)(k:List ONode)(b c:List (aA×Int))(n o:Int)(p:aA)(d:List Term)(q:List Pat)(l e:List aA)(f:List ONode)(g:List (Int× (List aA))):TS:=⟨tf 82 152 [kp 0 0,(2,iS l),(6,nI 0),(8,.map 4),(12,nI (k.length:Int)),(110,aBa d),(111,nI (d.length:Int)),(112,nI 0)] [kc f82 8180,kl f82 8180,.inBlock 4,kc f82 1023],[],aA6 i j a e f b c g++[fK 6 f],7⟩
def aLf(i:aA)(j:List Con)(a:List LFun)(n:List aA)(k:List ONode)(b c:List (aA×Int))(o p:Int)(q:aA)(d:List Term)(r:List Pat)(l:List aA)(m:Int)(e:List (Int× (List aA)))(f:List aA)(g:List ONode):TS:=⟨tf 82 152 [kp 0 0,(2,iS l),(6,nI 0),(8,.map 4),(12,nI (k.length:Int)),(17,nI m),(110,aBa d),(111,nI (d.length:Int)),(112,nI 0)] [kc f82 2094287,.inBlock 5,kc f82 65447,kl f82 8180,.inBlock 4,kc f82 1023],[],aA6 i j a f g b c e++[fK 6 g],7⟩
def aQW(i:aA)(j:List Con)(a:List LFun)(r:List aA)(k:List ONode)(b c:List (aA×Int))(s t:Int)(u:aA)(d:List Term)(v:List Pat)(l:List aA)(m:Int)(e:List (Int× (List aA)))(f:List aA)(g:List ONode)(n:Nat)(o p:Int)(q:List Pat):TS:=⟨tf 82 152 [kp 0 0,(2,iS l),(6,nI 0),(8,.map 4),(12,nI (k.length:Int)),(17,nI m),(110,aBa d),(111,nI (d.length:Int)),(112,nI 0)] [kc f82 2094287,.inBlock 5,kc f82 65447,kl f82 8180,.inBlock 4,kc f82 1023],[],aA6 i j a f g b c e++[(6,.lst 4 (set (map ONode.av g) n (qH o p q)),false),oL 7 1 (jI ([] :List Int))],8⟩
def xY(i:aA)(j:List Con)(a:List LFun)(p:List aA)(k:List ONode)(b c:List (aA×Int))(q r:Int)(s:aA)(d:List Term)(t:List Pat)(l:List aA)(e:List (Int× (List aA)))(f:List aA)(g:List ONode)(m:List Int)(n:Value)(o:Int):TS:=⟨tf 82 152 [kp 0 0,(2,iS l),(6,nI 0),(8,.map 4),(12,nI (k.length:Int)),(110,aBa d),(111,nI (d.length:Int)),(112,nI o)] [kc f82 8180,kl f82 8180,.inBlock 4,kc f82 1023],[],aA6 i j a f g b c e++[fK 6 g,(7,.lstv n 1 (jI m),true)],8⟩
def aLg(i:aA)(j:List Con)(a:List LFun)(q:List aA)(k:List ONode)(b c:List (aA×Int))(r s:Int)(t:aA)(d:List Term)(u:List Pat)(l:List aA)(m:Int)(e:List (Int× (List aA)))(f:List aA)(g:List ONode)(n:List Int)(o:Value)(p:Int):TS:=⟨tf 82 152 [kp 0 0,(2,iS l),(6,nI 0),(8,.map 4),(12,nI (k.length:Int)),(17,nI m),(110,aBa d),(111,nI (d.length:Int)),(112,nI p)] [kc f82 2094287,.inBlock 5,kc f82 65447,kl f82 8180,.inBlock 4,kc f82 1023],[],aA6 i j a f g b c e++[fK 6 g,(7,.lstv o 1 (jI n),true)],8⟩
def aQX(j:aA)(k:List Con)(a:List LFun)(t:List aA)(l:List ONode)(b c:List (aA×Int))(u v:Int)(w:aA)(d:List Term)(x:List Pat)(m:List aA)(n:Int)(e:List (Int× (List aA)))(f:List aA)(g:List ONode)(i:List Int)(o:Int)(p:Nat)(q r:Int)(s:List Pat):TS:=⟨tf 82 152 [kp 0 0,(2,iS m),(6,nI 0),(8,.map 4),(12,nI (l.length:Int)),(17,nI n),(110,aBa d),(111,nI (d.length:Int)),(112,nI o)] [kc f82 2094287,.inBlock 5,kc f82 65447,kl f82 8180,.inBlock 4,kc f82 1023],[],aA6 j k a f g b c e++[(6,.lst 4 (set (map ONode.av g) p (qJ q r i s)),false),oL 7 1 (jI i)],8⟩
def aLh(l:aA)(m:List Con)(e:List LFun)(a:List aA)(g:List ONode)(b c:List (aA×Int))(d f:Int)(i:aA)(j:List Term)(k:List Pat)(n:List aA):=tT 4 (vI l m e a g b c d f i j k n)<|.b 27 25 (d==4) (.y fun o:List aA=>.y fun p:Int=>gk 6 (.enter 142 [.ptr 0 0,aD i,iS n]) [aEy 0 l m e a g,aU 1 b,aU 2 c,cH 3 e,gR 4 a,fK 5 g,eF 6 d f i j k,aA9 7 d f] 8 (nI p) [oC 0 [aD l,iC m,tJ e,.gl 8 1 0 (a++o).length false,.gl 9 4 0 g.length false,.map 1,.map 2],aU 1 b,aU 2 c,cH 3 e,eF 6 d f i j k,aA9 7 d f,aDF 8 a o,fK 9 g] 10<|.i [rn 7,.mset 10 (aK bM (lN 1 aD) 0 ([] :List (Int× (List aA)))) ([] :List (Int× (List aA))).length] [hr (aK bM (lN 1 aD) 0 ([] :List (Int× (List aA)))),hr (length ([] :List (Int× (List aA))))]<|gm 7 aF k<|.i [rn 4,.cnil 7 3 4] []<|gu 0 11 (av ([] :List Pat))<|gv 0 7 3 (.gl 11 4 0 ([] :List Pat).length false)<|.W 0 12 [6,7,10,8,9,11] (nW l m e a g b c d f i j k n p (a++o) 0 ([] :List (Int× (List aA))) ([] :List Pat)))<|.b 6 33 (d==14) (gm 7 dA j<|.o (gK 0 (.enter 143 [.ptr 0 0,aD i,nI (j.length:Int)]) [aEy 0 l m e a g,aU 1 b,aU 2 c,cH 3 e,gR 4 a,fK 5 g,eF 6 d f i j k,aA9 7 d f] 8 [(lJ,false)] [aEy 0 l m e a g,aU 1 b,aU 2 c,cH 3 e,gR 4 a,fK 5 g,eF 6 d f i j k,aA9 7 d f] 8<|.P 0 8 [] [(lJ,false)] [aU 1 b,aU 2 c,cH 3 e] 4)<|.y fun q:Int=>gk 0 (.enter 143 [.ptr 0 0,aD i,nI (j.length:Int)]) [aEy 0 l m e a g,aU 1 b,aU 2 c,cH 3 e,gR 4 a,fK 5 g,eF 6 d f i j k,aA9 7 d f] 8 (nI q) [aEy 0 l m e a g,aU 1 b,aU 2 c,cH 3 e,gR 4 a,fK 5 g,eF 6 d f i j k,aA9 7 d f] 8<|.i [rn 7,.mset 8 (aK bM (lN 1 aD) 0 ([] :List (Int× (List aA)))) ([] :List (Int× (List aA))).length] [hr (aK bM (lN 1 aD) 0 ([] :List (Int× (List aA)))),hr (length ([] :List (Int× (List aA))))]<|gm 7 aF k<|.i [rn 4,.cnil 7 3 4] []<|gu 0 9 (av ([] :List Pat))<|gv 0 7 3 (.gl 9 4 0 ([] :List Pat).length false)<|.W 0 10 [6,7,8,4,5,9] (nW l m e a g b c d f i j k n q a 0 ([] :List (Int× (List aA))) ([] :List Pat)))<|.i [rn 6,.mset 8 (aK bM (lN 1 aD) 0 ([] :List (Int× (List aA)))) ([] :List (Int× (List aA))).length] [hr (aK bM (lN 1 aD) 0 ([] :List (Int× (List aA)))),hr (length ([] :List (Int× (List aA))))]<|gm 7 aF k<|.i [rn 4,.cnil 7 3 4] []<|gu 0 9 (av ([] :List Pat))<|gv 0 7 3 (.gl 9 4 0 ([] :List Pat).length false)<|.W 0 10 [6,7,8,4,5,9] (nW l m e a g b c d f i j k n f a 0 ([] :List (Int× (List aA))) ([] :List Pat))
def aHn(o:aA)(p:List Con)(i:List LFun)(x:List aA)(d:List ONode)(j k:List (aA×Int))(e q:Int)(c:aA)(m:List Term)(n:List Pat)(b:List aA)(g:Int)(l:List aA)(r:Int)(a:List (Int× (List aA)))(f:List Pat):=tT 4 (nW o p i x d j k e q c m n b g l r a f)<|gd 5 48 (r< (n.length:Int)) (wY 7 n r<|fun t u v w=>.y fun s:List aA=>.y fun y:Int=>.y fun z:Int=>.y fun A:aA=>.y fun B:List Pat=>.i [rn 10,.reg (rd 6 (.call (aDE b) (aLe o p i l d j k e q c m n g f a t u v w b)::.call (.tup [.agg [nI y,nI z,aD A,iP B],xX b s]) (aVs o p i l d j k e q c m n g f a t u v w b s)::rd 4 [.mput ((aK bM (lN 1 aD) 0 a) ++ [(bM (IntKind.i64.wrap (r+1)),xX b s,length a)]) (Nat.succ a.length)]))] [hA (aO8 b o p i l d j k e q c m n g f a t u v w),hA (Spec PP (.enter 144 [.ptr 0 0,.agg [nI t,nI u,aD v,iP w],aDE b]) (aLe o p i l d j k e q c m n g f a t u v w b) (.ret (.tup [.agg [nI y,nI z,aD A,iP B],xX b s])) (aVs o p i l d j k e q c m n g f a t u v w b s)),.a (cI (IntKind.i64.wrap (r+1)) a=none) (p':=iU (aK bM (lN 1 aD) 0 a) a.length (bM (IntKind.i64.wrap (r+1))) (xX b s) =some ((aK bM (lN 1 aD) 0 a) ++ [(bM (IntKind.i64.wrap (r+1)),xX b s,length a)],Nat.succ a.length)) (fun h=>(uU qE h _)),hr (AV.agg [nI t,nI u,aD v,iP w]),hr (AV.agg [nI t,nI u,aD v,iP w])]<|.i [.mclose 6 (aK bM (lN 1 aD) 0 a) a.length (bM (IntKind.i64.wrap (r+1))) (xX b s)] [hr ((aK bM (lN 1 aD) 0 a) ++ [(bM (IntKind.i64.wrap (r+1)),AV.gl 13 1 0 (b++s).length false,a.length)]),hr (Nat.succ a.length),.q (p:=KL (aK bM (lN 1 aD) 0 a)) (aPI sZ qG _)]<|.i [.mfrz 6 13 (map aD (b++s))] [hr true,hk aD (b++s),hz 13 1 aD (b++s) false]<|.i [.mset 6 (aK bM (lN 1 aD) 0 (bS (IntKind.i64.wrap (r+1)) (b++s) a)) (bS (IntKind.i64.wrap (r+1)) (b++s) a).length] [.a (cI (IntKind.i64.wrap (r+1)) a=none) (p':=((aK bM (lN 1 aD) 0 a) ++ [(bM (IntKind.i64.wrap (r+1)),AV.frz 13 (map aD (b++s)) (xX b s),length a)]) = (aK bM (lN 1 aD) 0 (bS (IntKind.i64.wrap (r+1)) (b++s) a))) (fun h=>(aAX (g:=lN 1 aD) h _)),.a (cI (IntKind.i64.wrap (r+1)) a=none) (p':=Nat.succ a.length=length (bS (IntKind.i64.wrap (r+1)) (b++s) a)) (fun h=>(rI h _))]<|gA 5 aF f [Pat.mk y z A B]<|gw 6 69 (r+1)<|.W 3 16 [4,5,6,7,8,15] (nW o p i x d j k e q c m n b g l (r+1) (bS (IntKind.i64.wrap (r+1)) (b++s) a) (f++ [Pat.mk y z A B])))<|.b 15 72 (e==5) (.i [rn 3,.reg (.d::.d::.call (aFG b) (aPa o p i l d j k e q c m n g f a b)::rd 3 [.app (map aD (b++ [c])) (b++ [c]).length,.mput ((aK bM (lN 1 aD) 0 a) ++ [(bM 0,jM b c,length a)]) (Nat.succ a.length)])] [hA (aO9 b o p i l d j k e q c m n g f a),hb aD b,hA (length (b++ [c]) ≤1000000),hc aD b [c],he aD b [c],.a (cI 0 a=none) (p':=iU (aK bM (lN 1 aD) 0 a) a.length (bM 0) (jM b c) =some ((aK bM (lN 1 aD) 0 a) ++ [(bM 0,jM b c,length a)],Nat.succ a.length)) (fun h=>(uU qE h _)),hr (aD c),hr (aD c)]<|.i [.mclose 6 (aK bM (lN 1 aD) 0 a) a.length (bM 0) (jM b c)] [hr ((aK bM (lN 1 aD) 0 a) ++ [(bM 0,AV.gl 12 1 0 (b++ [c]).length false,a.length)]),hr (Nat.succ a.length),.q (p:=KL (aK bM (lN 1 aD) 0 a)) (aPI sZ qG _)]<|.i [.mfrz 6 12 (map aD (b++ [c]))] [hr true,hk aD (b++ [c]),hz 12 1 aD (b++ [c]) false]<|.i [.mset 6 (aK bM (lN 1 aD) 0 (bS 0 (b++ [c]) a)) (bS 0 (b++ [c]) a).length] [.a (cI 0 a=none) (p':=((aK bM (lN 1 aD) 0 a) ++ [(bM 0,AV.frz 12 (map aD (b++ [c])) (jM b c),length a)]) = (aK bM (lN 1 aD) 0 (bS 0 (b++ [c]) a))) (fun h=>(aAX (g:=lN 1 aD) h _)),.a (cI 0 a=none) (p':=Nat.succ a.length=length (bS 0 (b++ [c]) a)) (fun h=>(rI h _))]<|gY 2 5 3 9 4 aF dV f false<|.i [rn 10,.reg (rd 8 (.app (map ONode.av (d++ [ONode.mk e g KV.nil f])) (d++ [ONode.mk e g KV.nil f]).length::rd 4 []))] [hb ONode.av d,hA (length (d++ [ONode.mk e g KV.nil f]) ≤1000000),hc ONode.av d [ONode.mk e g KV.nil f],he ONode.av d [ONode.mk e g KV.nil f]]<|gm 5 dA m<|.W 4 15 [6,7,14] (tY o p i x d j k e q c m n b l (d++ [ONode.mk e g KV.nil f]) (bS 0 (b++ [c]) a)))<|.b 5 72 (e==27) (.i [rn 1,.reg (.d::.d::.call (aFG b) (aPa o p i l d j k e q c m n g f a b)::rd 3 [.app (map aD (b++ [c])) (b++ [c]).length,.mput ((aK bM (lN 1 aD) 0 a) ++ [(bM 0,jM b c,length a)]) (Nat.succ a.length)])] [hA (aO9 b o p i l d j k e q c m n g f a),hb aD b,hA (length (b++ [c]) ≤1000000),hc aD b [c],he aD b [c],.a (cI 0 a=none) (p':=iU (aK bM (lN 1 aD) 0 a) a.length (bM 0) (jM b c) =some ((aK bM (lN 1 aD) 0 a) ++ [(bM 0,jM b c,length a)],Nat.succ a.length)) (fun h=>(uU qE h _)),hr (aD c),hr (aD c)]<|.i [.mclose 6 (aK bM (lN 1 aD) 0 a) a.length (bM 0) (jM b c)] [hr ((aK bM (lN 1 aD) 0 a) ++ [(bM 0,AV.gl 12 1 0 (b++ [c]).length false,a.length)]),hr (Nat.succ a.length),.q (p:=KL (aK bM (lN 1 aD) 0 a)) (aPI sZ qG _)]<|.i [.mfrz 6 12 (map aD (b++ [c]))] [hr true,hk aD (b++ [c]),hz 12 1 aD (b++ [c]) false]<|.i [.mset 6 (aK bM (lN 1 aD) 0 (bS 0 (b++ [c]) a)) (bS 0 (b++ [c]) a).length] [.a (cI 0 a=none) (p':=((aK bM (lN 1 aD) 0 a) ++ [(bM 0,AV.frz 12 (map aD (b++ [c])) (jM b c),length a)]) = (aK bM (lN 1 aD) 0 (bS 0 (b++ [c]) a))) (fun h=>(aAX (g:=lN 1 aD) h _)),.a (cI 0 a=none) (p':=Nat.succ a.length=length (bS 0 (b++ [c]) a)) (fun h=>(rI h _))]<|gY 2 5 3 9 4 aF dV f false<|.i [rn 10,.reg (rd 8 (.app (map ONode.av (d++ [ONode.mk e g KV.nil f])) (d++ [ONode.mk e g KV.nil f]).length::rd 4 []))] [hb ONode.av d,hA (length (d++ [ONode.mk e g KV.nil f]) ≤1000000),hc ONode.av d [ONode.mk e g KV.nil f],he ONode.av d [ONode.mk e g KV.nil f]]<|gm 5 dA m<|.W 4 15 [6,7,14] (tY o p i x d j k e q c m n b l (d++ [ONode.mk e g KV.nil f]) (bS 0 (b++ [c]) a)))<|.b 6 82 (e==7) (.i [rn 1,.reg (.d::.d::.call (aFG b) (aPa o p i l d j k e q c m n g f a b)::rd 3 [.app (map aD (b++ [c])) (b++ [c]).length,.mput ((aK bM (lN 1 aD) 0 a) ++ [(bM 1,jM b c,length a)]) (Nat.succ a.length)])] [hA (aO9 b o p i l d j k e q c m n g f a),hb aD b,hA (length (b++ [c]) ≤1000000),hc aD b [c],he aD b [c],.a (cI 1 a=none) (p':=iU (aK bM (lN 1 aD) 0 a) a.length (bM 1) (jM b c) =some ((aK bM (lN 1 aD) 0 a) ++ [(bM 1,jM b c,length a)],Nat.succ a.length)) (fun h=>(uU qE h _)),hr (aD c),hr (aD c)]<|.i [.mclose 6 (aK bM (lN 1 aD) 0 a) a.length (bM 1) (jM b c)] [hr ((aK bM (lN 1 aD) 0 a) ++ [(bM 1,AV.gl 12 1 0 (b++ [c]).length false,a.length)]),hr (Nat.succ a.length),.q (p:=KL (aK bM (lN 1 aD) 0 a)) (aPI sZ qG _)]<|.i [.mfrz 6 12 (map aD (b++ [c]))] [hr true,hk aD (b++ [c]),hz 12 1 aD (b++ [c]) false]<|.i [.mset 6 (aK bM (lN 1 aD) 0 (bS 1 (b++ [c]) a)) (bS 1 (b++ [c]) a).length] [.a (cI 1 a=none) (p':=((aK bM (lN 1 aD) 0 a) ++ [(bM 1,AV.frz 12 (map aD (b++ [c])) (jM b c),length a)]) = (aK bM (lN 1 aD) 0 (bS 1 (b++ [c]) a))) (fun h=>(aAX (g:=lN 1 aD) h _)),.a (cI 1 a=none) (p':=Nat.succ a.length=length (bS 1 (b++ [c]) a)) (fun h=>(rI h _))]<|gY 2 5 3 9 4 aF dV f false<|.i [rn 10,.reg (rd 8 (.app (map ONode.av (d++ [ONode.mk e g KV.nil f])) (d++ [ONode.mk e g KV.nil f]).length::rd 4 []))] [hb ONode.av d,hA (length (d++ [ONode.mk e g KV.nil f]) ≤1000000),hc ONode.av d [ONode.mk e g KV.nil f],he ONode.av d [ONode.mk e g KV.nil f]]<|gm 5 dA m<|.W 4 15 [6,7,14] (tY o p i x d j k e q c m n b l (d++ [ONode.mk e g KV.nil f]) (bS 1 (b++ [c]) a)))<|gY 4 5 3 9 4 aF dV f false<|.i [rn 10,.reg (rd 8 (.app (map ONode.av (d++ [ONode.mk e g KV.nil f])) (d++ [ONode.mk e g KV.nil f]).length::rd 4 []))] [hb ONode.av d,hA (length (d++ [ONode.mk e g KV.nil f]) ≤1000000),hc ONode.av d [ONode.mk e g KV.nil f],he ONode.av d [ONode.mk e g KV.nil f]]<|gm 5 dA m<|.W 4 12 [6,7,11] (tY o p i x d j k e q c m n b l (d++ [ONode.mk e g KV.nil f]) a)
def aHo(o:aA)(p:List Con)(e:List LFun)(t:List aA)(i:List ONode)(b c:List (aA×Int))(u v:Int)(w:aA)(q:List Term)(x:List Pat)(r g:List aA)(a:List ONode)(d:List (Int× (List aA))):=tT 4 (tY o p e t i b c u v w q x r g a d)<|gd 5 113 (0< (q.length:Int)) (aER 7 q 0<|fun j k l m n=>.o (.y fun s:List aA=>.i [rn 9,.ans (.look (some (wV 0 d,(lN 1 aD) s)))] [.a (cI 0 d=some s) (p':=fP (bM 0) (aK bM (lN 1 aD) 0 d) 0=some (some (wV 0 d,(lN 1 aD) s))) (qQ qE)]<|.o (gK 19 (.enter 82 [.ptr 0 0,qI j k l m n,iS s]) [xW 0 o p e g a,aU 1 b,aU 2 c,cH 3 e,fW 4 d,gR 5 g,fK 6 a,eF 7 j k l m n] 8 [(lJ,false)] [aU 1 b,aU 2 c,cH 3 e,fW 4 d,eF 7 j k l m n] 8<|.P 0 8 [] [(lJ,false)] [aU 1 b,aU 2 c,cH 3 e] 4)<|.y fun y:List Node=>.y fun z:List aA=>gk 19 (.enter 82 [.ptr 0 0,qI j k l m n,iS s]) [xW 0 o p e g a,aU 1 b,aU 2 c,cH 3 e,fW 4 d,gR 5 g,fK 6 a,eF 7 j k l m n] 8 (nI (a.length:Int)) [oC 0 [aD o,iC p,tJ e,.gl 8 1 0 (g++z).length false,.gl 9 4 0 (a++map Node.o y).length false,.map 1,.map 2],aU 1 b,aU 2 c,cH 3 e,fW 4 d,eF 7 j k l m n,aDF 8 g z,aFH 9 a y] 10<|.W 2 10 [4,8,9] (aLf o p e t i b c u v w q x r (a.length:Int) d (g++z) (a++map Node.o y)))<|.i [rn 9,.ans (.look none)] [.a (cI 0 d=none) (p':=fP (bM 0) (aK bM (lN 1 aD) 0 d) 0=some none) (nR qE)]<|.o (gK 22 (.enter 82 [.ptr 0 0,qI j k l m n,iS r]) [xW 0 o p e g a,aU 1 b,aU 2 c,cH 3 e,fW 4 d,gR 5 g,fK 6 a,eF 7 j k l m n] 8 [(lJ,false)] [aU 1 b,aU 2 c,cH 3 e,fW 4 d,eF 7 j k l m n] 8<|.P 0 8 [] [(lJ,false)] [aU 1 b,aU 2 c,cH 3 e] 4)<|.y fun A:List Node=>.y fun B:List aA=>gk 22 (.enter 82 [.ptr 0 0,qI j k l m n,iS r]) [xW 0 o p e g a,aU 1 b,aU 2 c,cH 3 e,fW 4 d,gR 5 g,fK 6 a,eF 7 j k l m n] 8 (nI (a.length:Int)) [oC 0 [aD o,iC p,tJ e,.gl 8 1 0 (g++B).length false,.gl 9 4 0 (a++map Node.o A).length false,.map 1,.map 2],aU 1 b,aU 2 c,cH 3 e,fW 4 d,eF 7 j k l m n,aDF 8 g B,aFH 9 a A] 10<|.W 2 10 [4,8,9] (aLf o p e t i b c u v w q x r (a.length:Int) d (g++B) (a++map Node.o A)))<|.y fun f:ONode=>.i [rn 8,.lw 6 (map ONode.av (set a i.length (ONode.mk f.op f.n (KV.row []) f.pats)))] [.a (a[i.length]?=some f) (p':=(map ONode.av a) ≠ []) aS4,.a (a[i.length]?=some f∧f.kv=KV.nil) (p':=VW (map ONode.av a) (map ONode.av (set a i.length (ONode.mk f.op f.n (KV.row []) f.pats)))) fun⟨ha,hb⟩=>(aS3 ha hb)]<|.i [.cset 0 4 (.gl 6 4 0 (set a i.length (ONode.mk f.op f.n (KV.row []) f.pats)).length false)] [.q (p:=(AV.gl 6 4 0 a.length false) = (.gl 6 4 0 (set a i.length (ONode.mk f.op f.n (KV.row []) f.pats)).length false)) (dH (length_set ..).symm)]<|.E 0 7 [5,6] (nI (i.length:Int)) [oC 0 [aD o,iC p,tJ e,.gl 4 1 0 g.length false,.gl 5 4 0 (set a i.length (ONode.mk f.op f.n (KV.row []) f.pats)).length false,.map 1,.map 2],aU 1 b,aU 2 c,cH 3 e,gR 4 g,oL 5 4 (map ONode.av (set a i.length (ONode.mk f.op f.n (KV.row []) f.pats)))] 6
def aHp(r:aA)(s:List Con)(e:List LFun)(w:List aA)(k:List ONode)(b c:List (aA×Int))(x y:Int)(z:aA)(t:List Term)(A:List Pat)(u:List aA)(d:List (Int× (List aA)))(i:List aA)(a:List ONode)(g:List Int)(j:Value)(q:Int):=tT 4 (xY r s e w k b c x y z t A u d i a g j q)<|gd 5 113 (q< (t.length:Int)) (aER 7 t q<|fun l m n o p=>.o (.y fun v:List aA=>.i [rn 9,.ans (.look (some (wV q d,(lN 1 aD) v)))] [.a (cI q d=some v) (p':=fP (bM q) (aK bM (lN 1 aD) 0 d) 0=some (some (wV q d,(lN 1 aD) v))) (qQ qE)]<|.o (gK 19 (.enter 82 [.ptr 0 0,qI l m n o p,iS v]) [xW 0 r s e i a,aU 1 b,aU 2 c,cH 3 e,fW 4 d,gR 5 i,fK 6 a,(7,.lstv j 1 (jI g),true),eF 8 l m n o p] 9 [(lJ,false)] [aU 1 b,aU 2 c,cH 3 e,fW 4 d,(7,.lstv j 1 (jI g),true),eF 8 l m n o p] 9<|.P 0 9 [] [(lJ,false)] [aU 1 b,aU 2 c,cH 3 e] 4)<|.y fun B:List Node=>.y fun C:List aA=>gk 19 (.enter 82 [.ptr 0 0,qI l m n o p,iS v]) [xW 0 r s e i a,aU 1 b,aU 2 c,cH 3 e,fW 4 d,gR 5 i,fK 6 a,(7,.lstv j 1 (jI g),true),eF 8 l m n o p] 9 (nI (a.length:Int)) [oC 0 [aD r,iC s,tJ e,.gl 9 1 0 (i++C).length false,.gl 10 4 0 (a++map Node.o B).length false,.map 1,.map 2],aU 1 b,aU 2 c,cH 3 e,fW 4 d,(7,.lstv j 1 (jI g),true),eF 8 l m n o p,aDF 9 i C,aFH 10 a B] 11<|.W 2 11 [4,9,10,7] (aLg r s e w k b c x y z t A u (a.length:Int) d (i++C) (a++map Node.o B) g j q))<|.i [rn 9,.ans (.look none)] [.a (cI q d=none) (p':=fP (bM q) (aK bM (lN 1 aD) 0 d) 0=some none) (nR qE)]<|.o (gK 22 (.enter 82 [.ptr 0 0,qI l m n o p,iS u]) [xW 0 r s e i a,aU 1 b,aU 2 c,cH 3 e,fW 4 d,gR 5 i,fK 6 a,(7,.lstv j 1 (jI g),true),eF 8 l m n o p] 9 [(lJ,false)] [aU 1 b,aU 2 c,cH 3 e,fW 4 d,(7,.lstv j 1 (jI g),true),eF 8 l m n o p] 9<|.P 0 9 [] [(lJ,false)] [aU 1 b,aU 2 c,cH 3 e] 4)<|.y fun D:List Node=>.y fun F:List aA=>gk 22 (.enter 82 [.ptr 0 0,qI l m n o p,iS u]) [xW 0 r s e i a,aU 1 b,aU 2 c,cH 3 e,fW 4 d,gR 5 i,fK 6 a,(7,.lstv j 1 (jI g),true),eF 8 l m n o p] 9 (nI (a.length:Int)) [oC 0 [aD r,iC s,tJ e,.gl 9 1 0 (i++F).length false,.gl 10 4 0 (a++map Node.o D).length false,.map 1,.map 2],aU 1 b,aU 2 c,cH 3 e,fW 4 d,(7,.lstv j 1 (jI g),true),eF 8 l m n o p,aDF 9 i F,aFH 10 a D] 11<|.W 2 11 [4,9,10,7] (aLg r s e w k b c x y z t A u (a.length:Int) d (i++F) (a++map Node.o D) g j q))<|.y fun f:ONode=>.i [rn 8,.vfrz 7 6 (map ONode.av (set a k.length (ONode.mk f.op f.n (KV.row g) f.pats)))] [.a (a[k.length]?=some f) (p':=(map ONode.av a) ≠ []) aS4,hk bM g,.a (a[k.length]?=some f∧f.kv=KV.val j) (p':=VQ j 1 (jI g) (map ONode.av a) (map ONode.av (set a k.length (ONode.mk f.op f.n (KV.row g) f.pats)))) fun⟨ha,hb⟩=>(aZx ha hb)]<|.i [.cset 0 4 (.gl 6 4 0 (set a k.length (ONode.mk f.op f.n (KV.row g) f.pats)).length false)] [.q (p:=(AV.gl 6 4 0 a.length false) = (.gl 6 4 0 (set a k.length (ONode.mk f.op f.n (KV.row g) f.pats)).length false)) (dH (length_set ..).symm)]<|.E 0 8 [5,6] (nI (k.length:Int)) [oC 0 [aD r,iC s,tJ e,.gl 4 1 0 i.length false,.gl 5 4 0 (set a k.length (ONode.mk f.op f.n (KV.row g) f.pats)).length false,.map 1,.map 2],aU 1 b,aU 2 c,cH 3 e,gR 4 i,oL 5 4 (map ONode.av (set a k.length (ONode.mk f.op f.n (KV.row g) f.pats)))] 6
theorem aXj (nm:aA)(cs:List Con)(fns:List LFun)(nd:List aA)(L:List ONode)(mc: (List (aA×Int)))(mf: (List (aA×Int)))(t6 q9:Int)(t0:aA)(t4:List Term)(t3:List Pat)(env:List aA)(z1:Int)(l7:List aA)(t47:Int)(m6: (List (Int× (List aA))))(l9:List Pat)(v5 j3:Int)(v6:aA)(w9:List Pat)(h0:decide (t47< (t3.length:Int)) =true)(h1:0≤t47)(h2: ((t3)[t47.toNat]?) =some (Pat.mk v5 j3 v6 w9))(h3:aO8 env nm cs fns l7 L mc mf t6 q9 t0 t4 t3 z1 l9 m6 v5 j3 v6 w9)(h4:aVr v5 j3 v6 w9 env nm cs fns l7 L mc mf t6 q9 t0 t4 t3 z1 l9 m6)(h5:cI (IntKind.i64.wrap (t47+ (1:Int))) m6=none) :
  Ends PP 4 (nW nm cs fns nd L mc mf t6 q9 t0 t4 t3 env z1 l7 t47 m6 l9).as (.pan [(lJ,false)]) (aG [aU 1 mc,aU 2 mf,cH 3 fns] 4) :=
 aOV (n1:=13) (ks:=[]) (e:=7) (is1:=[.d,.d,.d,.d,.d,.d,.call (aDE env) (aLe nm cs fns l7 L mc mf t6 q9 t0 t4 t3 z1 l9 m6 v5 j3 v6 w9 env)]) (v:= (.tup [.agg [nI 0,nI 0,.str 0 0,.nils],.nils])) (h2:=aLe nm cs fns l7 L mc mf t6 q9 t0 t4 t3 z1 l9 m6 v5 j3 v6 w9 env) (is2:=[.d,.d,.d,.d,.mput ((aK bM (lN 1 aD) 0 m6) ++ [(bM (IntKind.i64.wrap (t47+ (1:Int))),.nils,length m6)]) (Nat.succ m6.length)]) (os:=[]) (h':=aG [aU 1 mc,aU 2 mf,cH 3 fns,eF 4 t6 q9 t0 t4 t3,aFC 5 t6 z1 l9,fW 6 m6,oL 9 4 (av l9),aA7 10 v5 j3 v6 w9,aDD 11] 13) (hp:=[aU 1 mc,aU 2 mf,cH 3 fns]) (ch:=[(lJ,false)]) (ps:=[decide (t47< (t3.length:Int)) =true,0≤t47,(av t3)[t47.toNat]?=some (Pat.av (Pat.mk v5 j3 v6 w9)),aO8 env nm cs fns l7 L mc mf t6 q9 t0 t4 t3 z1 l9 m6 v5 j3 v6 w9,iU (aK bM (lN 1 aD) 0 m6) m6.length (bM (IntKind.i64.wrap (t47+ (1:Int)))) .nils=some ((aK bM (lN 1 aD) 0 m6) ++ [(bM (IntKind.i64.wrap (t47+ (1:Int))),.nils,length m6)],Nat.succ m6.length),(AV.agg [nI v5,nI j3,aD v6,iP w9]) = (AV.agg [nI v5,nI j3,aD v6,iP w9]),(AV.agg [nI v5,nI j3,aD v6,iP w9]) = (AV.agg [nI v5,nI j3,aD v6,iP w9]),aVr v5 j3 v6 w9 env nm cs fns l7 L mc mf t6 q9 t0 t4 t3 z1 l9 m6]) (is:=[.run 5,.b 48 true,.run 7,.ans (.idx (Pat.av (Pat.mk v5 j3 v6 w9))),.run 10]) kR0 kR0 ⟨kZ0,⟨kZ0,⟨aI _ (fun _=>rfl) _,trivial⟩⟩⟩ ⟨h0,h1,fQ aF h2,h3,uU qE h5 _,rfl,rfl,h4⟩
theorem aQY (nm:aA)(cs:List Con)(fns:List LFun)(nd:List aA)(L:List ONode)(mc: (List (aA×Int)))(mf: (List (aA×Int)))(t6 q9:Int)(t0:aA)(t4:List Term)(t3:List Pat)(env:List aA)(at17:Int)(m4: (List (Int× (List aA))))(l5:List aA)(l6:List ONode)(ix:Nat)(w7 v7:Int)(w6:List Pat)(h0:0≤ ((L.length:Nat) :Int))(h1: ((L.length:Nat) :Int) < ((l6.length:Nat) :Int))(h2: ((L.length:Nat) :Int).toNat=ix)(h3:ix<length l6)(h4:length (([] :List Int) ++ [at17]) ≤1000000){res:Res}{h':Hp}(hk:∀ua un uc,Ends PP 4 (let u:=Value.slice ua un uc; (xY nm cs fns nd L mc mf t6 q9 t0 t4 t3 env m4 l5 (set l6 ix (ONode.mk w7 v7 (KV.val u) w6)) (([] :List Int) ++ [at17]) u 1)).as res h') :
  Ends PP 4 (aQW nm cs fns nd L mc mf t6 q9 t0 t4 t3 env at17 m4 l5 l6 ix w7 v7 w6).as res h':=
 aG4 (n1:=10) (t:=fun u=> (xY nm cs fns nd L mc mf t6 q9 t0 t4 t3 env m4 l5 (set l6 ix (ONode.mk w7 v7 (KV.val u) w6)) (([] :List Int) ++ [at17]) u 1)) (k:=6) (b:=9) (i:=ix) (o:=2) (ys:=fun u=> (map ONode.av (set l6 ix (ONode.mk w7 v7 (KV.val u) w6)))) (ks:=[4,5,6,9]) (ps:=fun u=>[NQ (set (map ONode.av l6) ix (aEz w7 v7 at17 w6)) ix 2 9 1 (jI (([] :List Int) ++ [at17])).length u (map ONode.av (set l6 ix (ONode.mk w7 v7 (KV.val u) w6))),0≤ ((L.length:Nat) :Int),((L.length:Nat) :Int) < ((l6.length:Nat) :Int),(set (map ONode.av l6) ix (qH w7 v7 w6))[0+ ((L.length:Nat) :Int).toNat]?=some (qH w7 v7 w6),0+ ([] :List Int).length≤length (jI ([] :List Int)),length (([] :List Int) ++ [at17]) ≤1000000,take ([] :List Int).length (drop 0 (jI ([] :List Int))) ++ (jI [at17]) = (jI (([] :List Int) ++ [at17])),([] :List Int).length+length (jI [at17]) =length (([] :List Int) ++ [at17]),0≤ ((L.length:Nat) :Int),((L.length:Nat) :Int) < ((l6.length:Nat) :Int),(set (map ONode.av l6) ix (qH w7 v7 w6))[0+ ((L.length:Nat) :Int).toNat]?=some (qH w7 v7 w6),pZ (qH w7 v7 w6) 2 [.gl 9 1 0 (([] :List Int) ++ [at17]).length false] =some (aEz w7 v7 at17 w6),(AV.gl 6 4 0 l6.length false) = (AV.gl 6 4 0 l6.length false),(AV.gl 6 4 0 l6.length false) = (AV.gl 6 4 0 l6.length false),(set (map ONode.av l6) ix (qH w7 v7 w6)).set (0+ ((L.length:Nat) :Int).toNat) (aEz w7 v7 at17 w6) = (set (map ONode.av l6) ix (aEz w7 v7 at17 w6)),(AV.gl 6 4 0 l6.length false) = (.gl 6 4 0 (set l6 ix (ONode.mk w7 v7 (KV.val u) w6)).length false),(AV.gl 6 4 0 l6.length false) = (.gl 6 4 0 (set l6 ix (ONode.mk w7 v7 (KV.val u) w6)).length false),(AV.gl 6 4 0 l6.length false) = (.gl 6 4 0 (set l6 ix (ONode.mk w7 v7 (KV.val u) w6)).length false)]) (is:=[.reg [.d,.d,.d,.d,.d,.d,.d,.d,.d,.d,.d,.d,.ans (.ix),.d,.ans (.idx (qH w7 v7 w6)),.d,.d,.app (jI (([] :List Int) ++ [at17])) (([] :List Int) ++ [at17]).length,.ans (.ix),.d,.st (qH w7 v7 w6) (aEz w7 v7 at17 w6)],.lset 6 (set (map ONode.av l6) ix (aEz w7 v7 at17 w6)),.run 1]) (is2:=fun u=>[.set 134 (.gl 6 4 0 (set l6 ix (ONode.mk w7 v7 (KV.val u) w6)).length false),.set 140 (.gl 6 4 0 (set l6 ix (ONode.mk w7 v7 (KV.val u) w6)).length false),.cset 0 4 (.gl 6 4 0 (set l6 ix (ONode.mk w7 v7 (KV.val u) w6)).length false),.run 5]) (fun u=>by kernel_rfl) (fun u=>by kernel_rfl) (fun u=> ⟨kZ0,⟨kZ0,⟨aI _ (fun _=>rfl) _,⟨kZ0,⟨aI _ (fun _=>rfl) _,⟨aI _ (fun _=>bE _) _,⟨aI _ (fun _=>rfl) _,trivial⟩⟩⟩⟩⟩⟩⟩) (fun u=> ⟨aYQ [nI w7,nI v7] [iP w6] h3 (length_map ..) (by simp) rfl,h0,h1,aKP h2 h3,aJS _ _,h4,aJT _ _ _,aJU _ _ _,h0,h1,aKP h2 h3,rfl,rfl,rfl,aUE h2,dH (length_set ..).symm,dH (length_set ..).symm,dH (length_set ..).symm⟩) hk
theorem aQZ (nm:aA)(cs:List Con)(fns:List LFun)(nd:List aA)(L:List ONode)(mc: (List (aA×Int)))(mf: (List (aA×Int)))(t6 q9:Int)(t0:aA)(t4:List Term)(t3:List Pat)(env:List aA)(at17:Int)(m4: (List (Int× (List aA))))(l5:List aA)(l6:List ONode)(k7:List Int)(t112:Int)(ix:Nat)(w7 v7:Int)(w6:List Pat)(h0:0≤ ((L.length:Nat) :Int))(h1: ((L.length:Nat) :Int) < ((l6.length:Nat) :Int))(h2: ((L.length:Nat) :Int).toNat=ix)(h3:ix<length l6)(h4:length (k7++ [at17]) ≤1000000)(h5: (IntKind.i64.wrap (t112+ (1:Int))) = (t112+ (1:Int))){res:Res}{h':Hp}(hk:∀ua un uc,Ends PP 4 (let u:=Value.slice ua un uc; (xY nm cs fns nd L mc mf t6 q9 t0 t4 t3 env m4 l5 (set l6 ix (ONode.mk w7 v7 (KV.val u) w6)) (k7++ [at17]) u (t112+ (1:Int)))).as res h') :
  Ends PP 4 (aQX nm cs fns nd L mc mf t6 q9 t0 t4 t3 env at17 m4 l5 l6 k7 t112 ix w7 v7 w6).as res h':=
 aG4 (n1:=10) (t:=fun u=> (xY nm cs fns nd L mc mf t6 q9 t0 t4 t3 env m4 l5 (set l6 ix (ONode.mk w7 v7 (KV.val u) w6)) (k7++ [at17]) u (t112+ (1:Int)))) (k:=6) (b:=9) (i:=ix) (o:=2) (ys:=fun u=> (map ONode.av (set l6 ix (ONode.mk w7 v7 (KV.val u) w6)))) (ks:=[4,5,6,9]) (ps:=fun u=>[NQ (set (map ONode.av l6) ix (aA8 w7 v7 k7 at17 w6)) ix 2 9 1 (jI (k7++ [at17])).length u (map ONode.av (set l6 ix (ONode.mk w7 v7 (KV.val u) w6))),0≤ ((L.length:Nat) :Int),((L.length:Nat) :Int) < ((l6.length:Nat) :Int),(set (map ONode.av l6) ix (qJ w7 v7 k7 w6))[0+ ((L.length:Nat) :Int).toNat]?=some (qJ w7 v7 k7 w6),0+k7.length≤length (jI k7),length (k7++ [at17]) ≤1000000,take k7.length (drop 0 (jI k7)) ++ (jI [at17]) = (jI (k7++ [at17])),k7.length+length (jI [at17]) =length (k7++ [at17]),0≤ ((L.length:Nat) :Int),((L.length:Nat) :Int) < ((l6.length:Nat) :Int),(set (map ONode.av l6) ix (qJ w7 v7 k7 w6))[0+ ((L.length:Nat) :Int).toNat]?=some (qJ w7 v7 k7 w6),pZ (qJ w7 v7 k7 w6) 2 [.gl 9 1 0 (k7++ [at17]).length false] =some (aA8 w7 v7 k7 at17 w6),(AV.gl 6 4 0 l6.length false) = (AV.gl 6 4 0 l6.length false),(AV.gl 6 4 0 l6.length false) = (AV.gl 6 4 0 l6.length false),(set (map ONode.av l6) ix (qJ w7 v7 k7 w6)).set (0+ ((L.length:Nat) :Int).toNat) (aA8 w7 v7 k7 at17 w6) = (set (map ONode.av l6) ix (aA8 w7 v7 k7 at17 w6)),(AV.gl 6 4 0 l6.length false) = (.gl 6 4 0 (set l6 ix (ONode.mk w7 v7 (KV.val u) w6)).length false),(AV.gl 6 4 0 l6.length false) = (.gl 6 4 0 (set l6 ix (ONode.mk w7 v7 (KV.val u) w6)).length false),(AV.gl 6 4 0 l6.length false) = (.gl 6 4 0 (set l6 ix (ONode.mk w7 v7 (KV.val u) w6)).length false),(nI (IntKind.i64.wrap (t112+ (1:Int)))) = (nI (t112+ (1:Int)))]) (is:=[.reg [.d,.d,.d,.d,.d,.d,.d,.d,.d,.d,.d,.d,.ans (.ix),.d,.ans (.idx (qJ w7 v7 k7 w6)),.d,.d,.app (jI (k7++ [at17])) (k7++ [at17]).length,.ans (.ix),.d,.st (qJ w7 v7 k7 w6) (aA8 w7 v7 k7 at17 w6)],.lset 6 (set (map ONode.av l6) ix (aA8 w7 v7 k7 at17 w6)),.run 1]) (is2:=fun u=>[.set 134 (.gl 6 4 0 (set l6 ix (ONode.mk w7 v7 (KV.val u) w6)).length false),.set 140 (.gl 6 4 0 (set l6 ix (ONode.mk w7 v7 (KV.val u) w6)).length false),.cset 0 4 (.gl 6 4 0 (set l6 ix (ONode.mk w7 v7 (KV.val u) w6)).length false),.run 2,.set 150 (nI (t112+ (1:Int))),.run 3]) (fun u=>by kernel_rfl) (fun u=>by kernel_rfl) (fun u=> ⟨kZ0,⟨kZ0,⟨aI _ (fun _=>rfl) _,⟨kZ0,⟨aI _ (fun _=>rfl) _,⟨aI _ (fun _=>bE _) _,⟨aI _ (fun _=>rfl) _,trivial⟩⟩⟩⟩⟩⟩⟩) (fun u=> ⟨aYQ [nI w7,nI v7] [iP w6] h3 (length_map ..) (by simp) rfl,h0,h1,aKP h2 h3,aJS _ _,h4,aJT _ _ _,aJU _ _ _,h0,h1,aKP h2 h3,rfl,rfl,rfl,aUE h2,dH (length_set ..).symm,dH (length_set ..).symm,dH (length_set ..).symm,congrArg (AV.int .i64) h5⟩) hk
def aVt(a:List aA):TS:=bH PP 145 [iS a] [] 0
def bBl(a:List aA):TS:=⟨tf 145 8 [(0,iS a),(2,.nils),(3,iS a)] [ko f145 12 1,kc f145 13,kc f145 7],[],[],0⟩
def aZ4(a:List aA):TS:=⟨tf 145 8 [(0,iS a),(2,.nils),(3,.nils)] [ko f145 12 1,kc f145 13,kc f145 7],[],[],0⟩
def aZ5(a:List aA)(b:Addr)(c d:Nat):TS:=⟨tf 145 8 [(0,iS a),(2,.nils),(3,.val (Value.slice (some b) c d))] [ko f145 12 1,kc f145 13,kc f145 7],[],[],0⟩
def bBm (a:List aA):=(tT 0 (aVt a)<|.W 8 0 [] (bBl a)) tv
def bBn (a:List aA):=(tT 0 (aZ4 a)<|.i [rn 8,.nilL 2 1] []<|.E 0 1 [0] (.gl 0 1 0 0 false) [oL 0 1 (map aD ([] :List aA))] 1) ⟨kk,trivial⟩
def bBo (a:List aA)(b:Addr)(c d:Nat):=fun e=>(tT 0 (aZ5 a b c d)<|.i [rn 8,.toL 5 false []] [.q (p:=getCells (putCells .leaf 0 []) 0 (0*1) =some []) rfl,hr true]<|gu 0 0 (map aD ([] :List aA))<|gs 0 5 (.gl 0 1 0 ([] :List aA).length true)<|.i [.weak 5] []<|ga 0 aD ([] :List aA) a<|.E 3 2 [1] (.gl 0 1 0 (([] :List aA) ++a).length false) [oL 0 1 (map aD (([] :List aA) ++a))] 1) e ⟨kk,trivial⟩
theorem aVu (xs:List aA)(h:xs.length≤1000000) :aPz PP (.enter 145 [.ilst 1 (map aD xs) false]) (aG [] 0) (.ret (.gl 0 1 0 (length xs) false)) (aG [(0,gV xs,true)] 1) :=by
 suffices hh:Ends PP 0 (aVt xs).as (.ret (.gl 0 1 0 (length xs) false)) (aG [(0,gV xs,true)] 1)from⟨(aVt xs).as.fr,by kernel_rfl,mp kR0 hh⟩
 refine(bBm xs).ends ?_;refine aLR (j:=3) (e:=1) (ex:=false) (xs:=map aD xs) kR0 (fun hx=>?_) (fun a n c=>?_)
 · have hx:xs= [] :=by simpa using hx
   subst hx;exact mp kR0 (bBn [])
 · have h1:=bBo xs a n c (by simpa using h);rw [nil_append]at h1;exact mp kR0 h1
theorem aVv {xs:List aA}(h:xs.length≤1000000){lc:List (Nat×AObj×Bool)}{n2:Nat}{hh:Hp}
  (h1:AV.renL (fA 0 0 n2 []) [.ilst 1 (map aD xs) false] = [.ilst 1 (map aD xs) false] :=by kernel_rfl) (h2:dC 0 ⟨⟨0,0,[],[],[],.run,.normal,none⟩,[],[],0⟩ [] =true:=by kernel_rfl) (h3:sB (aG lc n2) (fA 0 0 n2 []) [] =jB (fA 0 0 n2 []) [] :=by kernel_rfl)
  (h4:hJ n2 lc=true:=by kernel_rfl) (h5:rE lc= (lc.map fun p=> (aG lc n2).look p.1) :=by kernel_rfl) (h6:aAe [] lc=true:=by kernel_rfl) (h7:aG (aOh n2 [(0,gV xs,true)] ++lc) (1+n2) =hh:=by kernel_rfl)
  (h8:AV.ren (fun b=>b+n2) (.gl 0 1 0 (length xs) false) = .gl n2 1 0 (length xs) false:=by kernel_rfl) :
  Spec PP (.enter 145 [.ilst 1 (map aD xs) false]) (aG lc n2) (.ret (.gl n2 1 0 (length xs) false)) hh:=by
 have:=aLX (ks:=[]) (n2:=n2) (lc:=lc) (x:=lc) (args':=[.ilst 1 (map aD xs) false]) (aVu xs h) h1 h2 h3 trivial h4 h5 h6 kR0 ⟨fV _,trivial⟩ kR0;rw [h7,h8]at this;exact this
abbrev pX (m:List (Int×List aA)) :AObj:=.map (aK bM (lN 1 aD) 0 m) (length m)
def MoreI (env:List aA)(ps:List Pat)(i:Nat)(m:List (Int×List aA)) :Prop:=∀j:Int,cI j m=if 1≤j∧j≤i then(ps[(j-1).toNat]?).map (fun p=>env++nmP p)else none
theorem MoreI.nil (env:List aA)(ps:List Pat) :MoreI env ps 0 [] :=fun j=>by
 rw [if_neg (by omega)];rfl
theorem MoreI.snoc {env:List aA}{ps:List Pat}{i:Nat}{m:List (Int×List aA)}(h:MoreI env ps i m){p:Pat}(hp:ps[i]?=some p) :MoreI env ps (i+1) (bS ((i:Int) +1) (env++nmP p) m) :=fun j=>by
 rw [jS,h j];by_cases e:j= (i:Int) +1
 · subst e;rw [if_pos rfl,if_pos (by omega),show((i:Int) +1-1).toNat=i by omega,hp];rfl
 · rw [if_neg e];by_cases h1:1≤j∧j≤i
   ·rw [if_pos h1,if_pos (by omega)]
   ·rw [if_neg h1,if_neg (by omega)]
theorem aLi {o n:Int}{s:aA}{k m:Int}(h:aL o n s k m=true)(h15:o≠15) :m=0:=by
 refine Classical.byContradiction fun hm=>?_;have sp:∀a b,aM n s m a b false=false:=fun a b=>by simp [aM,hm]
 unfold aL at h;simp only [h15,if_false,sp,Bool.and_false,Bool.false_and,ite_self]at h;cases h
theorem bCR {o n:Int}{s:aA}{k m:Int}(h:aL o n s k m=true)(h5:o=5∨o=27) :k=1:=by
 unfold aL at h;rcases h5 with h5|h5<;>subst h5<;>simp at h<;>exact h.1.1
theorem aIZ {p:Pat}:∀ {ps:List Pat},mU ps=true→p∈ps→xI p=true
 | q::ps,h,hp=>by
  rw [mU,and_eq_true]at h;rcases List.mem_cons.1 hp with e|hp
  ·rw [e];exact h.1
  ·exact aIZ h.2 hp
theorem aXk {o n:Int}{s:aA}{ks:List Term}{ps:List Pat}{env:List aA}{m:List (Int×List aA)}(hH:aL o n s (length ks) (length ps) =true)(hF:mU ps=true)(hm:MoreI env ps ps.length m) :
  (∀i:Nat,i<ks.length→ (cI (i:Int) (if o=5∨o=27 then bS 0 (env++ [s]) m else if o=7 then bS 1 (env++ [s]) m else m)).getD env=env++cX o s ps i) ∧cI 0 m=none∧ (o=7→cI 1 m=none) :=by
 have hp:∀ {p:Pat},p∈ps→nmP p=jL p:=fun {p} hp=>aNq p (aIZ hF hp);refine⟨fun i hi=>?_,by rw [hm 0,if_neg (by omega)],fun h7=>?_⟩
 · unfold cX;by_cases h5:o=5∨o=27
   · have:=bCR hH h5;have:i=0:=by omega
     subst this;rw [if_pos h5,if_pos h5,jS,if_pos (by rfl)];rfl
   · rw [if_neg h5,if_neg h5];by_cases h7:o=7
     · have hz:=aLi hH (by omega);rw [if_pos h7,if_pos h7,jS];by_cases h1:i=1
       ·subst h1;rw [if_pos (by rfl),if_pos rfl];rfl
       ·rw [if_neg (by omega),if_neg h1,hm,if_neg (by omega)];simp
     · rw [if_neg h7,if_neg h7,hm];by_cases h15:o=15
       · rw [if_pos h15];have hk:=aQz hH h15;cases i with
         |zero=>rw [if_neg (by omega)];simp
         | succ j=>
          rw [if_pos (by omega),show(((j+1:Nat) :Int) -1).toNat=j by omega];obtain⟨p,hpj⟩ :∃p,ps[j]?=some p:= ⟨_,List.getElem?_eq_getElem (by omega)⟩;simp only [hpj,Option.map_some,getD_some];rw [hp (mem_of_getElem? hpj)]
       · rw [if_neg h15];have hz:=aLi hH h15;rw [if_neg (by omega)];simp
 · have hz:=aLi hH (by omega);rw [hm 1,if_neg (by omega)]
section
variable (nm :aA) (cs:List Con) (fns:List LFun) (mc mf:List (aA×Int)) (own:List aA)
def NDS (nd:List aA)(L:List ONode)(t:Term)(env:List aA)(r:List aA×List Node) :Prop:=nE PP 4 (.enter 82 [.ptr 0 0,Term.av t,.ilst 1 (map aD env) false]) (aG (yW nm cs fns nd L mc mf) 6)
 (.ret (.int .i64 ((length L:Nat) :Int))) (aG (yW nm cs fns (nd++r.1) (L++map Node.o r.2) mc mf) 6)
def NDP (nd:List aA)(L:List ONode)(t:Term)(env:List aA) :Prop:=nE PP 4 (.enter 82 [.ptr 0 0,Term.av t,.ilst 1 (map aD env) false]) (aG (yW nm cs fns nd L mc mf) 6) Rf7 (aG (aNu fns mc mf) 4)
def NDR (nd:List aA)(L:List ONode)(t:Term)(env:List aA) :Prop:=if mdT cs t=true then NDS nm cs fns mc mf nd L t env (uT own cs t env nd L.length)else NDP nm cs fns mc mf nd L t env
variable (nd :List aA) (L:List ONode) (o n:Int) (s:aA) (ks:List Term) (ps:List Pat) (env:List aA)
def aVw (st:TS)(nd':List aA)(ns:List Node) :Prop:=Ends PP 4 st.as (.ret (.int .i64 ((length L:Nat) :Int))) (aG (yW nm cs fns nd' (L++map Node.o ns) mc mf) 6)
def aI0 (st:TS) :Prop:=Ends PP 4 st.as Rf7 (aG (aNu fns mc mf) 4)
theorem aNz (v:Int)(nd1:List aA)(hpl:ps.length<1000000)(he:env.length≤800000)(ih:∀p∈ps,xI p=true∧bA p≤1000)(hcm:aNr cs mc) :∀ (t:List Pat) (i:Nat) (m:List (Int×List aA)) (acc:List Pat),ps.drop i=t→acc.length=i→i≤ps.length→MoreI env ps i m →
  (t.all (knP cs) =true→∃m',MoreI env ps ps.length m'∧LeadsM PP 4 (nW nm cs fns nd L mc mf o n s ks ps env v nd1 (i:Int) m acc).as (nW nm cs fns nd L mc mf o n s ks ps env v nd1 (ps.length:Int) m' (acc++iJ cs t)).as) ∧
  (t.all (knP cs) =false→aI0 fns mc mf (nW nm cs fns nd L mc mf o n s ks ps env v nd1 (i:Int) m acc))
 | [],i,m,acc,h,ha,hle,hm=>by
  have h1:=aZ h;have hi:i=ps.length:=by omega
  subst hi;refine⟨fun _=> ⟨m,hm,?_⟩,fun h=>by simp at h⟩;rw [iJ,append_nil];exact LeadsM.refl _
 | .mk f' n' s' ps'::t,i,m,acc,h,ha,hle,hm=>by
  obtain⟨g1,g2,g3⟩ :=aY h;have hi:= (List.getElem?_eq_some_iff.1 g1).1;obtain⟨hF,hz⟩ :=ih _ (mem_of_getElem? g1);have hpr:=aNy nm cs fns nd1 L mc mf hcm (.mk f' n' s' ps') env hF (by omega)
  have hcl:=aVv (xs:=env) (by omega) (lc:=[(0,MkC nm cs fns nd1 L 3 7 8 1 2,false),(1,pO mc,true),(2,pO mf,true),(3,fO fns,true),(4,kD o n s ks ps,false),(5,.cells (putCells .leaf 0 [.int .i64 o,.int .i64 v,.nils,.gl 9 4 0 (length acc) false]) 4 [] false,false),(6,pX m,true),(7,gV nd1,true),(8,OL L,true),(9,PLs acc,true),(10,rY f' n' s' ps',false),(11,aCx,false)]) (n2:=12)
   (hh:=aG [(0,MkC nm cs fns nd1 L 3 7 8 1 2,false),(1,pO mc,true),(2,pO mf,true),(3,fO fns,true),(4,kD o n s ks ps,false),(5,.cells (putCells .leaf 0 [.int .i64 o,.int .i64 v,.nils,.gl 9 4 0 (length acc) false]) 4 [] false,false),(6,pX m,true),(7,gV nd1,true),(8,OL L,true),(9,PLs acc,true),(10,rY f' n' s' ps',false),(11,aCx,false),(12,gV env,true)] 13)
  have hw:IntKind.i64.wrap ((i:Int) +1) = (i:Int) +1:=by apply wrap64<;>omega
  have hg:cI (IntKind.i64.wrap ((i:Int) +1)) m=none:=by rw [hw,hm,if_neg (by omega)]
  unfold PAR at hpr;rw [List.all_cons];cases hk:knP cs (.mk f' n' s' ps')
  case true=>
   rw [hk,if_pos rfl]at hpr;rw [Bool.true_and];unfold PAS at hpr;rw [pnP]at hpr;rw [iJ,pnP];have hm2:=hm.snoc g1;generalize nmP (.mk f' n' s' ps') =w at hpr hm2
   have hs':=iY (m:=6) (ks:=[0,1,2,3,7,8,12]) (n2:=13) (n3:=14) (v':=.tup [.agg [.int .i64 f',.int .i64 (if f'=6 then dX s' cs 0 else n'),aD [],.ilst 4 (av (iJ cs ps')) false],.gl 13 1 0 (length (env++w)) false])
    (args':=[.ptr 0 0,Pat.av (.mk f' n' s' ps'),.gl 12 1 0 (length env) false])
    (lc:=[(0,MkC nm cs fns nd1 L 3 7 8 1 2,false),(1,pO mc,true),(2,pO mf,true),(3,fO fns,true),(4,kD o n s ks ps,false),(5,.cells (putCells .leaf 0 [.int .i64 o,.int .i64 v,.nils,.gl 9 4 0 (length acc) false]) 4 [] false,false),(6,pX m,true),(7,gV nd1,true),(8,OL L,true),(9,PLs acc,true),(10,rY f' n' s' ps',false),(11,aCx,false),(12,gV env,true)])
    (lc':=[(0,MkC nm cs fns nd1 L 3 7 8 1 2,false),(1,pO mc,true),(2,pO mf,true),(3,fO fns,true),(4,kD o n s ks ps,false),(5,.cells (putCells .leaf 0 [.int .i64 o,.int .i64 v,.nils,.gl 9 4 0 (length acc) false]) 4 [] false,false),(6,pX m,true),(7,gV nd1,true),(8,OL L,true),(9,PLs acc,true),(10,rY f' n' s' ps',false),(11,aCx,false),(13,gV (env++w),true)])
    hpr (by rfl) kR0 kR0 (by rfl) (by rfl) kR0 kR0 ⟨kU _,kU _,jV _,fV _,aGA _,fV _,trivial⟩ kR0 ⟨kU _,kU _,jV _,fV _,aGA _,fV _,trivial⟩
   have h1:=aHn nm cs fns nd L mc mf o n s ks ps env v nd1 i m acc|>.t sd f' n' s' ps' sd sd w f' (if f'=6 then dX s' cs 0 else n') [] (iJ cs ps') hcl hs' hg hg hg (by simp;omega) hw ⟨kZ0,⟨kZ0,⟨kk,⟨kZ0,⟨kk,⟨aI _ (fun _=>bE _) _,⟨dV,trivial⟩⟩⟩⟩⟩⟩⟩;rw [hw]at h1;have:=aNz v nd1 hpl he ih hcm t (i+1) _ (acc++ [.mk f' (if f'=6 then dX s' cs 0 else n') [] (iJ cs ps')]) g2 (by simp [ha]) (by omega) hm2;simp only [append_assoc,singleton_append]at this;exact⟨fun h=>by obtain⟨m',a,b⟩ :=this.1 h;exact⟨m',a,h1.trans b⟩,fun h=>h1.ends (this.2 h)⟩
  rw [hk,if_neg (by simp)]at hpr;rw [Bool.false_and];refine⟨fun h=> (by cases h),fun _=>?_⟩;unfold PAN at hpr
  have hs':=rZ (m:=6) (ks:=[0,1,2,3,7,8,12]) (n2:=13) (n3:=13)
   (args':=[.ptr 0 0,Pat.av (.mk f' n' s' ps'),.gl 12 1 0 (length env) false])
   (lc:=[(0,MkC nm cs fns nd1 L 3 7 8 1 2,false),(1,pO mc,true),(2,pO mf,true),(3,fO fns,true),(4,kD o n s ks ps,false),(5,.cells (putCells .leaf 0 [.int .i64 o,.int .i64 v,.nils,.gl 9 4 0 (length acc) false]) 4 [] false,false),(6,pX m,true),(7,gV nd1,true),(8,OL L,true),(9,PLs acc,true),(10,rY f' n' s' ps',false),(11,aCx,false),(12,gV env,true)])
   (lc':=[(1,pO mc,true),(2,pO mf,true),(3,fO fns,true),(4,kD o n s ks ps,false),(5,.cells (putCells .leaf 0 [.int .i64 o,.int .i64 v,.nils,.gl 9 4 0 (length acc) false]) 4 [] false,false),(6,pX m,true),(9,PLs acc,true),(10,rY f' n' s' ps',false),(11,aCx,false)])
   hpr (by rfl) aNw kR0 (by rfl) (by rfl) kR0 kR0 ⟨kU _,kU _,jV _,fV _,aGA _,fV _,trivial⟩ kR0 (aNv ..)
  exact aXj nm cs fns nd L mc mf o n s ks ps env v nd1 i m acc f' n' s' ps' sd sd sd hcl hs' hg
theorem aVx (m:List (Int×List aA))(nd1:List aA)(l6:List ONode)(k3:List Int)(u:Value)(i:Nat)(hi2:i<1000000) :∀ (t:Term) (e':List aA),ks[i]?=some t→ (cI (i:Int) m).getD env=e'→NDR nm cs fns mc mf own nd1 l6 t e' →
  (mdT cs t=true→LeadsM PP 4 (xY nm cs fns nd L mc mf o n s ks ps env m nd1 l6 k3 u (i:Int)).as (aLg nm cs fns nd L mc mf o n s ks ps env ((length l6:Nat) :Int) m (nd1++ (uT own cs t e' nd1 l6.length).1) (l6++map Node.o (uT own cs t e' nd1 l6.length).2) k3 u (i:Int)).as) ∧
  (mdT cs t=false→aI0 fns mc mf (xY nm cs fns nd L mc mf o n s ks ps env m nd1 l6 k3 u (i:Int)))
 | .mk o' n' s' ks' ps',e',hi,he,h=>by
  have hl:= (List.getElem?_eq_some_iff.1 hi).1;unfold NDR at h;cases hk:mdT cs (.mk o' n' s' ks' ps')
  case true=>
   rw [hk,if_pos rfl]at h;refine⟨fun _=>?_,fun h=> (by cases h)⟩;generalize uT own cs (.mk o' n' s' ks' ps') e' nd1 l6.length=q at h ⊢;obtain⟨w,ns⟩ :=q;unfold NDS at h
   have hs':=iY (m:=4) (ks:=[0,1,2,3,5,6]) (n2:=9) (n3:=11) (v':=.int .i64 ((length l6:Nat) :Int)) (args':=[.ptr 0 0,Term.av (.mk o' n' s' ks' ps'),.ilst 1 (map aD e') false])
    (lc:=[(0,MkC nm cs fns nd1 l6 3 5 6 1 2,false),(1,pO mc,true),(2,pO mf,true),(3,fO fns,true),(4,pX m,true),(5,gV nd1,true),(6,OL l6,true),(7,.lstv u 1 (map bM k3),true),(8,kD o' n' s' ks' ps',false)])
    (lc':=[(0,MkC nm cs fns (nd1++w) (l6++map Node.o ns) 3 9 10 1 2,false),(1,pO mc,true),(2,pO mf,true),(3,fO fns,true),(4,pX m,true),(7,.lstv u 1 (map bM k3),true),(8,kD o' n' s' ks' ps',false),(9,gV (nd1++w),true),(10,OL (l6++map Node.o ns),true)])
    h (by rfl) (by rfl) kR0 (by rfl) (by rfl) kR0 kR0 (aCw ..) kR0 (aCw ..)
   cases hg:cI (i:Int) m
   case some x=>
    rw [hg]at he;simp only [getD_some]at he;subst he;exact aHp nm cs fns nd L mc mf o n s ks ps env m nd1 l6 k3 u i|>.t sd o' n' s' ks' ps' sd sd|>.1 x hg|>.2 ns w hs' ⟨kZ0,⟨kZ0,⟨kk,⟨kZ0,⟨kk,⟨aI _ (fun _=>bE _) _,⟨kk,trivial⟩⟩⟩⟩⟩⟩⟩
   rw [hg]at he;simp only [getD_none]at he;subst he;exact aHp nm cs fns nd L mc mf o n s ks ps env m nd1 l6 k3 u i|>.t sd o' n' s' ks' ps' sd sd|>.2 hg|>.2 ns w hs' ⟨kZ0,⟨kZ0,⟨kk,⟨kZ0,⟨kk,⟨aI _ (fun _=>bE _) _,⟨kk,trivial⟩⟩⟩⟩⟩⟩⟩
  rw [hk,if_neg (by simp)]at h;refine⟨fun h=> (by cases h),fun _=>?_⟩;unfold NDP at h
  have hs':=rZ (m:=4) (ks:=[0,1,2,3,5,6]) (n2:=9) (n3:=9) (args':=[.ptr 0 0,Term.av (.mk o' n' s' ks' ps'),.ilst 1 (map aD e') false])
   (lc:=[(0,MkC nm cs fns nd1 l6 3 5 6 1 2,false),(1,pO mc,true),(2,pO mf,true),(3,fO fns,true),(4,pX m,true),(5,gV nd1,true),(6,OL l6,true),(7,.lstv u 1 (map bM k3),true),(8,kD o' n' s' ks' ps',false)])
   (lc':=[(1,pO mc,true),(2,pO mf,true),(3,fO fns,true),(4,pX m,true),(7,.lstv u 1 (map bM k3),true),(8,kD o' n' s' ks' ps',false)])
   h (by rfl) aNw kR0 (by rfl) (by rfl) kR0 kR0 (aCw ..) kR0 (aNv ..)
  cases hg:cI (i:Int) m
  case some x=>
   rw [hg]at he;simp only [getD_some]at he;subst he;exact aHp nm cs fns nd L mc mf o n s ks ps env m nd1 l6 k3 u i|>.t sd o' n' s' ks' ps' sd sd|>.1 x hg|>.1 hs' ⟨kZ0,⟨kZ0,⟨kk,trivial⟩⟩⟩
  rw [hg]at he;simp only [getD_none]at he;subst he;exact aHp nm cs fns nd L mc mf o n s ks ps env m nd1 l6 k3 u i|>.t sd o' n' s' ks' ps' sd sd|>.2 hg|>.1 hs' ⟨kZ0,⟨kZ0,⟨kk,trivial⟩⟩⟩
theorem aVy (m:List (Int×List aA))(nd1:List aA)(l6:List ONode) :∀ (t:Term) (e':List aA),ks[0]?=some t→ (cI 0 m).getD env=e'→NDR nm cs fns mc mf own nd1 l6 t e' →
  (mdT cs t=true→LeadsM PP 4 (tY nm cs fns nd L mc mf o n s ks ps env nd1 l6 m).as (aLf nm cs fns nd L mc mf o n s ks ps env ((length l6:Nat) :Int) m (nd1++ (uT own cs t e' nd1 l6.length).1) (l6++map Node.o (uT own cs t e' nd1 l6.length).2)).as) ∧
  (mdT cs t=false→aI0 fns mc mf (tY nm cs fns nd L mc mf o n s ks ps env nd1 l6 m))
 | .mk o' n' s' ks' ps',e',hi,he,h=>by
  have hl:= (List.getElem?_eq_some_iff.1 hi).1;have hd: (decide ((0:Int) < ((length ks:Nat) :Int))) =true:=by simp;omega
  unfold NDR at h;cases hk:mdT cs (.mk o' n' s' ks' ps')
  case true=>
   rw [hk,if_pos rfl]at h;refine⟨fun _=>?_,fun h=> (by cases h)⟩;generalize uT own cs (.mk o' n' s' ks' ps') e' nd1 l6.length=q at h ⊢;obtain⟨w,ns⟩ :=q;unfold NDS at h
   have hs':=iY (m:=4) (ks:=[0,1,2,3,5,6]) (n2:=8) (n3:=10) (v':=.int .i64 ((length l6:Nat) :Int)) (args':=[.ptr 0 0,Term.av (.mk o' n' s' ks' ps'),.ilst 1 (map aD e') false])
    (lc:=[(0,MkC nm cs fns nd1 l6 3 5 6 1 2,false),(1,pO mc,true),(2,pO mf,true),(3,fO fns,true),(4,pX m,true),(5,gV nd1,true),(6,OL l6,true),(7,kD o' n' s' ks' ps',false)])
    (lc':=[(0,MkC nm cs fns (nd1++w) (l6++map Node.o ns) 3 8 9 1 2,false),(1,pO mc,true),(2,pO mf,true),(3,fO fns,true),(4,pX m,true),(7,kD o' n' s' ks' ps',false),(8,gV (nd1++w),true),(9,OL (l6++map Node.o ns),true)])
    h (by rfl) (by rfl) kR0 (by rfl) (by rfl) kR0 kR0 (aCw ..) kR0 (aCw ..)
   cases hg:cI 0 m
   case some x=>
    rw [hg]at he;simp only [getD_some]at he;subst he;exact aHo nm cs fns nd L mc mf o n s ks ps env nd1 l6 m|>.t hd o' n' s' ks' ps' (by omega) hi|>.1 x hg|>.2 ns w hs' ⟨kZ0,⟨kZ0,⟨kk,⟨kZ0,⟨kk,⟨aI _ (fun _=>bE _) _,trivial⟩⟩⟩⟩⟩⟩
   rw [hg]at he;simp only [getD_none]at he;subst he;exact aHo nm cs fns nd L mc mf o n s ks ps env nd1 l6 m|>.t hd o' n' s' ks' ps' (by omega) hi|>.2 hg|>.2 ns w hs' ⟨kZ0,⟨kZ0,⟨kk,⟨kZ0,⟨kk,⟨aI _ (fun _=>bE _) _,trivial⟩⟩⟩⟩⟩⟩
  rw [hk,if_neg (by simp)]at h;refine⟨fun h=> (by cases h),fun _=>?_⟩;unfold NDP at h
  have hs':=rZ (m:=4) (ks:=[0,1,2,3,5,6]) (n2:=8) (n3:=8) (args':=[.ptr 0 0,Term.av (.mk o' n' s' ks' ps'),.ilst 1 (map aD e') false])
   (lc:=[(0,MkC nm cs fns nd1 l6 3 5 6 1 2,false),(1,pO mc,true),(2,pO mf,true),(3,fO fns,true),(4,pX m,true),(5,gV nd1,true),(6,OL l6,true),(7,kD o' n' s' ks' ps',false)])
   (lc':=[(1,pO mc,true),(2,pO mf,true),(3,fO fns,true),(4,pX m,true),(7,kD o' n' s' ks' ps',false)])
   h (by rfl) aNw kR0 (by rfl) (by rfl) kR0 kR0 (aCw ..) kR0 (aNv ..)
  cases hg:cI 0 m
  case some x=>
   rw [hg]at he;simp only [getD_some]at he;subst he;exact aHo nm cs fns nd L mc mf o n s ks ps env nd1 l6 m|>.t hd o' n' s' ks' ps' (by omega) hi|>.1 x hg|>.1 hs' ⟨kZ0,⟨kZ0,⟨kk,trivial⟩⟩⟩
  rw [hg]at he;simp only [getD_none]at he;subst he;exact aHo nm cs fns nd L mc mf o n s ks ps env nd1 l6 m|>.t hd o' n' s' ks' ps' (by omega) hi|>.2 hg|>.1 hs' ⟨kZ0,⟨kZ0,⟨kk,trivial⟩⟩⟩
end
theorem aNA :∀ {ps:List Pat},(∀p∈ps,xI p=true) →mU ps=true
 | [],_=>rfl
 |p::ps,h=>by rw [mU,h p (List.mem_cons_self ..),aNA fun q hq=>h q (List.mem_cons_of_mem _ hq)];rfl
section
variable (nm :aA) (cs:List Con) (fns:List LFun) (mc mf:List (aA×Int)) (own:List aA)
variable (nd :List aA) (L:List ONode) (o n:Int) (s:aA) (ks:List Term) (ps:List Pat) (env:List aA)
theorem aR1 (at0:Int)(m:List (Int×List aA))(nd1:List aA)(l:List ONode){ix:Nat}{a b:Int}{P:List Pat}(h:l[ix]?=some ⟨a,b,.nil,P⟩) :LeadsM PP 4 (aLf nm cs fns nd L mc mf o n s ks ps env at0 m nd1 l).as (aQW nm cs fns nd L mc mf o n s ks ps env at0 m nd1 l ix a b P).as:=
 aZS (k:=6) (e0:=4) (e:=1) kR0 kR0 (aYR (f:=ONode.av) [.int .i64 a,.int .i64 b] [.ilst 4 (av P) false] h rfl) kR0
theorem aR2 (at0:Int)(m:List (Int×List aA))(nd1:List aA)(l:List ONode)(k3:List Int)(u:Value)(i:Int){ix:Nat}{a b:Int}{P:List Pat}(h:l[ix]?=some ⟨a,b,.val u,P⟩) :LeadsM PP 4 (aLg nm cs fns nd L mc mf o n s ks ps env at0 m nd1 l k3 u i).as (aQX nm cs fns nd L mc mf o n s ks ps env at0 m nd1 l k3 i ix a b P).as:=
 aW0 (k:=6) (b:=7) (e0:=4) (e:=1) (u:=u) (xs:=map bM k3) (n:=length k3) kR0 kR0 (by decide) (length_map ..) (aYR (f:=ONode.av) [.int .i64 a,.int .i64 b] [.ilst 4 (av P) false] h rfl) kR0
variable (m :List (Int×List aA)) (hm:∀i:Nat,i<ks.length→ (cI (i:Int) m).getD env=env++cX o s ps i) (hkl:ks.length≤900)
 (ih:∀t∈ks,∀ (e nd1:List aA) (M:List ONode),e.length≤env.length+1000→M.length+cJ t≤1000000→nd1.length+cJ t≤900000→NDR nm cs fns mc mf own nd1 M t e) (hps:∀p∈ps,bA p≤1000)
include hm hkl ih hps
theorem aNB (v:Int)(P:List Pat) :∀ (ts:List Term) (i:Nat) (u:Value) (nd1:List aA) (r0:List Node) (k3:List Int),ks.drop i=ts→k3.length=i→L.length+1+r0.length+cC ts≤1000000→nd1.length+cC ts≤900000 →
  (yT cs ts=true→aVw nm cs fns mc mf L (xY nm cs fns nd L mc mf o n s ks ps env m nd1 (L++ ⟨o,v,.val u,P⟩ ::map Node.o r0) k3 u (i:Int)) (nd1++ (vX own cs o s ps ts i env nd1 (L.length+1+r0.length)).1) (⟨o,v,k3++ (vX own cs o s ps ts i env nd1 (L.length+1+r0.length)).2.1,P⟩ :: (r0++ (vX own cs o s ps ts i env nd1 (L.length+1+r0.length)).2.2))) ∧
  (yT cs ts=false→aI0 fns mc mf (xY nm cs fns nd L mc mf o n s ks ps env m nd1 (L++ ⟨o,v,.val u,P⟩ ::map Node.o r0) k3 u (i:Int)))
 | [],i,u,nd1,r0,k3,h,hk,_,_=>by
  have:=aZ h;have h1:=aHp nm cs fns nd L mc mf o n s ks ps env m nd1 (L++ ⟨o,v,.val u,P⟩ ::map Node.o r0) k3 u i|>.f sd ⟨o,v,.val u,P⟩ (uR ..) ⟨(uR ..),rfl⟩ ⟨kZ0,⟨kZ0,⟨kk,⟨kk,⟨aI _ (fun _=>bE _) _,trivial⟩⟩⟩⟩⟩;rw [uS]at h1;rw [vX];simp only [append_nil];exact⟨fun _=>h1,fun h=>by rw [yT]at h;cases h⟩
 | t ::ts,i,u,nd1,r0,k3,h,hk,hb,hn=>by
  obtain⟨g1,g2,g3⟩ :=aY h;have hi:= (List.getElem?_eq_some_iff.1 g1).1;simp only [cC]at hb hn;have hbl:=aEn hps o s i;have hlen: (L++ (⟨o,v,.val u,P⟩ :ONode) ::map Node.o r0).length=L.length+1+r0.length:=by simp;omega
  have hr:=ih _ (mem_of_getElem? g1) (env++cX o s ps i) nd1 (L++ ⟨o,v,.val u,P⟩ ::map Node.o r0) (by simp;omega) (by rw [hlen];omega) (by omega);have hkid:=aVx nm cs fns mc mf own nd L o n s ks ps env m nd1 (L++ ⟨o,v,.val u,P⟩ ::map Node.o r0) k3 u i (by omega) t _ g1 (hm i hi) hr;rw [hlen]at hkid;rw [yT,vX];have hns:=aCt own cs t (env++cX o s ps i) nd1 (L.length+1+r0.length);have hnd:=aG9 own cs t (env++cX o s ps i) nd1 (L.length+1+r0.length);cases hk1:mdT cs t
  case false=>rw [Bool.false_and];exact⟨fun h=> (by cases h),fun _=>hkid.2 hk1⟩
  rw [Bool.true_and];have h0:=hkid.1 hk1;generalize uT own cs t (env++cX o s ps i) nd1 (L.length+1+r0.length) =q at h0 hns hnd ⊢;obtain⟨w,ns⟩ :=q;simp only at h0 hns hnd ⊢;have e2: (L++ (⟨o,v,.val u,P⟩ :ONode) ::map Node.o r0) ++map Node.o ns=L++ ⟨o,v,.val u,P⟩ ::map Node.o (r0++ns) :=by simp
  rw [e2]at h0;have R:=fun(ua:Option Addr) (un uc:Nat) =>aNB v P ts (i+1) (.slice ua un uc) (nd1++w) (r0++ns) (k3++ [((L.length+1+r0.length:Nat) :Int)]) g2 (by simp [hk]) (by simp;omega) (by simp;omega);rw [show L.length+1+ (r0++ns).length=L.length+1+r0.length+ns.length by simp;omega]at R;simp only [append_assoc,singleton_append]at R;have O:= (h0.trans (aR2 nm cs fns mc mf nd L o n s ks ps env _ m (nd1++w) (L++ ⟨o,v,.val u,P⟩ ::map Node.o (r0++ns)) k3 u i (uR L _ _)));refine⟨fun hk2=>?_,fun hk2=>?_⟩
  · refine O.ends ?_;refine aQZ nm cs fns nd L mc mf o n s ks ps env _ m (nd1++w) _ k3 i (length L) o v P (by omega) (by simp;omega) (by omega) (by simp) (by simp;omega) sd (fun ua un uc=>?_);dsimp only;rw [uS];exact(R ua un uc).1 hk2
  · refine O.ends ?_;refine aQZ nm cs fns nd L mc mf o n s ks ps env _ m (nd1++w) _ k3 i (length L) o v P (by omega) (by simp;omega) (by omega) (by simp) (by simp;omega) sd (fun ua un uc=>?_);dsimp only;rw [uS];exact(R ua un uc).2 hk2
theorem aVz (v:Int)(P:List Pat)(nd1:List aA)(hb:L.length+1+cC ks≤1000000)(hn:nd1.length+cC ks≤900000) :
  (yT cs ks=true→aVw nm cs fns mc mf L (tY nm cs fns nd L mc mf o n s ks ps env nd1 (L++ [⟨o,v,.nil,P⟩]) m) (nd1++ (vX own cs o s ps ks 0 env nd1 (L.length+1)).1) (⟨o,v,(vX own cs o s ps ks 0 env nd1 (L.length+1)).2.1,P⟩ :: (vX own cs o s ps ks 0 env nd1 (L.length+1)).2.2)) ∧
  (yT cs ks=false→aI0 fns mc mf (tY nm cs fns nd L mc mf o n s ks ps env nd1 (L++ [⟨o,v,.nil,P⟩]) m)) :=by
 cases hks:ks with
 | nil=>
  subst hks;have h1:=aHo nm cs fns nd L mc mf o n s [] ps env nd1 (L++ [⟨o,v,.nil,P⟩]) m|>.f (by simp) ⟨o,v,.nil,P⟩ (uR ..) ⟨(uR ..),rfl⟩ ⟨kZ0,⟨kZ0,⟨kk,⟨kk,⟨aI _ (fun _=>bE _) _,trivial⟩⟩⟩⟩⟩;rw [uS]at h1;rw [vX];simp only [append_nil];exact⟨fun _=>h1,fun h=>by rw [yT]at h;cases h⟩
 | cons t ts=>
  have g1:ks[0]?=some t:=by rw [hks];rfl
  have hi:0<ks.length:=by rw [hks];simp
  rw [←hks];have hbl:=aEn hps o s 0;have hlen: (L++ [(⟨o,v,.nil,P⟩ :ONode)]).length=L.length+1:=by simp
  have hb0:cJ t+cC ts=cC ks:=by rw [hks,cC]
  have hr:=ih _ (mem_of_getElem? g1) (env++cX o s ps 0) nd1 (L++ [⟨o,v,.nil,P⟩]) (by simp;omega) (by rw [hlen];omega) (by omega);have hm0:=hm 0 hi;have e0: ((0:Nat) :Int) =0:=rfl;rw [e0]at hm0;have hr2:NDR nm cs fns mc mf own nd1 (L++ [(⟨o,v,.nil,P⟩ :ONode)]) t (env++cX o s ps 0) :=hr;have hkid:=aVy nm cs fns mc mf own nd L o n s ks ps env m nd1 (L++ [(⟨o,v,.nil,P⟩ :ONode)]) t (env++cX o s ps 0) g1 hm0 hr2;rw [hlen]at hkid;have ep:vX own cs o s ps ks 0 env nd1 (L.length+1) =vX own cs o s ps (t::ts) 0 env nd1 (L.length+1) :=by rw [hks]
  have em:yT cs ks=yT cs (t::ts) :=by rw [hks]
  rw [ep,em,yT,vX];have hns:=aCt own cs t (env++cX o s ps 0) nd1 (L.length+1);have hnd:=aG9 own cs t (env++cX o s ps 0) nd1 (L.length+1);cases hk1:mdT cs t
  case false=>rw [Bool.false_and];exact⟨fun h=> (by cases h),fun _=>hkid.2 hk1⟩
  rw [Bool.true_and];have h0:=hkid.1 hk1;generalize uT own cs t (env++cX o s ps 0) nd1 (L.length+1) =q at h0 hns hnd ⊢;obtain⟨w,ns⟩ :=q;simp only at h0 hns hnd ⊢;have e2: (L++ [(⟨o,v,.nil,P⟩ :ONode)]) ++map Node.o ns=L++ ⟨o,v,.nil,P⟩ ::map Node.o ns:=by simp
  rw [e2]at h0;have R:=fun(ua:Option Addr) (un uc:Nat) =>aNB nm cs fns mc mf own nd L o n s ks ps env m hm hkl ih hps v P ts 1 (.slice ua un uc) (nd1++w) ns [((L.length+1:Nat) :Int)] (by rw [hks];rfl) rfl (by omega) (by simp;omega);simp only [append_assoc,singleton_append]at R;have O:= (h0.trans (aR1 nm cs fns mc mf nd L o n s ks ps env _ m (nd1++w) (L++ ⟨o,v,.nil,P⟩ ::map Node.o ns) (uR L _ _)));refine⟨fun hk2=>?_,fun hk2=>?_⟩
  · refine O.ends ?_;refine aQY nm cs fns nd L mc mf o n s ks ps env _ m (nd1++w) _ (length L) o v P (by omega) (by simp;omega) (by omega) (by simp) (by simp) (fun ua un uc=>?_);dsimp only;rw [uS];exact(R ua un uc).1 hk2
  · refine O.ends ?_;refine aQY nm cs fns nd L mc mf o n s ks ps env _ m (nd1++w) _ (length L) o v P (by omega) (by simp;omega) (by omega) (by simp) (by simp) (fun ua un uc=>?_);dsimp only;rw [uS];exact(R ua un uc).2 hk2
end
mutual
theorem aNC (nm:aA)(cs:List Con)(fns:List LFun)(mc mf:List (aA×Int))(own:List aA)(hcm:aNr cs mc)(hfm:aR0 own mf)(hol:own.length≤1000) :∀ (t:Term) (env nd:List aA) (L:List ONode),cJ t≤900→tsm t=true→kQ t=true→env.length+1000*fD t≤700000→L.length+cJ t≤1000000→nd.length+cJ t≤900000 →
  NDR nm cs fns mc mf own nd L t env
 | .mk o n s ks ps,env,nd,L,hz,hs,hF,he,hU,hN=>by
  simp only [cJ]at hz hU hN;simp only [fD]at he;have hkl:=rP ks;rw [tsm]at hs;simp only [and_eq_true,decide_eq_true_eq]at hs;obtain⟨⟨⟨_,hpl⟩,hsp⟩,hsk⟩ :=hs;rw [kQ]at hF;simp only [and_eq_true]at hF;obtain⟨⟨hH,hPF⟩,hFk⟩ :=hF
  have hps:∀p∈ps,bA p≤1000:=fun p hp=>by
   have:=List.all_eq_true.1 hsp p hp;simp only [mS,and_eq_true,decide_eq_true_eq]at this;omega
  have hpf:∀p∈ps,xI p=true:=fun p hp=>by
   have:=List.all_eq_true.1 hPF p hp;simp only [aFi,and_eq_true,decide_eq_true_eq]at this;exact this.1.2
  have hPF:=aNA hpf;have hhl:=aEr own cs nd env o n s;have A:=fun v nd1=>aNz nm cs fns mc mf nd L o n s ks ps env v nd1 (by omega) (by omega) (fun p hp=> ⟨hpf p hp,hps p hp⟩) hcm ps 0 [] [] rfl rfl (by omega) (MoreI.nil env ps)
  have W : ∀ (v:Int) (nd1:List aA),nd1.length+cC ks≤900000 →
    ((ps.all (knP cs) &&yT cs ks) =true→aVw nm cs fns mc mf L (nW nm cs fns nd L mc mf o n s ks ps env v nd1 0 [] []) (nd1++ (vX own cs o s ps ks 0 env nd1 (L.length+1)).1) (⟨o,v,(vX own cs o s ps ks 0 env nd1 (L.length+1)).2.1,iJ cs ps⟩ :: (vX own cs o s ps ks 0 env nd1 (L.length+1)).2.2)) ∧
    ((ps.all (knP cs) &&yT cs ks) =false→aI0 fns mc mf (nW nm cs fns nd L mc mf o n s ks ps env v nd1 0 [] [])) :=fun v nd1 hn1=>by
   have a:=A v nd1;cases hk:ps.all (knP cs)
   case false=>rw [Bool.false_and];exact⟨fun h=> (by cases h),fun _=>a.2 hk⟩
   rw [Bool.true_and];obtain⟨m',hm',hl⟩ :=a.1 hk;obtain⟨q1,q2,q3⟩ :=aXk hH hPF hm';have K:=aVz nm cs fns mc mf own nd L o n s ks ps env _ q1 (by omega) (fun t ht e nd2 M h1 h2 h3=>aQ0 nm cs fns mc mf own hcm hfm hol ks (by omega) hsk hFk t ht e nd2 M (by omega) h2 h3) hps v (iJ cs ps) nd1 (by omega) hn1
   have hcl:=aVv (xs:=env) (by omega) (lc:=[(0,MkC nm cs fns nd1 L 3 7 8 1 2,false),(1,pO mc,true),(2,pO mf,true),(3,fO fns,true),(4,kD o n s ks ps,false),(5,.cells (putCells .leaf 0 [.int .i64 o,.int .i64 v,.nils,.gl 9 4 0 (length (iJ cs ps)) false]) 4 [] false,false),(6,pX m',true),(7,gV nd1,true),(8,OL L,true),(9,PLs (iJ cs ps),true)]) (n2:=11)
    (hh:=aG [(0,MkC nm cs fns nd1 L 3 7 8 1 2,false),(1,pO mc,true),(2,pO mf,true),(3,fO fns,true),(4,kD o n s ks ps,false),(5,.cells (putCells .leaf 0 [.int .i64 o,.int .i64 v,.nils,.gl 9 4 0 (length (iJ cs ps)) false]) 4 [] false,false),(6,pX m',true),(7,gV nd1,true),(8,OL L,true),(9,PLs (iJ cs ps),true),(11,gV env,true)] 12)
   have S :LeadsM PP 4 (nW nm cs fns nd L mc mf o n s ks ps env v nd1 (ps.length:Int) m' ([] ++iJ cs ps)).as (tY nm cs fns nd L mc mf o n s ks ps env nd1 (L++ [⟨o,v,.nil,iJ cs ps⟩]) (if o=5∨o=27 then bS 0 (env++ [s]) m' else if o=7 then bS 1 (env++ [s]) m' else m')).as:=by
    rw [nil_append];have hd: (decide (((ps.length:Nat) :Int) < ((length ps:Nat) :Int))) =false:=by simp
    by_cases h5:o=5
    · rw [if_pos (.inl h5)];exact aHn nm cs fns nd L mc mf o n s ks ps env v nd1 _ m' (iJ cs ps)|>.f hd|>.t (by simp [h5]) hcl (by simp;omega) q2 q2 q2 (by simp;omega) ⟨kZ0,⟨kZ0,⟨kk,⟨kZ0,⟨kk,⟨aI _ (fun _=>bE _) _,trivial⟩⟩⟩⟩⟩⟩
    · by_cases h27:o=27
      · rw [if_pos (.inr h27)];exact aHn nm cs fns nd L mc mf o n s ks ps env v nd1 _ m' (iJ cs ps)|>.f hd|>.f (by simp [h5])|>.t (by simp [h27]) hcl (by simp;omega) q2 q2 q2 (by simp;omega) ⟨kZ0,⟨kZ0,⟨kk,⟨kZ0,⟨kk,⟨aI _ (fun _=>bE _) _,trivial⟩⟩⟩⟩⟩⟩
      · rw [if_neg (by simp [h5,h27])];by_cases h7:o=7
        · rw [if_pos h7];exact aHn nm cs fns nd L mc mf o n s ks ps env v nd1 _ m' (iJ cs ps)|>.f hd|>.f (by simp [h5])|>.f (by simp [h27])|>.t (by simp [h7]) hcl (by simp;omega) (q3 h7) (q3 h7) (q3 h7) (by simp;omega) ⟨kZ0,⟨kZ0,⟨kk,⟨kZ0,⟨kk,⟨aI _ (fun _=>bE _) _,trivial⟩⟩⟩⟩⟩⟩
        · rw [if_neg h7];exact aHn nm cs fns nd L mc mf o n s ks ps env v nd1 _ m' (iJ cs ps)|>.f hd|>.f (by simp [h5])|>.f (by simp [h27])|>.f (by simp [h7]) (by simp;omega) ⟨kZ0,⟨kZ0,⟨kk,⟨kZ0,⟨kk,⟨aI _ (fun _=>bE _) _,trivial⟩⟩⟩⟩⟩⟩
   exact⟨fun h=> (hl.trans S).ends (K.1 h),fun h=> (hl.trans S).ends (K.2 h)⟩
  unfold NDR;rw [mdT,mdH];by_cases h14:o=14
  · rw [if_pos h14];have h4:¬o=4:=by omega
    have hq:=aVo nm cs fns nd L mc mf (s:=s) (k:= (length ks:Int)) hcm (lc:=yW nm cs fns nd L mc mf++ [(6,kD o n s ks ps,false),(7,.cells (putCells .leaf 0 [.int .i64 o,.int .i64 n,.nils,.nils]) 4 [] false,false)]) (n2:=8);cases hk:ckn cs s (length ks)
    case false=>
     rw [hk]at hq;rw [Bool.false_and,Bool.false_and,if_neg (by simp)];exact⟨(vI nm cs fns nd L mc mf o n s ks ps env).as.fr,by kernel_rfl,mp kR0 (aLh nm cs fns nd L mc mf o n s ks ps env|>.f (by simp [h4])|>.t (by simp [h14])|>.1 hq ⟨kZ0,⟨kZ0,⟨kk,trivial⟩⟩⟩)⟩
    rw [hk]at hq;rw [Bool.true_and];have w:=W (dX s cs 0) nd (by omega);have h0:=aLh nm cs fns nd L mc mf o n s ks ps env|>.f (by simp [h4])|>.t (by simp [h14])|>.2 _ hq ⟨kZ0,⟨kZ0,⟨kk,⟨kZ0,⟨kk,⟨aI _ (fun _=>bE _) _,⟨dV,trivial⟩⟩⟩⟩⟩⟩⟩;cases hk2: (ps.all (knP cs) &&yT cs ks)
    case false=>
     rw [if_neg (by simp)];exact⟨(vI nm cs fns nd L mc mf o n s ks ps env).as.fr,by kernel_rfl,mp kR0 (h0.ends (w.2 hk2))⟩
    rw [if_pos rfl,uT];have eh:mC own cs nd env o n s= (dX s cs 0,[]) :=by unfold mC;rw [if_neg h4,if_pos h14]
    rw [eh];simp only [nil_append,append_nil];exact⟨(vI nm cs fns nd L mc mf o n s ks ps env).as.fr,by kernel_rfl,mp kR0 (h0.ends (w.1 hk2))⟩
  · rw [if_neg h14,Bool.true_and];have H:LeadsM PP 4 (vI nm cs fns nd L mc mf o n s ks ps env).as (nW nm cs fns nd L mc mf o n s ks ps env (mC own cs nd env o n s).1 (nd++ (mC own cs nd env o n s).2) 0 [] []).as:=by
     unfold mC;by_cases h4:o=4
     · rw [if_pos h4]
       have hs':=iY (m:=4) (ks:=[0,1,2,3,4,5]) (n2:=8) (n3:=10) (v':=.int .i64 (aBR own nd env s).1) (args':=[.ptr 0 0,aD s,.ilst 1 (map aD env) false])
        (lc:=yW nm cs fns nd L mc mf++ [(6,kD o n s ks ps,false),(7,.cells (putCells .leaf 0 [.int .i64 o,.int .i64 n,.nils,.nils]) 4 [] false,false)])
        (lc':=[(0,MkC nm cs fns (nd++ (aBR own nd env s).2) L 3 8 9 1 2,false),(1,pO mc,true),(2,pO mf,true),(3,fO fns,true),(6,kD o n s ks ps,false),(7,.cells (putCells .leaf 0 [.int .i64 o,.int .i64 n,.nils,.nils]) 4 [] false,false),(8,gV (nd++ (aBR own nd env s).2),true),(9,OL L,true)])
        (aVq nm cs fns nd L mc mf s env own hfm hol (by omega) (by omega)) (by rfl) (by rfl) kR0 (by rfl) (by rfl) kR0 kR0 (aCw ..) kR0 (aCw ..)
       exact aLh nm cs fns nd L mc mf o n s ks ps env|>.t (by simp [h4]) _ _ hs' ⟨kZ0,⟨kZ0,⟨kk,⟨kZ0,⟨kk,⟨aI _ (fun _=>bE _) _,⟨dV,trivial⟩⟩⟩⟩⟩⟩⟩
     · rw [if_neg h4,if_neg h14];simp only [append_nil];exact aLh nm cs fns nd L mc mf o n s ks ps env|>.f (by simp [h4])|>.f (by simp [h14]) ⟨kZ0,⟨kZ0,⟨kk,⟨kZ0,⟨kk,⟨aI _ (fun _=>bE _) _,⟨dV,trivial⟩⟩⟩⟩⟩⟩⟩
    have w:=W (mC own cs nd env o n s).1 (nd++ (mC own cs nd env o n s).2) (by simp;omega);cases hk2: (ps.all (knP cs) &&yT cs ks)
    case false=>
     rw [if_neg (by simp)];exact⟨(vI nm cs fns nd L mc mf o n s ks ps env).as.fr,by kernel_rfl,mp kR0 (H.ends (w.2 hk2))⟩
    rw [if_pos rfl,uT];have w1:=w.1 hk2;rw [append_assoc]at w1;exact⟨(vI nm cs fns nd L mc mf o n s ks ps env).as.fr,by kernel_rfl,mp kR0 (H.ends w1)⟩
theorem aQ0 (nm:aA)(cs:List Con)(fns:List LFun)(mc mf:List (aA×Int))(own:List aA)(hcm:aNr cs mc)(hfm:aR0 own mf)(hol:own.length≤1000) :∀ (ts:List Term),cC ts≤900→aEj ts=true→rJ ts=true→∀t∈ts,∀ (env nd:List aA) (L:List ONode),env.length+1000*fJ ts≤700000→L.length+cJ t≤1000000→nd.length+cJ t≤900000 →
  NDR nm cs fns mc mf own nd L t env
 | [],_,_,_,t,ht=>by cases ht
 | u::ts,hz,hs,hF,t,ht=>by
  simp only [cC]at hz;rw [aEj,and_eq_true]at hs;rw [rJ,and_eq_true]at hF;rcases List.mem_cons.1 ht with e|ht
  ·rw [e];exact fun env nd L he h1 h2=>aNC nm cs fns mc mf own hcm hfm hol u env nd L (by omega) hs.1 hF.1 (by simp only [fJ]at he;omega) h1 h2
  ·exact fun env nd L he h1 h2=>aQ0 nm cs fns mc mf own hcm hfm hol ts (by omega) hs.2 hF.2 t ht env nd L (by simp only [fJ]at he;omega) h1 h2
end
structure IdxM (ks:List aA) (m:List (aA×Int)) :Prop where
 len:m.length≤ks.length
 eq: (m.length=ks.length) ↔cU ks=true
 key:∀s,(cI s m).isSome=cA ks s
 val:cU ks=true→∀s,cI s m=if cA ks s=true then some (dB s ks 0)else none
theorem IdxM.nil :IdxM [] [] := ⟨Nat.le_refl _,by simp [cU,cM],fun s=>by simp [cI,cA],fun _ s=>by simp [cI,cA]⟩
theorem aDG {α β:Type}[DecidableEq α]{k:α}{v w:β}:∀ {l:List (α×β)},cI k l=some w→ (bS k v l).length=l.length
 | [],h=>by cases h
 | e::l,h=>by
  unfold cI at h;unfold bS;split at h
  ·rename_i hk;rw [if_pos hk];rfl
  ·rename_i hk;rw [if_neg hk,length_cons,length_cons,aDG h]
theorem IdxM.snoc {ks:List aA}{m:List (aA×Int)}(h:IdxM ks m)(s:aA) :IdxM (ks++ [s]) (bS s ((ks.length:Nat) :Int) m) :=by
 have hk:=h.key s;cases hg:cI s m with
 | none=>
  rw [hg]at hk;have hb:cA ks s=false:=by simpa using hk.symm
  have hl:=rI hg ((ks.length:Nat) :Int);refine⟨by rw [←hl];have:=h.len;simp;omega,?_,fun k=>?_,fun hd k=>?_⟩
  · rw [←hl,nA,hb];have:=h.eq;simp only [List.length_append,List.length_singleton,Nat.succ_eq_add_one,Nat.add_right_cancel_iff,Bool.not_false,Bool.and_true];exact this
  · rw [jS,rX];by_cases e:k=s
    ·subst e;rw [if_pos rfl];simp [cA]
    · rw [if_neg e,h.key k];have:cA [s] k=false:=by simp [cA];exact fun h=>e h.symm
      rw [this,Bool.or_false]
  · rw [nA,hb]at hd;simp only [Bool.not_false,Bool.and_true]at hd;rw [jS,rX,vH];by_cases e:k=s
    ·subst e;rw [if_pos rfl,hb];simp [cA,dB]
    · rw [if_neg e,h.val hd k];have:cA [s] k=false:=by simp [cA];exact fun h=>e h.symm
      rw [this,Bool.or_false];cases hq:cA ks k<;>simp
 | some w=>
  rw [hg]at hk;have hb:cA ks s=true:=by simpa using hk.symm
  have hl:=aDG (v:= ((ks.length:Nat) :Int)) hg;have hdf:cU (ks++ [s]) =false:=by rw [nA,hb];simp
  refine⟨by rw [hl];have:=h.len;simp;omega,?_,fun k=>?_,fun hd=>by rw [hdf]at hd;cases hd⟩
  · rw [hl,hdf];have:=h.len;simp;omega
  · rw [jS,rX];by_cases e:k=s
    ·subst e;rw [if_pos rfl];simp [cA]
    · rw [if_neg e,h.key k];have:cA [s] k=false:=by simp [cA];exact fun h=>e h.symm
      rw [this,Bool.or_false]
theorem aI1 (s:aA) :∀ (cs:List Con) (i:Nat),dX s cs (i:Int) =dB s (cs.map Con.name) i
 | [],_=>rfl
 | c ::cs,i=>by
  rw [List.map_cons,dX,dB];by_cases e:c.name=s
  ·rw [if_pos e,if_pos e]
  · rw [if_neg e,if_neg e];exact aI1 s cs (i+1)
theorem IdxM.con {cs:List Con}{m:List (aA×Int)}(h:IdxM (cs.map Con.name) m)(hd:cU (cs.map Con.name) =true) :aNr cs m:=fun s=>by
 have e:dX s cs 0=dB s (cs.map Con.name) 0:=aI1 s cs 0;rw [h.val hd s,e];have:=aA3 s (cs.map Con.name) 0;cases hb:cA (cs.map Con.name) s
 case true=>
  have:¬dB s (cs.map Con.name) 0<0:=fun q=>by rw [this,hb]at q;cases q
  rw [if_pos rfl,if_pos (by omega)]
 have:dB s (cs.map Con.name) 0<0:=this.2 hb;rw [if_neg (by simp),if_neg (by omega)]
theorem IdxM.fn {own:List aA}{m:List (aA×Int)}(h:IdxM own m)(hd:cU own=true) :aR0 own m:= ⟨h.eq.2 hd,h.val hd⟩
def uF (own:List aA)(cs:List Con) :List FunD→List aA→Nat→List LFun×List aA×List Node
 | [],_,_=> ([],[],[])
 | .mk nm p _ _ b::fs,nd,a=>
  (⟨nm,((a:Nat) :Int)⟩ :: (uF own cs fs (nd++ (uT own cs b [p] nd a).1) (a+ (uT own cs b [p] nd a).2.length)).1,
   (uT own cs b [p] nd a).1++ (uF own cs fs (nd++ (uT own cs b [p] nd a).1) (a+ (uT own cs b [p] nd a).2.length)).2.1,
   (uT own cs b [p] nd a).2++ (uF own cs fs (nd++ (uT own cs b [p] nd a).1) (a+ (uT own cs b [p] nd a).2.length)).2.2)
def mdF (cs:List Con) :FunD→Bool
 | .mk _ _ _ _ b=>mdT cs b
def sD (l:List Node) :Bool:=l.any fun x=>decide (x.op=4) &&decide (30≤x.n)
def jZ (m:Mod) :LUnit:= ⟨m.name,dK m,(uF (m.funs.map FunD.nm) (dK m) m.funs [] 0).1,(uF (m.funs.map FunD.nm) (dK m) m.funs [] 0).2.1,(uF (m.funs.map FunD.nm) (dK m) m.funs [] 0).2.2⟩
def mD (m:Mod) :LUnit×Int:=
 if aBO m=true then
  if(cU ((dK m).map Con.name) &&cU (m.funs.map FunD.nm) &&m.funs.all (mdF (dK m))) =true then
   if(sD (jZ m).nodes||decide (20< (jZ m).needs.length)) =true then(aDA,3)else(jZ m,0)
  else(aDA,7)
 else(aDA,2)
theorem lC {E:Emb}{e:Int}{cv:Value}(h:VR E (.tup [.agg [.str 0 0,.nils,.nils,.nils,.nils],.int .i64 e]) cv) :VR E (.tup [LUnit.av aDA,.int .i64 e]) cv:=by
 simp only [VR]at h ⊢;obtain⟨us,h1,h2⟩ :=h;obtain⟨u,us',rfl,h3,h4⟩ :=h2.cons_inv;simp only [VR]at h3;obtain⟨ws,rfl,h5⟩ :=h3;obtain⟨a1,w1,rfl,c1,h5⟩ :=h5.cons_inv;obtain⟨a2,w2,rfl,c2,h5⟩ :=h5.cons_inv;obtain⟨a3,w3,rfl,c3,h5⟩ :=h5.cons_inv;obtain⟨a4,w4,rfl,c4,h5⟩ :=h5.cons_inv;obtain⟨a5,w5,rfl,c5,h5⟩ :=h5.cons_inv;refine⟨_,h1,VRs.cons ?_ h4⟩;simp only [LUnit.av,VR];exact⟨_,rfl,VRs.cons c1 (VRs.cons (rV _ c2) (VRs.cons (rV _ c3) (VRs.cons (rV _ c4) (VRs.cons (rV _ c5) h5))))⟩
theorem aXm {nm:aA}{cs:List Con}{fns:List LFun}{mc mf:List (aA×Int)}{nd:List aA}{L:List ONode}{t:Term}{q:aA}{r:List aA×List Node}(h:NDS nm cs fns mc mf nd L t [q] r) :
  nE PP 4 (.enter 82 [.ptr 0 0,Term.av t,.slice 6 0 1 1 1 true]) (aG (yW nm cs fns nd L mc mf++ [(6,yS q,false)]) 7) (.ret (.int .i64 ((length L:Nat) :Int))) (aG (yW nm cs fns (nd++r.1) (L++map Node.o r.2) mc mf) 6) :=by
 obtain⟨o,n,s,ks,ps⟩ :=t;obtain⟨g,hg,he⟩ :=h;have e:some g=some (vI nm cs fns nd L mc mf o n s ks ps [q]).as.fr:=hg.symm.trans kR0;cases e;have lead:LeadsM PP 4 (bH PP 82 [.ptr 0 0,Term.av (.mk o n s ks ps),.slice 6 0 1 1 1 true] (yW nm cs fns nd L mc mf++ [(6,yS q,false)]) 7).as (vI nm cs fns nd L mc mf o n s ks ps [q]).as:=
  aAS (n1:=7) (ks:=[4,5]) (ps:=[getCells (putCells .leaf 0 [aD q]) 0 (1*1) =some [aD q],cQ [aD q] =true,[aD q] =map aD [q],AV.keylessL (map aD [q]) =true,AV.frzOk 6 1 (map aD [q]) (map aD [q]) (.gl 6 1 0 (length [q]) false)])
   (is:=[.toL 2 false [aD q],.lset 6 (map aD [q]),.weak 2,.frz 2 6 (map aD [q])]) kR0 kR0 (aCw ..) ⟨rfl,rfl,rfl,rfl,nP _ _⟩
 refine⟨(bH PP 82 [.ptr 0 0,Term.av (.mk o n s ks ps),.slice 6 0 1 1 1 true] (yW nm cs fns nd L mc mf++ [(6,yS q,false)]) 7).as.fr,by kernel_rfl,?_⟩;have he2:Ends PP 4 (vI nm cs fns nd L mc mf o n s ks ps [q]).as (.ret (.int .i64 ((length L:Nat) :Int))) (aG (yW nm cs fns (nd++r.1) (L++map Node.o r.2) mc mf) 6) :=mp kR0 he;exact mp kR0 (lead.ends he2)
theorem aXn {nm:aA}{cs:List Con}{fns:List LFun}{mc mf:List (aA×Int)}{nd:List aA}{L:List ONode}{t:Term}{q:aA}(h:NDP nm cs fns mc mf nd L t [q]) :
  nE PP 4 (.enter 82 [.ptr 0 0,Term.av t,.slice 6 0 1 1 1 true]) (aG (yW nm cs fns nd L mc mf++ [(6,yS q,false)]) 7) Rf7 (aG (aNu fns mc mf) 4) :=by
 obtain⟨o,n,s,ks,ps⟩ :=t;obtain⟨g,hg,he⟩ :=h;have e:some g=some (vI nm cs fns nd L mc mf o n s ks ps [q]).as.fr:=hg.symm.trans kR0;cases e;have lead:LeadsM PP 4 (bH PP 82 [.ptr 0 0,Term.av (.mk o n s ks ps),.slice 6 0 1 1 1 true] (yW nm cs fns nd L mc mf++ [(6,yS q,false)]) 7).as (vI nm cs fns nd L mc mf o n s ks ps [q]).as:=
  aAS (n1:=7) (ks:=[4,5]) (ps:=[getCells (putCells .leaf 0 [aD q]) 0 (1*1) =some [aD q],cQ [aD q] =true,[aD q] =map aD [q],AV.keylessL (map aD [q]) =true,AV.frzOk 6 1 (map aD [q]) (map aD [q]) (.gl 6 1 0 (length [q]) false)])
   (is:=[.toL 2 false [aD q],.lset 6 (map aD [q]),.weak 2,.frz 2 6 (map aD [q])]) kR0 kR0 (aCw ..) ⟨rfl,rfl,rfl,rfl,nP _ _⟩
 refine⟨(bH PP 82 [.ptr 0 0,Term.av (.mk o n s ks ps),.slice 6 0 1 1 1 true] (yW nm cs fns nd L mc mf++ [(6,yS q,false)]) 7).as.fr,by kernel_rfl,?_⟩;have he2:Ends PP 4 (vI nm cs fns nd L mc mf o n s ks ps [q]).as Rf7 (aG (aNu fns mc mf) 4) :=mp kR0 he;exact mp kR0 (lead.ends he2)
abbrev cZ (a:Nat)(b:List (aA×Int)):Nat×AObj×Bool:=(a,.map (aK aD bM 0 b) b.length,true)
abbrev fX (a:Nat):=oC a [.str 0 0,.nils,.nils,.nils,.nils]
abbrev aDH (a:Nat)(b:List LFun):=oL a 2 (map LFun.av b)
abbrev aLj:AV:=.gl 6 1 0 ([] :List aA).length false
abbrev aLk:AV:=.gl 7 4 0 ([] :List ONode).length false
abbrev aZ6 (a:Nat)(b:Mod)(c:List Con)(d:List LFun):=oC a [aD b.name,.gl 4 2 0 c.length false,.gl 5 2 0 d.length false,aLj,aLk,.map 8,.map 9]
abbrev aDI (a:Mod):AV:=.ilst 2 (map DataD.av a.datas) false
abbrev aLl (a:Mod):AV:=.ilst 15 (FunDs.av a.funs) false
abbrev aBb (a:Nat)(b:Mod):=oC a [aD b.name,aDI b,aLl b]
abbrev aQ1 (a:Nat):=oL a 1 (map aD ([] :List aA))
abbrev aQ2 (a:Nat):=oL a 4 (map ONode.av ([] :List ONode))
abbrev aFI (a:Mod)(b:List Con)(c:List LFun)(d e:List (aA×Int)):=[aBb 0 a,fX 1,oC 2 [nI 0],aZ6 3 a b c,oL 4 2 (jC b),aDH 5 c,aQ1 6,aQ2 7,cZ 8 d,cZ 9 e]
abbrev aXo (a:Nat):Nat×AObj×Bool:=(a,.map (aK aD bM 0 ([] :List (aA×Int))) ([] :List (aA×Int)).length,true)
abbrev aZ7 (a:Nat)(b:Mod)(c:List Con):=oC a [aD b.name,.gl 4 2 0 c.length false,.gl 5 2 0 ([] :List LFun).length false,aLj,aLk,.map 8,.map 9]
abbrev aQ3 (a:Mod)(b:List Con)(c:List (aA×Int)):=[aBb 0 a,fX 1,oC 2 [nI 0],aZ7 3 a b,oL 4 2 (jC b),oL 5 2 (map LFun.av ([] :List LFun)),aQ1 6,aQ2 7,cZ 8 c,aXo 9]
abbrev aFJ (a:List Term):AV:=.ilst 5 (Terms.av a) false
abbrev aFK (a:List Typ):AV:=.ilst 4 (Typs.av a) false
abbrev aFL (a:Mod)(b:List Con)(c:List LFun)(d e:List (aA×Int)):=aG [oC 0 [aD a.name,.ilst 2 (map DataD.av a.datas) false,.ilst 15 (FunDs.av a.funs) false],oC 1 [.str 0 0,.nils,.nils,.nils,.nils],oC 2 [nI 0],oC 3 [aD a.name,.gl 4 2 0 b.length false,.gl 5 2 0 c.length false,.gl 6 1 0 ([] :List aA).length false,.gl 7 4 0 ([] :List ONode).length false,.map 8,.map 9],oL 4 2 (jC b),oL 5 2 (map LFun.av c),oL 6 1 (map aD ([] :List aA)),oL 7 4 (map ONode.av ([] :List ONode)),(8,.map (aK aD bM 0 d) d.length,true),(9,.map (aK aD bM 0 e) e.length,true)] 10
abbrev aFM (a:Nat)(b c:aA)(d e:Int)(f:aA)(g:List Typ)(h i:Int)(j:aA)(k:List Typ)(l m:Int)(n:aA)(o:List Term)(p:List Pat):=oC a [aD b,aD c,nI d,nI e,aD f,aFK g,nI h,nI i,aD j,aFK k,nI l,nI m,aD n,aFJ o,iP p]
abbrev aLm (a:Nat)(b:Mod)(c:List Con)(d:List LFun)(e:List aA)(f:List ONode):=oC a [aD b.name,iC c,.gl 4 2 0 d.length false,.gl 5 1 0 e.length false,.gl 6 4 0 f.length false,.map 7,.map 8]
abbrev aQ4:AV:=.agg [.str 0 0,.nils,.nils,.nils,.nils]
abbrev oS (a:Nat)(b:List (aA×Int)):Nat×AObj×Bool:=(a,.map (aK aD bM 0 b) b.length,true)
abbrev aDJ (a:Nat):=oC a [.str 0 0,.nils,.nils,.nils,.nils]
abbrev aLn:AV:=.iface 174 (.agg [nI 7])
abbrev aDK (a:Nat)(b:List LFun):=oL a 2 (map LFun.av b)
abbrev aVA (a:List (aA×Int))(b:Mod)(c:List Con)(d:List LFun)(e:List (aA×Int)):=Spec PP (.enter 46 [bV (decide (((aK aD bM 0 a).length:Int) < (b.funs.length:Int))),nI 7]) (aFL b c d e a) (.pan [(aLn,false)]) (aFL b c d e a)
abbrev aVB (a:Mod)(b:List Con)(c:List LFun)(d e:List (aA×Int)):=Spec PP (.enter 46 [bV true,nI 7]) (aFL a b c d e) (.pan [(aLn,false)]) (aFL a b c d e)
abbrev aVC (a b:Int)(c:aA)(d:List Term)(e:List Pat)(f:Mod)(g:List Con)(h:List LFun)(i:List aA)(j:List ONode)(k l:aA)(m n:Int)(o:aA)(p:List Typ)(q r:Int)(s:aA)(t:List Typ)(u v:List (aA×Int)):=Spec PP (.enter 82 [.ptr 2 0,.agg [nI a,nI b,aD c,aFJ d,iP e],.slice 9 0 1 1 1 true]) (aG [aDJ 0,oC 1 [nI 0],aLm 2 f g h i j,aFM 3 k l m n o p q r s t a b c d e,aDK 4 h,oL 5 1 (map aD i),oL 6 4 (map ONode.av j),oS 7 u,oS 8 v,oC 9 [aD l]] 10) (.pan [(aLn,false)]) (aG [aDJ 0,oC 1 [nI 0],aFM 3 k l m n o p q r s t a b c d e,aDK 4 h,oS 7 u,oS 8 v] 10)
abbrev aVD (a:Mod)(b:List Con)(c:List LFun)(d e:List aA)(f:List ONode)(g:List Node)(h i:aA)(j k:Int)(l:aA)(m:List Typ)(n o:Int)(p:aA)(q:List Typ)(r s:Int)(t:aA)(u:List Term)(v:List Pat)(w x:List (aA×Int)):=aG [aDJ 0,oC 1 [nI 0],oC 2 [aD a.name,iC b,.gl 4 2 0 c.length false,.gl 10 1 0 (d++e).length false,.gl 11 4 0 (f++map Node.o g).length false,.map 7,.map 8],aFM 3 h i j k l m n o p q r s t u v,aDK 4 c,oS 7 w,oS 8 x,oL 10 1 (map aD (d++e)),oL 11 4 (map ONode.av (f++map Node.o g))] 12
abbrev aVE (a:Mod)(b:List Con)(c:List LFun)(d:List aA)(e:List ONode)(f g:aA)(h i:Int)(j:aA)(k:List Typ)(l m:Int)(n:aA)(o:List Typ)(p q:Int)(r:aA)(s:List Term)(t:List Pat)(u v:List (aA×Int)):=aG [aDJ 0,oC 1 [nI 0],aLm 2 a b c d e,aFM 3 f g h i j k l m n o p q r s t,aDK 4 c,oL 5 1 (map aD d),oL 6 4 (map ONode.av e),oS 7 u,oS 8 v,oC 9 [aD g]] 10
abbrev tZ (a:Mod)(b:List Con)(c:List LFun)(d e:List (aA×Int)):=aG [oC 0 [aD a.name,aDI a,aLl a],aDJ 1,oC 2 [nI 0],oC 3 [aD a.name,.gl 4 2 0 b.length false,.gl 5 2 0 c.length false,aLj,aLk,.map 8,.map 9],oL 4 2 (jC b),aDK 5 c,oL 6 1 (map aD ([] :List aA)),oL 7 4 (map ONode.av ([] :List ONode)),oS 8 d,oS 9 e] 10
abbrev aPb (a:Nat)(b c:aA)(d e:Int)(f:aA)(g:List Typ)(h i:Int)(j:aA)(k:List Typ)(l m:Int)(n:aA)(o:List Term)(p:List Pat):=oC a [aD b,aD c,nI d,nI e,aD f,aFK g,nI h,nI i,aD j,aFK k,nI l,nI m,aD n,aFJ o,iP p]
abbrev aQ5 (a:Mod):AV:=.agg [aD a.name,aDI a,aLl a]
abbrev qK (a:Nat)(b:Mod)(c:List Con)(d:List LFun)(e:List aA)(f:List Node):=oC a [aD b.name,iC c,.ilst 2 (map LFun.av d) false,iS e,iN f,.map 3,.map 4]
abbrev aFN (a:List LFun)(b:Int)(c:LFun)(d:List ONode):AV:=.gl 4 2 0 (set a b.toNat (LFun.mk c.name (d.length:Int))).length false
abbrev aQ6:AV:=.tup [aQ4,nI 3]
abbrev aLo (a:Mod):AV:=.ilst 15 (FunDs.av a.funs) false
abbrev aBc:AV:=.iface 174 (.agg [nI 7])
def aVF(a:Mod)(b:List Con)(c:List LFun)(d e:List (aA×Int)):TS:=⟨tf 17 170 [kp 2 1,kp 3 2] [.junk,kc f17 255] (defers:=[.fn 44 [.ptr 2 0,.func 81 [] [.ptr 1 0]]]) (mode:=.pan [(aBc,false)]),[],aFI a b c d e,10⟩
def aVG(a:Mod)(b:List Con)(c:List LFun)(d e:List (aA×Int)):TS:=⟨tf 17 170 [kp 2 1,kp 3 2] [.junk,kc f17 255] (defers:=[.fn 44 [.ptr 2 0,.func 81 [] [.ptr 1 0]]]) (mode:=.pan [(aBc,false)]),[],aFI a b c d e,10⟩
def aVH(c d:aA)(e f:Int)(g:aA)(i:List Typ)(j k:Int)(l:aA)(m:List Typ)(n o:Int)(p:aA)(q:List Term)(r:List Pat)(s:List LFun)(a b:List (aA×Int)):TS:=⟨tf 17 170 [kp 2 0,kp 3 1] [.junk,.inBlock 7,kc f17 32679,kl f17 4084,.inBlock 6,kc f17 511] (defers:=[.fn 44 [.ptr 1 0,.func 81 [] [.ptr 0 0]]]) (mode:=.pan [(aBc,false)]),[],[fX 0,oC 1 [nI 0],aPb 3 c d e f g i j k l m n o p q r,aDH 4 s,cZ 7 a,cZ 8 b],10⟩
def aVI(a:Mod):TS:=bH PP 17 [aQ5 a] [] 0
def aHq(a:Mod)(d:Int)(b:List Con)(c:List (aA×Int)):TS:=⟨tf 17 170 [kp 1 0,kp 2 1,kp 3 2,kp 4 3,(27,aDI a),(28,nI (a.datas.length:Int)),(29,nI d)] [kc f17 500,kl f17 500,.inBlock 0,kc f17 63] (defers:=[.fn 44 [.ptr 2 0,.func 81 [] [.ptr 1 0]]]),[],aQ3 a b c,10⟩
def aLp(a:Mod)(d:List ConD)(e f:Int)(b:List Con)(c:List (aA×Int))(g:Int):TS:=⟨tf 17 170 [kp 1 0,kp 2 1,kp 3 2,kp 4 3,(27,aDI a),(28,nI (a.datas.length:Int)),(29,nI g),(34,.ilst 2 (map ConD.av d) false),(35,nI e),(36,nI f)] [kc f17 128204,kl f17 128204,.inBlock 2,.inBlock 1,kc f17 4007,kl f17 500,.inBlock 0,kc f17 63] (defers:=[.fn 44 [.ptr 2 0,.func 81 [] [.ptr 1 0]]]),[],aQ3 a b c,10⟩
def aHr(a:Mod)(f:Int)(b:List LFun)(c:List (aA×Int))(d:List Con)(e:List (aA×Int)):TS:=⟨tf 17 170 [kp 1 0,kp 2 1,kp 3 2,kp 4 3,(72,aLo a),(73,nI (a.funs.length:Int)),(74,nI f)] [kc f17 1012,kl f17 1012,.inBlock 4,kc f17 127] (defers:=[.fn 44 [.ptr 2 0,.func 81 [] [.ptr 1 0]]]),[],aFI a d b e c,10⟩
def aHs(a:Mod)(b:List Con)(c:List LFun)(d e:List (aA×Int)):TS:=⟨tf 17 170 [kp 1 0,kp 2 1,kp 3 2,kp 4 3] [kc f17 254,kc f17 255] (defers:=[.fn 44 [.ptr 2 0,.func 81 [] [.ptr 1 0]]]),[],aFI a b c d e,10⟩
def aAH(a:Mod)(g:List Con)(b:List LFun)(c d:List (aA×Int))(i:Int)(e:List aA)(f:List ONode):TS:=⟨tf 17 170 [kp 2 0,kp 3 1,kp 4 2,(126,aLo a),(127,nI (a.funs.length:Int)),(128,nI i)] [kc f17 4084,kl f17 4084,.inBlock 6,kc f17 511] (defers:=[.fn 44 [.ptr 1 0,.func 81 [] [.ptr 0 0]]]),[],[fX 0,oC 1 [nI 0],oC 2 [aD a.name,iC g,.gl 3 2 0 b.length false,.gl 4 1 0 e.length false,.gl 5 4 0 f.length false,.map 6,.map 7],aDH 3 b,oL 4 1 (map aD e),oL 5 4 (map ONode.av f),cZ 6 c,cZ 7 d],8⟩
def aPc(a:Mod)(g:List Con)(i j:aA)(k l:Int)(m:aA)(n:List Typ)(o p:Int)(q:aA)(r:List Typ)(s t:Int)(u:aA)(v:List Term)(w:List Pat)(b:List LFun)(c d:List (aA×Int))(x y:Int)(e:List aA)(f:List ONode):TS:=⟨tf 17 170 [kp 2 0,kp 3 1,kp 4 2,(11,nI x),kp 12 3,(126,aLo a),(127,nI (a.funs.length:Int)),(128,nI y)] [kc f17 130713,.inBlock 7,kc f17 32679,kl f17 4084,.inBlock 6,kc f17 511] (defers:=[.fn 44 [.ptr 1 0,.func 81 [] [.ptr 0 0]]]),[],[fX 0,oC 1 [nI 0],aLm 2 a g b e f,aPb 3 i j k l m n o p q r s t u v w,aDH 4 b,oL 5 1 (map aD e),oL 6 4 (map ONode.av f),cZ 7 c,cZ 8 d],9⟩
def aVJ(c:Mod)(d:Bool)(e:List Con)(f:List LFun)(g:List Node)(a b:List (aA×Int))(i:List aA):TS:=⟨tf 17 170 [kp 2 0,kp 3 1,kp 4 2,(13,bV d)] [kc f17 2046,kc f17 2047] (defers:=[.fn 44 [.ptr 1 0,.func 81 [] [.ptr 0 0]]]),[],[fX 0,oC 1 [nI 0],qK 2 c e f i g,cZ 3 a,cZ 4 b],5⟩
def aVK(a:Mod):=tT 0 (aVI a)<|gpI 14 47 [aQ5 a]<|fun b=>.o (gK 1 (.enter 46 [bV (b != 0),nI 2]) [aBb 0 a,fX 1,oC 2 [nI 0]] 3 [(.iface 174 (.agg [nI 2]),false)] [aBb 0 a,fX 1,oC 2 [nI 0]] 3<|gE 44 4 (.tup [aQ4,nI 2]))<|gk 1 (.enter 46 [bV (b != 0),nI 2]) [aBb 0 a,fX 1,oC 2 [nI 0]] 3 (.tup []) [aBb 0 a,fX 1,oC 2 [nI 0]] 3<|.i [rn 7,.mset 3 (aK aD bM 0 ([] :List (aA×Int))) ([] :List (aA×Int)).length] [hr (aK aD bM 0 ([] :List (aA×Int))),hr (length ([] :List (aA×Int)))]<|.i [rn 1,.mset 4 (aK aD bM 0 ([] :List (aA×Int))) ([] :List (aA×Int)).length] [hr (aK aD bM 0 ([] :List (aA×Int))),hr (length ([] :List (aA×Int)))]<|gl 9 DataD.av a.datas<|.i [rn 4,.cnil 5 1 2] []<|gu 0 6 (jC ([] :List Con))<|gv 0 5 1 (.gl 6 2 0 ([] :List Con).length false)<|.i [.cnil 5 2 2] []<|gu 0 7 (map LFun.av ([] :List LFun))<|gv 0 5 2 (.gl 7 2 0 ([] :List LFun).length false)<|.i [.cnil 5 3 1] []<|gu 0 8 (map aD ([] :List aA))<|gv 0 5 3 (.gl 8 1 0 ([] :List aA).length false)<|.i [.cnil 5 4 4] []<|gu 0 9 (map ONode.av ([] :List ONode))<|gv 0 5 4 (.gl 9 4 0 ([] :List ONode).length false)<|.W 0 10 [0,1,2,5,6,7,8,9,3,4] (aHq a 0 ([] :List Con) ([] :List (aA×Int)))
def aVL(a:Mod)(b:Int)(c:List Con)(d:List (aA×Int)):=tT 0 (aHq a b c d)<|gd 5 30 (b< (a.datas.length:Int)) (gX DataD.av 6 a.datas b<|fun e=>gl 8 ConD.av e.cons<|.W 4 11 [0,1,2,3,4,5,6,7,8,9] (aLp a e.cons (e.cons.length:Int) 0 c d b))<|gm 7 cN a.funs<|.W 4 10 [0,1,2,3,4,5,6,7,8,9] (aHr a 0 ([] :List LFun) ([] :List (aA×Int)) c d)
def aVM(f:Mod)(g:List ConD)(i d:Int)(b:List Con)(c:List (aA×Int))(e:Int):=tT 0 (aLp f g i d b c e)<|gd 5 37 (d<i) (gX ConD.av 6 g d<|fun a=>.i [rn 5,.reg (rd 12 [.mput (aK aD bM 0 (bS a.name (b.length:Int) c)) (bS a.name (b.length:Int) c).length]),.reg (rd 10 (.ans (.len (a.args.length:Int))::.d::.d::.app (jC (b++ [Con.mk a.name (a.args.length:Int)])) (b++ [Con.mk a.name (a.args.length:Int)]).length::rd 4 []))] [.q (p:=iU (aK aD bM 0 c) c.length (aD a.name) (bM (b.length:Int)) =some (aK aD bM 0 (bS a.name (b.length:Int) c),length (bS a.name (b.length:Int) c))) (wU iO _ _ _),hm dU a.args,hb Con.av b,hA (length (b++ [Con.mk a.name (a.args.length:Int)]) ≤1000000),hc Con.av b [Con.mk a.name (a.args.length:Int)],he Con.av b [Con.mk a.name (a.args.length:Int)]]<|gw 3 69 (d+1)<|.W 3 13 [0,1,2,3,12,5,6,7,8,9] (aLp f g i (d+1) (b++ [Con.mk a.name (a.args.length:Int)]) (bS a.name (b.length:Int) c) e))<|gw 5 70 (e+1)<|.W 3 10 [0,1,2,3,4,5,6,7,8,9] (aHq f (e+1) b c)
def aVN(e:Mod)(b:Int)(c:List LFun)(d:List (aA×Int))(f:List Con)(g:List (aA×Int)):=tT 0 (aHr e b c d f g)<|gd 5 75 (b< (e.funs.length:Int)) (.y fun a:aA=>.y fun i:aA=>.y fun j:Int=>.y fun k:Int=>.y fun l:aA=>.y fun m:List Typ=>.y fun n:Int=>.y fun o:Int=>.y fun p:aA=>.y fun q:List Typ=>.y fun r:Int=>.y fun s:Int=>.y fun t:aA=>.y fun u:List Term=>.y fun v:List Pat=>giF cN 7 e.funs b (FunD.mk a i (Typ.mk j k l m) (Typ.mk n o p q) (Term.mk r s t u v))<|.i [rn 6,.reg (rd 7 [.mput (aK aD bM 0 (bS a b d)) (bS a b d).length]),.reg (rd 10 (.app (map LFun.av (c++ [LFun.mk a 0])) (c++ [LFun.mk a 0]).length::rd 4 []))] [.q (p:=iU (aK aD bM 0 d) d.length (aD a) (bM b) =some (aK aD bM 0 (bS a b d),length (bS a b d))) (wU iO _ _ _),hb LFun.av c,hA (length (c++ [LFun.mk a 0]) ≤1000000),hc LFun.av c [LFun.mk a 0],he LFun.av c [LFun.mk a 0]]<|gw 3 100 (b+1)<|.W 3 13 [0,1,2,3,4,12,6,7,8,9] (aHr e (b+1) (c++ [LFun.mk a 0]) (bS a b d) f g))<|.W 3 10 [0,1,2,3,4,5,6,7,8,9] (aHs e f c g d)
def aZ8(a:Mod)(b:List Con)(e:List LFun)(c d:List (aA×Int)):=tT 0 (aHs a b e c d)<|.o (.i [.reg (rd 13 (.b 113 true::rd 10 [.call (.tup []) (tZ a b e c d)]))] [hA (decide (((aK aD bM 0 c).length:Int) < (b.length:Int)) =true),hA (Spec PP (.enter 46 [bV true,nI 7]) (tZ a b e c d) (.ret (.tup [])) (tZ a b e c d))]<|gy 2 3 1 4 2 Con.av b false<|gm 3 cN a.funs<|.W 4 10 [1,2,3,5,6,7,8,9] (aAH a b e c d 0 ([] :List aA) ([] :List ONode)))<|.i [.reg (rd 13 (.b 113 false::rd 7 [.ans (.len (a.funs.length:Int)),.d,.d,.call (.tup []) (tZ a b e c d)]))] [hA (decide (((aK aD bM 0 c).length:Int) < (b.length:Int)) =false),hm cN a.funs,hA (Spec PP (.enter 46 [bV (decide (((aK aD bM 0 d).length:Int) < (a.funs.length:Int))),nI 7]) (tZ a b e c d) (.ret (.tup [])) (tZ a b e c d))]<|gy 2 3 1 4 2 Con.av b false<|gm 3 cN a.funs<|.W 4 10 [1,2,3,5,6,7,8,9] (aAH a b e c d 0 ([] :List aA) ([] :List ONode))
def aVO(c:Mod)(g:List Con)(e:List LFun)(i j:List (aA×Int))(d:Int)(f:List aA)(b:List ONode):=tT 0 (aAH c g e i j d f b)<|gd 5 129 (d< (c.funs.length:Int)) (.y fun k:aA=>.y fun l:aA=>.y fun m:Int=>.y fun n:Int=>.y fun o:aA=>.y fun p:List Typ=>.y fun q:Int=>.y fun r:Int=>.y fun s:aA=>.y fun t:List Typ=>.y fun u:Int=>.y fun v:Int=>.y fun w:aA=>.y fun x:List Term=>.y fun y:List Pat=>giF cN 7 c.funs d (FunD.mk k l (Typ.mk m n o p) (Typ.mk q r s t) (Term.mk u v w x y))<|.W 5 9 [0,1,2,8,3,4,5,6,7] (aPc c g k l m n o p q r s t u v w x y e i j d d f b))<|gy 3 2 2 3 2 LFun.av e false<|gy 0 2 3 4 1 aD f false<|.y fun a:List Node=>.i [.lset 5 (jN a)] [.a (b=map Node.o a) (p':=(map ONode.av b) = (jN a)) aOF]<|.i [.cset 2 4 (.gl 5 4 0 a.length false)] [.a (a.length=b.length) (p':=(AV.gl 5 4 0 b.length false) = (.gl 5 4 0 a.length false)) (fun h=>(dH h.symm))]<|gy 0 2 4 5 4 Node.av a false<|cD 6 83 [iN a,.func 84 [] []]<|fun z=>.W 3 8 [0,1,2,6,7] (aVJ c z g e a i j f)
def aXp (k:Mod)(l:List Con)(s m:aA)(t u:Int)(v:aA)(w:List Typ)(x y:Int)(z:aA)(A:List Typ)(n o:Int)(p:aA)(q:List Term)(r:List Pat)(a:List LFun)(e f:List (aA×Int))(d B:Int)(g:List aA)(b:List ONode):=fun i j c C D F G H=>(tT 0 (aPc k l s m t u v w x y z A n o p q r a e f d B g b)<|.y fun i:List Node=>.y fun j:List aA=>.y fun c:LFun=>.i [.reg (rd 12 [.call (nI (b.length:Int)) (aVD k l a g j b i s m t u v w x y z A n o p q r e f),.ans (.ix),.d,.st (LFun.av c) (LFun.av (LFun.mk c.name (b.length:Int)))])] [hA (Spec PP (.enter 82 [.ptr 2 0,.agg [nI n,nI o,aD p,aFJ q,iP r],.slice 9 0 1 1 1 true]) (aVE k l a g b s m t u v w x y z A n o p q r e f) (.ret (nI (b.length:Int))) (aVD k l a g j b i s m t u v w x y z A n o p q r e f)),hA (0≤d),hA (d< (a.length:Int)),.a (((a)[d.toNat]?) =some c) (jQ (f:=LFun.av)),hr (some (LFun.av (LFun.mk c.name (b.length:Int)))),hr (AV.gl 4 2 0 a.length false),hr (AV.gl 4 2 0 a.length false)]<|.i [.lset 4 (map LFun.av (set a d.toNat (LFun.mk c.name (b.length:Int))))] [.q (p:=(map LFun.av a).set (0+d.toNat) (LFun.av (LFun.mk c.name (b.length:Int))) = (map LFun.av (set a d.toNat (LFun.mk c.name (b.length:Int))))) (pA _ _ _ _)]<|.i [.set 137 (aFN a d c b)] [.q (p:=(AV.gl 4 2 0 a.length false) = (aFN a d c b)) (dH (length_set ..).symm)]<|.i [.cset 2 2 (aFN a d c b)] [.q (p:=(AV.gl 4 2 0 a.length false) = (aFN a d c b)) (dH (length_set ..).symm)]<|gw 3 148 (B+1)<|.W 3 12 [0,1,2,4,10,11,7,8] (aAH k l (set a d.toNat (LFun.mk c.name (b.length:Int))) e f (B+1) (g++j) (b++map Node.o i))) i j c C D F G H ⟨kk,⟨kk,⟨aI _ (fun _=>bE _) _,⟨kZ0,⟨kZ0,trivial⟩⟩⟩⟩⟩
def aPd(d:Mod)(i:Bool)(e:List Con)(f:List LFun)(g:List Node)(a b:List (aA×Int))(c:List aA):=tT 0 (aVJ d i e f g a b c)<|.b 3 156 i (.o (gK 8 (.enter 46 [bV true,nI 3]) [fX 0,oC 1 [nI 0],qK 2 d e f c g,cZ 3 a,cZ 4 b] 5 [(.iface 174 (.agg [nI 3]),false)] [fX 0,oC 1 [nI 0],qK 2 d e f c g,cZ 3 a,cZ 4 b] 5<|gE 44 6 aQ6)<|gk 8 (.enter 46 [bV true,nI 3]) [fX 0,oC 1 [nI 0],qK 2 d e f c g,cZ 3 a,cZ 4 b] 5 (.tup []) [fX 0,oC 1 [nI 0],qK 2 d e f c g,cZ 3 a,cZ 4 b] 5<|gE 28 5 (.tup [.agg [aD d.name,iC e,.ilst 2 (map LFun.av f) false,iS c,iN g],nI 0]))<|gl 5 aD c<|.o (gK 2 (.enter 46 [bV (decide ((c.length:Int) >20)),nI 3]) [fX 0,oC 1 [nI 0],qK 2 d e f c g,cZ 3 a,cZ 4 b] 5 [(.iface 174 (.agg [nI 3]),false)] [fX 0,oC 1 [nI 0],qK 2 d e f c g,cZ 3 a,cZ 4 b] 5<|gE 44 6 aQ6)<|gk 2 (.enter 46 [bV (decide ((c.length:Int) >20)),nI 3]) [fX 0,oC 1 [nI 0],qK 2 d e f c g,cZ 3 a,cZ 4 b] 5 (.tup []) [fX 0,oC 1 [nI 0],qK 2 d e f c g,cZ 3 a,cZ 4 b] 5<|gE 28 5 (.tup [.agg [aD d.name,iC e,.ilst 2 (map LFun.av f) false,iS c,iN g],nI 0])
theorem aXq (t:Mod)(l4:List Con)(l5:List LFun)(m8: (List (aA×Int)))(m9: (List (aA×Int)))(h0:decide (((aK aD bM 0 m8).length:Int) < ((l4.length:Nat) :Int)) =true)(h1:aVB t l4 l5 m8 m9) :
  LeadsM PP 0 (aHs t l4 l5 m8 m9).as (aVF t l4 l5 m8 m9).as:=
 aAA (e:=23) (is1:=[.d,.d,.d,.d,.d,.d,.d,.d,.d,.d,.d,.d,.d,.b 113 true,.d,.d,.d,.d,.d,.d,.d,.d,.d,.d]) (v:= (.tup [])) (h2:=tZ t l4 l5 m8 m9) (is2:=[]) (os:=[]) (ch:=[(aBc,false)]) (h':=tZ t l4 l5 m8 m9) (js:=[2,3]) (ps:=[decide (((aK aD bM 0 m8).length:Int) < ((l4.length:Nat) :Int)) =true,aVB t l4 l5 m8 m9]) kR0 ⟨h0,h1⟩
theorem aXr (t:Mod)(l4:List Con)(l5:List LFun)(m8: (List (aA×Int)))(m9: (List (aA×Int)))(h0:decide (((aK aD bM 0 m8).length:Int) < ((l4.length:Nat) :Int)) =false)(h1:aVA m9 t l4 l5 m8) :
  LeadsM PP 0 (aHs t l4 l5 m8 m9).as (aVG t l4 l5 m8 m9).as:=
 aAA (e:=23) (is1:=[.d,.d,.d,.d,.d,.d,.d,.d,.d,.d,.d,.d,.d,.b 113 false,.d,.d,.d,.d,.d,.d,.d,.ans (.len (t.funs.length:Int)),.d,.d]) (v:= (.tup [])) (h2:=tZ t l4 l5 m8 m9) (is2:=[]) (os:=[]) (ch:=[(aBc,false)]) (h':=tZ t l4 l5 m8 m9) (js:=[2,3]) (ps:=[decide (((aK aD bM 0 m8).length:Int) < ((l4.length:Nat) :Int)) =false,((FunDs.av t.funs).length:Int) = (t.funs.length:Int),aVA m9 t l4 l5 m8]) kR0 ⟨h0,aSS cN _,h1⟩
theorem aXs (t:Mod)(vl4:List Con)(u7 v8:aA)(u9 j6:Int)(k8:aA)(v9:List Typ)(k9 j7:Int)(j0:aA)(u0:List Typ)(j4 j5:Int)(u4:aA)(u5:List Term)(u6:List Pat)(vl5:List LFun)(m8: (List (aA×Int)))(m9: (List (aA×Int)))(i11 t128:Int)(l5:List aA)(l6:List ONode)(y0:LFun)(h0:aVC j4 j5 u4 u5 u6 t vl4 vl5 l5 l6 u7 v8 u9 j6 k8 v9 k9 j7 j0 u0 m8 m9)(h1:0≤i11)(h2:i11< ((vl5.length:Nat) :Int))(h3: ((vl5)[i11.toNat]?) =some y0) :
  LeadsM PP 0 (aPc t vl4 u7 v8 u9 j6 k8 v9 k9 j7 j0 u0 j4 j5 u4 u5 u6 vl5 m8 m9 i11 t128 l5 l6).as (aVH u7 v8 u9 j6 k8 v9 k9 j7 j0 u0 j4 j5 u4 u5 u6 vl5 m8 m9).as:=
 aAA (e:=12) (is1:=[.d,.d,.d,.d,.d,.d,.d,.d,.d,.d,.d,.d]) (v:= (nI 0)) (h2:=aVE t vl4 vl5 l5 l6 u7 v8 u9 j6 k8 v9 k9 j7 j0 u0 j4 j5 u4 u5 u6 m8 m9) (is2:=[.ans (.ix),.d,.st (LFun.av y0) (LFun.av (LFun.mk y0.name 0))]) (os:=[]) (ch:=[(aBc,false)]) (h':=aG [fX 0,oC 1 [nI 0],aPb 3 u7 v8 u9 j6 k8 v9 k9 j7 j0 u0 j4 j5 u4 u5 u6,aDH 4 vl5,cZ 7 m8,cZ 8 m9] 10) (js:=[2,3]) (ps:=[0≤i11,i11< ((vl5.length:Nat) :Int),(map LFun.av vl5)[0+i11.toNat]?=some (LFun.av y0),pZ (LFun.av y0) 1 [nI 0] =some (LFun.av (LFun.mk y0.name 0)),(AV.gl 4 2 0 vl5.length false) = (AV.gl 4 2 0 vl5.length false),(AV.gl 4 2 0 vl5.length false) = (AV.gl 4 2 0 vl5.length false),aVC j4 j5 u4 u5 u6 t vl4 vl5 l5 l6 u7 v8 u9 j6 k8 v9 k9 j7 j0 u0 m8 m9]) kR0 ⟨h1,h2,jQ h3,rfl,rfl,rfl,h0⟩
end
end Go.Hb

set_option linter.defProp false
set_option linter.unusedVariables false
set_option linter.unusedSimpArgs false
set_option linter.unusedSectionVars false
set_option maxRecDepth 100000
set_option maxHeartbeats 400000
namespace Go.Hb
open AV (keyless keylessL)
open List (all_cons any_cons append_assoc append_nil drop length length_append length_cons length_map map map_append map_cons map_map map_nil mem_of_getElem? nil_append take)
open Go.Proofs
noncomputable section
section
variable {P :Program}
def aZ9 (P:Program)(is:List Ins)(s:TS) :Option (AV×Nat×List Prop) :=
 match yQ P is s.as with
 | some (s1,ps) =>match s1.cs,s1.fr.kind,s1.fr.mode,s1.fr.roundOf,s1.fr.defers with
  | [],.normal,.ret,none,[] =>match P.funcs[s1.fr.fn]? with
   | some fd=>match mH P s1.h s1.fr.tm fd.results.toList with
    |some [v] =>some (v,s1.fr.fn,ps)
    |_=>none
   |none=>none
  |_,_,_,_,_=>none
 |none=>none
theorem aLq {f : Nat} {args : List AV} {is : List Ins}{b:Bool}{ps:List Prop}{cargs:List Value}(hb:oN P f=true)(hk:keylessL args=true)(h0:aZ9 P is (start P f args) =some (.bool b,f,ps))(hps:AllP ps)(w:World)(hv:VRs (embOf w) args cargs) :
  Calls P f ⟨cargs⟩ w fun e w'=>e= .returned (.bool b) ∧GrownO w w':=by
 intro base;unfold oN at hb;split at hb
 · rename_i fn hf;split at hb
   · rename_i c hc;have hg:eI P f args .normal=some ⟨f,fU .leaf 0 args,max fn.ntmps args.length,[.code c],[],.run,.normal,none⟩ :=by simp [eI,hf,hc]
     have fr':FR (embOf w) _ (Frame.enter P f ⟨cargs⟩ .normal) :=kG hg hv;have f1:FR (embOf w) (start P f args).as.fr (Frame.enter P f ⟨cargs⟩ .normal) :=by
      have e1: (start P f args).as.fr= ⟨f,mkT ((List.range args.length).zip args),max fn.ntmps args.length,[.code c],[],.run,.normal,none⟩ :=by simp [start,hf,hc,TS.as,TF.fr]
      rw [e1];refine⟨fr'.fn,⟨fr'.tm.1,fun t a e=>?_⟩,fr'.todo,fr'.defers,fr'.mode,fr'.kind,fr'.round⟩;have h1:=aGm (aB8 e);have hlt:= (List.getElem?_eq_some_iff.1 h1).1;have h2: (fU .leaf 0 args).at t=some a:=by
       unfold fU;rw [dG,if_pos hlt];exact h1
      exact fr'.tm.2 t a h2
     have e2 : (start P f args).as.cs = [] := by unfold start;split; · split<;>rfl
                                                 ·rfl
     have e3 : (start P f args).as.h = ⟨.leaf, 0⟩ := by unfold start;split; · split<;>rfl
                                                        ·rfl
     unfold aZ9 at h0;split at h0
     · rename_i s1 qs h1;split at h0
       · rename_i hcs hkd hmo hro hde;split at h0
         · rename_i fd hfd;split at h0
           · rename_i v hrs;simp only [Option.some.injEq,Prod.mk.injEq]at h0;obtain⟨rfl,hfn,rfl⟩ :=h0;have hl:LeadsM P 0 (start P f args).as s1:=jA h1 (fun p hpp=>hps.mem p hpp);obtain⟨E',g,ccs,w',s2,f2,fs2,r2,x⟩ :=hl (by rw [e3];exact Nat.le_refl _) (embOf w) _ [] w base f1 (by rw [e2];rfl) (by rw [e3];exact aRp w);rw [hcs]at fs2;have:=fs2.nil_inv;subst this;obtain⟨cv,g1,g2⟩ :=zZ r2 f2.tm hrs;simp only [aDT,VR]at g2;subst g2;have fm:=f2.mode;rw [hmo]at fm;simp only [MR]at fm;have fdd:=f2.defers;rw [hde]at fdd;rw [e3]at x;have hno:∀ {b o},¬ (⟨.leaf,0⟩ :Hp).look b=some o:=fun {b o} e=>by simp [Hp.look,T.at_leaf]at e
             refine⟨.returned (.bool b),w',g,⟨rfl,⟨x.os,x.output,fun i hi=>?_⟩,x.froz,x.size⟩,s2,by rw [f2.fn,hfn],fm,fdd.nil_inv,by rw [f2.kind,hkd],fd,by rw [f2.fn];exact hfd,g1⟩;have:=x.keep i hi (fun b o L e=>absurd e hno);rw [this];cases w.heap[i]? with
             |none=>rfl
             |some ob=>cases ob<;>simp
           ·cases h0
         ·cases h0
       ·cases h0
     ·cases h0
   ·cases hb
 ·cases hb
theorem cW {f:Nat}{args:List AV}{b:Bool}{cargs:List Value}(L:List Pf)(is:List Ins)(w:World)(hv:VRs (embOf w) args cargs)(hb:oN P f=true:=by kernel_rfl)(hk:keylessL args=true:=by kernel_rfl)(h0:aZ9 P is (start P f args) =some (.bool b,f,L.map Pf.p) :=by kernel_rfl) :
    Calls P f ⟨cargs⟩ w fun e w'=>e= .returned (.bool b) ∧GrownO w w':=aLq hb hk h0 (aXZ L) w hv
end
abbrev aAI (a:LUnit)(b:Int):AV:=.tup [.agg [aD a.name,iC a.cons,.ilst 2 (map LFun.av a.funs) false,iS a.needs,iN a.nodes],nI b]
abbrev nB (a:LUnit):AV:=.agg [aD a.name,iC a.cons,.ilst 2 (map LFun.av a.funs) false,iS a.needs,iN a.nodes]
abbrev aCy (a:Mod):AV:=.agg [aD a.name,.ilst 2 (map DataD.av a.datas) false,.ilst 15 (FunDs.av a.funs) false]
def aZb(a:Node):TS:=bH PP 84 [Node.av a] [] 0
def aZc(a:List Node):TS:=bH PP 146 [iN a,.func 84 [] []] [] 0
def aLr(a:List Node)(b:Int):TS:=⟨tf 146 19 [(0,iN a),(1,.func 84 [] []),(4,nI 0),(7,nI (a.length:Int)),(8,nI b)] [kc Tryz.f146 52,kl Tryz.f146 52,.inBlock 0,kc Tryz.f146 7],[],[],0⟩
def aVP(a:List Node):TS:=bH PP 83 [iN a,.func 84 [] []] [] 0
def aVQ(a:LUnit):TS:=bH PP 15 [nB a] [] 0
def aVR(a:Node):=tT 0 (aZb a)<|.b 11 6 (a.op==4) (gE 7 1 (bV (decide (a.n≥30))))<|gE 7 1 (bV false)
def aXt (a:List Node):=(tT 0 (aZc a)<|gl 8 Node.av a<|.W 4 0 [] (aLr a 0)) tv
def aPe(b:List Node)(a:Int):=tT 0 (aLr b a)<|gd 5 9 (a< (b.length:Int)) (gX Node.av 14 b a<|fun c=>cD 1 84 [Node.av c]<|fun d=>.b 1 16 d (gE 7 0 (nI a))<|gw 5 18 (a+1)<|.W 3 0 [] (aLr b (a+1)))<|gE 7 0 (nI (-1))
def aVS (b:List Node):=fun a c=>(tT 0 (aVP b)<|gpI 8 146 [iN b,.func 84 [] []]<|fun a=>gE 4 0 (bV (decide (a≥0)))) a c tv
def aVT(a:LUnit):=tT 0 (aVQ a)<|cD 9 77 [nB a]<|fun b=>.b 2 5 (!b) (gE 6 1 (nI 2))<|gE 7 1 (nI 0)
theorem aXu (u:LUnit)(m:Mod)(y0 y1:Bool)(h0:Pure PP 14 [nB u] (bV y0))(h1: (!y0) =true)(h2:Pure PP 6 [] (bV y1)) :
  ∀ (w:World) (cargs:List Value),VRs (embOf w) [LUnit.av u,Mod.av m] cargs→Calls PP 4 ⟨cargs⟩ w fun e w'=>e= .returned (.bool y1) ∧GrownO w w':=
 fun w cargs hv=>cW [qp h0,qp h1,qp h2] [rn 10,pB y0,rn 2,bt 13,rn 8,pB y1,rn 3] w hv
theorem aXv (u:LUnit)(m:Mod)(y0 y1 y2:Bool)(h0:Pure PP 14 [nB u] (bV y0))(h1: (!y0) =false)(h2:Pure PP 7 [aCy m] (bV y1))(h3: (!y1) =true)(h4:Pure PP 6 [] (bV y2)) :
  ∀ (w:World) (cargs:List Value),VRs (embOf w) [LUnit.av u,Mod.av m] cargs→Calls PP 4 ⟨cargs⟩ w fun e w'=>e= .returned (.bool y2) ∧GrownO w w':=
 fun w cargs hv=>cW [qp h0,qp h1,qp h2,qp h3,qp h4] [rn 10,pB y0,rn 2,bf 13,rn 1,pB y1,rn 3,bt 17,rn 3,pB y2,rn 3] w hv
theorem aXw (u:LUnit)(m:Mod)(y0 y1:Bool)(y2:Int)(y3:Bool)(y4:LUnit)(y5:Int)(y6:LUnit)(y7:Int)(y8 y9:Bool)(h0:Pure PP 14 [nB u] (bV y0))(h1: (!y0) =false)(h2:Pure PP 7 [aCy m] (bV y1))(h3: (!y1) =false)(h4:Pure PP 15 [nB u] (nI y2))(h5:Pure PP 16 [nB u] (bV y3))(h6: (!(y3== (y2== (0:Int)))) =false)(h7: (y2 != (0:Int)) =true)(h8: (y2 != (2:Int)) =false)(h9:Pure PP 17 [aCy m] (aAI y4 y5))(h10:Pure PP 18 [aCy m] (aAI y6 y7))(h11: (y5==y7) =true)(h12:Pure PP 19 [nB y4,nB y6] (bV y8))(h13:y8=true)(h14:Pure PP 6 [] (bV y9)) :
  ∀ (w:World) (cargs:List Value),VRs (embOf w) [LUnit.av u,Mod.av m] cargs→Calls PP 4 ⟨cargs⟩ w fun e w'=>e= .returned (.bool y9) ∧GrownO w w':=
 fun w cargs hv=>cW [qp h0,qp h1,qp h2,qp h3,qp h4,qp h5,qp h6,qp h7,qp h8,qp h9,qp h10,qp h11,qp h12,qp h13,qp h14] [rn 10,pB y0,rn 2,bf 13,rn 1,pB y1,rn 3,bf 17,rn 5,.pure (nI y2),rn 6,pB y3,rn 4,bf 26,rn 3,bt 29,rn 5,bf 33,rn 5,.pure (aAI y4 y5),rn 10,.pure (aAI y6 y7),rn 13,bt 47,rn 2,pB y8,rn 2,bt 52,pB y9,rn 4] w hv
theorem aXx (u:LUnit)(m:Mod)(y0 y1:Bool)(y2:Int)(y3:Bool)(y4:LUnit)(y5:Int)(y6:LUnit)(y7:Int)(y8 y9:Bool)(h0:Pure PP 14 [nB u] (bV y0))(h1: (!y0) =false)(h2:Pure PP 7 [aCy m] (bV y1))(h3: (!y1) =false)(h4:Pure PP 15 [nB u] (nI y2))(h5:Pure PP 16 [nB u] (bV y3))(h6: (!(y3== (y2== (0:Int)))) =false)(h7: (y2 != (0:Int)) =false)(h8:Pure PP 17 [aCy m] (aAI y4 y5))(h9:Pure PP 18 [aCy m] (aAI y6 y7))(h10: (y5==y7) =true)(h11:Pure PP 19 [nB y4,nB y6] (bV y8))(h12:y8=true)(h13:Pure PP 6 [] (bV y9)) :
  ∀ (w:World) (cargs:List Value),VRs (embOf w) [LUnit.av u,Mod.av m] cargs→Calls PP 4 ⟨cargs⟩ w fun e w'=>e= .returned (.bool y9) ∧GrownO w w':=
 fun w cargs hv=>cW [qp h0,qp h1,qp h2,qp h3,qp h4,qp h5,qp h6,qp h7,qp h8,qp h9,qp h10,qp h11,qp h12,qp h13] [rn 10,pB y0,rn 2,bf 13,rn 1,pB y1,rn 3,bf 17,rn 5,.pure (nI y2),rn 6,pB y3,rn 4,bf 26,rn 3,bf 29,rn 10,.pure (aAI y4 y5),rn 10,.pure (aAI y6 y7),rn 13,bt 47,rn 2,pB y8,rn 2,bt 52,pB y9,rn 4] w hv
theorem aVU (x:Node) :Pure PP 84 [Node.av x] (.bool (decide (x.op=4) &&decide (30≤x.n))) :=by
 refine bU (s:=aZb x) kR0 kR0 (by simp [keylessL,Node.av,keyless]) rfl ?_;by_cases h:x.op=4
 ·exact Ends.eqv (aVR x|>.t (by simp [h]) tv) (by simp [h])
 ·exact Ends.eqv (aVR x|>.f (by simp [h]) tv) (by simp [h])
theorem aND (l:List Node)(hl:l.length<1000000) :∀ (t:List Node) (i:Nat),l.drop i=t→∃z:Int,(decide (z≥0) =sD t) ∧Ends PP 0 (aLr l (i:Int)).as (.ret (.int .i64 z)) (aG [] 0)
 | [],i,h=>by
  have:=aZ h;exact⟨-1,rfl,aPe l i|>.f sd tv⟩
 | x::t,i,h=>by
  obtain⟨q1,q2,q3⟩ :=aY h;have hi:= (List.getElem?_eq_some_iff.1 q1).1;have hp:=aVU x;unfold sD;rw [any_cons];cases hb: (decide (x.op=4) &&decide (30≤x.n))
  case true=>
   rw [hb]at hp;exact⟨i,by simp,aPe l i|>.t sd x sd sd true hp|>.t rfl tv⟩
  rw [hb]at hp;obtain⟨z,h1,h2⟩ :=aND l hl t (i+1) q2;exact⟨z,by rw [h1];simp [sD],(aPe l i|>.t sd x sd sd false hp|>.f rfl sd tv).ends h2⟩
theorem aR3 (l:List Node)(hl:l.length<1000000) :Pure PP 83 [.ilst 4 (map Node.av l) false,.func 84 [] []] (.bool (sD l)) :=by
 obtain⟨z,h1,h2⟩ :=aND l hl l 0 rfl;have hp:Pure PP 146 [.ilst 4 (map Node.av l) false,.func 84 [] []] (.int .i64 z) :=bU (s:=aZc l) kR0 kR0 (by simp [keylessL,keyless]) rfl ((aXt l).ends h2);rw [←h1];exact bU (s:=aVP l) kR0 kR0 (by simp [keylessL,keyless]) rfl (aVS l z hp)
abbrev MoC (t:Mod) :AObj:=.cells (putCells .leaf 0 [aD t.name,.ilst 2 (map DataD.av t.datas) false,.ilst 15 (FunDs.av t.funs) false]) 3 [] false
abbrev E1C :AObj:=.cells (putCells .leaf 0 [.int .i64 0]) 1 [] false
abbrev FdC (n p:aA)(f0 f1:Int)(f2:aA)(f3:List Typ)(g0 g1:Int)(g2:aA)(g3:List Typ)(b0 b1:Int)(b2:aA)(b3:List Term)(b4:List Pat) :AObj:=
 .cells (putCells .leaf 0 [aD n,aD p,.int .i64 f0,.int .i64 f1,aD f2,.ilst 4 (Typs.av f3) false,.int .i64 g0,.int .i64 g1,aD g2,.ilst 4 (Typs.av g3) false,.int .i64 b0,.int .i64 b1,aD b2,.ilst 5 (Terms.av b3) false,.ilst 4 (Pats.av b4) false]) 15 [] false
abbrev aNE (s:TS)(v:AV) :Prop:=Ends PP 0 s.as (.ret v) (aG [] 0)
abbrev ZUe (e:Int) :AV:=.tup [.agg [.str 0 0,.nils,.nils,.nils,.nils],.int .i64 e]
theorem aVV (t:Mod)(l4:List Con)(l5:List LFun)(m8 m9:List (aA×Int)) :aNE (aVF t l4 l5 m8 m9) (ZUe 7) :=
 aB9 (n1:=11) (ks:=[]) (hp:=[]) (v:=ZUe 7) (ps:=[]) (is:=[.run 44]) kR0 kR0 trivial trivial
theorem aVW (t:Mod)(l4:List Con)(l5:List LFun)(m8 m9:List (aA×Int)) :aNE (aVG t l4 l5 m8 m9) (ZUe 7) :=
 aB9 (n1:=11) (ks:=[]) (hp:=[]) (v:=ZUe 7) (ps:=[]) (is:=[.run 44]) kR0 kR0 trivial trivial
theorem aVX (n p:aA)(f0 f1:Int)(f2:aA)(f3:List Typ)(g0 g1:Int)(g2:aA)(g3:List Typ)(b0 b1:Int)(b2:aA)(b3:List Term)(b4:List Pat)(l:List LFun)(m8 m9:List (aA×Int)) :aNE (aVH n p f0 f1 f2 f3 g0 g1 g2 g3 b0 b1 b2 b3 b4 l m8 m9) (ZUe 7) :=
 aB9 (n1:=11) (ks:=[]) (hp:=[]) (v:=ZUe 7) (ps:=[]) (is:=[.run 44]) kR0 kR0 trivial trivial
section
variable (t :Mod)
theorem aNF (d:DataD)(j:Nat)(hj2:j≤1000)(hd:d.cons.length≤1000) :∀ (r:List ConD) (k:Nat) (acc:List Con) (m:List (aA×Int)),d.cons.drop k=r→acc.length+r.length≤500000→IdxM (acc.map Con.name) m →
  ∃m',IdxM ((acc++r.map vB).map Con.name) m'∧LeadsM PP 0 (aLp t d.cons ((length d.cons:Nat) :Int) (k:Int) acc m (j:Int)).as (aHq t ((j+1:Nat) :Int) (acc++r.map vB) m').as
 | [],k,acc,m,h,ha,hm=>by
  have:=aZ h;rw [map_nil,append_nil];exact⟨m,hm,aVM t d.cons _ k acc m j|>.f sd sd ⟨kk,⟨kk,⟨kk,⟨aI _ (fun _=>bE _) _,⟨kZ0,⟨kZ0,trivial⟩⟩⟩⟩⟩⟩⟩
 | c::r,k,acc,m,h,ha,hm=>by
  obtain⟨q1,q2,q3⟩ :=aY h;have hk:= (List.getElem?_eq_some_iff.1 q1).1;simp only [length_cons]at ha;have h0:=aVM t d.cons ((length d.cons:Nat) :Int) k acc m j|>.t sd c sd sd (by simp;omega) sd ⟨kk,⟨kk,⟨kk,⟨aI _ (fun _=>bE _) _,⟨kZ0,⟨kZ0,trivial⟩⟩⟩⟩⟩⟩;have hm2:=hm.snoc c.name;rw [length_map]at hm2;obtain⟨m',a,b⟩ :=aNF d j hj2 hd r (k+1) (acc++ [vB c]) (bS c.name ((acc.length:Nat) :Int) m) q2 (by simp;omega) (by rw [map_append];exact hm2);rw [append_assoc]at a b;exact⟨m',a,h0.trans b⟩
theorem aI2 (hl:t.datas.length≤100)(hd:∀d∈t.datas,d.cons.length≤1000) :∀ (r:List DataD) (i:Nat) (acc:List Con) (m:List (aA×Int)),t.datas.drop i=r→acc.length≤1000*i→IdxM (acc.map Con.name) m →
  ∃m',IdxM ((acc++ (r.map fun d=>d.cons.map vB).flatten).map Con.name) m'∧LeadsM PP 0 (aHq t (i:Int) acc m).as (aHr t 0 [] [] (acc++ (r.map fun d=>d.cons.map vB).flatten) m').as
 | [],i,acc,m,h,ha,hm=>by
  have:=aZ h;rw [map_nil,List.flatten_nil,append_nil];exact⟨m,hm,aVL t i acc m|>.f sd ⟨kk,⟨kk,⟨kk,⟨aI _ (fun _=>bE _) _,⟨kZ0,⟨kZ0,trivial⟩⟩⟩⟩⟩⟩⟩
 | d::r,i,acc,m,h,ha,hm=>by
  obtain⟨q1,q2,q3⟩ :=aY h;have hi:= (List.getElem?_eq_some_iff.1 q1).1;have hdl:=hd d (mem_of_getElem? q1);have h0:=aVL t i acc m|>.t sd d sd sd ⟨kk,⟨kk,⟨kk,⟨aI _ (fun _=>bE _) _,⟨kZ0,⟨kZ0,trivial⟩⟩⟩⟩⟩⟩;obtain⟨m1,a1,b1⟩ :=aNF t d i (by omega) hdl d.cons 0 acc m rfl (by omega) hm;obtain⟨m2,a2,b2⟩ :=aI2 hl hd r (i+1) (acc++d.cons.map vB) m1 q2 (by simp;omega) a1;rw [append_assoc]at a2 b2;exact⟨m2,a2,(h0.trans b1).trans b2⟩
def eB (f:FunD) :LFun:= ⟨f.nm,0⟩
theorem aNG (l4:List Con)(m8:List (aA×Int))(hl:t.funs.length≤1000) :∀ (r:List FunD) (i:Nat) (acc:List LFun) (m:List (aA×Int)),t.funs.drop i=r→acc.length=i→IdxM (acc.map LFun.name) m →
  ∃m',IdxM ((acc++r.map eB).map LFun.name) m'∧LeadsM PP 0 (aHr t (i:Int) acc m l4 m8).as (aHs t l4 (acc++r.map eB) m8 m').as
 | [],i,acc,m,h,ha,hm=>by
  have:=aZ h;rw [map_nil,append_nil];exact⟨m,hm,aVN t i acc m l4 m8|>.f sd ⟨kk,⟨kk,⟨kk,⟨aI _ (fun _=>bE _) _,⟨kZ0,⟨kZ0,trivial⟩⟩⟩⟩⟩⟩⟩
 | .mk n p (.mk f0 f1 f2 f3) (.mk g0 g1 g2 g3) (.mk b0 b1 b2 b3 b4) ::r,i,acc,m,h,ha,hm=>by
  obtain⟨q1,q2,q3⟩ :=aY h;have hi:= (List.getElem?_eq_some_iff.1 q1).1;have h0:=aVN t i acc m l4 m8|>.t sd n p f0 f1 f2 f3 g0 g1 g2 g3 b0 b1 b2 b3 b4 sd sd (by simp;omega) sd ⟨kk,⟨kk,⟨kk,⟨aI _ (fun _=>bE _) _,⟨kZ0,⟨kZ0,trivial⟩⟩⟩⟩⟩⟩;have hm2:=hm.snoc n;rw [length_map,ha]at hm2;obtain⟨m',a,b⟩ :=aNG l4 m8 hl r (i+1) (acc++ [⟨n,0⟩]) (bS n ((i:Nat) :Int) m) q2 (by simp [ha]) (by rw [map_append];exact hm2);rw [append_assoc]at a b;exact⟨m',a,h0.trans b⟩
variable (own :List aA) (cs:List Con) (mc mf:List (aA×Int)) (hcm:aNr cs mc) (hfm:aR0 own mf) (hol:own.length≤1000) (hfl:t.funs.length≤10)
 (hft:∀f∈t.funs,match f with| .mk _ _ _ _ b=>cJ b≤80∧tsm b=true∧kQ b=true∧fD b≤16)
include hcm hfm hol hfl hft
theorem aHt (F:List LFun→List aA→List Node→AV)(hF:∀ (fs:List LFun) (nd:List aA) (ns:List Node),ns.length≤900→nd.length≤900→aNE (aAH t cs fs mc mf (t.funs.length:Int) nd (map Node.o ns)) (F fs nd ns)) :
  ∀ (r:List FunD) (i:Nat) (done:List LFun) (nd:List aA) (ns:List Node),t.funs.drop i=r→done.length=i→i≤t.funs.length→ns.length≤80*i→nd.length≤80*i →
  (r.all (mdF cs) =true→aNE (aAH t cs (done++r.map eB) mc mf (i:Int) nd (map Node.o ns)) (F (done++ (uF own cs r nd ns.length).1) (nd++ (uF own cs r nd ns.length).2.1) (ns++ (uF own cs r nd ns.length).2.2))) ∧
  (r.all (mdF cs) =false→aNE (aAH t cs (done++r.map eB) mc mf (i:Int) nd (map Node.o ns)) (ZUe 7))
 | [],i,done,nd,ns,h,hd,hle,hn,hnd=>by
  have h1:=aZ h;have e:i=t.funs.length:=by omega
  rw [uF,map_nil];simp only [append_nil];subst e;exact⟨fun _=>hF done nd ns (by omega) (by omega),fun h=>by simp at h⟩
 | .mk n p (.mk f0 f1 f2 f3) (.mk g0 g1 g2 g3) (.mk b0 b1 b2 b3 b4) ::r,i,done,nd,ns,h,hd,hle0,hn,hnd=>by
  obtain⟨q1,q2,q3⟩ :=aY h;have hi:= (List.getElem?_eq_some_iff.1 q1).1;obtain⟨z1,z2,z3,z4⟩ :=hft _ (mem_of_getElem? q1);have hr:=aNC t.name cs (done++ (eB (.mk n p (.mk f0 f1 f2 f3) (.mk g0 g1 g2 g3) (.mk b0 b1 b2 b3 b4)) ::r.map eB)) mc mf own hcm hfm hol (.mk b0 b1 b2 b3 b4) [p] nd (map Node.o ns) (by omega) z2 z3 (by simp;omega) (by simp;omega) (by omega);have hle:i< (done++ (eB (.mk n p (.mk f0 f1 f2 f3) (.mk g0 g1 g2 g3) (.mk b0 b1 b2 b3 b4)) ::r.map eB)).length:=by simp;omega
  have hgi: (done++ (eB (.mk n p (.mk f0 f1 f2 f3) (.mk g0 g1 g2 g3) (.mk b0 b1 b2 b3 b4)) ::r.map eB))[((i:Nat) :Int).toNat]?=some ⟨n,0⟩ :=by
   rw [Int.toNat_natCast,List.getElem?_append_right (by omega),hd,Nat.sub_self];rfl
  rw [map_cons,all_cons,mdF];have h40:=aVO t cs (done++ (eB (.mk n p (.mk f0 f1 f2 f3) (.mk g0 g1 g2 g3) (.mk b0 b1 b2 b3 b4)) ::r.map eB)) mc mf i nd (map Node.o ns)|>.t sd n p f0 f1 f2 f3 g0 g1 g2 g3 b0 b1 b2 b3 b4 sd sd ⟨kk,⟨kk,⟨aI _ (fun _=>bE _) _,⟨kZ0,⟨kZ0,trivial⟩⟩⟩⟩⟩;unfold NDR at hr;cases hk:mdT cs (.mk b0 b1 b2 b3 b4)
  case false=>
   rw [hk,if_neg (by simp)]at hr;rw [Bool.false_and];refine⟨fun h=> (by cases h),fun _=>?_⟩
   have hs':=rZ (m:=4) (ks:=[2,7,8,4,5,6,9]) (n2:=10) (n3:=10) (args':=[.ptr 2 0,Term.av (.mk b0 b1 b2 b3 b4),.slice 9 0 1 1 1 true])
    (lc:=[(0,ZU5,false),(1,E1C,false),(2,MkC t.name cs (done++ (eB (.mk n p (.mk f0 f1 f2 f3) (.mk g0 g1 g2 g3) (.mk b0 b1 b2 b3 b4)) ::r.map eB)) nd (map Node.o ns) 4 5 6 7 8,false),(3,FdC n p f0 f1 f2 f3 g0 g1 g2 g3 b0 b1 b2 b3 b4,false),(4,fO (done++ (eB (.mk n p (.mk f0 f1 f2 f3) (.mk g0 g1 g2 g3) (.mk b0 b1 b2 b3 b4)) ::r.map eB)),true),(5,gV nd,true),(6,OL (map Node.o ns),true),(7,pO mc,true),(8,pO mf,true),(9,yS p,false)])
    (lc':=[(0,ZU5,false),(1,E1C,false),(3,FdC n p f0 f1 f2 f3 g0 g1 g2 g3 b0 b1 b2 b3 b4,false),(4,fO (done++ (eB (.mk n p (.mk f0 f1 f2 f3) (.mk g0 g1 g2 g3) (.mk b0 b1 b2 b3 b4)) ::r.map eB)),true),(7,pO mc,true),(8,pO mf,true)])
    (aXn hr) (by rfl) aNw kR0 (by rfl) (by rfl) kR0 kR0 (aCw t.name cs _ nd (map Node.o ns) mc mf) kR0 (aNv ..)
   have h50:=aXs t cs n p f0 f1 f2 f3 g0 g1 g2 g3 b0 b1 b2 b3 b4 (done++ (eB (.mk n p (.mk f0 f1 f2 f3) (.mk g0 g1 g2 g3) (.mk b0 b1 b2 b3 b4)) ::r.map eB)) mc mf i i nd (map Node.o ns) ⟨n,0⟩ hs' (by omega) (by omega) hgi;exact(h40.trans h50).ends (aVX _ _ _ _ _ _ _ _ _ _ _ _ _ _ _ _ _ _)
  rw [hk,if_pos rfl]at hr;rw [Bool.true_and,uF];have hns:=aCt own cs (.mk b0 b1 b2 b3 b4) [p] nd ns.length;have hnd2:=aG9 own cs (.mk b0 b1 b2 b3 b4) [p] nd ns.length;rw [length_map]at hr;generalize uT own cs (.mk b0 b1 b2 b3 b4) [p] nd ns.length=q at hr hns hnd2 ⊢;obtain⟨w,nn⟩ :=q;simp only at hr hns hnd2 ⊢
  have hs':=iY (m:=4) (ks:=[2,7,8,4,5,6,9]) (n2:=10) (n3:=12) (v':=.int .i64 ((length (map Node.o ns) :Nat) :Int)) (args':=[.ptr 2 0,Term.av (.mk b0 b1 b2 b3 b4),.slice 9 0 1 1 1 true])
   (lc:=[(0,ZU5,false),(1,E1C,false),(2,MkC t.name cs (done++ (eB (.mk n p (.mk f0 f1 f2 f3) (.mk g0 g1 g2 g3) (.mk b0 b1 b2 b3 b4)) ::r.map eB)) nd (map Node.o ns) 4 5 6 7 8,false),(3,FdC n p f0 f1 f2 f3 g0 g1 g2 g3 b0 b1 b2 b3 b4,false),(4,fO (done++ (eB (.mk n p (.mk f0 f1 f2 f3) (.mk g0 g1 g2 g3) (.mk b0 b1 b2 b3 b4)) ::r.map eB)),true),(5,gV nd,true),(6,OL (map Node.o ns),true),(7,pO mc,true),(8,pO mf,true),(9,yS p,false)])
   (lc':=[(0,ZU5,false),(1,E1C,false),(2,MkC t.name cs (done++ (eB (.mk n p (.mk f0 f1 f2 f3) (.mk g0 g1 g2 g3) (.mk b0 b1 b2 b3 b4)) ::r.map eB)) (nd++w) (map Node.o ns++map Node.o nn) 4 10 11 7 8,false),(3,FdC n p f0 f1 f2 f3 g0 g1 g2 g3 b0 b1 b2 b3 b4,false),(4,fO (done++ (eB (.mk n p (.mk f0 f1 f2 f3) (.mk g0 g1 g2 g3) (.mk b0 b1 b2 b3 b4)) ::r.map eB)),true),(7,pO mc,true),(8,pO mf,true),(10,gV (nd++w),true),(11,OL (map Node.o ns++map Node.o nn),true)])
   (aXm hr) (by rfl) (by rfl) kR0 (by rfl) (by rfl) kR0 kR0 (aCw t.name cs _ nd (map Node.o ns) mc mf) kR0 (aCw t.name cs _ (nd++w) (map Node.o ns++map Node.o nn) mc mf)
  have h51:=aXp t cs n p f0 f1 f2 f3 g0 g1 g2 g3 b0 b1 b2 b3 b4 (done++ (eB (.mk n p (.mk f0 f1 f2 f3) (.mk g0 g1 g2 g3) (.mk b0 b1 b2 b3 b4)) ::r.map eB)) mc mf i i nd (map Node.o ns) nn w ⟨n,0⟩ hs' (by omega) (by omega) hgi sd;have R:=aHt F hF r (i+1) (done++ [⟨n,((ns.length:Nat) :Int)⟩]) (nd++w) (ns++nn) q2 (by simp [hd]) (by omega) (by simp;omega) (by simp;omega);have es: (done++ (eB (.mk n p (.mk f0 f1 f2 f3) (.mk g0 g1 g2 g3) (.mk b0 b1 b2 b3 b4)) ::r.map eB)).set ((i:Nat) :Int).toNat ⟨n,((length (map Node.o ns) :Nat) :Int)⟩ = (done++ [⟨n,((ns.length:Nat) :Int)⟩]) ++r.map eB:=by
   rw [Int.toNat_natCast,List.set_append_right _ _ (by omega),hd,Nat.sub_self,length_map];simp
  rw [es,←map_append]at h51;rw [length_append]at R;simp only [append_assoc,List.singleton_append]at R h51;exact⟨fun h=> (h40.trans h51).ends (R.1 h),fun h=> (h40.trans h51).ends (R.2 h)⟩
end
theorem aVY {b:Bool}(hb:b=true)(e:Int)(h:Hp) :Spec PP (.enter 46 [.bool b,.int .i64 e]) h (.pan [(.iface 174 (.agg [.int .i64 e]),false)]) h:=by subst hb;exact aHh e h
theorem aVZ {b:Bool}(hb:b=false)(e:Int)(h:Hp) :Spec PP (.enter 46 [.bool b,.int .i64 e]) h (.ret (.tup [])) h:=by subst hb;exact aU8 e h
def aI3 (m:Mod)(fs:List LFun)(nd:List aA)(ns:List Node) :AV:=
 if(sD ns||decide (20<nd.length)) =true then ZUe 3 else .tup [LUnit.av ⟨m.name,dK m,fs,nd,ns⟩,.int .i64 0]
theorem aV0 (m:Mod)(mc mf:List (aA×Int))(fs:List LFun)(nd:List aA)(ns:List Node)(hn:ns.length≤900)(hd:nd.length≤900) :aNE (aAH m (dK m) fs mc mf (m.funs.length:Int) nd (map Node.o ns)) (aI3 m fs nd ns) :=by
 have h1:=aVO m (dK m) fs mc mf (m.funs.length:Int) nd (map Node.o ns)|>.f (by simp) ns rfl (length_map ..).symm (sD ns) (aR3 ns (by omega)) ⟨kZ0,⟨kZ0,trivial⟩⟩;refine LeadsM.ends h1 ?_;unfold aI3;cases hf:sD ns
 case true=>
  rw [Bool.true_or,if_pos rfl];exact aPd m true (dK m) fs ns mc mf nd|>.t rfl|>.1 (aHh 3 _) tv
 rw [Bool.false_or];by_cases h20:20<nd.length
 · rw [if_pos (by simpa using h20)];exact aPd m false (dK m) fs ns mc mf nd|>.f rfl|>.1 (aVY (by simp;omega) 3 _) tv
 · rw [if_neg (by simpa using h20)];exact aPd m false (dK m) fs ns mc mf nd|>.f rfl|>.2 (aVZ (by simp;omega) 3 _) tv
theorem aPf (m:Mod)(hs:mY m=true) :∃v,aNE (aVI m) v∧∀ (E:Emb) (cv:Value),VR E v cv→VR E (.tup [LUnit.av (mD m).1,.int .i64 (mD m).2]) cv:=by
 have hcm:=aUh m (aCv hs) (aO6 hs);unfold mD;cases ho:aBO m
 case false=>
  rw [ho,if_neg (by simp)]at hcm;rw [if_neg (by simp)];exact⟨_,aVK m 2 hcm|>.1 (aVY (by simp) 2 _) tv,fun E cv h=>lC h⟩
 rw [ho,if_pos rfl]at hcm;rw [if_pos rfl];have f:=aO7 hs ho;have hdl:=f.dl;have hfl:=f.fl;have hcl:=aA4 m.datas f.cl;have h0:=aVK m 0 hcm|>.2 (aVZ (by simp) 2 _) ⟨kk,⟨kk,⟨kk,⟨aI _ (fun _=>bE _) _,⟨kZ0,⟨kZ0,trivial⟩⟩⟩⟩⟩⟩;obtain⟨mc,hmc,l1⟩ :=aI2 m (by omega) (fun d hd=>by have:=f.cl d hd;omega) m.datas 0 [] [] rfl (by simp) IdxM.nil;rw [nil_append]at hmc l1;obtain⟨mf,hmf,l2⟩ :=aNG m (dK m) mc (by omega) m.funs 0 [] [] rfl rfl IdxM.nil;rw [nil_append]at hmf l2;have en: (m.funs.map eB).map LFun.name=m.funs.map FunD.nm:=by rw [map_map];rfl
 rw [en]at hmf;have L3:= (h0.trans l1).trans l2;have ec: (length (aK aD bM 0 mc)) =mc.length:=aFt ..;have ef: (length (aK aD bM 0 mf)) =mf.length:=aFt ..;have q1:=hmc.len;have q2:=hmf.len;have q3:=hmc.eq;have q4:=hmf.eq;rw [length_map]at q1 q2 q3 q4;have efl: (m.datas.map fun d=>d.cons.map vB).flatten=dK m:=rfl;rw [efl]at q1 q3 hmc;cases hd1:cU ((dK m).map Con.name)
 case false=>
  rw [Bool.false_and,Bool.false_and,if_neg (by simp)];have:mc.length≠ (dK m).length:=fun e=>by rw [q3]at e;rw [hd1]at e;cases e
  exact⟨_,(L3.trans (aXq m (dK m) _ mc mf (by rw [ec];simp;omega) (aHh 7 _))).ends (aVV _ _ _ _ _),fun E cv h=>lC h⟩
 have e1:mc.length= (dK m).length:=q3.2 hd1;rw [Bool.true_and];cases hd2:cU (m.funs.map FunD.nm)
 case false=>
  rw [Bool.false_and,if_neg (by simp)];have:mf.length≠m.funs.length:=fun e=>by rw [q4]at e;rw [hd2]at e;cases e
  exact⟨_,(L3.trans (aXr m (dK m) _ mc mf (by rw [ec];simp;omega) (aVY (by rw [ef];simp;omega) 7 _))).ends (aVW _ _ _ _ _),fun E cv h=>lC h⟩
 have e2:mf.length=m.funs.length:=q4.2 hd2;rw [Bool.true_and];have L4:=L3.trans (aZ8 m (dK m) _ mc mf|>.2 (by rw [ec];simp;omega) (aVZ (by rw [ef];simp;omega) 7 _) ⟨kk,⟨kk,⟨aI _ (fun _=>bE _) _,⟨kZ0,⟨kZ0,trivial⟩⟩⟩⟩⟩)
 have B:=aHt m (m.funs.map FunD.nm) (dK m) mc mf (hmc.con hd1) (hmf.fn hd2) (by simp;omega) (by omega) (fun x hx=>by
  have a:=f.sz x hx;have b:=f.dp x hx;have c:=f.sm x hx;have d:=f.tf x hx;obtain⟨n',p',a',b',c'⟩ :=x;exact⟨a,c,d,b⟩) (aI3 m) (fun fs nd ns h1 h2=>aV0 m mc mf fs nd ns h1 h2) m.funs 0 [] [] [] rfl rfl (by omega) (by simp) (by simp)
 simp only [nil_append,List.length_nil,map_nil]at B;cases hk:m.funs.all (mdF (dK m))
 case false=>
  rw [if_neg (by simp)];exact⟨_,L4.ends (B.2 hk),fun E cv h=>lC h⟩
 rw [if_pos rfl];refine⟨_,L4.ends (B.1 hk),fun E cv h=>?_⟩;unfold aI3 at h;by_cases hq: (sD (jZ m).nodes||decide (20< (jZ m).needs.length)) =true
 · rw [if_pos hq];have hq': (sD (uF (m.funs.map FunD.nm) (dK m) m.funs [] 0).2.2||decide (20< (uF (m.funs.map FunD.nm) (dK m) m.funs [] 0).2.1.length)) =true:=hq;rw [if_pos hq']at h;exact lC h
 · rw [if_neg hq];have hq':¬ (sD (uF (m.funs.map FunD.nm) (dK m) m.funs [] 0).2.2||decide (20< (uF (m.funs.map FunD.nm) (dK m) m.funs [] 0).2.1.length)) =true:=hq;rw [if_neg hq']at h;exact h
theorem aPg (m:Mod)(hs:mY m=true) :Pure PP 17 [Mod.av m] (.tup [LUnit.av (mD m).1,.int .i64 (mD m).2]) :=by
 obtain⟨v,h1,h2⟩ :=aPf m hs;exact bU (s:=aVI m) kR0 kR0 (by simp [keylessL,aEk]) (by simp [keyless,keylessL,lB]) (aEi h1 h2)
abbrev aV1 (s:TS)(v:AV) :Prop:=Ends PP 0 s.as (.ret v) (aG [] 0)
section
variable (m :Mod)
theorem aNH (cs:List Con)(hc:cs.length≤1000)(hl:m.funs.length≤1000)(ht:∀f∈m.funs,rR f) :∀ (r:List FunD) (i:Nat) (acc:List LFun),m.funs.drop i=r→acc.length=i→i≤m.funs.length →
  (r.all (mdF cs) =true→LeadsM PP 0 (vG m cs (i:Int) acc).as (vG m cs (m.funs.length:Int) (acc++r.map eB)).as) ∧ (r.all (mdF cs) =false→aV1 (vG m cs (i:Int) acc) (ZUe 7))
 | [],i,acc,h,ha,hle=>by
  have h1:=aZ h;have e:i=m.funs.length:=by omega
  subst e;rw [map_nil,append_nil];exact⟨fun _=>LeadsM.refl _,fun h=>by simp at h⟩
 | .mk n p (.mk f0 f1 f2 f3) (.mk g0 g1 g2 g3) (.mk b0 b1 b2 b3 b4) ::r,i,acc,h,ha,hle=>by
  obtain⟨q1,q2,q3⟩ :=aY h;have hi:= (List.getElem?_eq_some_iff.1 q1).1;obtain⟨_,_,hb⟩ :=ht _ (mem_of_getElem? q1);have hp:=aNd cs (by omega) (.mk b0 b1 b2 b3 b4) hb;rw [all_cons,mdF];cases hk:mdT cs (.mk b0 b1 b2 b3 b4)
  case false=>
   rw [hk]at hp;rw [Bool.false_and];exact⟨fun h=> (by cases h),fun _=>aHc m cs i acc|>.t sd n p f0 f1 f2 f3 g0 g1 g2 g3 b0 b1 b2 b3 b4 false sd sd (by simp;omega) sd sd hp|>.t rfl tv⟩
  rw [hk]at hp;rw [Bool.true_and];have h0:=aHc m cs i acc|>.t sd n p f0 f1 f2 f3 g0 g1 g2 g3 b0 b1 b2 b3 b4 true sd sd (by simp;omega) sd sd hp|>.f rfl sd ⟨kk,trivial⟩;have R:=aNH cs hc hl ht r (i+1) (acc++ [⟨n,0⟩]) q2 (by simp [ha]) (by omega);rw [append_assoc]at R;exact⟨fun h=>h0.trans (R.1 h),fun h=>h0.ends (R.2 h)⟩
abbrev aXy (nm:aA)(cs:List Con)(fns:List LFun)(nd:List aA)(us:List Node) :AObj:=.cells (putCells .leaf 0 [aD nm,.ilst 2 (map Con.av cs) false,.gl 3 2 0 (length fns) false,.ilst 1 (map aD nd) false,.ilst 4 (map Node.av us) false]) 5 [] false
abbrev bBp (nm:aA)(cs:List Con)(fns:List LFun)(nd:List aA)(us:List Node) :AV:=.agg [aD nm,.ilst 2 (map Con.av cs) false,.gl 3 2 0 (length fns) false,.ilst 1 (map aD nd) false,.ilst 4 (map Node.av us) false]
abbrev bCS (nm:aA)(cs:List Con)(fns:List LFun)(nd:List aA)(us:List Node)(b:Nat) :AV:=.agg [aD nm,.ilst 2 (map Con.av cs) false,.gl 3 2 0 (length fns) false,.ilst 1 (map aD nd) false,.gl b 4 0 (length us) false]
theorem aQ7 (cs:List Con)(fs:List LFun)(nd:List aA)(ns:List Node)(hn:ns.length<1000000) :∀ (r:List Node) (i:Nat),ns.drop i=r →
  aV1 (aAE m cs fs nd ns (i:Int)) (if(sD r||decide (20<nd.length)) =true then ZUe 3 else .tup [LUnit.av ⟨m.name,cs,fs,nd,ns⟩,.int .i64 0])
 | [],i,h=>by
  have:=aZ h;by_cases h20:20<nd.length
  · rw [if_pos (by simp [h20])];exact aHd m cs fs nd ns i|>.f sd|>.t (by simp;omega) tv
  · rw [if_neg (by simp [h20,sD])];exact aHd m cs fs nd ns i|>.f sd|>.f (by simp;omega) tv
 | x ::r,i,h=>by
  obtain⟨q1,q2,q3⟩ :=aY h;have hi:= (List.getElem?_eq_some_iff.1 q1).1;have ef:sD (x::r) = ((decide (x.op=4) &&decide (30≤x.n)) ||sD r) :=by unfold sD;rw [any_cons]
  have R:=aQ7 cs fs nd ns hn r (i+1) q2;by_cases h4:x.op=4
  · by_cases h30:30≤x.n
    · have e2:sD (x::r) =true:=by rw [ef];simp [h4,h30]
      rw [e2,Bool.true_or,if_pos rfl];exact aHd m cs fs nd ns i|>.t sd x sd sd|>.t (by simp [h4]) sd sd|>.t (by simp;omega) tv
    · have e2:sD (x::r) =sD r:=by rw [ef];simp [h30]
      rw [e2];exact(aHd m cs fs nd ns i|>.t sd x sd sd|>.t (by simp [h4]) sd sd|>.f (by simp;omega) sd ⟨kk,trivial⟩).ends R
  · have e2:sD (x::r) =sD r:=by rw [ef];simp [h4]
    rw [e2];exact(aHd m cs fs nd ns i|>.t sd x sd sd|>.f (by simp [h4]) sd ⟨kk,trivial⟩).ends R
variable (own :List aA) (cs:List Con) (hc:cs.length<1000000) (hfl:m.funs.length≤10)
 (hft:∀f∈m.funs,match f with| .mk _ _ _ _ b=>cJ b≤80∧tsm b=true∧kQ b=true∧fD b≤16)
include hc hfl hft
theorem aHu (V:AV)(K:List LFun→List aA→List Node→Prop)(hK:∀fs nd ns,K fs nd ns→ns.length≤900→aV1 (aAD m cs fs (m.funs.length:Int) nd ns) V) :∀ (r:List FunD) (i:Nat) (done:List LFun) (nd:List aA) (ns:List Node),m.funs.drop i=r→done.length=i→i≤m.funs.length→ns.length≤80*i→nd.length≤80*i→ (done++r.map eB).map LFun.name=own →
  K (done++ (uF own cs r nd ns.length).1) (nd++ (uF own cs r nd ns.length).2.1) (ns++ (uF own cs r nd ns.length).2.2) →aV1 (aAD m cs (done++r.map eB) (i:Int) nd ns) V
 | [],i,done,nd,ns,h,hd,hle,hn,hnd,hw,hk=>by
  have h1:=aZ h;have e:i=m.funs.length:=by omega
  rw [uF]at hk;simp only [append_nil]at hk;rw [map_nil,append_nil];subst e;exact hK _ _ _ hk (by omega)
 | .mk n p (.mk f0 f1 f2 f3) (.mk g0 g1 g2 g3) (.mk b0 b1 b2 b3 b4) ::r,i,done,nd,ns,h,hd,hle,hn,hnd,hw,hk=>by
  obtain⟨q1,q2,q3⟩ :=aY h;have hi:= (List.getElem?_eq_some_iff.1 q1).1;obtain⟨z1,z2,z3,z4⟩ :=hft _ (mem_of_getElem? q1);have hgi: (done++ (eB (.mk n p (.mk f0 f1 f2 f3) (.mk g0 g1 g2 g3) (.mk b0 b1 b2 b3 b4)) ::r.map eB))[((i:Nat) :Int).toNat]?=some ⟨n,0⟩ :=by
   rw [Int.toNat_natCast,List.getElem?_append_right (by omega),hd,Nat.sub_self];rfl
  have es: (done++ (eB (.mk n p (.mk f0 f1 f2 f3) (.mk g0 g1 g2 g3) (.mk b0 b1 b2 b3 b4)) ::r.map eB)).set ((i:Nat) :Int).toNat ⟨n,((length ns:Nat) :Int)⟩ = (done++ [⟨n,((ns.length:Nat) :Int)⟩]) ++r.map eB:=by
   rw [Int.toNat_natCast,List.set_append_right _ _ (by omega),hd,Nat.sub_self];simp
  have hw2: ((done++ [(⟨n,((ns.length:Nat) :Int)⟩ :LFun)]) ++r.map eB).map LFun.name=own:=by rw [←hw];simp [eB,FunD.nm]
  have hsp:=aNo m.name cs ((done++ [⟨n,((ns.length:Nat) :Int)⟩]) ++r.map eB) hc (by simp;have:=congrArg length h;simp at this;omega) (.mk b0 b1 b2 b3 b4) [p] nd ns (by omega) z2 z3 (by simp;omega) (by omega) (by omega);rw [hw2]at hsp;rw [uF]at hk;have hns:=aCt own cs (.mk b0 b1 b2 b3 b4) [p] nd ns.length;have hnd2:=aG9 own cs (.mk b0 b1 b2 b3 b4) [p] nd ns.length;generalize uT own cs (.mk b0 b1 b2 b3 b4) [p] nd ns.length=q at hsp hns hnd2 hk;obtain⟨w,nn⟩ :=q;simp only at hsp hns hnd2 hk
  have hs':=iY (m:=1) (ks:=[3,4]) (n2:=5) (n3:=6) (v':=bCS m.name cs ((done++ [⟨n,((ns.length:Nat) :Int)⟩]) ++r.map eB) (nd++w) (ns++nn) 5)
   (args':=[bBp m.name cs ((done++ [⟨n,((ns.length:Nat) :Int)⟩]) ++r.map eB) nd ns,Term.av (.mk b0 b1 b2 b3 b4),.slice 4 0 1 1 1 true])
   (lc:=[(0,MoC m,false),(1,ZU5,false),(2,aXy m.name cs ((done++ [⟨n,((ns.length:Nat) :Int)⟩]) ++r.map eB) nd ns,false),(3,fO ((done++ [⟨n,((ns.length:Nat) :Int)⟩]) ++r.map eB),true),(4,yS p,false)])
   (lc':=[(0,MoC m,false),(1,ZU5,false),(2,aXy m.name cs ((done++ [⟨n,((ns.length:Nat) :Int)⟩]) ++r.map eB) nd ns,false),(3,fO ((done++ [⟨n,((ns.length:Nat) :Int)⟩]) ++r.map eB),true),(5,NLs (ns++nn),true)])
   (aXe hsp) (by rfl) kR0 kR0 (by rfl) (by rfl) kR0 kR0 ⟨jV _,trivial⟩ kR0 ⟨jV _,aVf _,trivial⟩
  rw [←es]at hs';have h1:=aUZ m cs (done++ (eB (.mk n p (.mk f0 f1 f2 f3) (.mk g0 g1 g2 g3) (.mk b0 b1 b2 b3 b4)) ::r.map eB)) i nd ns|>.t sd (by omega) (by simp;omega) ⟨n,0⟩ hgi n p f0 f1 f2 f3 g0 g1 g2 g3 b0 b1 b2 b3 b4 w nn (by omega) (by rw [Int.toNat_natCast];exact q1) (by omega) (by rw [Int.toNat_natCast];exact q1) hs' sd ⟨kk,trivial⟩;rw [es]at h1;rw [map_cons];refine LeadsM.ends h1 ?_
  have R:=aHu V K hK r (i+1) (done++ [⟨n,((ns.length:Nat) :Int)⟩]) (nd++w) (ns++nn) q2 (by simp [hd]) (by omega) (by simp;omega) (by simp;omega) hw2 (by
   rw [length_append];simp only [append_assoc,List.singleton_append]at hk ⊢;exact hk)
  exact R
end
theorem aPh (m:Mod)(hs:mY m=true) :∃v,aV1 (aK4 m) v∧∀ (E:Emb) (cv:Value),VR E v cv→VR E (.tup [LUnit.av (mD m).1,.int .i64 (mD m).2]) cv:=by
 have hcm:=aUd m (aCv hs);unfold mD;cases ho:aBO m
 case false=>
  rw [ho]at hcm;rw [if_neg (by simp)];exact⟨_,aUY m false hcm|>.t rfl tv,fun E cv h=>lC h⟩
 rw [ho]at hcm;rw [if_pos rfl];have f:=aO7 hs ho;have hdl:=f.dl;have hfl:=f.fl;have hcl: (dK m).length≤8*m.datas.length:=aA4 m.datas f.cl;have h0:=aUY m true hcm|>.f rfl (dK m) (aUO m (by omega) (fun d hd=>by have:=f.cl d hd;omega)) ⟨kk,trivial⟩;have M:=aNH m (dK m) (by omega) (by omega) (aCv hs) m.funs 0 [] rfl rfl (by omega);rw [nil_append]at M;cases hk:m.funs.all (mdF (dK m))
 case false=>
  rw [Bool.and_false,if_neg (by simp)];exact⟨_,h0.ends (M.2 hk),fun E cv h=>lC h⟩
 rw [Bool.and_true];have L1:=h0.trans (M.1 hk);have en: (m.funs.map eB).map LFun.name=m.funs.map FunD.nm:=by rw [map_map];rfl
 have hF:=iY (m:=1) (ks:=[3]) (n2:=4) (n3:=5) (v':=.gl 4 1 0 (length ((m.funs.map eB).map LFun.name)) false) (args':=[bBp m.name (dK m) (m.funs.map eB) [] []])
  (lc:=[(0,MoC m,false),(1,ZU5,false),(2,aXy m.name (dK m) (m.funs.map eB) [] [],false),(3,fO (m.funs.map eB),true)])
  (lc':=[(0,MoC m,false),(1,ZU5,false),(2,aXy m.name (dK m) (m.funs.map eB) [] [],false),(3,fO (m.funs.map eB),true),(4,.lst 1 (map aD ((m.funs.map eB).map LFun.name)),true)])
  (aNh m.name (dK m) (m.funs.map eB) [] [] (by simp;omega)) (by rfl) kR0 kR0 (by rfl) (by rfl) kR0 kR0 ⟨jV _,trivial⟩ kR0 ⟨jV _,fV _,trivial⟩
 have hdf:=mQ ((m.funs.map eB).map LFun.name) (by simp;omega);rw [en]at hdf hF;have hdc:=mQ ((dK m).map Con.name) (by simp;omega);have hnc:=aUP (dK m) (by omega);cases hd2:cU (m.funs.map FunD.nm)
 case false=>
  rw [hd2]at hdf;rw [Bool.and_false,if_neg (by simp)];exact⟨_,L1.ends (aHc m (dK m) _ _|>.f (by simp) _ hF false hdf|>.t rfl tv),fun E cv h=>lC h⟩
 rw [hd2]at hdf;rw [Bool.and_true];cases hd1:cU ((dK m).map Con.name)
 case false=>
  rw [hd1]at hdc;rw [if_neg (by simp)];exact⟨_,L1.ends (aHc m (dK m) _ _|>.f (by simp) _ hF true hdf|>.f rfl _ hnc false hdc|>.t rfl tv),fun E cv h=>lC h⟩
 rw [hd1]at hdc;rw [if_pos rfl];have L2:=L1.trans (aHc m (dK m) _ _|>.f (by simp) _ hF true hdf|>.f rfl _ hnc true hdc|>.f rfl ⟨kk,trivial⟩)
 have B:=aHu m (m.funs.map FunD.nm) (dK m) (by omega) (by omega) (fun x hx=>by
  have a:=f.sz x hx;have b:=f.dp x hx;have c:=f.sm x hx;have d:=f.tf x hx;obtain⟨n',p',a',b',c'⟩ :=x
  exact⟨a,c,d,b⟩) (aI3 m (jZ m).funs (jZ m).needs (jZ m).nodes) (fun fs nd ns=>fs= (jZ m).funs∧nd= (jZ m).needs∧ns= (jZ m).nodes) (fun fs nd ns h hn=>by
   obtain⟨rfl,rfl,rfl⟩ :=h;have h1:=aUZ m (dK m) (jZ m).funs (m.funs.length:Int) (jZ m).needs (jZ m).nodes|>.f (by simp) ⟨kk,trivial⟩;exact LeadsM.ends h1 (aQ7 m (dK m) (jZ m).funs (jZ m).needs (jZ m).nodes (by omega) (jZ m).nodes 0 rfl)) m.funs 0 [] [] [] rfl rfl (by omega) (by simp) (by simp) (by simpa using en) (by simp only [nil_append,List.length_nil];exact⟨rfl,rfl,rfl⟩)
 rw [nil_append]at B;refine⟨_,L2.ends B,fun E cv h=>?_⟩;unfold aI3 at h;by_cases hq: (sD (jZ m).nodes||decide (20< (jZ m).needs.length)) =true
 · rw [if_pos hq]at h ⊢;exact lC h
 · rw [if_neg hq]at h ⊢;exact h
theorem aPi (m:Mod)(hs:mY m=true) :Pure PP 18 [Mod.av m] (.tup [LUnit.av (mD m).1,.int .i64 (mD m).2]) :=by
 obtain⟨v,h1,h2⟩ :=aPh m hs;exact bU (s:=aK4 m) kR0 kR0 (by simp [keylessL,aEk]) (by simp [keyless,keylessL,lB]) (aEi h1 h2)
theorem aCz :FitU aDA:= ⟨⟨by simp [vC,aDA],by simp [vC],by simp [vC,aDA],fun x hx=>by cases hx⟩,by simp [aDA],by simp [aDA]⟩
mutual
theorem aXz (cs:List Con) :∀p:Pat,bA (pnP cs p) =bA p
 | .mk f n s ps=>by rw [pnP,bA,bA,aHv cs ps]
theorem aHv (cs:List Con) :∀ps:List Pat,aQ (iJ cs ps) =aQ ps
 | [] =>by rw [iJ]
 |p::ps=>by rw [iJ,aQ,aQ,aXz cs p,aHv cs ps]
end
theorem aNI (own:List aA)(cs:List Con)(o:Int)(s:aA)(ps:List Pat) :∀ (ts:List Term) (i:Nat) (env nd:List aA) (a:Nat),(vX own cs o s ps ts i env nd a).2.1.length=ts.length
 | [],i,env,nd,a=>by rw [vX];rfl
 |t::ts,i,env,nd,a=>by rw [vX,length_cons,aNI own cs o s ps ts,length_cons]
mutual
theorem aV2 (own:List aA)(cs:List Con) :∀ (t:Term) (env nd:List aA) (a:Nat),tsm t=true→cJ t≤1000→∀x∈ (uT own cs t env nd a).2,aRM x
 | .mk o n s ks ps,env,nd,a,hs,hz,x,hx=>by
  simp only [cJ]at hz;have hkl:=rP ks;rw [tsm]at hs;simp only [Bool.and_eq_true,decide_eq_true_eq]at hs;obtain⟨⟨⟨_,hpl⟩,hsp⟩,hsk⟩ :=hs;have hsz:=xU ps hsp;rw [uT]at hx;rcases List.mem_cons.1 hx with e|hx
  · subst e;exact⟨by simp only [aNI];omega,by simp only [aHv];omega⟩
  ·exact aQ8 own cs o s ps ks 0 env _ (a+1) hsk (by omega) x hx
theorem aQ8 (own:List aA)(cs:List Con)(o:Int)(s:aA)(ps:List Pat) :∀ (ts:List Term) (i:Nat) (env nd:List aA) (a:Nat),aEj ts=true→cC ts≤1000→∀x∈ (vX own cs o s ps ts i env nd a).2.2,aRM x
 | [],i,env,nd,a,_,_,x,hx=>by rw [vX]at hx;cases hx
 | t::ts,i,env,nd,a,hs,hz,x,hx=>by
  rw [aEj,Bool.and_eq_true]at hs;simp only [cC]at hz;rw [vX]at hx;rcases List.mem_append.1 hx with hx|hx
  ·exact aV2 own cs t _ _ _ hs.1 (by omega) x hx
  ·exact aQ8 own cs o s ps ts _ _ _ _ hs.2 (by omega) x hx
end
theorem aV3 (own:List aA)(cs:List Con) :∀ (t:List FunD) (nd:List aA) (a:Nat),(∀f∈t,tsm f.bod=true∧cJ f.bod≤80) → (∀x∈ (uF own cs t nd a).2.2,aRM x) ∧ (uF own cs t nd a).1.length=t.length∧ (uF own cs t nd a).2.1.length≤80*t.length∧ (uF own cs t nd a).2.2.length≤80*t.length
 | [],nd,a,_=>by rw [uF];exact⟨(fun x hx=>by cases hx),rfl,by simp,by simp⟩
 | .mk nm p q r b::t,nd,a,h=>by
  rw [uF];obtain⟨h1,h2⟩ :=h _ (List.mem_cons_self ..);simp only [FunD.bod]at h1 h2;obtain⟨k1,k2,k3,k4⟩ :=aV3 own cs t (nd++ (uT own cs b [p] nd a).1) (a+ (uT own cs b [p] nd a).2.length) (fun y hy=>h y (List.mem_cons_of_mem _ hy));refine⟨fun x hx=>?_,?_,?_,?_⟩
  · rcases List.mem_append.1 hx with hx|hx
    ·exact aV2 own cs b _ _ _ h1 (by omega) x hx
    ·exact k1 x hx
  ·rw [length_cons,k2,length_cons]
  · have:=aG9 own cs b [p] nd a;simp only [length_append,length_cons];omega
  · have:=aCt own cs b [p] nd a;simp only [length_append,length_cons];omega
theorem aR4 (m:Mod)(hs:mY m=true) :FitU (mD m).1:=by
 unfold mD;cases ho:aBO m
 case false=>exact aCz
 rw [if_pos rfl];split
 · split
   ·exact aCz
   · have F:=aO7 hs ho;have hfl:=F.fl;have hdl:=F.dl;have hc: (dK m).length≤8*m.datas.length:=aA4 m.datas F.cl;obtain⟨k1,k2,k3,k4⟩ :=aV3 (m.funs.map FunD.nm) (dK m) m.funs [] 0 (fun f hf=> ⟨F.sm f hf,F.sz f hf⟩);exact⟨⟨by simp only [vC,jZ];omega,by simp [vC],by simp only [vC,jZ];omega,k1⟩,by simp only [jZ];omega,by simp only [jZ];omega⟩
 ·exact aCz
theorem lForms_calls (u:LUnit)(m:Mod)(hn:NumU u)(hk:Pure PP 6 [] (.bool true)) :
  ∀ (w:World) (cargs:List Value),VRs (embOf w) [LUnit.av u,Mod.av m] cargs→Calls PP 4 ⟨cargs⟩ w fun e w'=>e= .returned (.bool true) ∧GrownO w w':=by
 have h0:=aUz u;cases e:aGY u
 case false=>rw [e]at h0;exact aXu u m false true h0 rfl hk
 rw [e]at h0;have h1:=aUb m;cases e1:mY m
 case false=>rw [e1]at h1;exact aXv u m true false true h0 rfl h1 rfl hk
 rw [e1]at h1;have hf:=aON e;have a0:=aVe u hf hn;have a1:=aUC u hf;have a2:=aPg m e1;have a3:=aPi m e1;have a4:=aNk _ (aR4 m e1);cases e2:xP u
 case false=>
  rw [e2]at a0 a1;have a5:Pure PP 15 [LUnit.av u] (.int .i64 2) :=bU (s:=aVQ u) kR0 kR0 (by simp [keylessL,lB]) (by simp [keyless]) (aVT u false a0|>.t rfl tv);exact aXw u m true true 2 false (mD m).1 (mD m).2 (mD m).1 (mD m).2 true true h0 rfl h1 rfl a5 a1 (by decide) (by decide) (by decide) a2 a3 (by simp) a4 rfl hk
 rw [e2]at a0 a1;have a5:Pure PP 15 [LUnit.av u] (.int .i64 0) :=bU (s:=aVQ u) kR0 kR0 (by simp [keylessL,lB]) (by simp [keyless]) (aVT u true a0|>.f rfl tv);exact aXx u m true true 0 true (mD m).1 (mD m).2 (mD m).1 (mD m).2 true true h0 rfl h1 rfl a5 a1 (by decide) (by decide) a2 a3 (by simp) a4 rfl hk
section
variable {H :Type} {enc:TypeId×Value→H} {w:World} {spare:Nat→Bool} {held:Bool}
theorem bBq {α:Type}{cs:List α}(h:cs.length=5) :∃a b c d e,cs= [a,b,c,d,e] :=by
 match cs,h with
 | [a,b,c,d,e],_=>exact⟨a,b,c,d,e,rfl⟩
section
theorem cells48 :Tryz.prog.cellsOf 48=5:=by kernel_rfl
theorem aXA :Tryz.prog.cellsOf 45=1:=by kernel_rfl
theorem cells68 :Tryz.prog.cellsOf 68=2:=by kernel_rfl
theorem cells46 :Tryz.prog.cellsOf 46=1:=by kernel_rfl
abbrev aV4 :={x:Node // -9223372036854775808≤x.n∧x.n≤9223372036854775807}
abbrev bBr :={u:LUnit // NumU u}
theorem aPj (fuel:Nat)(cs:List Value)(x:DataW H×List MemPlace)(h:DataW.trod enc Tryz.prog w 0 spare held fuel 82 cs=some x) :∃p:aV4,Elt w 4 (Node.av p.1) cs:=by
 obtain⟨xs,m,rfl,rfl,hl,hlen,hf⟩ :=DataW.trod_struct Tryz.underlying82 h;rw [aPF]at hl;obtain⟨c0,c1,c2,c3,rfl⟩ :=four hl;have h0:DataW.trod enc Tryz.prog w 0 spare held m 79 (([c0,c1,c2,c3].drop 0).take (Tryz.prog.cellsOf 79)) =xs[0]?:=hf 0 _ rfl;have h1:DataW.trod enc Tryz.prog w 0 spare held m 3 (([c0,c1,c2,c3].drop 1).take (Tryz.prog.cellsOf 3)) =xs[1]?:=hf 1 _ rfl;have h2:DataW.trod enc Tryz.prog w 0 spare held m 36 (([c0,c1,c2,c3].drop 2).take (Tryz.prog.cellsOf 36)) =xs[2]?:=hf 2 _ rfl;have h3:DataW.trod enc Tryz.prog w 0 spare held m 80 (([c0,c1,c2,c3].drop 3).take (Tryz.prog.cellsOf 80)) =xs[3]?:=hf 3 _ rfl;simp only [aPE,cells3,cells36,aJX,drop,take]at h0 h1 h2 h3;obtain⟨x0,h0⟩ :=got h0 hlen (by decide);obtain⟨x1,h1⟩ :=got h1 hlen (by decide);obtain⟨x2,h2⟩ :=got h2 hlen (by decide);obtain⟨x3,h3⟩ :=got h3 hlen (by decide);obtain⟨f,e0⟩ :=kX Tryz.underlying79 h0;obtain⟨n,e1,hw⟩ :=DataW.trod_int Tryz.underlying3 h1;obtain⟨ks,c,e2,v2⟩ :=aRr h2;obtain⟨ps,c',e3,v3⟩ :=eO Pat.av Tryz.underlying80 aDc (by omega) h3 (fun fu _ cs x hx=>aL8 fu cs x hx);cases e0;cases e1;cases e2;cases e3;have hr: -9223372036854775808≤n∧n≤9223372036854775807:=by
  have e1:IntKind.i64.min= -9223372036854775808:=by decide
  have e2:IntKind.i64.max=9223372036854775807:=by decide
  have hw:=hw.2;simp only [Lit.wf,Bool.and_eq_true,decide_eq_true_eq]at hw;omega
 refine⟨⟨⟨f,n,ks,ps⟩,hr⟩,?_⟩;simp only [Node.av,aF];refine oO (VRs.cons (by simp only [VR]) (VRs.cons (by simp only [VR]) (VRs.cons v2 (VRs.cons v3 (VRs.nil _))))) ?_;rfl
theorem aR5 (fuel:Nat)(cs:List Value)(x:DataW H×List MemPlace)(h:DataW.trod enc Tryz.prog w 0 spare held fuel 68 cs=some x) :∃p:LFun,Elt w 2 (LFun.av p) cs:=by
 obtain⟨xs,m,rfl,rfl,hl,hlen,hf⟩ :=DataW.trod_struct Tryz.underlying68 h;rw [cells68]at hl;obtain⟨c0,c1,rfl⟩ :=two hl;have h0:DataW.trod enc Tryz.prog w 0 spare held m 9 (([c0,c1].drop 0).take (Tryz.prog.cellsOf 9)) =xs[0]?:=hf 0 _ rfl;have h1:DataW.trod enc Tryz.prog w 0 spare held m 3 (([c0,c1].drop 1).take (Tryz.prog.cellsOf 3)) =xs[1]?:=hf 1 _ rfl;simp only [cells9,cells3,drop,take]at h0 h1;obtain⟨x0,h0⟩ :=got h0 hlen (by decide);obtain⟨x1,h1⟩ :=got h1 hlen (by decide);obtain⟨s,c,e0,v0⟩ :=jR Tryz.underlying9 h0;obtain⟨n,e1⟩ :=kX Tryz.underlying3 h1;cases e0;cases e1;refine⟨⟨s,n⟩,?_⟩;simp only [LFun.av];refine oO (VRs.cons v0 (VRs.cons (by simp only [VR]) (VRs.nil _))) ?_;rfl
theorem aR6 {fuel:Nat}{cs:List Value}{x:DataW H×List MemPlace}(h:DataW.trod enc Tryz.prog w 0 spare held fuel 46 cs=some x) :∃ (l:List aA) (c:Value),cs= [c] ∧VR (embOf w) (.ilst 1 (l.map aD) false) c:=
 eO aD Tryz.underlying46 cells9 (by omega) h (fun fu _ cs x hx=>by
  obtain⟨s,c,rfl,v⟩ :=jR Tryz.underlying9 hx;exact⟨s,aPD v rfl (aSZ v rfl)⟩)
theorem aPk (fuel:Nat)(cs:List Value)(x:DataW H×List MemPlace)(h:DataW.trod enc Tryz.prog w 0 spare held fuel 48 cs=some x) :∃p:bBr,Elt w 5 (LUnit.av p.1) cs:=by
 obtain⟨xs,m,rfl,rfl,hl,hlen,hf⟩ :=DataW.trod_struct Tryz.underlying48 h;rw [cells48]at hl;obtain⟨c0,c1,c2,c3,c4,rfl⟩ :=bBq hl;have h0:DataW.trod enc Tryz.prog w 0 spare held m 9 (([c0,c1,c2,c3,c4].drop 0).take (Tryz.prog.cellsOf 9)) =xs[0]?:=hf 0 _ rfl;have h1:DataW.trod enc Tryz.prog w 0 spare held m 37 (([c0,c1,c2,c3,c4].drop 1).take (Tryz.prog.cellsOf 37)) =xs[1]?:=hf 1 _ rfl;have h2:DataW.trod enc Tryz.prog w 0 spare held m 45 (([c0,c1,c2,c3,c4].drop 2).take (Tryz.prog.cellsOf 45)) =xs[2]?:=hf 2 _ rfl;have h3:DataW.trod enc Tryz.prog w 0 spare held m 46 (([c0,c1,c2,c3,c4].drop 3).take (Tryz.prog.cellsOf 46)) =xs[3]?:=hf 3 _ rfl;have h4:DataW.trod enc Tryz.prog w 0 spare held m 35 (([c0,c1,c2,c3,c4].drop 4).take (Tryz.prog.cellsOf 35)) =xs[4]?:=hf 4 _ rfl;simp only [cells9,cells37,aXA,cells46,cells35,drop,take]at h0 h1 h2 h3 h4;obtain⟨x0,h0⟩ :=got h0 hlen (by decide);obtain⟨x1,h1⟩ :=got h1 hlen (by decide);obtain⟨x2,h2⟩ :=got h2 hlen (by decide);obtain⟨x3,h3⟩ :=got h3 hlen (by decide);obtain⟨x4,h4⟩ :=got h4 hlen (by decide);obtain⟨s,c,e0,v0⟩ :=jR Tryz.underlying9 h0;obtain⟨ks,ck,e1,v1⟩ :=eO Con.av Tryz.underlying37 aL7 (by omega) h1 (fun fu _ cs x hx=>aS1 fu cs x hx);obtain⟨fs,cf,e2,v2⟩ :=eO LFun.av Tryz.underlying45 cells68 (by omega) h2 (fun fu _ cs x hx=>aR5 fu cs x hx);obtain⟨nd,cn,e3,v3⟩ :=aR6 h3;obtain⟨ns,cx,e4,v4⟩ :=eO (fun p:aV4=>Node.av p.1) Tryz.underlying35 aPF (by omega) h4 (fun fu _ cs x hx=>aPj fu cs x hx);cases e0;cases e1;cases e2;cases e3;cases e4;refine⟨⟨⟨s,ks,fs,nd,ns.map Subtype.val⟩,fun x hx=>?_⟩,?_⟩
 · obtain⟨p,_,rfl⟩ :=List.mem_map.1 hx;exact p.2
 · simp only [LUnit.av];rw [show ns.map (fun p:aV4=>Node.av p.1) =map Node.av (ns.map Subtype.val)by rw [map_map];rfl]at v4;refine oO (VRs.cons v0 (VRs.cons v1 (VRs.cons v2 (VRs.cons v3 (VRs.cons v4 (VRs.nil _)))))) ?_;rfl
end
theorem aFO {l:List AV}{n:Nat}{cs:List Value}(h:Elt w n (.agg l) cs) :VRs (embOf w) l cs:=by
 obtain⟨_,u,h1,h2,_⟩ :=h;simp only [VR]at h2;obtain⟨vs,rfl,h3⟩ :=h2;have:vs=cs:=h1;rw [←this];exact h3
theorem three {α:Type}{cs:List α}(h:cs.length=3) :∃a b c,cs= [a,b,c] :=by
 match cs,h with
 | [a,b,c],_=>exact⟨a,b,c,rfl⟩
theorem five {α:Type}{cs:List α}(h:cs.length=5) :∃a b c d e,cs= [a,b,c,d,e] :=by
 match cs,h with
 | [a,b,c,d,e],_=>exact⟨a,b,c,d,e,rfl⟩
theorem fifteen {α:Type}{cs:List α}(h:cs.length=15) :∃a b c d e f g i j k l m n o p,cs= [a,b,c,d,e,f,g,i,j,k,l,m,n,o,p] :=by
 match cs,h with
 | [a,b,c,d,e,f,g,i,j,k,l,m,n,o,p],_=>exact⟨a,b,c,d,e,f,g,i,j,k,l,m,n,o,p,rfl⟩
section
theorem aXB :Tryz.prog.cellsOf 93=1:=by kernel_rfl
theorem aLs :Tryz.prog.cellsOf 95=5:=by kernel_rfl
theorem aXC :Tryz.prog.cellsOf 89=1:=by kernel_rfl
theorem aQ9 :Tryz.prog.cellsOf 90=1:=by kernel_rfl
theorem aFP :Tryz.prog.cellsOf 92=4:=by kernel_rfl
theorem aRa :Tryz.prog.cellsOf 97=15:=by kernel_rfl
theorem cells24 :Tryz.prog.cellsOf 24=1:=by kernel_rfl
theorem cells25 :Tryz.prog.cellsOf 25=1:=by kernel_rfl
theorem cells27 :Tryz.prog.cellsOf 27=3:=by kernel_rfl
theorem cells86 :Tryz.prog.cellsOf 86=1:=by kernel_rfl
theorem aRb :Tryz.prog.cellsOf 88=2:=by kernel_rfl
theorem aNJ :Tryz.prog.cellsOf 117=2:=by kernel_rfl
theorem aHw :∀ (fuel:Nat) (cs:List Value) (x:DataW H×List MemPlace),DataW.trod enc Tryz.prog w 0 spare held fuel 92 cs=some x→∃p:Typ,Elt w 4 (Typ.av p) cs:=by
 intro fuel
 induction fuel using Nat.strongRecOn with
 | ind fuel ih=>
  intro cs x h;obtain⟨xs,m,rfl,rfl,hl,hlen,hf⟩ :=DataW.trod_struct Tryz.underlying92 h;rw [aFP]at hl;obtain⟨c0,c1,c2,c3,rfl⟩ :=four hl;have h0:DataW.trod enc Tryz.prog w 0 spare held m 89 (([c0,c1,c2,c3].drop 0).take (Tryz.prog.cellsOf 89)) =xs[0]?:=hf 0 _ rfl;have h1:DataW.trod enc Tryz.prog w 0 spare held m 3 (([c0,c1,c2,c3].drop 1).take (Tryz.prog.cellsOf 3)) =xs[1]?:=hf 1 _ rfl;have h2:DataW.trod enc Tryz.prog w 0 spare held m 9 (([c0,c1,c2,c3].drop 2).take (Tryz.prog.cellsOf 9)) =xs[2]?:=hf 2 _ rfl;have h3:DataW.trod enc Tryz.prog w 0 spare held m 90 (([c0,c1,c2,c3].drop 3).take (Tryz.prog.cellsOf 90)) =xs[3]?:=hf 3 _ rfl;simp only [aXC,cells3,cells9,aQ9,drop,take]at h0 h1 h2 h3;obtain⟨x0,h0⟩ :=got h0 hlen (by decide);obtain⟨x1,h1⟩ :=got h1 hlen (by decide);obtain⟨x2,h2⟩ :=got h2 hlen (by decide);obtain⟨x3,h3⟩ :=got h3 hlen (by decide);obtain⟨f,e0⟩ :=kX Tryz.underlying89 h0;obtain⟨n,e1⟩ :=kX Tryz.underlying3 h1;obtain⟨s,c,e2,v2⟩ :=jR Tryz.underlying9 h2;obtain⟨ps,c',e3,v3⟩ :=eO Typ.av Tryz.underlying90 aFP (by omega) h3 (fun fu hfu cs x hx=>ih fu (by omega) cs x hx);cases e0;cases e1;cases e2;cases e3;refine⟨.mk f n s ps,?_⟩;simp only [Typ.av,dU];refine oO (VRs.cons (by simp only [VR]) (VRs.cons (by simp only [VR]) (VRs.cons v2 (VRs.cons v3 (VRs.nil _))))) ?_;rfl
theorem aR7 :∀ (fuel:Nat) (cs:List Value) (x:DataW H×List MemPlace),DataW.trod enc Tryz.prog w 0 spare held fuel 95 cs=some x→∃p:Term,Elt w 5 (Term.av p) cs:=by
 intro fuel
 induction fuel using Nat.strongRecOn with
 | ind fuel ih=>
  intro cs x h;obtain⟨xs,m,rfl,rfl,hl,hlen,hf⟩ :=DataW.trod_struct Tryz.underlying95 h;rw [aLs]at hl;obtain⟨c0,c1,c2,c3,c4,rfl⟩ :=five hl;have h0:DataW.trod enc Tryz.prog w 0 spare held m 79 (([c0,c1,c2,c3,c4].drop 0).take (Tryz.prog.cellsOf 79)) =xs[0]?:=hf 0 _ rfl;have h1:DataW.trod enc Tryz.prog w 0 spare held m 3 (([c0,c1,c2,c3,c4].drop 1).take (Tryz.prog.cellsOf 3)) =xs[1]?:=hf 1 _ rfl;have h2:DataW.trod enc Tryz.prog w 0 spare held m 9 (([c0,c1,c2,c3,c4].drop 2).take (Tryz.prog.cellsOf 9)) =xs[2]?:=hf 2 _ rfl;have h3:DataW.trod enc Tryz.prog w 0 spare held m 93 (([c0,c1,c2,c3,c4].drop 3).take (Tryz.prog.cellsOf 93)) =xs[3]?:=hf 3 _ rfl;have h4:DataW.trod enc Tryz.prog w 0 spare held m 80 (([c0,c1,c2,c3,c4].drop 4).take (Tryz.prog.cellsOf 80)) =xs[4]?:=hf 4 _ rfl;simp only [aPE,cells3,cells9,aXB,aJX,drop,take]at h0 h1 h2 h3 h4;obtain⟨x0,h0⟩ :=got h0 hlen (by decide);obtain⟨x1,h1⟩ :=got h1 hlen (by decide);obtain⟨x2,h2⟩ :=got h2 hlen (by decide);obtain⟨x3,h3⟩ :=got h3 hlen (by decide);obtain⟨x4,h4⟩ :=got h4 hlen (by decide);obtain⟨f,e0⟩ :=kX Tryz.underlying79 h0;obtain⟨n,e1⟩ :=kX Tryz.underlying3 h1;obtain⟨s,c,e2,v2⟩ :=jR Tryz.underlying9 h2;obtain⟨ks,c',e3,v3⟩ :=eO Term.av Tryz.underlying93 aLs (by omega) h3 (fun fu hfu cs x hx=>ih fu (by omega) cs x hx);obtain⟨ps,c'',e4,v4⟩ :=eO Pat.av Tryz.underlying80 aDc (by omega) h4 (fun fu _ cs x hx=>aL8 fu cs x hx);cases e0;cases e1;cases e2;cases e3;cases e4;refine⟨.mk f n s ks ps,?_⟩;simp only [Term.av,dA,aF];refine oO (VRs.cons (by simp only [VR]) (VRs.cons (by simp only [VR]) (VRs.cons v2 (VRs.cons v3 (VRs.cons v4 (VRs.nil _)))))) ?_;rfl
theorem aR8 (fuel:Nat)(cs:List Value)(x:DataW H×List MemPlace)(h:DataW.trod enc Tryz.prog w 0 spare held fuel 117 cs=some x) :∃p:ConD,Elt w 2 (ConD.av p) cs:=by
 obtain⟨xs,m,rfl,rfl,hl,hlen,hf⟩ :=DataW.trod_struct Tryz.underlying117 h;rw [aNJ]at hl;obtain⟨c0,c1,rfl⟩ :=two hl;have h0:DataW.trod enc Tryz.prog w 0 spare held m 9 (([c0,c1].drop 0).take (Tryz.prog.cellsOf 9)) =xs[0]?:=hf 0 _ rfl;have h1:DataW.trod enc Tryz.prog w 0 spare held m 90 (([c0,c1].drop 1).take (Tryz.prog.cellsOf 90)) =xs[1]?:=hf 1 _ rfl;simp only [cells9,aQ9,drop,take]at h0 h1;obtain⟨x0,h0⟩ :=got h0 hlen (by decide);obtain⟨x1,h1⟩ :=got h1 hlen (by decide);obtain⟨s,c,e0,v0⟩ :=jR Tryz.underlying9 h0;obtain⟨ts,c',e1,v1⟩ :=eO Typ.av Tryz.underlying90 aFP (by omega) h1 (fun fu _ cs x hx=>aHw fu cs x hx);cases e0;cases e1;refine⟨⟨s,ts⟩,?_⟩;simp only [ConD.av,dU];refine oO (VRs.cons v0 (VRs.cons v1 (VRs.nil _))) ?_;rfl
theorem aR9 (fuel:Nat)(cs:List Value)(x:DataW H×List MemPlace)(h:DataW.trod enc Tryz.prog w 0 spare held fuel 88 cs=some x) :∃p:DataD,Elt w 2 (DataD.av p) cs:=by
 obtain⟨xs,m,rfl,rfl,hl,hlen,hf⟩ :=DataW.trod_struct Tryz.underlying88 h;rw [aRb]at hl;obtain⟨c0,c1,rfl⟩ :=two hl;have h0:DataW.trod enc Tryz.prog w 0 spare held m 9 (([c0,c1].drop 0).take (Tryz.prog.cellsOf 9)) =xs[0]?:=hf 0 _ rfl;have h1:DataW.trod enc Tryz.prog w 0 spare held m 86 (([c0,c1].drop 1).take (Tryz.prog.cellsOf 86)) =xs[1]?:=hf 1 _ rfl;simp only [cells9,cells86,drop,take]at h0 h1;obtain⟨x0,h0⟩ :=got h0 hlen (by decide);obtain⟨x1,h1⟩ :=got h1 hlen (by decide);obtain⟨s,c,e0,v0⟩ :=jR Tryz.underlying9 h0;obtain⟨ts,c',e1,v1⟩ :=eO ConD.av Tryz.underlying86 aNJ (by omega) h1 (fun fu _ cs x hx=>aR8 fu cs x hx);cases e0;cases e1;refine⟨⟨s,ts⟩,?_⟩;simp only [DataD.av];refine oO (VRs.cons v0 (VRs.cons v1 (VRs.nil _))) ?_;rfl
theorem aSa (fuel:Nat)(cs:List Value)(x:DataW H×List MemPlace)(h:DataW.trod enc Tryz.prog w 0 spare held fuel 97 cs=some x) :∃p:FunD,Elt w 15 (FunD.av p) cs:=by
 obtain⟨xs,m,rfl,rfl,hl,hlen,hf⟩ :=DataW.trod_struct Tryz.underlying97 h;rw [aRa]at hl;obtain⟨c0,c1,c2,c3,c4,c5,c6,c7,c8,c9,c10,c11,c12,c13,c14,rfl⟩ :=fifteen hl;have h0:DataW.trod enc Tryz.prog w 0 spare held m 9 (([c0,c1,c2,c3,c4,c5,c6,c7,c8,c9,c10,c11,c12,c13,c14].drop 0).take (Tryz.prog.cellsOf 9)) =xs[0]?:=hf 0 _ rfl;have h1:DataW.trod enc Tryz.prog w 0 spare held m 9 (([c0,c1,c2,c3,c4,c5,c6,c7,c8,c9,c10,c11,c12,c13,c14].drop 1).take (Tryz.prog.cellsOf 9)) =xs[1]?:=hf 1 _ rfl;have h2:DataW.trod enc Tryz.prog w 0 spare held m 92 (([c0,c1,c2,c3,c4,c5,c6,c7,c8,c9,c10,c11,c12,c13,c14].drop 2).take (Tryz.prog.cellsOf 92)) =xs[2]?:=hf 2 _ rfl;have h3:DataW.trod enc Tryz.prog w 0 spare held m 92 (([c0,c1,c2,c3,c4,c5,c6,c7,c8,c9,c10,c11,c12,c13,c14].drop 6).take (Tryz.prog.cellsOf 92)) =xs[3]?:=hf 3 _ rfl;have h4:DataW.trod enc Tryz.prog w 0 spare held m 95 (([c0,c1,c2,c3,c4,c5,c6,c7,c8,c9,c10,c11,c12,c13,c14].drop 10).take (Tryz.prog.cellsOf 95)) =xs[4]?:=hf 4 _ rfl;simp only [cells9,aFP,aLs,drop,take]at h0 h1 h2 h3 h4;obtain⟨x0,h0⟩ :=got h0 hlen (by decide);obtain⟨x1,h1⟩ :=got h1 hlen (by decide);obtain⟨x2,h2⟩ :=got h2 hlen (by decide);obtain⟨x3,h3⟩ :=got h3 hlen (by decide);obtain⟨x4,h4⟩ :=got h4 hlen (by decide);obtain⟨s,c,e0,v0⟩ :=jR Tryz.underlying9 h0;obtain⟨q,c',e1,v1⟩ :=jR Tryz.underlying9 h1;obtain⟨⟨f0,f1,f2,f3⟩,v2⟩ :=aHw m _ _ h2;obtain⟨⟨g0,g1,g2,g3⟩,v3⟩ :=aHw m _ _ h3;obtain⟨⟨b0,b1,b2,b3,b4⟩,v4⟩ :=aR7 m _ _ h4;cases e0;cases e1;refine⟨.mk s q (.mk f0 f1 f2 f3) (.mk g0 g1 g2 g3) (.mk b0 b1 b2 b3 b4),?_⟩;simp only [Typ.av]at v2 v3;simp only [Term.av]at v4;have V:=VRs.cons v0 (VRs.cons v1 ((aFO v2).append ((aFO v3).append (aFO v4))));exact oO V rfl
theorem lift_mod (fuel:Nat)(cs:List Value)(x:DataW H×List MemPlace)(h:DataW.trod enc Tryz.prog w 0 spare held fuel 27 cs=some x) :∃p:Mod,VR (embOf w) (Mod.av p) (.agg ⟨cs⟩) :=by
 obtain⟨xs,m,rfl,rfl,hl,hlen,hf⟩ :=DataW.trod_struct Tryz.underlying27 h;rw [cells27]at hl;obtain⟨c0,c1,c2,rfl⟩ :=three hl;have h0:DataW.trod enc Tryz.prog w 0 spare held m 9 (([c0,c1,c2].drop 0).take (Tryz.prog.cellsOf 9)) =xs[0]?:=hf 0 _ rfl;have h1:DataW.trod enc Tryz.prog w 0 spare held m 24 (([c0,c1,c2].drop 1).take (Tryz.prog.cellsOf 24)) =xs[1]?:=hf 1 _ rfl;have h2:DataW.trod enc Tryz.prog w 0 spare held m 25 (([c0,c1,c2].drop 2).take (Tryz.prog.cellsOf 25)) =xs[2]?:=hf 2 _ rfl;simp only [cells9,cells24,cells25,drop,take]at h0 h1 h2;obtain⟨x0,h0⟩ :=got h0 hlen (by decide);obtain⟨x1,h1⟩ :=got h1 hlen (by decide);obtain⟨x2,h2⟩ :=got h2 hlen (by decide);obtain⟨s,c,e0,v0⟩ :=jR Tryz.underlying9 h0;obtain⟨ds,c',e1,v1⟩ :=eO DataD.av Tryz.underlying24 aRb (by omega) h1 (fun fu _ cs x hx=>aR9 fu cs x hx);obtain⟨fs,c'',e2,v2⟩ :=eO FunD.av Tryz.underlying25 aRa (by omega) h2 (fun fu _ cs x hx=>aSa fu cs x hx);cases e0;cases e1;cases e2;refine⟨⟨s,ds,fs⟩,?_⟩;simp only [Mod.av,VR];exact⟨_,rfl,VRs.cons v0 (VRs.cons v1 (VRs.cons v2 (VRs.nil _)))⟩
end
theorem lift_unit (fuel:Nat)(cs:List Value)(x:DataW H×List MemPlace)(h:DataW.trod enc Tryz.prog w 0 spare held fuel 48 cs=some x) :∃p:LUnit,NumU p∧VR (embOf w) (LUnit.av p) (.agg ⟨cs⟩) :=by
 obtain⟨p,hp⟩ :=aPk fuel cs x h;refine⟨p.1,p.2,?_⟩;unfold LUnit.av at hp ⊢;have:=aFO hp;simp only [VR];exact⟨_,rfl,this⟩
end
end
end Go.Hb
