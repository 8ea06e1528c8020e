/- A machine on abstract values, its soundness, ways, plain laws. -/
import Derived.Test.YtchdjelfnchjcaaGreatHF
import Derived.Test.YtchdjelfnchjcaaGreatHG
import Derived.Test.YtchdjelfnchjcaaGreatHH
import Derived.Test.YtchdjelfnchjcaaGreatHI
set_option linter.defProp false
set_option linter.unusedVariables false
set_option linter.unusedSimpArgs false
set_option linter.unusedSectionVars false
set_option maxRecDepth 100000
set_option maxHeartbeats 4000000
namespace Go.Hb
open AV (agg keyless keylessL)
open Bool (and_eq_true)
open List (any_cons append_assoc append_nil flatten_cons length length_append length_cons map map_cons map_nil mem_of_getElem? range)
open Terms (av)
open Go.Proofs Tryz
noncomputable section
mutual
def pnP (cs:List Con) :Pat→Pat
 | .mk f n s ps=>.mk f (if f=6 then aI7 s cs 0 else n) [] (aYx cs ps)
def aYx (cs:List Con) :List Pat→List Pat
 | [] =>[]
 |p::ps=>pnP cs p::aYx cs ps
end
abbrev BHc (fs:List aE)(cs:List Con)(b n:Nat) :AObj:=.cells (putCells .leaf 0 [.ilst 1 (map aD fs) false,.ilst 2 (map Con.av cs) false,.gl b 4 0 n false]) 3 [] false
abbrev BH (fs:List aE)(cs:List Con)(L:List ONode) :List (Nat×AObj×Bool) :=[(0,BHc fs cs 1 (length L),false),(1,OL L,true)]
def aZr (fs:List aE)(cs:List Con)(env:List aE)(o n:Int)(s:aE) :Int:=
 if o=14 then aI7 s cs 0 else if o=4 then(if aAi env s<0 then IntKind.i64.wrap (-1-aAi fs s)else aAi env s)else n
mutual
def aVq (fs:List aE)(cs:List Con) :Term→List aE→Nat→List Node
 | .mk o n s ks ps,env,a=> ⟨o,aZr fs cs env o n s,(aJf fs cs o s ps ks 0 env (a+1)).1,aYx cs ps⟩ :: (aJf fs cs o s ps ks 0 env (a+1)).2
def aJf (fs:List aE)(cs:List Con)(o:Int)(s:aE)(ps:List Pat) :List Term→Nat→List aE→Nat→List Int×List Node
 | [],_,_,_=> ([],[])
 |t::ts,i,env,a=> (((a:Nat) :Int) :: (aJf fs cs o s ps ts (i+1) env (a+ (aVq fs cs t (env++aCh o s ps i) a).length)).1,aVq fs cs t (env++aCh o s ps i) a++ (aJf fs cs o s ps ts (i+1) env (a+ (aVq fs cs t (env++aCh o s ps i) a).length)).2)
end
def PUS (fs:List aE)(cs:List Con)(t:Term)(env:List aE)(L:List ONode)(ns:List Node) :Prop:=
 aWP PP 1 (.enter 999999 [.ptr 0 0,Term.av t,.ilst 1 (map aD env) false]) (aO (BH fs cs L) 2) (.ret (.int .i64 ((length L:Nat) :Int))) (aO (BH fs cs (L++map Node.o ns)) 2)
section
variable (fs :List aE) (cs:List Con) (L:List ONode) (o n:Int) (s:aE) (ks:List Term) (ps:List Pat) (env:List aE)
variable (hkl :ks.length≤900) (h15:o=15→ks.length≤ps.length+1) (hps:∀p∈ps,bJ p≤1000) (he:env.length≤900000)
 (ih:∀t∈ks,∀ (e:List aE) (M:List ONode),e.length≤env.length+1000→M.length+dL t≤1000000→PUS fs cs t e M (aVq fs cs t e M.length))
include hkl h15 hps he ih
end
def FunD.bod :FunD→Term
 | .mk _ _ _ _ b=>b
section
variable (m :Mod) (fs:List aE) (cs:List Con)
end
theorem yV :∀ps:List Pat,ps.all mA=true→aZ ps≤16*ps.length
 | [],_=>by simp [aZ]
 | p::ps,h=>by
  rw [List.all_cons,and_eq_true]at h;have:=yV ps h.2;have h1:=h.1;simp only [mA,and_eq_true,decide_eq_true_eq]at h1;rw [aZ,length_cons];omega
mutual
theorem aCp :∀t:Term,tsm t=true→qF t≤200*dL t
 | .mk o n s ks ps,h=>by
  rw [tsm]at h;simp only [and_eq_true,decide_eq_true_eq]at h;obtain⟨⟨⟨_,hpl⟩,hsp⟩,hsk⟩ :=h;have h1:=yV ps hsp;have h2:=aAO ks hsk;rw [qF,dL];omega
theorem aAO :∀ts:List Term,aHZ ts=true→iL ts≤200*dS ts
 | [],_=>by simp [iL]
 | t::ts,h=>by
  rw [aHZ,and_eq_true]at h;have h1:=aCp t h.1;have h2:=aAO ts h.2;rw [iL,dS];omega
end
theorem wO {t:Typ}(h:mD t=true) :bI t<1000000:=by
 simp only [mD,and_eq_true,decide_eq_true_eq]at h;omega
theorem aH7 :∀ {f:FunD},mE f=true→fD f
 | .mk n p f g b,h=>by
  simp only [mE,aCe,and_eq_true,decide_eq_true_eq]at h;obtain⟨⟨⟨_,h1⟩,h2⟩,⟨h3,_⟩,h5⟩ :=h;have:=aCp b h5;exact⟨wO h1,wO h2,by omega⟩
theorem aH8 {m:Mod}(h:sY m=true) :∀f∈m.funs,fD f:=fun f hf=>by
 simp only [sY,and_eq_true]at h;exact aH7 (List.all_eq_true.1 h.2 f hf)
structure Fit (m:Mod) :Prop where
 fl:m.funs.length≤8
 dl:m.datas.length≤6
 cl:∀d∈m.datas,d.cons.length≤8
 sz:∀f∈m.funs,dL f.bod≤80
 dp:∀f∈m.funs,eU f.bod≤16
 sm:∀f∈m.funs,tsm f.bod=true
 tf:∀f∈m.funs,lB f.bod=true
section
variable (f n:Int) (s:aE) (ps:List Pat)
end
section
variable {P :Program}
end
abbrev WL (mf mc:List (aE×Int)) :List (Nat×AObj×Bool) :=[(0,MSI mf,true),(1,MSI mc,true)]
mutual
def wP (mc:List (aE×Int))(ar:List Int) :Pat→Option Pat
 | .mk f n s ps=>match wPs mc ar ps with
  |none=>none
  | some qs=>if f=6 then(match aZm mc ar s (length ps)with
   |none=>none
   |some k=>some (.mk f k [] qs))else some (.mk f n [] qs)
def wPs (mc:List (aE×Int))(ar:List Int) :List Pat→Option (List Pat)
 | [] =>some []
 | p::ps=>match wP mc ar p with
  |none=>none
  | some q=>match wPs mc ar ps with
   |none=>none
   |some qs=>some (q::qs)
end
section
variable (mf mc:List (aE×Int)) (ar:List Int)
end
abbrev SCa (ar:List Int)(pl:List aE) :AV:=.agg [.map 0,.map 1,.ilst 1 (map avI ar) false,.ilst 1 (map aD pl) false]
abbrev MKc (b n:Nat) :AObj:=.cells (putCells .leaf 0 [.gl b 4 0 n false]) 1 [] false
abbrev MH (mf mc:List (aE×Int))(L:List ONode) :List (Nat×AObj×Bool) :=[(0,MSI mf,true),(1,MSI mc,true),(2,MKc 3 (length L),false),(3,OL L,true)]
def aZs (mf mc:List (aE×Int))(ar:List Int)(pl:List aE)(o n:Int)(s:aE)(k:Nat) :Option Int:=
 if o=4 then aZn mf pl s else if o=14 then aZm mc ar s k else some n
mutual
def mT (mf mc:List (aE×Int))(ar:List Int) :Term→List aE→Nat→Option (List Node)
 | .mk o n s ks ps,pl,a=>match wPs mc ar ps,aZs mf mc ar pl o n s (length ks),mTs mf mc ar o s ps ks 0 pl (a+1)with
  |some qs,some N,some r=>some (⟨o,N,r.1,qs⟩ ::r.2)
  |_,_,_=>none
def mTs (mf mc:List (aE×Int))(ar:List Int)(o:Int)(s:aE)(ps:List Pat) :List Term→Nat→List aE→Nat→Option (List Int×List Node)
 | [],_,_,_=>some ([],[])
 | t::ts,i,pl,a=>match mT mf mc ar t (pl++aCh o s ps i) a with
  |none=>none
  | some ns=>match mTs mf mc ar o s ps ts (i+1) pl (a+ns.length)with
   |none=>none
   |some r=>some (((a:Nat) :Int) ::r.1,ns++r.2)
end
def bAO (L:List ONode) :Option (List Node) →Res
 |none=>.pan UB
 |some _=>.ret (.int .i64 ((length L:Nat) :Int))
def hpN (mf mc:List (aE×Int))(L:List ONode) :Option (List Node) →Hp
 |none=>aO (WL mf mc) 3
 |some ns=>aO (MH mf mc (L++map Node.o ns)) 4
def MPS (mf mc:List (aE×Int))(ar:List Int)(t:Term)(pl:List aE)(L:List ONode)(r:Option (List Node)) :Prop:=
 aWP PP 3 (.enter 999999 [.ptr 2 0,SCa ar pl,Term.av t]) (aO (MH mf mc L) 4) (bAO L r) (hpN mf mc L r)
section
variable (mf mc:List (aE×Int)) (ar:List Int) (q:aE) (pl:List aE) (L:List ONode) (o n:Int) (s:aE) (ks:List Term) (ps:List Pat)
variable (hkl :ks.length≤900) (h15:o=15→ks.length≤ps.length+1) (hps:∀p∈ps,bJ p≤1000) (hpg:∀p∈ps,aAV p=true) (he:pl.length≤900000)
 (ih:∀t∈ks,∀ (e:List aE) (M:List ONode),e.length≤pl.length+1000→M.length+dL t≤1000000→MPS mf mc ar t (q::e) M (mT mf mc ar t (q::e) M.length))
include hkl h15 hps hpg he ih
end
section
variable (mf mc:List (aE×Int)) (ar:List Int) (q:aE) (pl:List aE) (L:List ONode) (o n:Int) (s:aE) (ks:List Term) (ps:List Pat)
end
section
variable (mf mc:List (aE×Int)) (ar:List Int) (q:aE) (L:List ONode) (o n:Int) (s:aE) (ks:List Term) (ps:List Pat)
end
section
variable (m :Mod) (cl:List Con) (ar:List Int) (mf mc:List (aE×Int))
end
def bAP (l:List Con)(mc:List (aE×Int)) :Prop:=∀s,fS s mc=if s∈l.map Con.name then some (aI7 s l 0)else none
def bAQ (l:List aE)(mf:List (aE×Int)) :Prop:=∀s,fS s mf=if s∈l then some (aAi l s)else none
abbrev aOA (s:aE) :Prop:=s.head?=some 35
inductive NT where
 |nm (p:Int) (s:aE) (n:Int) (ks:List Term) (ps:List Pat)
 |nd (o n:Int) (s:aE) (ks:List NT) (ps:List Pat)
mutual
def pOk :Pat→Prop
 | .mk f _ s ps=> (f=2→ps= []) ∧ (f≠2→¬aOA s) ∧aZt ps
def aZt :List Pat→Prop
 | [] =>True
 |p::ps=>pOk p∧aZt ps
end
def arO (o:Int)(k m:Nat) :Prop:= (o=5∨o=27→k=1) ∧ (o=7→k=2) ∧ (o=15→k=m+1) ∧ (o≠15→m=0) ∧ (o=4→k=0)
mutual
def tOk :Term→Prop
 | .mk o _ s ks ps=>arO o ks.length ps.length∧ (o≠4→¬aOA s) ∧ (∀p∈ps,pOk p∧ (fO p).Nodup∧∀y∈fO p,¬aOA y) ∧aZu ks
def aZu :List Term→Prop
 | [] =>True
 |k::ks=>tOk k∧aZu ks
end
mutual
def lfs :Term→List aE
 | .mk o _ s ks _=>if o=4 then [s]else aZv ks
def aZv :List Term→List aE
 | [] =>[]
 |k::ks=>lfs k++aZv ks
end
def renL :List aE→Nat→Term→Term
 | [],_,k=>k
 |x::b,j,k=>renL b (j+1) (aZq x (aXs j) k)
structure AH where
 s:aE
 ks:List Term
 ps:List Pat
 tk:List aE
def Bm (n0 N:Nat)(s:aE) :Prop:=∃j,n0≤j∧j<N∧s=aXs j
def Lm (n0 N:Nat)(s:aE) :Prop:=¬aOA s∨Bm n0 N s
section
variable (n0 N:Nat)
end
section
variable (T :List aE) (n0:Nat) (hT:T.Nodup)
include hT
end
structure CanF (t:Term) :Prop where
 ok:tOk t
 lf:∀s∈lfs t,¬aOA s
 sz:dL t≤1000
 ta:qF t≤100000
section
variable (fs :List aE) (cs:List Con) (mf mc:List (aE×Int)) (ar:List Int) (hf:bAQ fs mf) (hc:bAP cs mc) (ha:ar=cs.map Con.args) (hfl:fs.length≤100000)
include hc ha
include hf hfl
end
section
variable (fs :List aE) (cs:List Con)
end
section
variable (l :List aE) (t0 t1:Int) (t2:aE) (t3:List Term) (t4:List Pat)
end
def aE7(a b:Int)(c:aE)(d:List Pat)(e f:Int)(g:aE)(i:List Pat)(j:Int):TS:=⟨(tf 78 53 [kp 2 0,kp 3 1,(4,(bV false)),(5,(nI j))] [kc f78 116,kl f78 116,.inBlock 0,kc f78 15]),[],[oC 0 [(nI a),(nI b),(aD c),(iP d)],oC 1 [(nI e),(nI f),(aD g),(iP i)]],2⟩
def aGw(e f:Int)(a:aE)(b:List Pat)(g i:Int)(c:aE)(d:List Pat):=tT 0 (start PP 78 [(.agg [(nI e),(nI f),(aD a),(iP b)]),(.agg [(nI g),(nI i),(aD c),(iP d)])])<|.b 15 11 (e != g) (gE 29 2 (bV false))<|.b 7 18 (f != i) (gE 22 2 (bV false))<|.b 7 25 (!(aP a.length (aA a) c.length (aA c))) (gE 15 2 (bV false))<|gm 2 aK b<|gm 2 aK d<|.b 3 33 ((b.length:Int) != (d.length:Int)) (gE 6 2 (bV false))<|.W 9 2 [0,1] (aE7 e f a b g i c d 0)
def aVr:=fun a b c d e f g i j=>aGw a b c d e f g i|>.t j tv
def aVs:=fun a b c d e f g i j k=>aGw a b c d e f g i|>.f j|>.t k tv
def aVt:=fun a b c d e f g i j k l=>aGw a b c d e f g i|>.f j|>.f k|>.t l tv
def aVu:=fun a b c d e f g i j k l m=>aGw a b c d e f g i|>.f j|>.f k|>.f l|>.t m tv
def aVv:=fun a b c d e f g i j k l m=>aGw a b c d e f g i|>.f j|>.f k|>.f l|>.f m tv
def aOB(n o:Int)(p:aE)(b:List Pat)(q r:Int)(s:aE)(c:List Pat)(a:Int):=tT 0 (aE7 n o p b q r s c a)<|gm 6 aK b<|gd 2 38 (a< (b.length:Int)) (.y fun d:Int=>.y fun e:Int=>.y fun f:aE=>.y fun g:List Pat=>.y fun i:Int=>.y fun j:Int=>.y fun k:aE=>.y fun l:List Pat=>.y fun m:Bool=>.i [rn 5,.reg (rd 3 (.ans (.idx (Pat.av (Pat.mk d e f g)))::rd 4 [.ans (.idx (Pat.av (Pat.mk i j k l))),.d,.pure (bV m),.d]))] [hA (0≤a),.a (((b)[a.toNat]?) =some (Pat.mk d e f g)) (eS aK),hA (0≤a),.a (((c)[a.toNat]?) =some (Pat.mk i j k l)) (eS aK),hA (Pure PP 78 [(.agg [(nI d),(nI e),(aD f),(iP g)]),(.agg [(nI i),(nI j),(aD k),(iP l)])] (bV m))]<|.b 0 52 (!m) (gE 6 2 (bV false))<|gw 6 40 (a+1)<|.W 3 2 [0,1] (aE7 n o p b q r s c (a+1)))<|gE 7 2 (bV true)
def aVw:=fun b c d e f g i j k l m n o p q r s t u a v w x y=>aOB b c d e f g i j k|>.t u l m n o p q r s t a v a w x|>.t y tv
def aVx:=fun b c d e f g i j k l m n o p q r s t u a v w x y z=>aOB b c d e f g i j k|>.t u l m n o p q r s t a v a w x|>.f y z tv
def aVy:=fun a b c d e f g i j k=>aOB a b c d e f g i j|>.f k tv
def fG (p:Prop) :Bool:= @decide p (Classical.propDecidable p)
theorem dK {p:Prop}(h:p) :fG p=true:= @decide_eq_true p (Classical.propDecidable p) h
theorem bW {p:Prop}(h:¬p) :fG p=false:= @decide_eq_false p (Classical.propDecidable p) h
theorem jH {p q:Prop}(h:p↔q) :fG p=fG q:=by
 by_cases g:q
 ·rw [dK g,dK (h.2 g)]
 ·rw [bW g,bW (fun k=>g (h.1 k))]
theorem iM {α:Type}{y z:α}{t t':List α}(h:y=z) :fG (y::t=z::t') =fG (t=t') :=jH (by simp [h])
theorem fL {α:Type}{y z:α}{t t':List α}(h:¬y=z) :fG (y::t=z::t') =false:=bW (by simp [h])
abbrev SmP (p q:Pat) :Prop:=Pure PP 78 [Pat.av p,Pat.av q] (.bool (fG (p=q)))
theorem aGx (f n:Int)(s:aE)(ps:List Pat)(f' n':Int)(s':aE)(ps':List Pat)(hl:ps.length<1000000)(ih:∀p∈ps,∀q,SmP p q) :
  ∀ (t t':List Pat) (i:Nat),ps.drop i=t→ps'.drop i=t'→t.length=t'.length→Ends PP 0 (aE7 f n s ps f' n' s' ps' (i:Int)).as (.ret (.bool (fG (t=t')))) (aO [] 0)
 | [],[],i,h,_,_=>by
  have:=bD h;rw [dK rfl];exact aVy f n s ps f' n' s' ps' i sd
 | y ::t,z::t',i,h,h',hz=>by
  obtain⟨g1,g2,g3⟩ :=aW h;obtain⟨k1,k2,k3⟩ :=aW h';have hp:=ih y (mem_of_getElem? g1) z;by_cases e:y=z
  · rw [iM e];unfold SmP at hp;rw [dK e]at hp;obtain⟨y0,y1,y2,y3⟩ :=y;obtain⟨z0,z1,z2,z3⟩ :=z;exact(aVx f n s ps f' n' s' ps' i y0 y1 y2 y3 z0 z1 z2 z3 true sd sd sd sd hp rfl sd).ends (aGx f n s ps f' n' s' ps' hl ih t t' (i+1) g2 k2 (by simpa using hz))
  · rw [fL e];unfold SmP at hp;rw [bW e]at hp;obtain⟨y0,y1,y2,y3⟩ :=y;obtain⟨z0,z1,z2,z3⟩ :=z;exact aVw f n s ps f' n' s' ps' i y0 y1 y2 y3 z0 z1 z2 z3 false sd sd sd sd hp rfl
mutual
theorem aOC :∀ (p q:Pat),bJ p<1000000→SmP p q
 | .mk f n s ps,.mk f' n' s' ps',h=>by
  simp only [bJ]at h;have:=dJ ps;refine bC (by kernel_rfl) (by simp [keylessL,lZ]) rfl ?_;by_cases h1:f=f'
  · by_cases h2:n=n'
    · by_cases h3:s=s'
      · by_cases h4:ps.length=ps'.length
        · rw [jH (q:=ps=ps') (by simp [h1,h2,h3])];exact(aVv f n s ps f' n' s' ps' (by simp [h1]) (by simp [h2]) (by rw [bF];simp [h3]) (by simp [h4])).ends (aGx f n s ps f' n' s' ps' (by omega) (aE8 ps (by omega)) ps ps' 0 rfl rfl h4)
        · rw [bW (fun g=>h4 (by cases g;rfl))];exact aVu f n s ps f' n' s' ps' (by simp [h1]) (by simp [h2]) (by rw [bF];simp [h3]) (by simp;omega)
      · rw [bW (fun g=>h3 (by cases g;rfl))];exact aVt f n s ps f' n' s' ps' (by simp [h1]) (by simp [h2]) (by rw [bF];simp [h3])
    · rw [bW (fun g=>h2 (by cases g;rfl))];exact aVs f n s ps f' n' s' ps' (by simp [h1]) (by simp [h2])
  · rw [bW (fun g=>h1 (by cases g;rfl))];exact aVr f n s ps f' n' s' ps' (by simp [h1])
theorem aE8 :∀ (ps:List Pat),aZ ps<1000000→∀p∈ps,∀q,SmP p q
 | [],_,p,hp,_=>by cases hp
 | y::ps,h,p,hp,q=>by
  simp only [aZ]at h;rcases List.mem_cons.1 hp with e|hp
  ·rw [e];exact aOC y q (by omega)
  ·exact aE8 ps (by omega) p hp q
end
abbrev SmT (t u:Term) :Prop:=Pure PP 44 [Term.av t,Term.av u] (.bool (fG (t=u)))
section
variable (o n:Int) (s:aE) (ks:List Term) (ps:List Pat) (o' n':Int) (s':aE) (ks':List Term) (ps':List Pat)
theorem aGy (hl:ps.length<1000000)(ih:∀p∈ps,∀q,SmP p q)(b:Bool)(hb:Ends PP 0 (aCn o n s ks ps o' n' s' ks' ps' 0).as (.ret (.bool b)) (aO [] 0)) :
  ∀ (t t':List Pat) (i:Nat),ps.drop i=t→ps'.drop i=t'→t.length=t'.length→Ends PP 0 (aE6 o n s ks ps o' n' s' ks' ps' (i:Int)).as (.ret (.bool (fG (t=t') &&b))) (aO [] 0)
 | [],[],i,h,_,_=>by
  have:=bD h;rw [dK rfl,Bool.true_and];exact(aVm o n s ks ps o' n' s' ks' ps' i sd).ends hb
 | y ::t,z::t',i,h,h',hz=>by
  obtain⟨g1,g2,g3⟩ :=aW h;obtain⟨k1,k2,k3⟩ :=aW h';have hp:=ih y (mem_of_getElem? g1) z;unfold SmP at hp;by_cases e:y=z
  · rw [iM e];rw [dK e]at hp;obtain⟨y0,y1,y2,y3⟩ :=y;obtain⟨z0,z1,z2,z3⟩ :=z;exact(aVl o n s ks ps o' n' s' ks' ps' i y0 y1 y2 y3 z0 z1 z2 z3 true sd sd sd sd hp rfl sd).ends (aGy hl ih b hb t t' (i+1) g2 k2 (by simpa using hz))
  · rw [fL e,Bool.false_and];rw [bW e]at hp;obtain⟨y0,y1,y2,y3⟩ :=y;obtain⟨z0,z1,z2,z3⟩ :=z;exact aVk o n s ks ps o' n' s' ks' ps' i y0 y1 y2 y3 z0 z1 z2 z3 false sd sd sd sd hp rfl
theorem aGz (hl:ks.length<1000000)(ih:∀k∈ks,∀q,SmT k q) :
  ∀ (t t':List Term) (i:Nat),ks.drop i=t→ks'.drop i=t'→t.length=t'.length→Ends PP 0 (aCn o n s ks ps o' n' s' ks' ps' (i:Int)).as (.ret (.bool (fG (t=t')))) (aO [] 0)
 | [],[],i,h,_,_=>by
  have:=bD h;rw [dK rfl];exact aVp o n s ks ps o' n' s' ks' ps' i sd
 | y ::t,z::t',i,h,h',hz=>by
  obtain⟨g1,g2,g3⟩ :=aW h;obtain⟨k1,k2,k3⟩ :=aW h';have hp:=ih y (mem_of_getElem? g1) z;unfold SmT at hp;by_cases e:y=z
  · rw [iM e];rw [dK e]at hp;obtain⟨y0,y1,y2,y3,y4⟩ :=y;obtain⟨z0,z1,z2,z3,z4⟩ :=z;exact(aVo o n s ks ps o' n' s' ks' ps' i y0 y1 y2 y3 y4 z0 z1 z2 z3 z4 true sd sd sd sd hp rfl sd).ends (aGz hl ih t t' (i+1) g2 k2 (by simpa using hz))
  · rw [fL e];rw [bW e]at hp;obtain⟨y0,y1,y2,y3,y4⟩ :=y;obtain⟨z0,z1,z2,z3,z4⟩ :=z;exact aVn o n s ks ps o' n' s' ks' ps' i y0 y1 y2 y3 y4 z0 z1 z2 z3 z4 false sd sd sd sd hp rfl
end
mutual
theorem aGA :∀ (t u:Term),qF t<1000000→SmT t u
 | .mk o n s ks ps,.mk o' n' s' ks' ps',h=>by
  simp only [qF]at h;have h1:=aCo ks;have h2:=dJ ps;refine bC (by kernel_rfl) (by simp only [keylessL,fC];rfl) rfl ?_;by_cases e1:o=o'
  · by_cases e2:n=n'
    · by_cases e3:s=s'
      · by_cases e4:ks.length=ks'.length
        · by_cases e5:ps.length=ps'.length
          · have E:fG (Term.mk o n s ks ps= .mk o' n' s' ks' ps') = (fG (ps=ps') &&fG (ks=ks')) :=by
             by_cases c:ps=ps'
             ·rw [dK c,Bool.true_and];exact jH (by simp [e1,e2,e3,c])
             ·rw [bW c,bW (fun g=>c (by cases g;rfl))];rfl
            rw [E]
            exact(aVj o n s ks ps o' n' s' ks' ps' (by simp [e1]) (by simp [e2]) (by rw [bF];simp [e3]) (by simp [e4]) (by simp [e5])).ends
             (aGy o n s ks ps o' n' s' ks' ps' (by omega) (aE8 ps (by omega)) _ (aGz o n s ks ps o' n' s' ks' ps' (by omega) (aJg ks (by omega)) ks ks' 0 rfl rfl e4) ps ps' 0 rfl rfl e5)
          · rw [bW (fun g=>e5 (by cases g;rfl))];exact aVi o n s ks ps o' n' s' ks' ps' (by simp [e1]) (by simp [e2]) (by rw [bF];simp [e3]) (by simp [e4]) (by simp;omega)
        · rw [bW (fun g=>e4 (by cases g;rfl))];exact aVh o n s ks ps o' n' s' ks' ps' (by simp [e1]) (by simp [e2]) (by rw [bF];simp [e3]) (by simp;omega)
      · rw [bW (fun g=>e3 (by cases g;rfl))];exact aVg o n s ks ps o' n' s' ks' ps' (by simp [e1]) (by simp [e2]) (by rw [bF];simp [e3])
    · rw [bW (fun g=>e2 (by cases g;rfl))];exact aVf o n s ks ps o' n' s' ks' ps' (by simp [e1]) (by simp [e2])
  · rw [bW (fun g=>e1 (by cases g;rfl))];exact aVe o n s ks ps o' n' s' ks' ps' (by simp [e1])
theorem aJg :∀ (ks:List Term),iL ks<1000000→∀k∈ks,∀q,SmT k q
 | [],_,k,hk,_=>by cases hk
 | y::ks,h,k,hk,q=>by
  simp only [iL]at h;rcases List.mem_cons.1 hk with e|hk
  ·rw [e];exact aGA y q (by omega)
  ·exact aJg ks (by omega) k hk q
end
abbrev aVz (q:Typ) :Prop:=Pure PP 29 [Typ.av q] (Typ.av q)
theorem aGB (f n:Int)(s:aE)(ps:List Typ)(hl:ps.length<1000000)(ih:∀q∈ps,aVz q) :∀ (t:List Typ) (i:Nat) (acc:List Typ),ps.drop i=t→acc.length=i→Ends PP 0 (aES f n s ps (i:Int) acc).as (.ret (Typ.av (.mk f n s (acc++t)))) (aO [] 0)
 | [],i,acc,h,ha=>by
  have:=bD h;rw [append_nil];exact aUG f n s ps i acc sd
 | .mk y0 y1 y2 y3::t,i,acc,h,ha=>by
  obtain⟨g1,g2,g3⟩ :=aW h;have:=aGB f n s ps hl ih t (i+1) (acc++ [.mk y0 y1 y2 y3]) g2 (by simp;omega);rw [append_assoc]at this;exact(aUF f n s ps i acc y0 y1 y2 y3 y0 y1 y2 y3 sd sd sd (ih _ (mem_of_getElem? g1)) (by simp;omega) sd).ends this
mutual
theorem yW :∀ (q:Typ),bI q<1000000→aVz q
 | .mk f n s ps,h=>by
  simp only [bI]at h;have:=fX ps;exact bS (s:=aXl f n s ps) (by kernel_rfl) (by kernel_rfl) (by simp [keylessL,keyless,kU]) (kU _) ((aUE f n s ps).ends (aGB f n s ps (by omega) (aJh ps (by omega)) ps 0 [] rfl rfl))
theorem aJh :∀ (ps:List Typ),bP ps<1000000→∀q∈ps,aVz q
 | [],_,q,hq=>by cases hq
 | p::ps,h,q,hq=>by
  simp only [bP]at h;rcases List.mem_cons.1 hq with e|hq
  ·rw [e];exact yW p (by omega)
  ·exact aJh ps (by omega) q hq
end
abbrev aOD (q:Pat) :Prop:=Pure PP 71 [Pat.av q] (Pat.av q)
theorem aGC (f n:Int)(s:aE)(ps:List Pat)(hl:ps.length<1000000)(ih:∀q∈ps,aOD q) :∀ (t:List Pat) (i:Nat) (acc:List Pat),ps.drop i=t→acc.length=i→Ends PP 0 (aET f n s ps (i:Int) acc).as (.ret (Pat.av (.mk f n s (acc++t)))) (aO [] 0)
 | [],i,acc,h,ha=>by
  have:=bD h;rw [append_nil];exact aUJ f n s ps i acc sd
 | .mk y0 y1 y2 y3::t,i,acc,h,ha=>by
  obtain⟨g1,g2,g3⟩ :=aW h;have:=aGC f n s ps hl ih t (i+1) (acc++ [.mk y0 y1 y2 y3]) g2 (by simp;omega);rw [append_assoc]at this;exact(aUI f n s ps i acc y0 y1 y2 y3 y0 y1 y2 y3 sd sd sd (ih _ (mem_of_getElem? g1)) (by simp;omega) sd).ends this
mutual
theorem aOE :∀ (q:Pat),bJ q<1000000→aOD q
 | .mk f n s ps,h=>by
  simp only [bJ]at h;have:=dJ ps;exact bS (s:=aXm f n s ps) (by kernel_rfl) (by kernel_rfl) (by simp [keylessL,keyless,lZ]) (lZ _) ((aUH f n s ps).ends (aGC f n s ps (by omega) (aE9 ps (by omega)) ps 0 [] rfl rfl))
theorem aE9 :∀ (ps:List Pat),aZ ps<1000000→∀q∈ps,aOD q
 | [],_,q,hq=>by cases hq
 | p::ps,h,q,hq=>by
  simp only [aZ]at h;rcases List.mem_cons.1 hq with e|hq
  ·rw [e];exact aOE p (by omega)
  ·exact aE9 ps (by omega) q hq
end
abbrev aYz (q:Term) :Prop:=Pure PP 30 [Term.av q] (Term.av q)
theorem aGD (o n:Int)(s:aE)(ks:List Term)(ps:List Pat)(l2:List Term)(hl:ps.length<1000000)(ih:∀q∈ps,aOD q) :∀ (t:List Pat) (i:Nat) (acc:List Pat),ps.drop i=t→acc.length=i→Ends PP 0 (aEV o n s ks ps l2 (i:Int) acc).as (.ret (Term.av (.mk o n s l2 (acc++t)))) (aO [] 0)
 | [],i,acc,h,ha=>by
  have:=bD h;rw [append_nil];exact aUO o n s ks ps l2 i acc sd
 | .mk y0 y1 y2 y3::t,i,acc,h,ha=>by
  obtain⟨g1,g2,g3⟩ :=aW h;have:=aGD o n s ks ps l2 hl ih t (i+1) (acc++ [.mk y0 y1 y2 y3]) g2 (by simp;omega);rw [append_assoc]at this;exact(aUN o n s ks ps l2 i acc y0 y1 y2 y3 y0 y1 y2 y3 sd sd sd (ih _ (mem_of_getElem? g1)) (by simp;omega) sd).ends this
theorem aGE (o n:Int)(s:aE)(ks:List Term)(ps:List Pat)(hl:ks.length<1000000)(hp:ps.length<1000000)(ihp:∀q∈ps,aOD q)(ih:∀q∈ks,aYz q) :∀ (t:List Term) (i:Nat) (acc:List Term),ks.drop i=t→acc.length=i→Ends PP 0 (aEU o n s ks ps (i:Int) acc).as (.ret (Term.av (.mk o n s (acc++t) ps))) (aO [] 0)
 | [],i,acc,h,ha=>by
  have:=bD h;rw [append_nil];exact(aUM o n s ks ps i acc sd).ends (aGD o n s ks ps acc hp ihp ps 0 [] rfl rfl)
 | .mk y0 y1 y2 y3 y4::t,i,acc,h,ha=>by
  obtain⟨g1,g2,g3⟩ :=aW h;have:=aGE o n s ks ps hl hp ihp ih t (i+1) (acc++ [.mk y0 y1 y2 y3 y4]) g2 (by simp;omega);rw [append_assoc]at this;exact(aUL o n s ks ps i acc y0 y1 y2 y3 y4 y0 y1 y2 y3 y4 sd sd sd (ih _ (mem_of_getElem? g1)) (by simp;omega) sd).ends this
mutual
theorem aGF :∀ (q:Term),qF q<1000000→aYz q
 | .mk o n s ks ps,h=>by
  simp only [qF]at h;have h1:=aCo ks;have h2:=dJ ps;exact bS (s:=aXn o n s ks ps) (by kernel_rfl) (by kernel_rfl) (by simp [keylessL,keyless,fC]) (fC _) ((aUK o n s ks ps).ends (aGE o n s ks ps (by omega) (by omega) (aE9 ps (by omega)) (aJi ks (by omega)) ks 0 [] rfl rfl))
theorem aJi :∀ (ks:List Term),iL ks<1000000→∀q∈ks,aYz q
 | [],_,q,hq=>by cases hq
 | p::ks,h,q,hq=>by
  simp only [iL]at h;rcases List.mem_cons.1 hq with e|hq
  ·rw [e];exact aGF p (by omega)
  ·exact aJi ks (by omega) q hq
end
theorem aOF (d:DataD)(args:List Typ)(nm:aE)(i:Nat)(acc:List ConD)(hi:i≤100000)(hac:acc.length≤100000)(hl:args.length<1000000)(ih:∀q∈args,aVz q) :∀ (t:List Typ) (k:Nat) (bs:List Typ),args.drop k=t→bs.length=k →
  LeadsM PP 0 (aEW d args ((length args:Nat) :Int) nm (k:Int) bs (i:Int) acc).as (aCl d ((i:Int) +1) (acc++ [⟨nm,bs++t⟩])).as
 | [],k,bs,h,hb=>by
  have:=bD h;rw [append_nil];exact aUT d args _ nm k bs i acc sd (by simp;omega) sd
 | .mk y0 y1 y2 y3::t,k,bs,h,hb=>by
  obtain⟨g1,g2,g3⟩ :=aW h;have:=aOF d args nm i acc hi hac hl ih t (k+1) (bs++ [.mk y0 y1 y2 y3]) g2 (by simp;omega);rw [append_assoc]at this;exact(aUS d args _ nm k bs i acc y0 y1 y2 y3 y0 y1 y2 y3 sd sd sd (ih _ (mem_of_getElem? g1)) (by simp;omega) sd).trans this
theorem aGG (d:DataD)(hl:d.cons.length≤1000)(hd:aAh d)(hc:∀c∈d.cons,c.args.length<1000000) :∀ (t:List ConD) (i:Nat) (acc:List ConD),d.cons.drop i=t→acc.length=i→Ends PP 0 (aCl d (i:Int) acc).as (.ret (DataD.av ⟨d.name,acc++t⟩)) (aO [] 0)
 | [],i,acc,h,ha=>by
  have:=bD h;rw [append_nil];exact aUR d i acc sd
 | c::t,i,acc,h,ha=>by
  obtain⟨g1,g2,g3⟩ :=aW h;have hm:=mem_of_getElem? g1;have h0:=aUQ d i acc c sd sd sd;have h1:=aOF d c.args c.name i acc (by omega) (by omega) (hc c hm) (fun q hq=>yW q (hd c hm q hq)) c.args 0 [] rfl rfl;have:=aGG d hl hd hc t (i+1) (acc++ [c]) g2 (by simp;omega);rw [append_assoc]at this;exact(h0.trans h1).ends this
theorem aOG (d:DataD)(hl:d.cons.length≤1000)(hd:aAh d)(hc:∀c∈d.cons,c.args.length<1000000) :Pure PP 28 [DataD.av d] (DataD.av d) :=
 bS (s:=aXo d) (by kernel_rfl) (by kernel_rfl) (by simp [keylessL,keyless,DataD.av,aD]) (by simp [keyless,keylessL,DataD.av,aD]) ((aUP d).ends (aGG d hl hd hc d.cons 0 [] rfl rfl))
abbrev SmY (f:Nat)(a b:Typ) :Prop:=Pure PP f [Typ.av a,Typ.av b] (.bool (fG (a=b)))
section
variable (f n:Int) (s:aE) (ps:List Typ) (f' n':Int) (s':aE) (ps':List Typ)
theorem aGH (hl:ps.length<1000000)(ih:∀p∈ps,∀q,SmY 43 p q) :
  ∀ (t t':List Typ) (i:Nat),ps.drop i=t→ps'.drop i=t'→t.length=t'.length→Ends PP 0 (aEN f n s ps f' n' s' ps' (i:Int)).as (.ret (.bool (fG (t=t')))) (aO [] 0)
 | [],[],i,h,_,_=>by
  have:=bD h;rw [dK rfl];exact aUg f n s ps f' n' s' ps' i sd
 | y ::t,z::t',i,h,h',hz=>by
  obtain⟨g1,g2,g3⟩ :=aW h;obtain⟨k1,k2,k3⟩ :=aW h';have hp:=ih y (mem_of_getElem? g1) z;unfold SmY at hp;by_cases e:y=z
  · rw [iM e];rw [dK e]at hp;obtain⟨y0,y1,y2,y3⟩ :=y;obtain⟨z0,z1,z2,z3⟩ :=z;exact(aUf f n s ps f' n' s' ps' i y0 y1 y2 y3 z0 z1 z2 z3 true sd sd sd sd hp rfl sd).ends (aGH hl ih t t' (i+1) g2 k2 (by simpa using hz))
  · rw [fL e];rw [bW e]at hp;obtain⟨y0,y1,y2,y3⟩ :=y;obtain⟨z0,z1,z2,z3⟩ :=z;exact aUe f n s ps f' n' s' ps' i y0 y1 y2 y3 z0 z1 z2 z3 false sd sd sd sd hp rfl
theorem aGI (hl:ps.length<1000000)(ih:∀p∈ps,∀q,SmY 111 p q) :
  ∀ (t t':List Typ) (i:Nat),ps.drop i=t→ps'.drop i=t'→t.length=t'.length→Ends PP 0 (aEX f n s ps f' n' s' ps' (i:Int)).as (.ret (.bool (fG (t=t')))) (aO [] 0)
 | [],[],i,h,_,_=>by
  have:=bD h;rw [dK rfl];exact aU1 f n s ps f' n' s' ps' i sd
 | y ::t,z::t',i,h,h',hz=>by
  obtain⟨g1,g2,g3⟩ :=aW h;obtain⟨k1,k2,k3⟩ :=aW h';have hp:=ih y (mem_of_getElem? g1) z;unfold SmY at hp;by_cases e:y=z
  · rw [iM e];rw [dK e]at hp;obtain⟨y0,y1,y2,y3⟩ :=y;obtain⟨z0,z1,z2,z3⟩ :=z;exact(aU0 f n s ps f' n' s' ps' i y0 y1 y2 y3 z0 z1 z2 z3 true sd sd sd sd hp rfl sd).ends (aGI hl ih t t' (i+1) g2 k2 (by simpa using hz))
  · rw [fL e];rw [bW e]at hp;obtain⟨y0,y1,y2,y3⟩ :=y;obtain⟨z0,z1,z2,z3⟩ :=z;exact aUZ f n s ps f' n' s' ps' i y0 y1 y2 y3 z0 z1 z2 z3 false sd sd sd sd hp rfl
end
mutual
theorem yX :∀ (p q:Typ),bI p<1000000→SmY 43 p q
 | .mk f n s ps,.mk f' n' s' ps',h=>by
  simp only [bI]at h;have:=fX ps;refine bC (by kernel_rfl) (by simp [keylessL,kU]) rfl ?_;by_cases h1:f=f'
  · by_cases h2:n=n'
    · by_cases h3:s=s'
      · by_cases h4:ps.length=ps'.length
        · rw [jH (q:=ps=ps') (by simp [h1,h2,h3])];exact(aUd f n s ps f' n' s' ps' (by simp [h1]) (by simp [h2]) (by rw [bF];simp [h3]) (by simp [h4])).ends (aGH f n s ps f' n' s' ps' (by omega) (aJj ps (by omega)) ps ps' 0 rfl rfl h4)
        · rw [bW (fun g=>h4 (by cases g;rfl))];exact aUc f n s ps f' n' s' ps' (by simp [h1]) (by simp [h2]) (by rw [bF];simp [h3]) (by simp;omega)
      · rw [bW (fun g=>h3 (by cases g;rfl))];exact aUb f n s ps f' n' s' ps' (by simp [h1]) (by simp [h2]) (by rw [bF];simp [h3])
    · rw [bW (fun g=>h2 (by cases g;rfl))];exact aUa f n s ps f' n' s' ps' (by simp [h1]) (by simp [h2])
  · rw [bW (fun g=>h1 (by cases g;rfl))];exact aT9 f n s ps f' n' s' ps' (by simp [h1])
theorem aJj :∀ (ps:List Typ),bP ps<1000000→∀p∈ps,∀q,SmY 43 p q
 | [],_,p,hp,_=>by cases hp
 | y::ps,h,p,hp,q=>by
  simp only [bP]at h;rcases List.mem_cons.1 hp with e|hp
  ·rw [e];exact yX y q (by omega)
  ·exact aJj ps (by omega) p hp q
end
mutual
theorem aGJ :∀ (p q:Typ),bI p<1000000→SmY 111 p q
 | .mk f n s ps,.mk f' n' s' ps',h=>by
  simp only [bI]at h;have:=fX ps;refine bS (s:=aXp f n s ps f' n' s' ps') (by kernel_rfl) (by kernel_rfl) (by simp [keylessL,kU]) rfl ?_;by_cases h1:f=f'
  · by_cases h2:n=n'
    · by_cases h3:s=s'
      · by_cases h4:ps.length=ps'.length
        · rw [jH (q:=ps=ps') (by simp [h1,h2,h3])];exact(aUV f n s ps f' n' s' ps' (by simp [h1]) (by simp [h2]) (by rw [bF];simp [h3]) (by simp [h4])).ends (aGI f n s ps f' n' s' ps' (by omega) (aJk ps (by omega)) ps ps' 0 rfl rfl h4)
        · rw [bW (fun g=>h4 (by cases g;rfl))];exact aUU f n s ps f' n' s' ps' (by simp [h1]) (by simp [h2]) (by rw [bF];simp [h3]) (by simp;omega)
      · rw [bW (fun g=>h3 (by cases g;rfl))];exact aUW f n s ps f' n' s' ps' (by simp [h1]) (by simp [h2]) (by rw [bF];simp [h3])
    · rw [bW (fun g=>h2 (by cases g;rfl))];exact aUX f n s ps f' n' s' ps' (by simp [h1]) (by simp [h2])
  · rw [bW (fun g=>h1 (by cases g;rfl))];exact aUY f n s ps f' n' s' ps' (by simp [h1])
theorem aJk :∀ (ps:List Typ),bP ps<1000000→∀p∈ps,∀q,SmY 111 p q
 | [],_,p,hp,_=>by cases hp
 | y::ps,h,p,hp,q=>by
  simp only [bP]at h;rcases List.mem_cons.1 hp with e|hp
  ·rw [e];exact aGJ y q (by omega)
  ·exact aJk ps (by omega) p hp q
end
theorem conD_ext {x y:ConD}:x=y↔x.name=y.name∧x.args=y.args:=by
 obtain⟨a,b⟩ :=x;obtain⟨a',b'⟩ :=y;simp
theorem aDx {x y:DataD}:x=y↔x.name=y.name∧x.cons=y.cons:=by
 obtain⟨a,b⟩ :=x;obtain⟨a',b'⟩ :=y;simp
theorem aGK (a b:ConD)(hl:a.args.length<1000000)(ih:∀p∈a.args,∀q,SmY 111 p q) :
  ∀ (t t':List Typ) (i:Nat),a.args.drop i=t→b.args.drop i=t'→t.length=t'.length→Ends PP 0 (aEY a b (i:Int)).as (.ret (.bool (fG (t=t')))) (aO [] 0)
 | [],[],i,h,_,_=>by
  have:=bD h;rw [dK rfl];exact aU7 a b i sd
 | y ::t,z::t',i,h,h',hz=>by
  obtain⟨g1,g2,g3⟩ :=aW h;obtain⟨k1,k2,k3⟩ :=aW h';have hp:=ih y (mem_of_getElem? g1) z;unfold SmY at hp;by_cases e:y=z
  · rw [iM e];rw [dK e]at hp;obtain⟨y0,y1,y2,y3⟩ :=y;obtain⟨z0,z1,z2,z3⟩ :=z;exact(aU6 a b i y0 y1 y2 y3 z0 z1 z2 z3 true sd sd sd sd hp rfl sd).ends (aGK a b hl ih t t' (i+1) g2 k2 (by simpa using hz))
  · rw [fL e];rw [bW e]at hp;obtain⟨y0,y1,y2,y3⟩ :=y;obtain⟨z0,z1,z2,z3⟩ :=z;exact aU5 a b i y0 y1 y2 y3 z0 z1 z2 z3 false sd sd sd sd hp rfl
theorem aOH (a b:ConD)(hl:a.args.length<1000000)(hy:∀t∈a.args,bI t<1000000) :Pure PP 70 [ConD.av a,ConD.av b] (.bool (fG (a=b))) :=by
 refine bS (s:=aXq a b) (by kernel_rfl) (by kernel_rfl) (by simp [keylessL,keyless,ConD.av,aD]) rfl ?_;by_cases h3:a.name=b.name
 · by_cases h4:a.args.length=b.args.length
   · rw [jH (q:=a.args=b.args) (by rw [conD_ext];simp [h3])];exact(aU3 a b (by rw [bF];simp [h3]) (by simp [h4])).ends (aGK a b hl (fun p hp q=>aGJ p q (hy p hp)) a.args b.args 0 rfl rfl h4)
   · rw [bW (fun g=>h4 (by cases g;rfl))];exact aU2 a b (by rw [bF];simp [h3]) (by simp;omega)
 · rw [bW (fun g=>h3 (by cases g;rfl))];exact aU4 a b (by rw [bF];simp [h3])
theorem aGL (a b:DataD)(hl:a.cons.length<1000000)(ih:∀p∈a.cons,∀q,Pure PP 70 [ConD.av p,ConD.av q] (.bool (fG (p=q)))) :
  ∀ (t t':List ConD) (i:Nat),a.cons.drop i=t→b.cons.drop i=t'→t.length=t'.length→Ends PP 0 (aEZ a b (i:Int)).as (.ret (.bool (fG (t=t')))) (aO [] 0)
 | [],[],i,h,_,_=>by
  have:=bD h;rw [dK rfl];exact aVd a b i sd
 | y ::t,z::t',i,h,h',hz=>by
  obtain⟨g1,g2,g3⟩ :=aW h;obtain⟨k1,k2,k3⟩ :=aW h';have hp:=ih y (mem_of_getElem? g1) z;by_cases e:y=z
  · rw [iM e];rw [dK e]at hp;exact(aVc a b i y z true sd sd sd sd hp rfl sd).ends (aGL a b hl ih t t' (i+1) g2 k2 (by simpa using hz))
  · rw [fL e];rw [bW e]at hp;exact aVb a b i y z false sd sd sd sd hp rfl
def kN (d:DataD) :Prop:=d.cons.length<1000000∧∀c∈d.cons,c.args.length<1000000∧∀t∈c.args,bI t<1000000
theorem aOI (a b:DataD)(h:kN a) :Pure PP 27 [DataD.av a,DataD.av b] (.bool (fG (a=b))) :=by
 refine bS (s:=aXr a b) (by kernel_rfl) (by kernel_rfl) (by simp [keylessL,keyless,DataD.av,aD]) rfl ?_;by_cases h3:a.name=b.name
 · by_cases h4:a.cons.length=b.cons.length
   · rw [jH (q:=a.cons=b.cons) (by rw [aDx];simp [h3])];exact(aU9 a b (by rw [bF];simp [h3]) (by simp [h4])).ends (aGL a b h.1 (fun p hp q=>aOH p q (h.2 p hp).1 (h.2 p hp).2) a.cons b.cons 0 rfl rfl h4)
   · rw [bW (fun g=>h4 (by cases g;rfl))];exact aU8 a b (by rw [bF];simp [h3]) (by simp;omega)
 · rw [bW (fun g=>h3 (by cases g;rfl))];exact aVa a b (by rw [bF];simp [h3])
def aXu(a b:DataD):TS:=cK PP 38 [(.agg [(aD a.name),(.ilst 2 (map ConD.av a.cons) false)]),(.agg [(aD b.name),(.ilst 2 (map ConD.av b.cons) false)])] [] 0
def aOJ(a b:DataD):=tT 0 (aXu a b)<|.y fun c:Bool=>.i [rn 71,.reg (rd 10 [.pure (bV c),.d])] [hA (Pure PP 42 [(.agg [(aD a.name),(.ilst 2 (map ConD.av a.cons) false)]),(.agg [(aD b.name),(.ilst 2 (map ConD.av b.cons) false)])] (bV c))]<|.b 0 50 (!c) (gE 10 6 (bV false))<|gE 47 6 (bV true)
def aVA:=fun a b c d e=>aOJ a b c d|>.t e tv
def aVB:=fun a b c d e=>aOJ a b c d|>.f e tv
theorem aOK (a b:DataD)(x y:ConD)(i:Nat)(hi:i≤100000)(hl:x.args.length<1000000)(ih:∀p∈x.args,∀q,SmY 43 p q) :∀ (t t':List Typ) (k:Nat),x.args.drop k=t→y.args.drop k=t'→t.length=t'.length →
  (t=t'→LeadsM PP 0 (aCj a b x.name x.args y.name y.args (k:Int) (i:Int)).as (aCi a b ((i:Int) +1)).as) ∧ (t≠t'→Ends PP 0 (aCj a b x.name x.args y.name y.args (k:Int) (i:Int)).as (.ret (.bool false)) (aO [] 0))
 | [],[],k,h,_,_=>by
  have:=bD h;exact⟨fun _=>aUq a b x.name x.args y.name y.args k i sd sd,fun g=>absurd rfl g⟩
 | u ::t,v::t',k,h,h',hz=>by
  obtain⟨g1,g2,g3⟩ :=aW h;obtain⟨k1,k2,k3⟩ :=aW h';obtain⟨r1,r2⟩ :=aOK a b x y i hi hl ih t t' (k+1) g2 k2 (by simpa using hz);have hp:=ih u (mem_of_getElem? g1) v;unfold SmY at hp;by_cases e:u=v
  · rw [dK e]at hp;obtain⟨y0,y1,y2,y3⟩ :=u;obtain⟨z0,z1,z2,z3⟩ :=v;have h0:=aUp a b x.name x.args y.name y.args k i y0 y1 y2 y3 z0 z1 z2 z3 true sd sd sd sd hp rfl sd;refine⟨fun q=>h0.trans (r1 (by rw [List.cons.injEq]at q;exact q.2)),fun q=>h0.ends (r2 (fun w=>q (by rw [e,w])))⟩
  · rw [bW e]at hp;refine⟨fun q=>absurd (by rw [List.cons.injEq]at q;exact q.1) e,fun _=>?_⟩;obtain⟨y0,y1,y2,y3⟩ :=u;obtain⟨z0,z1,z2,z3⟩ :=v;exact aUo a b x.name x.args y.name y.args k i y0 y1 y2 y3 z0 z1 z2 z3 false sd sd sd sd hp rfl
theorem aGM (a b:DataD)(h:kN a)(hl:a.cons.length≤100000) :∀ (t t':List ConD) (i:Nat),a.cons.drop i=t→b.cons.drop i=t'→t.length=t'.length→Ends PP 0 (aCi a b (i:Int)).as (.ret (.bool (fG (t=t')))) (aO [] 0)
 | [],[],i,h,_,_=>by
  have:=bD h;rw [dK rfl];exact aUn a b i sd
 | x :: t,y::t',i,hd,hd',hz=>by
  obtain⟨g1,g2,g3⟩ :=aW hd;obtain⟨k1,k2,k3⟩ :=aW hd';obtain⟨a1,a2⟩ :=h.2 x (mem_of_getElem? g1);have ih:=aGM a b h hl t t' (i+1) g2 k2 (by simpa using hz);by_cases e1:x.name=y.name
  · by_cases e2:x.args.length=y.args.length
    · have h0:=aUm a b i x y sd sd sd sd (by rw [bF];simp [e1]) (by simp [e2]);obtain⟨r1,r2⟩ :=aOK a b x y i (by omega) a1 (fun p hp q=>yX p q (a2 p hp)) x.args y.args 0 rfl rfl e2;by_cases e3:x.args=y.args
      · rw [iM (conD_ext.2 ⟨e1,e3⟩)];exact(h0.trans (r1 e3)).ends ih
      · rw [fL (fun g=>e3 (by rw [g]))];exact h0.ends (r2 e3)
    · rw [fL (fun g=>e2 (by rw [g]))];exact aUl a b i x y sd sd sd sd (by rw [bF];simp [e1]) (by simp;omega)
  · rw [fL (fun g=>e1 (by rw [g]))];exact aUk a b i x y sd sd sd sd (by rw [bF];simp [e1])
theorem aGN (a b:DataD)(h:kN a)(hl:a.cons.length≤100000) :Pure PP 42 [DataD.av a,DataD.av b] (.bool (fG (a=b))) :=by
 refine bC (by kernel_rfl) (by simp [keylessL,keyless,DataD.av,aD]) rfl ?_;by_cases h3:a.name=b.name
 · by_cases h4:a.cons.length=b.cons.length
   · rw [jH (q:=a.cons=b.cons) (by rw [aDx];simp [h3])];exact(aUj a b (by rw [bF];simp [h3]) (by simp [h4])).ends (aGM a b h hl a.cons b.cons 0 rfl rfl h4)
   · rw [bW (fun g=>h4 (by cases g;rfl))];exact aUi a b (by rw [bF];simp [h3]) (by simp;omega)
 · rw [bW (fun g=>h3 (by cases g;rfl))];exact aUh a b (by rw [bF];simp [h3])
theorem aOL (a b:DataD)(h:kN a)(hl:a.cons.length≤100000) :Pure PP 38 [DataD.av a,DataD.av b] (.bool (fG (a=b))) :=by
 have h0:=aGN a b h hl;refine bS (s:=aXu a b) (by kernel_rfl) (by kernel_rfl) (by simp [keylessL,keyless,DataD.av,aD]) rfl ?_;cases hc:fG (a=b)with
 |true=>rw [hc]at h0;exact aVB a b true h0 rfl
 |false=>rw [hc]at h0;exact aVA a b false h0 rfl
def aGO (c:ConD) :Con:= ⟨c.name,(length c.args:Int)⟩
def yY (m:Mod) :List Con:= (m.datas.map fun d=>d.cons.map aGO).flatten
theorem aOM (m:Mod)(d:DataD)(j:Nat)(hj:m.datas[j]?=some d)(hj2:j≤1000)(hd:d.cons.length≤1000) :∀ (t:List ConD) (k:Nat) (acc:List Con),d.cons.drop k=t→acc.length+t.length≤500000 →
  LeadsM PP 0 (aER m (k:Int) acc (j:Int)).as (aCk m ((j+1:Nat) :Int) (acc++t.map aGO)).as
 | [],k,acc,h,ha=>by
  have:=bD h;rw [map_nil,append_nil];exact aUD m k acc j d sd sd sd sd
 | c::t,k,acc,h,ha=>by
  obtain⟨q1,q2,q3⟩ :=aW h;have hk:= (List.getElem?_eq_some_iff.1 q1).1;simp only [length_cons]at ha;have h0:=aUC m k acc j d c sd sd sd sd sd (by simp;omega) sd;have h1:=aOM m d j hj hj2 hd t (k+1) (acc++ [aGO c]) q2 (by simp;omega);rw [append_assoc]at h1;exact h0.trans h1
theorem aGP (m:Mod)(hl:m.datas.length≤200)(hd:∀d∈m.datas,d.cons.length≤1000) :∀ (t:List DataD) (i:Nat) (acc:List Con),m.datas.drop i=t→acc.length≤1000*i →
  Ends PP 0 (aCk m (i:Int) acc).as (.ret (.ilst 2 (map Con.av (acc++ (t.map fun d=>d.cons.map aGO).flatten)) false)) (aO [] 0)
 | [],i,acc,h,ha=>by
  have:=bD h;rw [map_nil,List.flatten_nil,append_nil];exact aUB m i acc sd
 | d::t,i,acc,h,ha=>by
  obtain⟨q1,q2,q3⟩ :=aW h;have hi:= (List.getElem?_eq_some_iff.1 q1).1;have hdl:=hd d (mem_of_getElem? q1);have h0:=aUA m i acc sd;have h1:=aOM m d i q1 (by omega) hdl d.cons 0 acc rfl (by omega);have h2:=aGP m hl hd t (i+1) (acc++d.cons.map aGO) q2 (by simp;omega);rw [append_assoc]at h2;exact(h0.trans h1).ends h2
theorem aON (m:Mod)(hl:m.datas.length≤200)(hd:∀d∈m.datas,d.cons.length≤1000) :Pure PP 41 [Mod.av m] (.ilst 2 (map Con.av (yY m)) false) :=
 bS (s:=aXk m) (by kernel_rfl) (by kernel_rfl) (by simp [keylessL,wK]) (by simp [keyless]) ((aUz m).ends (aGP m hl hd m.datas 0 [] rfl (by simp)))
theorem aGQ (l:List Con)(hl:l.length≤500000) :∀ (t:List Con) (i:Nat) (acc:List aE),l.drop i=t→acc.length=i→Ends PP 0 (aEQ l (i:Int) acc).as (.ret (.ilst 1 (map aD (acc++t.map Con.name)) false)) (aO [] 0)
 | [],i,acc,h,ha=>by
  have:=bD h;rw [map_nil,append_nil];exact aUy l i acc sd
 | c::t,i,acc,h,ha=>by
  obtain⟨q1,q2,q3⟩ :=aW h;have hi:= (List.getElem?_eq_some_iff.1 q1).1;have:=aGQ l hl t (i+1) (acc++ [c.name]) q2 (by simp [ha]);rw [append_assoc]at this;exact(aUx l i acc c sd sd sd (by simp;omega) sd).ends this
theorem aOO (l:List Con)(hl:l.length≤500000) :Pure PP 40 [.ilst 2 (map Con.av l) false] (.ilst 1 (map aD (l.map Con.name)) false) :=
 bS (s:=aXj l) (by kernel_rfl) (by kernel_rfl) (by simp [keylessL,keyless]) (by simp [keyless]) ((aUw l).ends (aGQ l hl l 0 [] rfl rfl))
def aXv(a:List Mod):TS:=cK PP 7 [(.ilst 3 (map Mod.av a) false)] [] 0
def aCq(c:List Mod)(d:Int)(a:List FunD)(b:List DataD):TS:=⟨(tf 7 145 [(0,(.ilst 3 (map Mod.av c) false)),kp 2 0,(3,(nI 0)),kp 4 1,(5,(nI d))] [kc f7 244,kl f7 244,.inBlock 0,kc f7 31]),[],[oC 0 [(.str 0 0),.nils,.nils],oC 1 [(.str 0 0),(.gl 2 2 0 b.length false),(.gl 3 15 0 a.length false)],oL 2 2 (map DataD.av b),oL 3 15 (FunDs.av a)],4⟩
def aAk(c:List Mod)(d:Int)(a:List DataD)(e:Int)(b:List FunD):TS:=⟨(tf 7 145 [(0,(.ilst 3 (map Mod.av c) false)),kp 2 0,(3,(nI 0)),kp 4 1,(5,(nI e)),(6,(nI d))] [kc f7 62612,kl f7 62612,.inBlock 2,kc f7 7827,.inBlock 1,kc f7 979,kl f7 244,.inBlock 0,kc f7 31]),[],[oC 0 [(.str 0 0),.nils,.nils],oC 1 [(.str 0 0),(.gl 2 2 0 a.length false),(.gl 3 15 0 b.length false)],oL 2 2 (map DataD.av a),oL 3 15 (FunDs.av b)],4⟩
def aFa(f:List Mod)(b:aE)(c:Int)(a:List aE)(d:List FunD)(e:List DataD):TS:=⟨(tf 7 145 [kp 2 0,(3,(nI 0)),kp 4 1,(10,(.gl 2 1 0 a.length false)),(11,.nils),(12,(nI c))] [kc f7 4084,kl f7 4084,.inBlock 6,kc f7 511]),[],[oC 0 [(.str 0 0),.nils,.nils],oC 1 [(aD b),(.ilst 2 (map DataD.av e) false),(.ilst 15 (FunDs.av d) false)],oL 2 1 (map aD a)],3⟩
def aCr(c:List Mod)(d:aE)(e:List ConD)(f:Bool)(g i j:Int)(a:List DataD)(b:List FunD):TS:=⟨(tf 7 145 [(0,(.ilst 3 (map Mod.av c) false)),kp 2 0,(3,(nI 0)),kp 4 1,(5,(nI i)),(6,(nI j)),kp 7 2,(8,(bV f)),(9,(nI g))] [kc f7 16028820,kl f7 16028820,.inBlock 4,kc f7 2003603,.inBlock 3,kc f7 250451,kl f7 62612,.inBlock 2,kc f7 7827,.inBlock 1,kc f7 979,kl f7 244,.inBlock 0,kc f7 31]),[],[oC 0 [(.str 0 0),.nils,.nils],oC 1 [(.str 0 0),(.gl 3 2 0 a.length false),(.gl 4 15 0 b.length false)],oC 2 [(aD d),(.ilst 2 (map ConD.av e) false)],oL 3 2 (map DataD.av a),oL 4 15 (FunDs.av b)],5⟩
def wQ(g:List Mod)(c:aE)(d:List FunD)(a:List aE)(e:Int)(b:List aE)(f:List DataD):TS:=⟨(tf 7 145 [kp 2 0,(3,(nI 0)),kp 4 1,(10,(.gl 2 1 0 a.length false)),(11,(.gl 3 1 0 b.length false)),(13,(nI e))] [kc f7 8180,kl f7 8180,.inBlock 8,kc f7 1023]),[],[oC 0 [(.str 0 0),.nils,.nils],oC 1 [(aD c),(.ilst 2 (map DataD.av f) false),(.ilst 15 (FunDs.av d) false)],oL 2 1 (map aD a),oL 3 1 (map aD b)],4⟩
def aOP(a:List Mod):=tT 0 (aXv a)<|gl 9 Mod.av a<|gd 2 16 ((a.length:Int) >10) (.i [rn 8,.cnilI 0 1 2] []<|.i [.cnilI 0 2 15] []<|gE 0 1 (.tup [(.agg [(.str 0 0),(.ilst 2 (map DataD.av ([] :List DataD)) true),(.ilst 15 (FunDs.av ([] :List FunD)) true)]),(nI 2)]))<|.i [rn 13,.cnil 1 1 2] []<|gu 0 2 (map DataD.av ([] :List DataD))<|gv 0 1 1 (.gl 2 2 0 ([] :List DataD).length false)<|.i [.cnil 1 2 15] []<|gu 0 3 (FunDs.av ([] :List FunD))<|gv 0 1 2 (.gl 3 15 0 ([] :List FunD).length false)<|.W 0 4 [0,1,2,3] (aCq a 0 ([] :List FunD) ([] :List DataD))
def aVC:=fun a b=>aOP a|>.t b tv
def aVD:=fun a b=>aOP a|>.f b ⟨kk,⟨cX,trivial⟩⟩
def aFb(a:List Mod)(c:Int)(d:List FunD)(e:List DataD):=tT 0 (aCq a c d e)<|gl 5 Mod.av a<|gd 2 21 (c< (a.length:Int)) (gX Mod.av 9 a c<|fun b=>cZ 1 37 [(.agg [(aD b.name),(.ilst 2 (map DataD.av b.datas) false),(.ilst 15 (FunDs.av b.funs) false)])]<|fun f=>.b 2 29 (!f) (.i [rn 8,.cnilI 0 1 2] []<|.i [.cnilI 0 2 15] []<|gE 0 4 (.tup [(.agg [(.str 0 0),(.ilst 2 (map DataD.av ([] :List DataD)) true),(.ilst 15 (FunDs.av ([] :List FunD)) true)]),(nI 2)]))<|.W 9 4 [0,1,2,3] (aAk a 0 e c d))<|gy 4 1 1 2 2 DataD.av e false<|gY 0 1 2 3 15 bE cX d false<|gl 2 Mod.av a<|.b 2 85 ((a.length:Int) ==0) (.i [rn 8,.cnilI 0 1 2] []<|.i [.cnilI 0 2 15] []<|gE 0 4 (.tup [(.agg [(.str 0 0),(.ilst 2 (map DataD.av ([] :List DataD)) true),(.ilst 15 (FunDs.av ([] :List FunD)) true)]),(nI 7)]))<|gX Mod.av 5 a 0<|fun b=>.i [rn 17,.nilL 10 1] []<|gu 0 4 (map aD ([] :List aE))<|gs 0 10 (.gl 4 1 0 ([] :List aE).length false)<|.W 0 5 [0,1,4] (aFa a b.name 0 ([] :List aE) d e)
def aVE:=fun a b c d e f g i j k l=>aFb a b c d|>.t g e i j f k|>.t l tv
def aVF:=fun a b c d e f g i j k l=>aFb a b c d|>.t g e i j f k|>.f l ⟨kk,⟨cX,trivial⟩⟩
def aVG:=fun a b c d e f=>aFb a b c d|>.f e|>.t f tv
def aVH:=fun a b c d e f g i j=>aFb a b c d|>.f f|>.f g e i j ⟨kk,trivial⟩
def aOQ(d:List Mod)(e:Int)(f:List DataD)(c:Int)(b:List FunD):=tT 0 (aAk d e f c b)<|gX Mod.av 6 d c<|fun a=>gl 2 DataD.av a.datas<|gd 2 38 (e< (a.datas.length:Int)) (gi Mod.av 8 d c a<|gX DataD.av 3 a.datas e<|fun g=>.W 12 5 [0,1,4,2,3] (aCr d g.name g.cons false 0 c e f b))<|.i [rn 2,.reg (rd 4 [.ans (.idx (Mod.av a)),.d,.d,.app (FunDs.av (b++a.funs)) (b++a.funs).length,.d,.d])] [hA (0≤c),.a (((d)[c.toNat]?) =some a) (jZ (f:=Mod.av)),hB bE b,hA (length (b++a.funs) ≤1000000),hC bE b a.funs,hE bE b a.funs]<|gw 4 23 (c+1)<|.W 3 5 [0,1,2,4] (aCq d (c+1) (b++a.funs) f)
def aVI:=fun c d e f g i j a b k l m=>aOQ c d e f g i a b|>.t k a b j l m ⟨kk,⟨cX,trivial⟩⟩
def aVJ:=fun c d e f g i a b j k l=>aOQ c d e f g i a b|>.f j a b k l ⟨kk,⟨cX,trivial⟩⟩
def aOR(d:List Mod)(e:aE)(b:Int)(c:List aE)(f:List FunD)(a:List DataD):=tT 0 (aFa d e b c f a)<|gl 6 DataD.av a<|gd 2 96 (b< (a.length:Int)) (gX DataD.av 9 a b<|fun g=>ga 3 aD c [g.name]<|gw 6 98 (b+1)<|.W 3 5 [0,1,4] (aFa d e (b+1) (c++ [g.name]) f a))<|.i [rn 9,.nilL 11 1] []<|gu 0 3 (map aD ([] :List aE))<|gs 0 11 (.gl 3 1 0 ([] :List aE).length false)<|.W 0 4 [0,1,2,3] (wQ d e f c 0 ([] :List aE) a)
def aVK:=fun a b c d e f g i j k l m=>aOR a b c d e f|>.t i g j k l m ⟨kk,trivial⟩
def aVL:=fun a b c d e f g=>aOR a b c d e f|>.f g ⟨kk,⟨kk,trivial⟩⟩
def aFc(f:List Mod)(d:aE)(e:List ConD)(j:Bool)(a g c:Int)(b:List DataD)(i:List FunD):=tT 0 (aCr f d e j a g c b i)<|gd 9 53 (a< (b.length:Int)) (.o (.i [rn 4,.reg (.d::.d::.b 57 true::rd 9 [])] [hA (j=true)]<|gw 4 55 (a+1)<|.W 3 5 [0,1,2,3,4] (aCr f d e true (a+1) g c b i))<|.y fun k:DataD=>.y fun l:Bool=>.i [rn 4,.reg (.d::.d::.b 57 false::rd 3 [.ans (.ix),.ans (.idx (DataD.av k)),.d,.pure (bV l),.d,.d])] [hA (j=false),hA (0≤a),hA (a< (b.length:Int)),.a (((b)[a.toNat]?) =some k) (aFQ (f:=DataD.av)),hA (Pure PP 38 [(.agg [(aD k.name),(.ilst 2 (map ConD.av k.cons) false)]),(.agg [(aD d),(.ilst 2 (map ConD.av e) false)])] (bV l))]<|gw 4 55 (a+1)<|.W 3 5 [0,1,2,3,4] (aCr f d e l (a+1) g c b i))<|.b 7 67 (!j) (ga 6 DataD.av b [(DataD.mk d e)]<|gw 7 40 (c+1)<|.W 3 7 [0,1,6,4] (aAk f (c+1) (b++ [(DataD.mk d e)]) g i))<|gw 6 40 (c+1)<|.W 3 5 [0,1,3,4] (aAk f (c+1) b g i)
def aVM:=fun a b c d e f g i j k l m=>aFc a b c d e f g i j|>.t k|>.1 l m ⟨kk,⟨cX,trivial⟩⟩
def aVN:=fun a b c d e f g i j k l m n o p q r s=>aFc a b c d e f g i j|>.t m|>.2 k l n o p q r s ⟨kk,⟨cX,trivial⟩⟩
def aVO:=fun a b c d e f g i j k l m n=>aFc a b c d e f g i j|>.f k|>.t l m n ⟨kk,⟨cX,trivial⟩⟩
def aVP:=fun a b c d e f g i j k l m=>aFc a b c d e f g i j|>.f k|>.f l m ⟨kk,⟨cX,trivial⟩⟩
def aAl(i:List Mod)(b:aE)(a:List FunD)(f:List aE)(c:Int)(d:List aE)(e:List DataD):=tT 0 (wQ i b a f c d e)<|gm 6 bE a<|gd 2 112 (c< (a.length:Int)) (.y fun g:aE=>.y fun l:aE=>.y fun m:Int=>.y fun n:Int=>.y fun o:aE=>.y fun p:List Typ=>.y fun q:Int=>.y fun r:Int=>.y fun s:aE=>.y fun t:List Typ=>.y fun u:Int=>.y fun v:Int=>.y fun w:aE=>.y fun x:List Term=>.y fun y:List Pat=>giF bE 9 a c (FunD.mk g l (Typ.mk m n o p) (Typ.mk q r s t) (Term.mk u v w x y))<|ga 3 aD d [g]<|gw 6 114 (c+1)<|.W 3 6 [0,1,2,5] (wQ i b a f (c+1) (d++ [g]) e))<|gz 6 124 2 1 aD f false<|cZ 0 39 [(iS f)]<|fun z=>.b 2 127 (!z) (.i [rn 20,.cnilI 0 1 2] []<|.i [.cnilI 0 2 15] []<|gE 0 4 (.tup [(.agg [(.str 0 0),(.ilst 2 (map DataD.av ([] :List DataD)) true),(.ilst 15 (FunDs.av ([] :List FunD)) true)]),(nI 7)]))<|gz 1 128 3 1 aD d false<|cZ 0 39 [(iS d)]<|fun A=>.b 3 132 (!A) (.i [rn 15,.cnilI 0 1 2] []<|.i [.cnilI 0 2 15] []<|gE 0 4 (.tup [(.agg [(.str 0 0),(.ilst 2 (map DataD.av ([] :List DataD)) true),(.ilst 15 (FunDs.av ([] :List FunD)) true)]),(nI 7)]))<|.y fun j:List Con=>gp 1 41 [(.agg [(aD b),(.ilst 2 (map DataD.av e) false),(.ilst 15 (FunDs.av a) false)])] (iC j)<|.y fun k:List aE=>gp 0 40 [(iC j)] (iS k)<|cZ 0 39 [(iS k)]<|fun B=>.b 3 138 (!B) (.i [rn 8,.cnilI 0 1 2] []<|.i [.cnilI 0 2 15] []<|gE 0 4 (.tup [(.agg [(.str 0 0),(.ilst 2 (map DataD.av ([] :List DataD)) true),(.ilst 15 (FunDs.av ([] :List FunD)) true)]),(nI 7)]))<|cZ 6 37 [(.agg [(aD b),(.ilst 2 (map DataD.av e) false),(.ilst 15 (FunDs.av a) false)])]<|fun C=>.b 2 142 (!C) (.i [rn 8,.cnilI 0 1 2] []<|.i [.cnilI 0 2 15] []<|gE 0 4 (.tup [(.agg [(.str 0 0),(.ilst 2 (map DataD.av ([] :List DataD)) true),(.ilst 15 (FunDs.av ([] :List FunD)) true)]),(nI 3)]))<|gE 9 4 (.tup [(.agg [(aD b),(.ilst 2 (map DataD.av e) false),(.ilst 15 (FunDs.av a) false)]),(nI 0)])
def aVQ:=fun a b c d e f g i j k l m n o p q r s t u v w x y z A B=>aAl a b c d e f g|>.t x i j k l m n o p q r s t u v w y z A B ⟨kk,⟨kk,trivial⟩⟩
def aVR:=fun a b c d e f g i j k l=>aAl a b c d e f g|>.f j i k|>.t l tv
def aVS:=fun a b c d e f g i j k l m n o=>aAl a b c d e f g|>.f k i l|>.f m j n|>.t o tv
def aVT:=fun a b c d e f g i j k l m n o p q r s t u v=>aAl a b c d e f g|>.f n i o|>.f p j q|>.f r k s l t m u|>.t v tv
def aVU:=fun a b c d e f g i j k l m n o p q r s t u v w x y=>aAl a b c d e f g|>.f o i p|>.f q j r|>.f s k t l u m v|>.f w n x|>.t y tv
def aVV:=fun a b c d e f g i j k l m n o p q r s t u v w x y=>aAl a b c d e f g|>.f o i p|>.f q j r|>.f s k t l u m v|>.f w n x|>.f y tv
def tA :List DataD→List DataD→List DataD
 |acc,[] =>acc
 |acc,d::t=>tA (if fG (d∈acc) =true then acc else acc++ [d]) t
def jnL :List Mod→List DataD→List FunD→Option (List DataD×List FunD)
 | [],ds,fs=>some (ds,fs)
 |m::t,ds,fs=>if qZ m=true then jnL t (tA ds m.datas) (fs++m.funs)else none
def ZM :Mod:= ⟨[],[],[]⟩
def aVW (m:Mod) :Bool:=hP (m.datas.map DataD.name) &&hP (m.funs.map FunD.nm) &&hP ((yY m).map Con.name)
def aH9 (l:List Mod)(ds:List DataD)(fs:List FunD) :Mod×Int:=
 match l with
 | [] => (ZM,7)
 |m::_=>if aVW ⟨m.name,ds,fs⟩ =true then(if qZ ⟨m.name,ds,fs⟩ =true then(⟨m.name,ds,fs⟩,0)else(ZM,3))else(ZM,7)
def aCs (l:List Mod) :Mod×Int:=if 10<l.length then(ZM,2)else match jnL l [] []with|none=> (ZM,2) |some (ds,fs) =>aH9 l ds fs
structure JOk (m:Mod) :Prop where
 dl:m.datas.length≤10
 fl:m.funs.length≤10
 d:∀d∈m.datas,kN d∧d.cons.length≤1000
 f:∀f∈m.funs,fD f
abbrev EM (e:Int) :AV:=.tup [.agg [.str 0 0,.ilst 2 (map DataD.av ([] :List DataD)) true,.ilst 15 (FunDs.av ([] :List FunD)) true],.int .i64 e]
abbrev RM (r:Mod×Int) :AV:=.tup [Mod.av r.1,.int .i64 r.2]
theorem yZ {E:Emb}{e:Nat}{xs:List AV}{cv:Value}(h:VR E (.ilst e xs true) cv) :VR E (.ilst e xs false) cv:=by
 simp only [VR]at h ⊢;obtain⟨vs,h1,h2,h3⟩ :=h;refine⟨vs,h1,h2,?_⟩;rcases h3 with⟨rfl,a,cap,rfl,g,_⟩ | ⟨k,a,cap,C,g1,g2,g3,_,g5⟩
 ·exact .inl ⟨rfl,a,cap,rfl,g,fun hh=>by cases hh⟩
 ·exact .inr ⟨k,a,cap,C,g1,g2,g3,(fun hh=>by cases hh),g5⟩
theorem aZx {E:Emb}{e:Int}{cv:Value}(h:VR E (EM e) cv) :VR E (RM (ZM,e)) cv:=by
 simp only [VR]at h ⊢;obtain⟨us,h1,h2⟩ :=h;obtain⟨u,us',rfl,h3,h4⟩ :=h2.cons_inv;simp only [VR]at h3;obtain⟨ws,rfl,h5⟩ :=h3;obtain⟨a1,w1,rfl,c1,h5⟩ :=h5.cons_inv;obtain⟨a2,w2,rfl,c2,h5⟩ :=h5.cons_inv;obtain⟨a3,w3,rfl,c3,h5⟩ :=h5.cons_inv;refine⟨_,h1,VRs.cons ?_ h4⟩;simp only [Mod.av,VR];exact⟨_,rfl,VRs.cons c1 (VRs.cons (yZ c2) (VRs.cons (yZ c3) h5))⟩
theorem fQ {s:AS}{e:Int}{h':Hp}(h:Ends PP 0 s (.ret (EM e)) h') :Ends PP 0 s (.ret (RM (ZM,e))) h':=aJL h fun _ _=>aZx
theorem zA :∀ (t acc:List DataD),(tA acc t).length≤acc.length+t.length
 | [],acc=>by simp [tA]
 | d::t,acc=>by
  rw [tA];have:=zA t (if fG (d∈acc) =true then acc else acc++ [d]);split at this
  ·rename_i h;rw [if_pos h];simp only [length_cons];omega
  ·rename_i h;rw [if_neg h];simp only [length_cons,length_append,List.length_nil]at this ⊢;omega
theorem zB {x:DataD}:∀ (t acc:List DataD),x∈tA acc t→x∈acc∨x∈t
 | [],acc,h=>.inl h
 | d ::t,acc,h=>by
  rw [tA]at h;rcases zB t _ h with g|g
  · split at g
    ·exact .inl g
    · rcases List.mem_append.1 g with g|g
      ·exact .inl g
      ·exact .inr (by simp [List.mem_singleton.1 g])
  ·exact .inr (List.mem_cons_of_mem _ g)
theorem aFd (d:DataD) :∀l:List DataD,(l.any fun y=>fG (y=d)) =fG (d∈l)
 | [] =>by rw [bW (by simp)];rfl
 | y::l=>by
  rw [any_cons,aFd d l];by_cases e:y=d
  ·rw [dK e,dK (p:=d∈y::l) (by simp [e])];rfl
  ·rw [bW e,Bool.false_or];exact jH (by simp [Ne.symm e])
section
variable (l :List Mod) (i k:Nat) (hk:k≤1000) (l4:List FunD)
include hk
theorem aOS (nm:aE)(cs:List ConD)(l3:List DataD)(hl:l3.length≤900000)(hd:∀y∈l3,kN y∧y.cons.length≤1000) :∀ (t:List DataD) (n:Nat) (is8:Bool),l3.drop n=t →
  LeadsM PP 0 (aCr l nm cs is8 (n:Int) (i:Int) (k:Int) l3 l4).as (aAk l ((k:Int) +1) (if(is8||t.any fun y=>fG (y= ⟨nm,cs⟩)) =true then l3 else l3++ [⟨nm,cs⟩]) (i:Int) l4).as
 | [],n,is8,h=>by
  have:=bD h;cases is8 with
  |true=>exact aVP l nm cs true n i k l3 l4 sd rfl sd
  |false=>exact aVO l nm cs false n i k l3 l4 sd rfl (by simp;omega) sd
 | y::t,n,is8,h=>by
  obtain⟨g1,g2,g3⟩ :=aW h;cases is8 with
  | true=>
   have h0:=aVM l nm cs true n i k l3 l4 sd rfl sd;have h1:=aOS nm cs l3 hl hd t (n+1) true g2;rw [Bool.true_or]at h1 ⊢;exact h0.trans h1
  | false=>
   obtain⟨d1,d2⟩ :=hd y (mem_of_getElem? g1);have hp:=aOL y ⟨nm,cs⟩ d1 (by omega);have h0:=aVN l nm cs false n i k l3 l4 y (fG (y= ⟨nm,cs⟩)) sd rfl sd sd sd hp sd;have h1:=aOS nm cs l3 hl hd t (n+1) (fG (y= ⟨nm,cs⟩)) g2;rw [Bool.false_or,any_cons];exact h0.trans h1
end
theorem aXw (l:List Mod)(i:Nat)(hi:i≤1000)(m:Mod)(hm:l[i]?=some m)(hj:JOk m)(l4:List FunD)(h4:l4.length≤1000) :∀ (t:List DataD) (k:Nat) (acc:List DataD),m.datas.drop k=t→acc.length≤1000→ (∀y∈acc,kN y∧y.cons.length≤1000) →acc.length+t.length≤1000 →
  LeadsM PP 0 (aAk l (k:Int) acc (i:Int) l4).as (aCq l ((i:Int) +1) (l4++m.funs) (tA acc t)).as
 | [],k,acc,h,_,_,_=>by
  have:=bD h;have:=hj.fl;exact aVJ l k acc i l4 m sd sd sd (by simp;omega) sd
 | d ::t,k,acc,h,hl,ha,hs=>by
  obtain⟨g1,g2,g3⟩ :=aW h;have:=hj.dl;have h0:=aVI l k acc i l4 m d sd sd sd sd sd;have h1:=aOS l i k (by omega) l4 d.name d.cons acc (by omega) ha acc 0 false rfl;rw [Bool.false_or,aFd]at h1;simp only [length_cons]at hs
  have h2:=aXw l i hi m hm hj l4 h4 t (k+1) (if fG (d∈acc) =true then acc else acc++ [d]) g2 (by split<;> (try rw [length_append,List.length_singleton]) <;>omega) (fun y hy=>by
   split at hy
   ·exact ha y hy
   · rcases List.mem_append.1 hy with g|g
     ·exact ha y g
     ·rw [List.mem_singleton.1 g];exact hj.d d (mem_of_getElem? g1)) (by split<;> (try rw [length_append,List.length_singleton]) <;>omega)
  rw [tA];exact(h0.trans h1).trans h2
theorem aXx (l:List Mod)(nm:aE)(fs:List FunD)(ds:List DataD)(hl:ds.length≤900000) :∀ (t:List DataD) (i:Nat) (acc:List aE),ds.drop i=t→acc.length=i →
  LeadsM PP 0 (aFa l nm (i:Int) acc fs ds).as (wQ l nm fs (acc++t.map DataD.name) 0 ([] :List aE) ds).as
 | [],i,acc,h,ha=>by
  have:=bD h;rw [map_nil,append_nil];exact aVL l nm i acc fs ds sd
 | d::t,i,acc,h,ha=>by
  obtain⟨g1,g2,g3⟩ :=aW h;have:=aXx l nm fs ds hl t (i+1) (acc++ [d.name]) g2 (by simp [ha]);rw [append_assoc]at this;exact(aVK l nm i acc fs ds d sd sd sd (by simp;omega) sd).trans this
theorem aXy (l:List Mod)(nm:aE)(fs:List FunD)(dn:List aE)(ds:List DataD)(hl:fs.length≤900000){r:Res}{h':Hp}(hk:Ends PP 0 (wQ l nm fs dn ((fs.length:Nat) :Int) (fs.map FunD.nm) ds).as r h') :∀ (t:List FunD) (i:Nat) (acc:List aE),fs.drop i=t→acc= (fs.take i).map FunD.nm→i≤fs.length →
  Ends PP 0 (wQ l nm fs dn (i:Int) acc ds).as r h'
 | [],i,acc,h,ha,hi=>by
  have hd:=bD h;have e:i=fs.length:=by omega
  rw [ha,e,List.take_length];exact hk
 | f::t,i,acc,h,ha,hi=>by
  obtain⟨g1,g2,g3⟩ :=aW h;have:=aXy l nm fs dn ds hl hk t (i+1) (acc++ [f.nm]) g2 (by rw [ha,aGu g1,List.map_append];rfl) (by omega);obtain⟨n,p,⟨a0,a1,a2,a3⟩,⟨b0,b1,b2,b3⟩,⟨c0,c1,c2,c3,c4⟩⟩ :=f;exact(aVQ l nm fs dn i acc ds n p a0 a1 a2 a3 b0 b1 b2 b3 c0 c1 c2 c3 c4 sd sd sd (by rw [ha];simp;omega) sd).ends this
theorem aVX (l:List Mod)(nm:aE)(fs:List FunD)(ds:List DataD)(hf:fs.length≤200)(hd:ds.length≤200)(hc:∀d∈ds,d.cons.length≤1000)(hff:∀f∈fs,fD f) :
  Ends PP 0 (wQ l nm fs (ds.map DataD.name) ((fs.length:Nat) :Int) (fs.map FunD.nm) ds).as (.ret (RM (if aVW ⟨nm,ds,fs⟩ =true then(if qZ ⟨nm,ds,fs⟩ =true then(⟨nm,ds,fs⟩,0)else(ZM,3))else(ZM,7)))) (aO [] 0) :=by
 have h1:=lG (ds.map DataD.name) (by simp;omega);have h3:=lG (fs.map FunD.nm) (by simp;omega);have h5:=aON ⟨nm,ds,fs⟩ hd hc;have hcl: (yY ⟨nm,ds,fs⟩).length≤1000*ds.length:=by
  unfold yY;clear h1 h3 h5 hd
  induction ds with
  |nil=>simp
  | cons d ds ih=>
   have:=ih (fun x hx=>hc x (List.mem_cons_of_mem _ hx));have:=hc d (List.mem_cons_self ..);simp only [map_cons,flatten_cons,length_append,List.length_map,length_cons]at *;omega
 have h6:=aOO (yY ⟨nm,ds,fs⟩) (by omega);have h7:=lG ((yY ⟨nm,ds,fs⟩).map Con.name) (by simp;omega);have h9:=aGs ⟨nm,ds,fs⟩ hff;unfold aVW;cases e1:hP (ds.map DataD.name)with
 | false=>
  rw [e1]at h1;exact fQ (aVR l nm fs _ _ _ ds false (by simp) h1 rfl)
 | true=>
  rw [e1]at h1;cases e2:hP (fs.map FunD.nm)with
  | false=>
   rw [e2]at h3;exact fQ (aVS l nm fs _ _ _ ds true false (by simp) h1 rfl h3 rfl)
  | true=>
   rw [e2]at h3;cases e3:hP ((yY ⟨nm,ds,fs⟩).map Con.name)with
   | false=>
    rw [e3]at h7;exact fQ (aVT l nm fs _ _ _ ds true true _ _ false (by simp) h1 rfl h3 rfl h5 h6 h7 rfl)
   | true=>
    rw [e3]at h7;cases e4:qZ ⟨nm,ds,fs⟩with
    | false=>
     rw [e4]at h9;exact fQ (aVU l nm fs _ _ _ ds true true _ _ true false (by simp) h1 rfl h3 rfl h5 h6 h7 rfl h9 rfl)
    | true=>
     rw [e4]at h9;exact aVV l nm fs _ _ _ ds true true _ _ true true (by simp) h1 rfl h3 rfl h5 h6 h7 rfl h9 rfl
theorem aXz (l:List Mod)(hl:l.length≤10)(hj:∀m∈l,JOk m) :∀ (t:List Mod) (i:Nat) (ds:List DataD) (fs:List FunD),l.drop i=t→i≤l.length→ds.length≤10*i→fs.length≤10*i→ (∀y∈ds,kN y∧y.cons.length≤1000) → (∀f∈fs,fD f) →
  Ends PP 0 (aCq l (i:Int) fs ds).as (.ret (RM (match jnL t ds fs with|none=> (ZM,2) |some (ds,fs) =>aH9 l ds fs))) (aO [] 0)
 | [],i,ds,fs,h,hi,hd,hf,hdd,hff=>by
  have hn:=bD h;rw [jnL];simp only;have hdr:=congrArg length h;rw [List.length_drop,List.length_nil]at hdr;cases l with
  |nil=>exact fQ (aVG [] i fs ds sd rfl)
  | cons m l=>
   rw [aH9];have g:=aVH (m::l) i fs ds m sd (by simp;omega) (by decide) rfl;have g2:=aXx (m::l) m.name fs ds (by omega) ds 0 [] rfl rfl;have g3:=aVX (m::l) m.name fs ds (by omega) (by omega) (fun d hd=> (hdd d hd).2) hff;have g4:=aXy (m::l) m.name fs (ds.map DataD.name) ds (by omega) g3 fs 0 [] rfl rfl (by omega);exact(g.trans g2).ends g4
 | m ::t,i,ds,fs,h,hi,hd,hf,hdd,hff=>by
  obtain⟨g1,g2,g3⟩ :=aW h;have hm:=mem_of_getElem? g1;have J:=hj m hm;have hp:=aGs m J.f;rw [jnL];cases e:qZ m with
  | false=>
   rw [e]at hp;exact fQ (aVE l i fs ds m false sd sd sd hp rfl)
  | true=>
   rw [e]at hp;have h0:=aVF l i fs ds m true sd sd sd hp rfl;have h1:=aXw l i (by omega) m g1 J fs (by omega) m.datas 0 ds rfl (by omega) hdd (by have:=J.dl;omega);have hlen:=zA m.datas ds
   have h2:=aXz l hl hj t (i+1) (tA ds m.datas) (fs++m.funs) g2 (by omega) (by have:=J.dl;omega) (by have:=J.fl;rw [length_append];omega) (fun y hy=>by
    rcases zB m.datas ds hy with g|g
    ·exact hdd y g
    ·exact J.d y g) (fun f hf=>by
    rcases List.mem_append.1 hf with g|g
    ·exact hff f g
    ·exact J.f f g)
   rw [if_pos rfl];exact(h0.trans h1).ends h2
theorem aOT (l:List Mod)(hj:∀m∈l,JOk m) :Pure PP 7 [.ilst 3 (map Mod.av l) false] (RM (aCs l)) :=by
 refine bS (s:=aXv l) (by kernel_rfl) (by kernel_rfl) (by simp [keylessL,keyless]) (by simp [keyless,keylessL,wK]) ?_;unfold aCs;by_cases h:10<l.length
 · rw [if_pos h];exact fQ (aVC l (by simp;omega))
 · rw [if_neg h];exact(aVD l (by simp;omega)).ends (aXz l (by omega) hj l 0 [] [] rfl (by omega) (by simp) (by simp) (by simp) (by simp))
def aXA(a:List Mod):TS:=cK PP 6 [(.ilst 3 (map Mod.av a) false)] [] 0
def aCt(a:List Mod)(e:Int)(b:List ConD)(c:List DataD)(d:List FunD):TS:=⟨(tf 6 109 [(0,(.ilst 3 (map Mod.av a) false)),kp 2 0,kp 3 1,(4,(.gl 2 2 0 b.length false)),(16,(.ilst 3 (map Mod.av a) false)),(17,(nI (a.length:Int))),(18,(nI e))] [kc f6 500,kl f6 500,.inBlock 0,kc f6 63] (defers:=[.fn 21 [(.ptr 1 0),(.func 22 [] [(.ptr 0 0)])]])),[],[oC 0 [(.str 0 0),(.gl 3 2 0 c.length false),(.gl 4 15 0 d.length false)],oC 1 [(nI 0)],oL 2 2 (map ConD.av b),oL 3 2 (map DataD.av c),oL 4 15 (FunDs.av d)],5⟩
def wR(a:List Mod)(e:List DataD)(f:Int)(g:aE)(i:List DataD)(j:List FunD)(k:Int)(b:List ConD)(c:List DataD)(l:Int)(d:List FunD):TS:=⟨(tf 6 109 [(0,(.ilst 3 (map Mod.av a) false)),kp 2 0,kp 3 1,(4,(.gl 2 2 0 b.length false)),kp 6 3,(16,(.ilst 3 (map Mod.av a) false)),(17,(nI (a.length:Int))),(18,(nI l)),(27,(.ilst 2 (map DataD.av e) false)),(28,(nI f)),(29,(nI k))] [kc f6 512820,kl f6 512820,.inBlock 2,kc f6 64103,.inBlock 1,kc f6 4007,kl f6 500,.inBlock 0,kc f6 63] (defers:=[.fn 21 [(.ptr 1 0),(.func 22 [] [(.ptr 0 0)])]])),[],[oC 0 [(.str 0 0),(.gl 4 2 0 c.length false),(.gl 5 15 0 d.length false)],oC 1 [(nI 0)],oL 2 2 (map ConD.av b),oC 3 [(aD g),(.ilst 2 (map DataD.av i) false),(.ilst 15 (FunDs.av j) false)],oL 4 2 (map DataD.av c),oL 5 15 (FunDs.av d)],6⟩
def wS(c:List Mod)(d:Int)(a:List (aE×Bool))(e:List DataD)(f:Int)(g i:List DataD)(j:List FunD)(b:List ConD):TS:=⟨(tf 31 25 [(1,(.func 32 [] [])),(4,(bV false)),(5,(.map 0)),(9,(.ilst 2 (map DataD.av e) false)),(10,(nI f)),(11,(nI d))] [kc f31 116,kl f31 116,.inBlock 0,kc f31 15]),[(tf 6 109 [(0,(.ilst 3 (map Mod.av c) false)),kp 2 1,kp 3 2,(4,(.gl 3 2 0 b.length false)),(81,(bV false)),(83,(.ilst 2 (map DataD.av g) false))] [ko f6 126 6,kc f6 127] (defers:=[.fn 21 [(.ptr 2 0),(.func 22 [] [(.ptr 1 0)])]]))],[(0,(.map (aN aD dW 0 a) a.length),true),oC 1 [(.str 0 0),(.ilst 2 (map DataD.av i) false),(.ilst 15 (FunDs.av j) false)],oC 2 [(nI 0)],oL 3 2 (map ConD.av b)],4⟩
def aFe(b:List Mod)(e:List DataD)(f:Int)(g:aE)(i:List ConD)(j:aE)(k:List DataD)(l:List FunD)(m n o:Int)(a:List DataD)(c:List ConD)(p:Int)(d:List FunD):TS:=⟨(tf 68 19 [(0,(.gl 0 2 0 a.length false)),(1,(.func 26 [] [(.ptr 1 0)])),(4,(nI 0)),(7,(nI n)),(8,(nI m))] [kc f68 52,kl f68 52,.inBlock 0,kc f68 7]),[(tf 25 9 [(4,(bV false)),(5,(.gl 0 2 0 a.length false)),(6,(.func 26 [] [(.ptr 1 0)]))] [ko f25 6 2,kc f25 7]),(tf 6 109 [(0,(.ilst 3 (map Mod.av b) false)),kp 2 2,kp 3 3,(4,(.gl 4 2 0 c.length false)),kp 6 5,kp 8 1,(16,(.ilst 3 (map Mod.av b) false)),(17,(nI (b.length:Int))),(18,(nI p)),(27,(.ilst 2 (map DataD.av e) false)),(28,(nI f)),(29,(nI o)),(34,(.gl 0 2 0 a.length false)),(35,(.func 26 [] [(.ptr 1 0)]))] [ko f6 32820530 3,kc f6 32820531,.inBlock 3,kc f6 4102567,kl f6 512820,.inBlock 2,kc f6 64103,.inBlock 1,kc f6 4007,kl f6 500,.inBlock 0,kc f6 63] (defers:=[.fn 21 [(.ptr 3 0),(.func 22 [] [(.ptr 2 0)])]]))],[oL 0 2 (map DataD.av a),oC 1 [(aD g),(.ilst 2 (map ConD.av i) false)],oC 2 [(.str 0 0),(.gl 0 2 0 a.length false),(.gl 6 15 0 d.length false)],oC 3 [(nI 0)],oL 4 2 (map ConD.av c),oC 5 [(aD j),(.ilst 2 (map DataD.av k) false),(.ilst 15 (FunDs.av l) false)],oL 6 15 (FunDs.av d)],7⟩
def aCu(a:List Mod)(e:List FunD)(f g:Int)(b:List FunD)(c:List ConD)(d:List DataD)(i:Int):TS:=⟨(tf 6 109 [(0,(.ilst 3 (map Mod.av a) false)),kp 2 0,kp 3 1,(4,(.gl 2 2 0 c.length false)),(16,(.ilst 3 (map Mod.av a) false)),(17,(nI (a.length:Int))),(18,(nI i)),(51,(.ilst 15 (FunDs.av e) false)),(52,(nI f)),(53,(nI g))] [kc f6 512828,kl f6 512828,.inBlock 4,.inBlock 1,kc f6 4007,kl f6 500,.inBlock 0,kc f6 63] (defers:=[.fn 21 [(.ptr 1 0),(.func 22 [] [(.ptr 0 0)])]])),[],[oC 0 [(.str 0 0),(.gl 3 2 0 d.length false),(.gl 4 15 0 b.length false)],oC 1 [(nI 0)],oL 2 2 (map ConD.av c),oL 3 2 (map DataD.av d),oL 4 15 (FunDs.av b)],5⟩
def qI(c:List Mod)(d:Int)(a:List (aE×Bool))(e:List FunD)(f:Int)(g:List FunD)(i:List DataD)(j:List FunD)(b:List ConD):TS:=⟨(tf 33 25 [(1,(.func 34 [] [])),(4,(bV false)),(5,(.map 0)),(9,(.ilst 15 (FunDs.av e) false)),(10,(nI f)),(11,(nI d))] [kc f33 116,kl f33 116,.inBlock 0,kc f33 15]),[(tf 6 109 [(0,(.ilst 3 (map Mod.av c) false)),kp 2 1,kp 3 2,(4,(.gl 3 2 0 b.length false)),(87,(bV false)),(89,(.ilst 15 (FunDs.av g) false))] [ko f6 126 12,kc f6 127] (defers:=[.fn 21 [(.ptr 2 0),(.func 22 [] [(.ptr 1 0)])]]))],[(0,(.map (aN aD dW 0 a) a.length),true),oC 1 [(.str 0 0),(.ilst 2 (map DataD.av i) false),(.ilst 15 (FunDs.av j) false)],oC 2 [(nI 0)],oL 3 2 (map ConD.av b)],4⟩
def qJ(c:List Mod)(d:Int)(b:List (aE×Bool))(e:Int)(a:List ConD)(f:List DataD)(g:List FunD):TS:=⟨(tf 35 25 [(1,(.func 36 [] [])),(4,(bV false)),(5,(.map 0)),(9,(.gl 1 2 0 a.length false)),(10,(nI e)),(11,(nI d))] [kc f35 116,kl f35 116,.inBlock 0,kc f35 15]),[(tf 6 109 [(0,(.ilst 3 (map Mod.av c) false)),kp 2 2,kp 3 3,(93,(bV false)),(94,(.gl 1 2 0 a.length false))] [ko f6 126 17,kc f6 127] (defers:=[.fn 21 [(.ptr 3 0),(.func 22 [] [(.ptr 2 0)])]]))],[(0,(.map (aN aD dW 0 b) b.length),true),oL 1 2 (map ConD.av a),oC 2 [(.str 0 0),(.ilst 2 (map DataD.av f) false),(.ilst 15 (FunDs.av g) false)],oC 3 [(nI 0)]],4⟩
def aOU(a:List Mod):=tT 0 (aXA a)<|gl 13 Mod.av a<|gd 6 4 ((a.length:Int) >10) (.i [rn 51,.cnilI 0 1 2] []<|.i [.cnilI 0 2 15] []<|gE 0 3 (.tup [(.agg [(.str 0 0),(.ilst 2 (map DataD.av ([] :List DataD)) true),(.ilst 15 (FunDs.av ([] :List FunD)) true)]),(nI 2)]))<|gl 13 Mod.av a<|.i [rn 4,.nilL 4 2] []<|gu 0 2 (map ConD.av ([] :List ConD))<|gs 0 4 (.gl 2 2 0 ([] :List ConD).length false)<|.i [.cnil 0 1 2] []<|gu 0 3 (map DataD.av ([] :List DataD))<|gv 0 0 1 (.gl 3 2 0 ([] :List DataD).length false)<|.i [.cnil 0 2 15] []<|gu 0 4 (FunDs.av ([] :List FunD))<|gv 0 0 2 (.gl 4 15 0 ([] :List FunD).length false)<|.W 0 5 [0,1,2,3,4] (aCt a 0 ([] :List ConD) ([] :List DataD) ([] :List FunD))
def aVY:=fun a b=>aOU a|>.t b tv
def aVZ:=fun a b=>aOU a|>.f b ⟨kk,⟨kk,⟨cX,trivial⟩⟩⟩
def aFf(c:List Mod)(d:Int)(f:List ConD)(b:List DataD)(e:List FunD):=tT 0 (aCt c d f b e)<|gd 5 19 (d< (c.length:Int)) (gX Mod.av 6 c d<|fun a=>gpI 7 24 [(.agg [(aD a.name),(.ilst 2 (map DataD.av a.datas) false),(.ilst 15 (FunDs.av a.funs) false)])]<|fun g=>.b 6 4 (g != 0) (.i [rn 51,.cnilI 0 1 2] []<|.i [.cnilI 0 2 15] []<|gE 0 7 (.tup [(.agg [(.str 0 0),(.ilst 2 (map DataD.av ([] :List DataD)) true),(.ilst 15 (FunDs.av ([] :List FunD)) true)]),(nI 2)]))<|gl 10 DataD.av a.datas<|.W 4 6 [0,1,2,5,3,4] (wR c a.datas (a.datas.length:Int) a.name a.datas a.funs 0 f b d e))<|gy 3 0 1 3 2 DataD.av b false<|gY 0 0 2 4 15 bE cX e false<|gl 2 Mod.av c<|.b 2 81 ((c.length:Int) ==0) (.i [rn 72,.cnilI 0 1 2] []<|.i [.cnilI 0 2 15] []<|gE 0 6 (.tup [(.agg [(.str 0 0),(.ilst 2 (map DataD.av ([] :List DataD)) true),(.ilst 15 (FunDs.av ([] :List FunD)) true)]),(nI 7)]))<|.i [rn 10,.mset 5 (aN aD dW 0 ([] :List (aE×Bool))) ([] :List (aE×Bool)).length] [hr (aN aD dW 0 ([] :List (aE×Bool))),hr (length ([] :List (aE×Bool)))]<|gl 6 DataD.av b<|.W 4 6 [5,0,1,2] (wS c 0 ([] :List (aE×Bool)) b (b.length:Int) b b e f)
def aV0:=fun a b c d e f g i j k l m=>aFf a b c d e|>.t i f j k g l|>.t m tv
def aV1:=fun a b c d e f g i j k l m=>aFf a b c d e|>.t i f j k g l|>.f m ⟨kk,⟨kk,⟨cX,trivial⟩⟩⟩
def aV2:=fun a b c d e f g=>aFf a b c d e|>.f f|>.t g tv
def aV3:=fun a b c d e f g=>aFf a b c d e|>.f f|>.f g ⟨cA (fun _=>rfl) (fun _=>rfl) _ _ _,⟨kk,trivial⟩⟩
def aOV(d:List Mod)(e:List DataD)(f:Int)(k:aE)(l:List DataD)(a:List FunD)(b:Int)(g:List ConD)(c:List DataD)(i:Int)(j:List FunD):=tT 0 (wR d e f k l a b g c i j)<|gd 5 30 (b<f) (gX DataD.av 6 e b<|fun m=>.W 32 7 [4,6,0,1,2,3,5] (aFe d e f m.name m.cons k l a 0 (c.length:Int) b c g i j))<|gm 6 bE a<|.W 4 6 [0,1,2,4,5] (aCu d a (a.length:Int) 0 j g c i)
def aV4:=fun a b c d e f g i j k l m n o p=>aOV a b c d e f g i j k l|>.t n m o p ⟨kk,⟨kk,⟨cX,trivial⟩⟩⟩
def aV5:=fun a b c d e f g i j k l m=>aOV a b c d e f g i j k l|>.f m ⟨kk,⟨kk,⟨cX,trivial⟩⟩⟩
def aIa(i:List Mod)(d:Int)(a:List (aE×Bool))(j:List DataD)(k:Int)(n l:List DataD)(c:List FunD)(m:List ConD):=tT 0 (wS i d a j k n l c m)<|gd 5 12 (d<k) (gX DataD.av 6 j d<|fun e=>gpS 10 32 [(.agg [(aD e.name),(.ilst 2 (map ConD.av e.cons) false)])]<|fun f=>.o (.y fun b:Bool=>.i [.ans (.look (some (wF f a,(dW b))))] [.a (fS f a=some b) (p':=eK (aD f) (aN aD dW 0 a) 0=some (some (wF f a,(dW b)))) (tR eJ)]<|.b 1 19 b (.i [rn 76,.cnilI 1 1 2] []<|.i [.cnilI 1 2 15] []<|gE 0 6 (.tup [(.agg [(.str 0 0),(.ilst 2 (map DataD.av ([] :List DataD)) true),(.ilst 15 (FunDs.av ([] :List FunD)) true)]),(nI 7)]))<|gpS 6 32 [(.agg [(aD e.name),(.ilst 2 (map ConD.av e.cons) false)])]<|fun g=>.i [.mput (aN aD dW 0 (cO g true a)) (cO g true a).length] [.q (p:=jA (aN aD dW 0 a) a.length (aD g) (dW true) =some ((aN aD dW 0 (cO g true a)),length (cO g true a))) (mY eJ _ _ _)]<|gw 4 24 (d+1)<|.W 3 5 [0,1,2,3] (wS i (d+1) (cO g true a) j k n l c m))<|.i [.ans (.look none)] [.a (fS f a=none) (p':=eK (aD f) (aN aD dW 0 a) 0=some none) (tQ eJ)]<|gpS 7 32 [(.agg [(aD e.name),(.ilst 2 (map ConD.av e.cons) false)])]<|fun b=>.i [.mput (aN aD dW 0 (cO b true a)) (cO b true a).length] [.q (p:=jA (aN aD dW 0 a) a.length (aD b) (dW true) =some ((aN aD dW 0 (cO b true a)),length (cO b true a))) (mY eJ _ _ _)]<|gw 4 24 (d+1)<|.W 3 5 [0,1,2,3] (wS i (d+1) (cO b true a) j k n l c m))<|.i [rn 21,.mset 4 (aN aD dW 0 ([] :List (aE×Bool))) ([] :List (aE×Bool)).length] [hr (aN aD dW 0 ([] :List (aE×Bool))),hr (length ([] :List (aE×Bool)))]<|gm 6 bE c<|.W 4 5 [4,1,2,3] (qI i 0 ([] :List (aE×Bool)) c (c.length:Int) c l c m)
def aV6:=fun a b c d e f g i j k l m n o p q r s=>aIa a b c d e f g i j|>.t n k o p l q|>.1 m r|>.t s tv
def aV7:=fun a b c d e f g i j k l m n o p q r s t=>aIa a b c d e f g i j|>.t n k o p l q|>.2 r m s t ⟨cA (fun _=>rfl) (fun _=>rfl) _ _ _,⟨kk,trivial⟩⟩
def aV8:=fun a b c d e f g i j k=>aIa a b c d e f g i j|>.f k ⟨cA (fun _=>rfl) (fun _=>rfl) _ _ _,⟨kk,trivial⟩⟩
def aIb(i:List Mod)(j:List DataD)(k:Int)(l:aE)(d:List ConD)(m:aE)(n:List DataD)(o:List FunD)(e r f:Int)(a:List DataD)(g:List ConD)(p:Int)(q:List FunD):=tT 0 (aFe i j k l d m n o e r f a g p q)<|gd 5 9 (e<r) (.i [rn 14,.ans (.ix)] [hA (0≤e),hA (e< (a.length:Int))]<|.y fun b:DataD=>gj DataD.av 0 a e.toNat b<|cZ 10 27 [(.agg [(aD b.name),(.ilst 2 (map ConD.av b.cons) false)]),(.agg [(aD l),(.ilst 2 (map ConD.av d) false)])]<|fun s=>.b 5 16 s (.b 15 37 (!(decide (e≥0))) (.y fun c:DataD=>.i [rn 2,.reg (rd 3 [.pure (.agg [(aD c.name),(.ilst 2 (map ConD.av c.cons) false)]),.d,.app (map DataD.av (a++ [c])) (a++ [c]).length,.d,.d])] [hA (Pure PP 28 [(.agg [(aD l),(.ilst 2 (map ConD.av d) false)])] (.agg [(aD c.name),(.ilst 2 (map ConD.av c.cons) false)])),hb DataD.av a,hA (length (a++ [c]) ≤1000000),hc DataD.av a [c],he DataD.av a [c],hr (AV.gl 0 2 0 a.length false),hr (AV.gl 0 2 0 a.length false)]<|ga 4 ConD.av g d<|gw 5 49 (f+1)<|.W 3 11 [2,3,10,5,9,6] (wR i j k m n o (f+1) (g++d) (a++ [c]) p q))<|gw 5 49 (f+1)<|.W 3 8 [2,3,4,5,0,6] (wR i j k m n o (f+1) g a p q))<|gw 5 18 (e+1)<|.W 3 8 [0,1,2,3,4,5,6] (aFe i j k l d m n o (e+1) r f a g p q))<|.y fun b:DataD=>.i [rn 17,.reg (rd 3 [.pure (.agg [(aD b.name),(.ilst 2 (map ConD.av b.cons) false)]),.d,.app (map DataD.av (a++ [b])) (a++ [b]).length,.d,.d])] [hA (Pure PP 28 [(.agg [(aD l),(.ilst 2 (map ConD.av d) false)])] (.agg [(aD b.name),(.ilst 2 (map ConD.av b.cons) false)])),hb DataD.av a,hA (length (a++ [b]) ≤1000000),hc DataD.av a [b],he DataD.av a [b],hr (AV.gl 0 2 0 a.length false),hr (AV.gl 0 2 0 a.length false)]<|ga 4 ConD.av g d<|gw 5 49 (f+1)<|.W 3 10 [2,3,9,5,8,6] (wR i j k m n o (f+1) (g++d) (a++ [b]) p q)
def aV9:=fun a b c d e f g i j k l m n o p q r s t u v w x y z=>aIb a b c d e f g i j k l m n o p|>.t s t u q v r w|>.t x|>.f y z ⟨kk,⟨kk,⟨cX,trivial⟩⟩⟩
def aWa:=fun a b c d e f g i j k l m n o p q r s t u v w x y=>aIb a b c d e f g i j k l m n o p|>.t s t u q v r w|>.f x y ⟨kk,⟨kk,⟨cX,trivial⟩⟩⟩
def aWb:=fun a b c d e f g i j k l m n o p q r s t u v=>aIb a b c d e f g i j k l m n o p|>.f r q s t u v ⟨kk,⟨kk,⟨cX,trivial⟩⟩⟩
def aOW(C:List Mod)(D:List FunD)(F r:Int)(a:List FunD)(G:List ConD)(H:List DataD)(x:Int):=tT 0 (aCu C D F r a G H x)<|gd 5 54 (r<F) (.y fun b:aE=>.y fun c:aE=>.y fun I:Int=>.y fun J:Int=>.y fun K:aE=>.y fun L:List Typ=>.y fun y:Int=>.y fun z:Int=>.y fun A:aE=>.y fun B:List Typ=>.y fun s:Int=>.y fun t:Int=>.y fun u:aE=>.y fun v:List Term=>.y fun w:List Pat=>giF bE 6 D r (FunD.mk b c (Typ.mk I J K L) (Typ.mk y z A B) (Term.mk s t u v w))<|.y fun d:Int=>.y fun e:Int=>.y fun f:aE=>.y fun g:List Typ=>.y fun i:Int=>.y fun j:Int=>.y fun k:aE=>.y fun l:List Typ=>.y fun m:Int=>.y fun n:Int=>.y fun o:aE=>.y fun p:List Term=>.y fun q:List Pat=>.i [rn 4,.reg (rd 8 [.pure (.agg [(nI d),(nI e),(aD f),(.ilst 4 (Typs.av g) false)]),.d,.d,.pure (.agg [(nI i),(nI j),(aD k),(.ilst 4 (Typs.av l) false)]),.d,.d,.pure (.agg [(nI m),(nI n),(aD o),(.ilst 5 (av p) false),(iP q)]),.d,.d,.app (FunDs.av (a++ [(FunD.mk b c (Typ.mk d e f g) (Typ.mk i j k l) (Term.mk m n o p q))])) (a++ [(FunD.mk b c (Typ.mk d e f g) (Typ.mk i j k l) (Term.mk m n o p q))]).length,.d,.d])] [hA (Pure PP 29 [(.agg [(nI I),(nI J),(aD K),(.ilst 4 (Typs.av L) false)])] (.agg [(nI d),(nI e),(aD f),(.ilst 4 (Typs.av g) false)])),hA (Pure PP 29 [(.agg [(nI y),(nI z),(aD A),(.ilst 4 (Typs.av B) false)])] (.agg [(nI i),(nI j),(aD k),(.ilst 4 (Typs.av l) false)])),hA (Pure PP 30 [(.agg [(nI s),(nI t),(aD u),(.ilst 5 (av v) false),(iP w)])] (.agg [(nI m),(nI n),(aD o),(.ilst 5 (av p) false),(iP q)])),hB bE a,hA (length (a++ [(FunD.mk b c (Typ.mk d e f g) (Typ.mk i j k l) (Term.mk m n o p q))]) ≤1000000),hC bE a [(FunD.mk b c (Typ.mk d e f g) (Typ.mk i j k l) (Term.mk m n o p q))],hE bE a [(FunD.mk b c (Typ.mk d e f g) (Typ.mk i j k l) (Term.mk m n o p q))],hr (agg [(nI s),(nI t),(aD u),(.ilst 5 (av v) false),(iP w)]),hr (agg [(nI s),(nI t),(aD u),(.ilst 5 (av v) false),(iP w)]),hr (agg [(nI s),(nI t),(aD u),(.ilst 5 (av v) false),(iP w)]),hr (agg [(nI y),(nI z),(aD A),(.ilst 4 (Typs.av B) false)]),hr (agg [(nI y),(nI z),(aD A),(.ilst 4 (Typs.av B) false)]),hr (aD c),hr (aD c),hr (aD c),hr (aD c),hr (aD b),hr (aD b),hr (aD b),hr (aD b),hr (AV.gl 4 15 0 a.length false),hr (AV.gl 4 15 0 a.length false),hr (AV.gl 4 15 0 a.length false),hr (AV.gl 4 15 0 a.length false)]<|gw 3 76 (r+1)<|.W 3 8 [0,1,2,3,7] (aCu C D F (r+1) (a++ [(FunD.mk b c (Typ.mk d e f g) (Typ.mk i j k l) (Term.mk m n o p q))]) G H x))<|gw 5 77 (x+1)<|.W 3 5 [0,1,2,3,4] (aCt C (x+1) G H a)
def aWc:=fun a b c d e f g i j k l m n o p q r s t u v w x y z A B C D F G H I J K L M N O Q R S T U=>aOW a b c d e f g i|>.t M j k l m n o p q r s t u v w x N O y z A B C D F G H I J K L Q R S T U ⟨kk,⟨kk,⟨cX,trivial⟩⟩⟩
def aWd:=fun a b c d e f g i j k=>aOW a b c d e f g i|>.f j k ⟨kk,⟨kk,⟨cX,trivial⟩⟩⟩
def aIc(g:List Mod)(c:Int)(a:List (aE×Bool))(i:List FunD)(j:Int)(B:List FunD)(k:List DataD)(l:List FunD)(f:List ConD):=tT 0 (qI g c a i j B k l f)<|gd 5 12 (c<j) (.y fun m:aE=>.y fun n:aE=>.y fun o:Int=>.y fun p:Int=>.y fun q:aE=>.y fun r:List Typ=>.y fun s:Int=>.y fun t:Int=>.y fun u:aE=>.y fun v:List Typ=>.y fun w:Int=>.y fun x:Int=>.y fun y:aE=>.y fun z:List Term=>.y fun A:List Pat=>giF bE 6 i c (FunD.mk m n (Typ.mk o p q r) (Typ.mk s t u v) (Term.mk w x y z A))<|gpS 10 34 [(.agg [(aD m),(aD n),(nI o),(nI p),(aD q),(.ilst 4 (Typs.av r) false),(nI s),(nI t),(aD u),(.ilst 4 (Typs.av v) false),(nI w),(nI x),(aD y),(.ilst 5 (av z) false),(iP A)])]<|fun d=>.o (.y fun b:Bool=>.i [.ans (.look (some (wF d a,(dW b))))] [.a (fS d a=some b) (p':=eK (aD d) (aN aD dW 0 a) 0=some (some (wF d a,(dW b)))) (tR eJ)]<|.b 1 19 b (.i [rn 70,.cnilI 1 1 2] []<|.i [.cnilI 1 2 15] []<|gE 0 6 (.tup [(.agg [(.str 0 0),(.ilst 2 (map DataD.av ([] :List DataD)) true),(.ilst 15 (FunDs.av ([] :List FunD)) true)]),(nI 7)]))<|gpS 6 34 [(.agg [(aD m),(aD n),(nI o),(nI p),(aD q),(.ilst 4 (Typs.av r) false),(nI s),(nI t),(aD u),(.ilst 4 (Typs.av v) false),(nI w),(nI x),(aD y),(.ilst 5 (av z) false),(iP A)])]<|fun e=>.i [.mput (aN aD dW 0 (cO e true a)) (cO e true a).length] [.q (p:=jA (aN aD dW 0 a) a.length (aD e) (dW true) =some ((aN aD dW 0 (cO e true a)),length (cO e true a))) (mY eJ _ _ _)]<|gw 4 24 (c+1)<|.W 3 5 [0,1,2,3] (qI g (c+1) (cO e true a) i j B k l f))<|.i [.ans (.look none)] [.a (fS d a=none) (p':=eK (aD d) (aN aD dW 0 a) 0=some none) (tQ eJ)]<|gpS 7 34 [(.agg [(aD m),(aD n),(nI o),(nI p),(aD q),(.ilst 4 (Typs.av r) false),(nI s),(nI t),(aD u),(.ilst 4 (Typs.av v) false),(nI w),(nI x),(aD y),(.ilst 5 (av z) false),(iP A)])]<|fun b=>.i [.mput (aN aD dW 0 (cO b true a)) (cO b true a).length] [.q (p:=jA (aN aD dW 0 a) a.length (aD b) (dW true) =some ((aN aD dW 0 (cO b true a)),length (cO b true a))) (mY eJ _ _ _)]<|gw 4 24 (c+1)<|.W 3 5 [0,1,2,3] (qI g (c+1) (cO b true a) i j B k l f))<|.i [rn 20,.mset 4 (aN aD dW 0 ([] :List (aE×Bool))) ([] :List (aE×Bool)).length] [hr (aN aD dW 0 ([] :List (aE×Bool))),hr (length ([] :List (aE×Bool)))]<|.W 11 5 [4,3,1,2] (qJ g 0 ([] :List (aE×Bool)) (f.length:Int) f k l)
def aWe:=fun a b c d e f g i j k l m n o p q r s t u v w x y z A B C D F G H=>aIc a b c d e f g i j|>.t B k l m n o p q r s t u v w x y C D z F|>.1 A G|>.t H tv
def aWf:=fun a b c d e f g i j k l m n o p q r s t u v w x y z A B C D F G H I=>aIc a b c d e f g i j|>.t B k l m n o p q r s t u v w x y C D z F|>.2 G A H I ⟨cA (fun _=>rfl) (fun _=>rfl) _ _ _,⟨kk,trivial⟩⟩
def aWg:=fun a b c d e f g i j k=>aIc a b c d e f g i j|>.f k ⟨cA (fun _=>rfl) (fun _=>rfl) _ _ _,⟨kk,trivial⟩⟩
def aFg(k:List Mod)(d:Int)(a:List (aE×Bool))(l:Int)(g:List ConD)(i:List DataD)(j:List FunD):=tT 0 (qJ k d a l g i j)<|gd 5 12 (d<l) (.i [rn 6,.ans (.ix)] [hA (0≤d),hA (d< (g.length:Int))]<|.y fun c:ConD=>gj ConD.av 0 g d.toNat c<|gpS 9 36 [(.agg [(aD c.name),(.ilst 4 (Typs.av c.args) false)])]<|fun e=>.o (.y fun b:Bool=>.i [.ans (.look (some (wF e a,(dW b))))] [.a (fS e a=some b) (p':=eK (aD e) (aN aD dW 0 a) 0=some (some (wF e a,(dW b)))) (tR eJ)]<|.b 1 19 b (.i [rn 65,.cnilI 2 1 2] []<|.i [.cnilI 2 2 15] []<|gE 0 6 (.tup [(.agg [(.str 0 0),(.ilst 2 (map DataD.av ([] :List DataD)) true),(.ilst 15 (FunDs.av ([] :List FunD)) true)]),(nI 7)]))<|gpS 6 36 [(.agg [(aD c.name),(.ilst 4 (Typs.av c.args) false)])]<|fun f=>.i [.mput (aN aD dW 0 (cO f true a)) (cO f true a).length] [.q (p:=jA (aN aD dW 0 a) a.length (aD f) (dW true) =some ((aN aD dW 0 (cO f true a)),length (cO f true a))) (mY eJ _ _ _)]<|gw 4 24 (d+1)<|.W 3 5 [0,1,2,3] (qJ k (d+1) (cO f true a) l g i j))<|.i [.ans (.look none)] [.a (fS e a=none) (p':=eK (aD e) (aN aD dW 0 a) 0=some none) (tQ eJ)]<|gpS 7 36 [(.agg [(aD c.name),(.ilst 4 (Typs.av c.args) false)])]<|fun b=>.i [.mput (aN aD dW 0 (cO b true a)) (cO b true a).length] [.q (p:=jA (aN aD dW 0 a) a.length (aD b) (dW true) =some ((aN aD dW 0 (cO b true a)),length (cO b true a))) (mY eJ _ _ _)]<|gw 4 24 (d+1)<|.W 3 5 [0,1,2,3] (qJ k (d+1) (cO b true a) l g i j))<|gX Mod.av 23 k 0<|fun c=>gpI 8 24 [(.agg [(aD c.name),(.ilst 2 (map DataD.av i) false),(.ilst 15 (FunDs.av j) false)])]<|fun e=>.b 6 4 (e != 0) (.i [rn 51,.cnilI 2 1 2] []<|.i [.cnilI 2 2 15] []<|gE 0 5 (.tup [(.agg [(.str 0 0),(.ilst 2 (map DataD.av ([] :List DataD)) true),(.ilst 15 (FunDs.av ([] :List FunD)) true)]),(nI 3)]))<|gE 29 4 (.tup [(.agg [(aD c.name),(.ilst 2 (map DataD.av i) false),(.ilst 15 (FunDs.av j) false)]),(nI 0)])
def aWh:=fun a b c d e f g i j k l m n o p q r=>aFg a b c d e f g|>.t l m n i o j p|>.1 k q|>.t r tv
def aWi:=fun a b c d e f g i j k l m n o p q r s=>aFg a b c d e f g|>.t l m n i o j p|>.2 q k r s ⟨cA (fun _=>rfl) (fun _=>rfl) _ _ _,⟨kk,trivial⟩⟩
def aWj:=fun a b c d e f g i j k l m n o=>aFg a b c d e f g|>.f k i l m j n|>.t o tv
def aWk:=fun a b c d e f g i j k l m n o=>aFg a b c d e f g|>.f k i l m j n|>.f o tv
def uF (ds:List DataD) :List ConD:= (ds.map DataD.cons).flatten
theorem aXB (l:List Mod)(t27:List DataD)(t28:Int)(d:DataD)(c30:aE)(c31:List DataD)(c32:List FunD)(k i:Nat)(hk:k≤1000)(acc:List DataD)(cons:List ConD)(fs:List FunD)(ha:∀y∈acc,kN y)(hl:acc.length≤1000)(hcl:cons.length+d.cons.length≤1000000)(hd:Pure PP 28 [DataD.av d] (DataD.av d)) :
  ∀ (t:List DataD) (n:Nat),acc.drop n=t→LeadsM PP 0 (aFe l t27 t28 d.name d.cons c30 c31 c32 (n:Int) ((length acc:Nat) :Int) (k:Int) acc cons (i:Int) fs).as
   (wR l t27 t28 c30 c31 c32 ((k:Int) +1) (if(t.any fun y=>fG (y=d)) =true then cons else cons++d.cons) (if(t.any fun y=>fG (y=d)) =true then acc else acc++ [d]) (i:Int) fs).as
 | [],n,h=>by
  have:=bD h;exact aWb l t27 t28 d.name d.cons c30 c31 c32 n _ k acc cons i fs d sd hd (by simp;omega) (by simp;omega) sd
 | y ::t,n,h=>by
  obtain⟨g1,g2,g3⟩ :=aW h;have hp:=aOI y d (ha y (mem_of_getElem? g1));rw [any_cons];by_cases e:y=d
  · rw [dK e]at hp;rw [dK e,Bool.true_or,if_pos rfl,if_pos rfl];exact aV9 l t27 t28 d.name d.cons c30 c31 c32 n _ k acc cons i fs y true sd sd sd sd hp rfl (by simp) sd
  · rw [bW e]at hp;rw [bW e,Bool.false_or];exact(aWa l t27 t28 d.name d.cons c30 c31 c32 n _ k acc cons i fs y false sd sd sd sd hp rfl sd).trans (aXB l t27 t28 d c30 c31 c32 k i hk acc cons fs ha hl hcl hd t (n+1) g2)
theorem aOX (l:List Mod)(i:Nat)(m:Mod)(hj:JOk m)(fs:List FunD)(hown:∀d∈m.datas,Pure PP 28 [DataD.av d] (DataD.av d)) :∀ (t:List DataD) (k:Nat) (acc:List DataD),m.datas.drop k=t→ (∀y∈acc,kN y∧y.cons.length≤1000) →acc.length+t.length≤1000→ (uF acc).length≤1000*acc.length →
  LeadsM PP 0 (wR l m.datas ((length m.datas:Nat) :Int) m.name m.datas m.funs (k:Int) (uF acc) acc (i:Int) fs).as (aCu l m.funs ((length m.funs:Nat) :Int) 0 fs (uF (tA acc t)) (tA acc t) (i:Int)).as
 | [],k,acc,h,_,_,_=>by
  have:=bD h;exact aV5 l m.datas _ m.name m.datas m.funs k _ acc i fs sd
 | d ::t,k,acc,h,ha,hl,hc=>by
  obtain⟨g1,g2,g3⟩ :=aW h;have hm:=mem_of_getElem? g1;have:=hj.dl;obtain⟨d1,d2⟩ :=hj.d d hm;simp only [length_cons]at hl;have h0:=aV4 l m.datas ((length m.datas:Nat) :Int) m.name m.datas m.funs k (uF acc) acc i fs d sd sd sd;have h1:=aXB l m.datas ((length m.datas:Nat) :Int) d m.name m.datas m.funs k i (by omega) acc (uF acc) fs (fun y hy=> (ha y hy).1) (by omega) (by have:1000*acc.length≤1000*999:=Nat.mul_le_mul_left _ (by omega);omega) (hown d hm) acc 0 rfl;rw [aFd]at h1;have ec:uF (acc++ [d]) =uF acc++d.cons:=by simp [uF]
  rw [tA];by_cases e:fG (d∈acc) =true
  · rw [if_pos e,if_pos e]at h1;rw [if_pos e];exact(h0.trans h1).trans (aOX l i m hj fs hown t (k+1) acc g2 ha (by omega) hc)
  · rw [if_neg e,if_neg e,←ec]at h1;rw [if_neg e]
    exact(h0.trans h1).trans (aOX l i m hj fs hown t (k+1) (acc++ [d]) g2 (fun y hy=>by
     rcases List.mem_append.1 hy with g|g
     ·exact ha y g
     ·rw [List.mem_singleton.1 g];exact⟨d1,d2⟩) (by simp;omega) (by rw [ec,length_append,length_append,List.length_singleton,Nat.mul_add];omega))
theorem aXC (l:List Mod)(i:Nat)(hi:i≤1000)(ff:List FunD)(cons:List ConD)(ds:List DataD)(hf:∀f∈ff,fD f)(hl:ff.length≤1000) :∀ (t:List FunD) (k:Nat) (fs:List FunD),ff.drop k=t→fs.length+t.length≤900000 →
  LeadsM PP 0 (aCu l ff ((length ff:Nat) :Int) (k:Int) fs cons ds (i:Int)).as (aCt l ((i:Int) +1) cons ds (fs++t)).as
 | [],k,fs,h,_=>by
  have:=bD h;rw [append_nil];exact aWd l ff _ k fs cons ds i sd sd
 | f::t,k,fs,h,hz=>by
  obtain⟨g1,g2,g3⟩ :=aW h;simp only [length_cons]at hz;have ih:=aXC l i hi ff cons ds hf hl t (k+1) (fs++ [f]) g2 (by simp;omega);rw [append_assoc]at ih;have hm:=hf f (mem_of_getElem? g1);obtain⟨n,p,a,b,c⟩ :=f;obtain⟨q1,q2,q3⟩ :=hm;have o1:=yW a q1;have o2:=yW b q2;have o3:=aGF c q3;obtain⟨a0,a1,a2,a3⟩ :=a;obtain⟨b0,b1,b2,b3⟩ :=b;obtain⟨c0,c1,c2,c3,c4⟩ :=c;exact(aWc l ff _ k fs cons ds i n p a0 a1 a2 a3 b0 b1 b2 b3 c0 c1 c2 c3 c4 a0 a1 a2 a3 b0 b1 b2 b3 c0 c1 c2 c3 c4 sd sd sd o1 o2 o3 (by simp;omega) sd).trans ih
def aZy(a:DataD):TS:=cK PP 32 [(.agg [(aD a.name),(.ilst 2 (map ConD.av a.cons) false)])] [] 0
def aZz(a b:aE)(c d e f g i:Int)(j k l:aE)(m n:List Typ)(o:List Term)(p:List Pat):TS:=cK PP 34 [(.agg [(aD a),(aD b),(nI c),(nI f),(aD j),(.ilst 4 (Typs.av m) false),(nI d),(nI g),(aD k),(.ilst 4 (Typs.av n) false),(nI e),(nI i),(aD l),(.ilst 5 (av o) false),(iP p)])] [] 0
def aZA(a:ConD):TS:=cK PP 36 [(.agg [(aD a.name),(.ilst 4 (Typs.av a.args) false)])] [] 0
def aYA (a:DataD):=(tT 0 (aZy a)<|gE 12 1 (aD a.name)) tv
def aYB (a b:aE)(c d e f g i:Int)(j k l:aE)(m n:List Typ)(o:List Term)(p:List Pat):=(tT 0 (aZz a b c d e f g i j k l m n o p)<|gE 12 1 (aD a)) tv
def aYC (a:ConD):=(tT 0 (aZA a)<|gE 12 1 (aD a.name)) tv
def MSo (pre:List aE)(m:List (aE×Bool)) :Prop:=∀s,fS s m=if s∈pre then some true else none
theorem aFh :MSo [] [] :=fun s=>by simp [fS]
theorem aFi {pre:List aE}{m:List (aE×Bool)}(h:MSo pre m)(x:aE) :MSo (pre++ [x]) (cO x true m) :=fun s=>by
 rw [aB3,h s];by_cases e:s=x
 ·simp [e]
 ·simp [e]
theorem aFj {pre:List aE}{x:aE}:kG pre x=decide (x∈pre) :=by
 cases e:kG pre x with
 |true=>rw [decide_eq_true (hasS_mem.1 e)]
 |false=>rw [decide_eq_false (fun g=>by rw [hasS_mem.2 g]at e;cases e)]
theorem aOY (d:DataD) :Pure PP 32 [DataD.av d] (aD d.name) :=
 bS (s:=aZy d) (by kernel_rfl) (by kernel_rfl) (by simp [keylessL,keyless,DataD.av,aD]) (by simp [keyless,aD]) (aYA d)
theorem aOZ (f:FunD) :Pure PP 34 [FunD.av f] (aD f.nm) :=by
 obtain⟨n,p,⟨a0,a1,a2,a3⟩,⟨b0,b1,b2,b3⟩,⟨c0,c1,c2,c3,c4⟩⟩ :=f;exact bS (s:=aZz n p a0 b0 c0 a1 b1 c1 a2 b2 c2 a3 b3 c3 c4) (by kernel_rfl) (by kernel_rfl) (by simp [keylessL,keyless,FunD.av,aD]) (by simp [keyless,aD]) (aYB n p a0 b0 c0 a1 b1 c1 a2 b2 c2 a3 b3 c3 c4)
theorem aO0 (c:ConD) :Pure PP 36 [ConD.av c] (aD c.name) :=
 bS (s:=aZA c) (by kernel_rfl) (by kernel_rfl) (by simp [keylessL,keyless,ConD.av,aD]) (by simp [keyless,aD]) (aYC c)
section
variable (l :List Mod) (ds:List DataD) (fs:List FunD) (cons:List ConD)
theorem aXD (hl:ds.length≤900000) :∀ (t:List DataD) (i:Nat) (pre:List aE) (m:List (aE×Bool)),ds.drop i=t→MSo pre m →
  (bH pre (t.map DataD.name) =true→LeadsM PP 0 (wS l (i:Int) m ds ((length ds:Nat) :Int) ds ds fs cons).as (qI l 0 ([] :List (aE×Bool)) fs ((length fs:Nat) :Int) fs ds fs cons).as) ∧
  (bH pre (t.map DataD.name) =false→Ends PP 0 (wS l (i:Int) m ds ((length ds:Nat) :Int) ds ds fs cons).as (.ret (EM 7)) (aO [] 0))
 | [],i,pre,m,h,hm=>by
  have:=bD h;exact⟨fun _=>aV8 l i m ds _ ds ds fs cons sd,fun g=>by cases g⟩
 | d ::t,i,pre,m,h,hm=>by
  obtain⟨g1,g2,g3⟩ :=aW h;have hp:=aOY d;have hg:=hm d.name;rw [map_cons,bH,aFj];by_cases e:d.name∈pre
  · rw [if_pos e]at hg;rw [decide_eq_true e];exact⟨fun q=>by simp at q,fun _=>aV6 l i m ds _ ds ds fs cons d d.name true sd sd sd hp hg rfl⟩
  · rw [if_neg e]at hg;rw [decide_eq_false e];obtain⟨r1,r2⟩ :=aXD hl t (i+1) (pre++ [d.name]) (cO d.name true m) g2 (aFi hm d.name);have h0:=aV7 l i m ds ((length ds:Nat) :Int) ds ds fs cons d d.name d.name sd sd sd hp hg hp sd;exact⟨fun q=>h0.trans (r1 (by simpa using q)),fun q=>h0.ends (r2 (by simpa using q))⟩
theorem aXE (hl:fs.length≤900000) :∀ (t:List FunD) (i:Nat) (pre:List aE) (m:List (aE×Bool)),fs.drop i=t→MSo pre m →
  (bH pre (t.map FunD.nm) =true→LeadsM PP 0 (qI l (i:Int) m fs ((length fs:Nat) :Int) fs ds fs cons).as (qJ l 0 ([] :List (aE×Bool)) ((length cons:Nat) :Int) cons ds fs).as) ∧
  (bH pre (t.map FunD.nm) =false→Ends PP 0 (qI l (i:Int) m fs ((length fs:Nat) :Int) fs ds fs cons).as (.ret (EM 7)) (aO [] 0))
 | [],i,pre,m,h,hm=>by
  have:=bD h;exact⟨fun _=>aWg l i m fs _ fs ds fs cons sd,fun g=>by cases g⟩
 | f ::t,i,pre,m,h,hm=>by
  obtain⟨g1,g2,g3⟩ :=aW h;have hp:=aOZ f;have hg:=hm f.nm;rw [map_cons,bH,aFj];by_cases e:f.nm∈pre
  · rw [if_pos e]at hg;rw [decide_eq_true e];refine⟨fun q=>by simp at q,fun _=>?_⟩;obtain⟨n,p,⟨a0,a1,a2,a3⟩,⟨b0,b1,b2,b3⟩,⟨c0,c1,c2,c3,c4⟩⟩ :=f;exact aWe l i m fs _ fs ds fs cons n p a0 a1 a2 a3 b0 b1 b2 b3 c0 c1 c2 c3 c4 n true sd sd sd hp hg rfl
  · rw [if_neg e]at hg;rw [decide_eq_false e];obtain⟨r1,r2⟩ :=aXE hl t (i+1) (pre++ [f.nm]) (cO f.nm true m) g2 (aFi hm f.nm);have h0:LeadsM PP 0 (qI l (i:Int) m fs ((length fs:Nat) :Int) fs ds fs cons).as (qI l ((i+1:Nat) :Int) (cO f.nm true m) fs ((length fs:Nat) :Int) fs ds fs cons).as:=by
     obtain⟨n,p,⟨a0,a1,a2,a3⟩,⟨b0,b1,b2,b3⟩,⟨c0,c1,c2,c3,c4⟩⟩ :=f;exact aWf l i m fs _ fs ds fs cons n p a0 a1 a2 a3 b0 b1 b2 b3 c0 c1 c2 c3 c4 n n sd sd sd hp hg hp sd
    exact⟨fun q=>h0.trans (r1 (by simpa using q)),fun q=>h0.ends (r2 (by simpa using q))⟩
theorem aXF (hl:cons.length≤900000){r:Res}{h':Hp}(hk:∀m,Ends PP 0 (qJ l ((length cons:Nat) :Int) m ((length cons:Nat) :Int) cons ds fs).as r h') :∀ (t:List ConD) (i:Nat) (pre:List aE) (m:List (aE×Bool)),cons.drop i=t→i≤cons.length→MSo pre m →
  (bH pre (t.map ConD.name) =true→Ends PP 0 (qJ l (i:Int) m ((length cons:Nat) :Int) cons ds fs).as r h') ∧
  (bH pre (t.map ConD.name) =false→Ends PP 0 (qJ l (i:Int) m ((length cons:Nat) :Int) cons ds fs).as (.ret (EM 7)) (aO [] 0))
 | [],i,pre,m,h,hi,hm=>by
  have:=bD h;have e:i=cons.length:=by omega
  rw [e];exact⟨fun _=>hk m,fun g=>by cases g⟩
 | c ::t,i,pre,m,h,hi,hm=>by
  obtain⟨g1,g2,g3⟩ :=aW h;have hp:=aO0 c;have hg:=hm c.name;rw [map_cons,bH,aFj];by_cases e:c.name∈pre
  · rw [if_pos e]at hg;rw [decide_eq_true e];exact⟨fun q=>by simp at q,fun _=>aWh l i m _ cons ds fs c c.name true sd sd sd sd hp hg rfl⟩
  · rw [if_neg e]at hg;rw [decide_eq_false e];obtain⟨r1,r2⟩ :=aXF hl hk t (i+1) (pre++ [c.name]) (cO c.name true m) g2 (by omega) (aFi hm c.name);have h0:=aWi l i m ((length cons:Nat) :Int) cons ds fs c c.name c.name sd sd sd sd hp hg hp sd;exact⟨fun q=>h0.ends (r1 (by simpa using q)),fun q=>h0.ends (r2 (by simpa using q))⟩
end
theorem aO1 (m:Mod) : (yY m).map Con.name= (uF m.datas).map ConD.name:=by
 unfold yY uF
 induction m.datas with
 |nil=>rfl
 | cons d ds ih=>
  simp only [map_cons,flatten_cons,List.map_append,ih,List.map_map];rfl
theorem aWl (m0:Mod)(l:List Mod)(ds:List DataD)(fs:List FunD)(hd:ds.length≤200)(hf:fs.length≤200)(hdd:∀y∈ds,kN y∧y.cons.length≤1000)(hff:∀f∈fs,fD f)(hc: (uF ds).length≤900000) :
  Ends PP 0 (wS (m0::l) 0 ([] :List (aE×Bool)) ds ((length ds:Nat) :Int) ds ds fs (uF ds)).as (.ret (RM (aH9 (m0::l) ds fs))) (aO [] 0) :=by
 have hCM:=aGt ⟨m0.name,ds,fs⟩ hff (fun d h=>fun c hc t ht=> ((hdd d h).1.2 c hc).2 t ht)
 have K:∀m,Ends PP 0 (qJ (m0::l) ((length (uF ds) :Nat) :Int) m ((length (uF ds) :Nat) :Int) (uF ds) ds fs).as (.ret (RM (if qZ ⟨m0.name,ds,fs⟩ =true then(⟨m0.name,ds,fs⟩,0)else(ZM,3)))) (aO [] 0) :=fun m=>by
  cases e:qZ ⟨m0.name,ds,fs⟩with
  | false=>
   rw [e]at hCM;exact fQ (aWj (m0::l) _ m _ (uF ds) ds fs m0 2 (by simp) (by decide) rfl hCM (by simp))
  | true=>
   rw [e]at hCM;exact aWk (m0::l) _ m _ (uF ds) ds fs m0 0 (by simp) (by decide) rfl hCM (by simp)
 obtain⟨a1,a2⟩ :=aXD (m0::l) ds fs (uF ds) (by omega) ds 0 [] [] rfl aFh;obtain⟨b1,b2⟩ :=aXE (m0::l) ds fs (uF ds) (by omega) fs 0 [] [] rfl aFh;obtain⟨c1,c2⟩ :=aXF (m0::l) ds fs (uF ds) hc K (uF ds) 0 [] [] rfl (by omega) aFh;have en:=aO1 ⟨m0.name,ds,fs⟩;simp only at en;simp only [aH9,aVW,en];unfold hP;cases e1:bH [] (ds.map DataD.name)with
 |false=>exact fQ (a2 e1)
 | true=>
  cases e2:bH [] (fs.map FunD.nm)with
  |false=>exact fQ ((a1 e1).ends (b2 e2))
  | true=>
   cases e3:bH [] ((uF ds).map ConD.name)with
   |false=>exact fQ (((a1 e1).trans (b1 e2)).ends (c2 e3))
   |true=>exact((a1 e1).trans (b1 e2)).ends (c1 e3)
theorem aXG (l:List Mod)(hl:l.length≤10)(hj:∀m∈l,JOk m) :∀ (t:List Mod) (i:Nat) (ds:List DataD) (fs:List FunD),l.drop i=t→i≤l.length→ds.length≤10*i→fs.length≤10*i→ (∀y∈ds,kN y∧y.cons.length≤1000) → (∀f∈fs,fD f) → (uF ds).length≤1000*ds.length →
  Ends PP 0 (aCt l (i:Int) (uF ds) ds fs).as (.ret (RM (match jnL t ds fs with|none=> (ZM,2) |some (ds,fs) =>aH9 l ds fs))) (aO [] 0)
 | [],i,ds,fs,h,hi,hd,hf,hdd,hff,hc=>by
  have hn:=bD h;rw [jnL];simp only;cases l with
  |nil=>exact fQ (aV2 [] i (uF ds) ds fs sd rfl)
  | cons m l=>
   have g:=aV3 (m::l) i (uF ds) ds fs sd (by simp;omega);exact g.ends (aWl m l ds fs (by omega) (by omega) hdd hff (by omega))
 | m ::t,i,ds,fs,h,hi,hd,hf,hdd,hff,hc=>by
  obtain⟨g1,g2,g3⟩ :=aW h;have hm:=mem_of_getElem? g1;have J:=hj m hm;have hp:=aGt m J.f (fun d hd=>fun c hc t ht=> ((J.d d hd).1.2 c hc).2 t ht);rw [jnL];cases e:qZ m with
  | false=>
   rw [e]at hp;exact fQ (aV0 l i (uF ds) ds fs m 2 sd sd sd hp (by simp))
  | true=>
   rw [e]at hp;have hdl:=J.dl;have hfl:=J.fl;have h0:=aV1 l i (uF ds) ds fs m 0 sd sd sd hp (by simp);have h1:=aOX l i m J fs (fun d hd=>aOG d (J.d d hd).2 (fun c hc t ht=> ((J.d d hd).1.2 c hc).2 t ht) (fun c hc=> ((J.d d hd).1.2 c hc).1)) m.datas 0 ds rfl hdd (by omega) hc;have h3:=aXC l i (by omega) m.funs (uF (tA ds m.datas)) (tA ds m.datas) J.f (by omega) m.funs 0 fs rfl (by omega);have hlen:=zA m.datas ds
   have hmem:∀y∈tA ds m.datas,kN y∧y.cons.length≤1000:=fun y hy=>by
    rcases zB m.datas ds hy with g|g
    ·exact hdd y g
    ·exact J.d y g
   have hcs:∀ (x:List DataD),(∀y∈x,kN y∧y.cons.length≤1000) → (uF x).length≤1000*x.length:=by
    intro x
    induction x with
    |nil=>intro _;simp [uF]
    | cons y x ih=>
     intro hx;have a:=ih (fun z hz=>hx z (List.mem_cons_of_mem _ hz));have b:= (hx y (List.mem_cons_self ..)).2;simp only [uF,map_cons,flatten_cons,length_append,length_cons]at a ⊢;omega
   have h2:=aXG l hl hj t (i+1) (tA ds m.datas) (fs++m.funs) g2 (by omega) (by omega) (by rw [length_append];omega) hmem (fun f hf=>by
    rcases List.mem_append.1 hf with g|g
    ·exact hff f g
    ·exact J.f f g) (hcs _ hmem)
   rw [if_pos rfl];exact((h0.trans h1).trans h3).ends h2
theorem aO2 (l:List Mod)(hj:∀m∈l,JOk m) :Pure PP 6 [.ilst 3 (map Mod.av l) false] (RM (aCs l)) :=by
 refine bS (s:=aXA l) (by kernel_rfl) (by kernel_rfl) (by simp [keylessL,keyless]) (by simp [keyless,keylessL,wK]) ?_;unfold aCs;by_cases h:10<l.length
 · rw [if_pos h];exact fQ (aVY l (by simp;omega))
 · rw [if_neg h];exact(aVZ l (by simp;omega)).ends (aXG l (by omega) hj l 0 [] [] rfl (by omega) (by simp) (by simp) (by simp) (by simp) (by simp [uF]))
section
variable {P :Program}
def aJS (P:Program)(is:List Ins)(s:TS) :Option (AV×Nat×List Prop) :=
 match aDe P is s.as with
 | some (s1,ps) =>match s1.cs,s1.fr.kind,s1.fr.mode,s1.fr.roundOf,s1.fr.defers with
  | [],.normal,.ret,none,[] =>match P.funcs[s1.fr.fn]? with
   | some fd=>match iU P s1.h s1.fr.tm fd.results.toList with
    |some [v] =>some (v,s1.fr.fn,ps)
    |_=>none
   |none=>none
  |_,_,_,_,_=>none
 |none=>none
theorem aFk {f : Nat} {args : List AV} {is : List Ins}{b:Bool}{ps:List Prop}{cargs:List Value}(hb:gJ P f=true)(hk:keylessL args=true)(h0:aJS P is (start P f args) =some (.bool b,f,ps))(hps:AllP ps)(w:World)(hv:VRs (embOf w) args cargs) :
  Calls P f ⟨cargs⟩ w fun e w'=>e= .returned (.bool b) ∧GrownO w w':=by
 intro base;unfold gJ at hb;split at hb
 · rename_i fn hf;split at hb
   · rename_i c hc;have hg:cU P f args .normal=some ⟨f,dU .leaf 0 args,max fn.ntmps args.length,[.code c],[],.run,.normal,none⟩ :=by simp [cU,hf,hc]
     have fr':FR (embOf w) _ (Frame.enter P f ⟨cargs⟩ .normal) :=eP hg hv;have f1:FR (embOf w) (start P f args).as.fr (Frame.enter P f ⟨cargs⟩ .normal) :=by
      have e1: (start P f args).as.fr= ⟨f,mkT ((range args.length).zip args),max fn.ntmps args.length,[.code c],[],.run,.normal,none⟩ :=by simp [start,hf,hc,TS.as,TF.fr]
      rw [e1];refine⟨fr'.fn,⟨fr'.tm.1,fun t a e=>?_⟩,fr'.todo,fr'.defers,fr'.mode,fr'.kind,fr'.round⟩;have h1:=yD (sM e);have hlt:= (List.getElem?_eq_some_iff.1 h1).1;have h2: (dU .leaf 0 args).at t=some a:=by
       unfold dU;rw [cS,if_pos hlt];exact h1
      exact fr'.tm.2 t a h2
     have e2 : (start P f args).as.cs = [] := by unfold start;split; · split<;>rfl
                                                 ·rfl
     have e3 : (start P f args).as.h = ⟨.leaf, 0⟩ := by unfold start;split; · split<;>rfl
                                                        ·rfl
     unfold aJS at h0;split at h0
     · rename_i s1 qs h1;split at h0
       · rename_i hcs hkd hmo hro hde;split at h0
         · rename_i fd hfd;split at h0
           · rename_i v hrs;simp only [Option.some.injEq,Prod.mk.injEq]at h0;obtain⟨rfl,hfn,rfl⟩ :=h0;have hl:LeadsM P 0 (start P f args).as s1:=mX h1 (fun p hpp=>hps.mem p hpp);obtain⟨E',g,ccs,w',s2,f2,fs2,r2,x⟩ :=hl (by rw [e3];exact Nat.le_refl _) (embOf w) _ [] w base f1 (by rw [e2];rfl) (by rw [e3];exact aDn w);rw [hcs]at fs2;have:=fs2.nil_inv;subst this;obtain⟨cv,g1,g2⟩ :=mS r2 f2.tm hrs;simp only [vT,VR]at g2;subst g2;have fm:=f2.mode;rw [hmo]at fm;simp only [MR]at fm;have fdd:=f2.defers;rw [hde]at fdd;rw [e3]at x;have hno:∀ {b o},¬ (⟨.leaf,0⟩ :Hp).look b=some o:=fun {b o} e=>by simp [Hp.look,T.at_leaf]at e
             refine⟨.returned (.bool b),w',g,⟨rfl,⟨x.os,x.output,fun i hi=>?_⟩,x.froz,x.size⟩,s2,by rw [f2.fn,hfn],fm,fdd.nil_inv,by rw [f2.kind,hkd],fd,by rw [f2.fn];exact hfd,g1⟩;have:=x.keep i hi (fun b o L e=>absurd e hno);rw [this];cases w.heap[i]? with
             |none=>rfl
             |some ob=>cases ob<;>simp
           ·cases h0
         ·cases h0
       ·cases h0
     ·cases h0
   ·cases hb
 ·cases hb
theorem aAX {f : Nat} {args : List AV} {is : List Ins}{b:Bool}{ps:List Prop}{cargs:List Value}{t:TS}(hb:gJ P f=true)(hk:keylessL args=true)(hl0:LeadsM P 0 (start P f args).as t.as)(h0:aJS P is t=some (.bool b,f,ps))(hps:AllP ps)(w:World)(hv:VRs (embOf w) args cargs) :
  Calls P f ⟨cargs⟩ w fun e w'=>e= .returned (.bool b) ∧GrownO w w':=by
 intro base;unfold gJ at hb;split at hb
 · rename_i fn hf;split at hb
   · rename_i c hc;have hg:cU P f args .normal=some ⟨f,dU .leaf 0 args,max fn.ntmps args.length,[.code c],[],.run,.normal,none⟩ :=by simp [cU,hf,hc]
     have fr':FR (embOf w) _ (Frame.enter P f ⟨cargs⟩ .normal) :=eP hg hv;have f1:FR (embOf w) (start P f args).as.fr (Frame.enter P f ⟨cargs⟩ .normal) :=by
      have e1: (start P f args).as.fr= ⟨f,mkT ((range args.length).zip args),max fn.ntmps args.length,[.code c],[],.run,.normal,none⟩ :=by simp [start,hf,hc,TS.as,TF.fr]
      rw [e1];refine⟨fr'.fn,⟨fr'.tm.1,fun t a e=>?_⟩,fr'.todo,fr'.defers,fr'.mode,fr'.kind,fr'.round⟩;have h1:=yD (sM e);have hlt:= (List.getElem?_eq_some_iff.1 h1).1;have h2: (dU .leaf 0 args).at t=some a:=by
       unfold dU;rw [cS,if_pos hlt];exact h1
      exact fr'.tm.2 t a h2
     have e2 : (start P f args).as.cs = [] := by unfold start;split; · split<;>rfl
                                                 ·rfl
     have e3 : (start P f args).as.h = ⟨.leaf, 0⟩ := by unfold start;split; · split<;>rfl
                                                        ·rfl
     unfold aJS at h0;split at h0
     · rename_i s1 qs h1;split at h0
       · rename_i hcs hkd hmo hro hde;split at h0
         · rename_i fd hfd;split at h0
           · rename_i v hrs;simp only [Option.some.injEq,Prod.mk.injEq]at h0;obtain⟨rfl,hfn,rfl⟩ :=h0;have hl:LeadsM P 0 (start P f args).as s1:=hl0.trans (mX h1 (fun p hpp=>hps.mem p hpp));obtain⟨E',g,ccs,w',s2,f2,fs2,r2,x⟩ :=hl (by rw [e3];exact Nat.le_refl _) (embOf w) _ [] w base f1 (by rw [e2];rfl) (by rw [e3];exact aDn w);rw [hcs]at fs2;have:=fs2.nil_inv;subst this;obtain⟨cv,g1,g2⟩ :=mS r2 f2.tm hrs;simp only [vT,VR]at g2;subst g2;have fm:=f2.mode;rw [hmo]at fm;simp only [MR]at fm;have fdd:=f2.defers;rw [hde]at fdd;rw [e3]at x;have hno:∀ {b o},¬ (⟨.leaf,0⟩ :Hp).look b=some o:=fun {b o} e=>by simp [Hp.look,T.at_leaf]at e
             refine⟨.returned (.bool b),w',g,⟨rfl,⟨x.os,x.output,fun i hi=>?_⟩,x.froz,x.size⟩,s2,by rw [f2.fn,hfn],fm,fdd.nil_inv,by rw [f2.kind,hkd],fd,by rw [f2.fn];exact hfd,g1⟩;have:=x.keep i hi (fun b o L e=>absurd e hno);rw [this];cases w.heap[i]? with
             |none=>rfl
             |some ob=>cases ob<;>simp
           ·cases h0
         ·cases h0
       ·cases h0
     ·cases h0
   ·cases hb
 ·cases hb
theorem cW {f:Nat}{args:List AV}{b:Bool}{cargs:List Value}(L:List Pf)(is:List Ins)(w:World)(hv:VRs (embOf w) args cargs)(hb:gJ P f=true:=by kernel_rfl)(hk:keylessL args=true:=by kernel_rfl)(h0:aJS P is (start P f args) =some (.bool b,f,L.map Pf.p) :=by kernel_rfl) :
    Calls P f ⟨cargs⟩ w fun e w'=>e= .returned (.bool b) ∧GrownO w w':=aFk hb hk h0 (aKF L) w hv
theorem cL {f:Nat}{args:List AV}{b:Bool}{cargs:List Value}{t:TS}(hl:LeadsM P 0 (start P f args).as t.as)(L:List Pf)(is:List Ins)(w:World)(hv:VRs (embOf w) args cargs)(hb:gJ P f=true:=by kernel_rfl)(hk:keylessL args=true:=by kernel_rfl)(h0:aJS P is t=some (.bool b,f,L.map Pf.p) :=by kernel_rfl) :
    Calls P f ⟨cargs⟩ w fun e w'=>e= .returned (.bool b) ∧GrownO w w':=aAX hb hk hl h0 (aKF L) w hv
end
def aAm(a:List Mod)(b:Int):TS:=⟨(tf 3 46 [(0,(.ilst 3 (map Mod.av a) false)),(2,(bV false)),(3,(nI b))] [kc Tryz.f3 116,kl Tryz.f3 116,.inBlock 0,kc Tryz.f3 15]),[],[],0⟩
def aWm (a:List Mod):=fun b=>(tT 0 (start PP 3 [(.ilst 3 (map Mod.av a) false)])<|gl 8 Mod.av a<|gd 2 10 ((a.length:Int) >11) .x<|.W 9 0 [] (aAm a 0))|>.f b tv
def aWn (a:List Mod)(b:Int):=fun c d e f g i j k=>(tT 0 (aAm a b)<|gl 5 Mod.av a<|gd 2 15 (b< (a.length:Int)) (gX Mod.av 8 a b<|fun c=>cZ 1 5 [(.agg [(aD c.name),(.ilst 2 (map DataD.av c.datas) false),(.ilst 15 (FunDs.av c.funs) false)])]<|fun d=>.b 2 23 (!d) .x<|gw 6 17 (b+1)<|.W 3 0 [] (aAm a (b+1))) .x)|>.t e c f g d i|>.f j k tv
theorem aWo (l:List Mod)(y0:Bool)(h0:decide ((l.length:Int) > (11:Int)) =true)(h1:Pure PP 4 [] (bV y0)) :
  ∀ (w:World) (cargs:List Value),VRs (embOf w) [.ilst 3 (map Mod.av l) false] cargs→Calls PP 3 ⟨cargs⟩ w fun e w'=>e= .returned (.bool y0) ∧GrownO w w':=
 fun w cargs hv=>cW [ql Mod.av l,qp h0,qp h1] [rn 8,aL l,rn 2,bt 10,rn 3,pB y0,rn 3] w hv
theorem aWp (l:List Mod)(i3:Int)(y0:Mod)(y1 y2:Bool)(h0:decide (i3< (l.length:Int)) =true)(h1:0≤i3)(h2: ((l)[i3.toNat]?) =some y0)(h3:Pure PP 5 [(.agg [(aD y0.name),(.ilst 2 (map DataD.av y0.datas) false),(.ilst 15 (FunDs.av y0.funs) false)])] (bV y1))(h4: (!y1) =true)(h5:Pure PP 4 [] (bV y2))(hl:LeadsM PP 0 (start PP 3 [.ilst 3 (map Mod.av l) false]).as (aAm l i3).as) :
  ∀ (w:World) (cargs:List Value),VRs (embOf w) [.ilst 3 (map Mod.av l) false] cargs→Calls PP 3 ⟨cargs⟩ w fun e w'=>e= .returned (.bool y2) ∧GrownO w w':=
 fun w cargs hv=>cL hl [ql Mod.av l,qp h0,qp h1,qg Mod.av h2,qp h3,qp h4,qp h5] [rn 5,aL l,rn 2,bt 15,rn 8,aI (Mod.av y0),rn 1,pB y1,rn 2,bt 23,rn 3,pB y2,rn 3] w hv
theorem aWq (l:List Mod)(i3:Int)(y0:Mod)(y1:Int)(y2:Mod)(y3:Int)(y4 y5:Bool)(h0:decide (i3< (l.length:Int)) =false)(h1:Pure PP 6 [(.ilst 3 (map Mod.av l) false)] (.tup [(.agg [(aD y0.name),(.ilst 2 (map DataD.av y0.datas) false),(.ilst 15 (FunDs.av y0.funs) false)]),(nI y1)]))(h2:Pure PP 7 [(.ilst 3 (map Mod.av l) false)] (.tup [(.agg [(aD y2.name),(.ilst 2 (map DataD.av y2.datas) false),(.ilst 15 (FunDs.av y2.funs) false)]),(nI y3)]))(h3: (y1==y3) =true)(h4:Pure PP 8 [(.agg [(aD y0.name),(.ilst 2 (map DataD.av y0.datas) false),(.ilst 15 (FunDs.av y0.funs) false)]),(.agg [(aD y2.name),(.ilst 2 (map DataD.av y2.datas) false),(.ilst 15 (FunDs.av y2.funs) false)])] (bV y4))(h5:y4=true)(h6:Pure PP 4 [] (bV y5))(hl:LeadsM PP 0 (start PP 3 [.ilst 3 (map Mod.av l) false]).as (aAm l i3).as) :
  ∀ (w:World) (cargs:List Value),VRs (embOf w) [.ilst 3 (map Mod.av l) false] cargs→Calls PP 3 ⟨cargs⟩ w fun e w'=>e= .returned (.bool y5) ∧GrownO w w':=
 fun w cargs hv=>cL hl [ql Mod.av l,qp h0,qp h1,qp h2,qp h3,qp h4,qp h5,qp h6] [rn 5,aL l,rn 2,bf 15,rn 5,.pure (.tup [(.agg [(aD y0.name),(.ilst 2 (map DataD.av y0.datas) false),(.ilst 15 (FunDs.av y0.funs) false)]),(nI y1)]),rn 10,.pure (.tup [(.agg [(aD y2.name),(.ilst 2 (map DataD.av y2.datas) false),(.ilst 15 (FunDs.av y2.funs) false)]),(nI y3)]),rn 13,bt 38,rn 2,pB y4,rn 2,bt 43,pB y5,rn 4] w hv
end
end Go.Hb
