/- A machine on abstract values, its soundness, ways, plain laws. -/
import Derived.Test.YtfaikcecgpcimaaGreatHF
import Derived.Test.YtfaikcecgpcimaaGreatHG
import Derived.Test.YtfaikcecgpcimaaGreatHK
import Derived.Test.YtfaikcecgpcimaaGreatHM
import Derived.Test.YtfaikcecgpcimaaGreatHN
import Derived.Shelf.Lays
import Derived.Shelf.Sort.Plain
import Derived.Shelf.Slices.In.SortNone
set_option linter.defProp false
set_option linter.unusedVariables false
set_option linter.unusedSimpArgs false
set_option linter.unusedSectionVars false
set_option maxRecDepth 100000
namespace Go.Hb
open AV (keyless keylessL)
open List (append_assoc append_nil drop le_trans length length_map map map_map mergeSort_perm pairwise_cons take)
open Go.Proofs
set_option maxHeartbeats 4000000
noncomputable section
def fV (l:List LUnit) :List Int×Int:=
 if dS l=true then(if bU (aX l) =true∧¬cF eM l 0<0 then(uV l l.length [cF eM l 0] 0,0)else([],7))else([],2)
theorem aAo {E:Emb}{n:Nat}{e:Int}{cv:Value}(h:VR E (.tup [.ilst n [] true,.int .i64 e]) cv) :VR E (.tup [.ilst n [] false,.int .i64 e]) cv:=by
 simp only [VR]at h ⊢;obtain⟨us,h1,h2⟩ :=h;obtain⟨u,us',rfl,h3,h4⟩ :=h2.cons_inv;exact⟨_,h1,VRs.cons (aGu h3) h4⟩
theorem aLy {l:List LUnit}{n:Int}(h0:0≤n)(h1:n<l.length) :InU l [n] := ⟨by simp,fun x hx=>by rw [List.mem_singleton.1 hx];exact⟨h0,h1⟩⟩
section
variable (l :List LUnit)
theorem aG1 (hl:l.length≤11)(hu:∀u∈l,FewU u∧NumU u) :Pure PP 16 [.ilst 5 (map LUnit.av l) false] (.tup [.ilst 1 (map bL (fV l).1) false,.int .i64 (fV l).2]) :=by
 unfold fV;by_cases h:dS l=true
 · rw [if_pos h];obtain⟨hl10,hg⟩ :=lO (fun u h=> (hu u h).1) h;obtain⟨mf,mh,ht,hh,hs⟩ :=aW1 l hu h;have s0:=aVM l mf mh _ _ hs;have hm:=hh eM;have err:∀e:Int,Ends PP 0 (aMu l).as (.ret (.tup [.ilst 1 (map bL ([] :List Int)) true,.int .i64 e])) (aF [] 0) →Pure PP 16 [.ilst 5 (map LUnit.av l) false] (.tup [.ilst 1 (map bL ([] :List Int)) false,.int .i64 e]) :=fun e h=>
    pA (cJ (s:=aMu l) (by kernel_rfl) (by kernel_rfl) (by simp [keylessL,keyless]) (by simp [keylessL,keyless]) h) (fun E cv hv=>aAo hv)
   by_cases e:aQ (aX l) eM=true
   · rw [if_pos e]at hm;have hn:¬cF eM l 0<0:=fun g=>by rw [(lX eM l 0).1 g]at e;cases e
     have hlt:=pJ eM l 0;rw [Nat.zero_add]at hlt;cases hd:bU (aX l)with
     | false=>
      rw [hd]at s0;rw [if_neg (fun g=>by cases g.1)];exact err 7 (aUg l mf mh (aX l) true _ s0 hm rfl)
     | true=>
      rw [hd]at s0;rw [if_pos ⟨rfl,hn⟩];have hr: (List.replicate l.length false)[(cF eM l 0).toNat]?=some false:=by
       rw [List.getElem?_replicate,if_pos (by omega)]
      have h1:=aUh l mf mh (aX l) false _ false s0 hm rfl (by omega) (by omega) (by simp;omega) hr;have hS0:SeenI l (List.replicate l.length false) [] := ⟨by simp,fun j hj=>by rw [List.getElem?_replicate,if_pos hj];simp⟩;have hS:=hS0.new (n:=cF eM l 0) (by omega) hlt;have h2:=aVU l mf mh (aX l) (cF eM l 0) false hh hl10 (fun u h=>by have:= (hu u h).1.n;omega) l.length 0 [] [cF eM l 0] [cF eM l 0] _ 0 rfl (by omega) rfl hS (aLy (by omega) hlt);exact cJ (s:=aMu l) (by kernel_rfl) (by kernel_rfl) (by simp [keylessL,keyless]) (by simp [keylessL,keyless]) (h1.ends h2)
   · rw [if_neg e,if_neg (by simp [aQ])]at hm;rw [Bool.not_eq_true]at e;rw [if_neg (fun g=>g.2 ((lX eM l 0).2 e))];cases hd:bU (aX l)with
     |false=>rw [hd]at s0;exact err 7 (aUi l mf mh (aX l) true s0 hm rfl)
     |true=>rw [hd]at s0;exact err 7 (aUj l mf mh (aX l) false s0 hm rfl)
 · rw [if_neg h];rw [Bool.not_eq_true]at h;exact pA (cJ (s:=aVP l) (by kernel_rfl) (by kernel_rfl) (by simp [keylessL,keyless]) (by simp [keylessL,keyless]) (aUf l (aLu l hu h _))) (fun E cv hv=>aAo hv)
theorem aJl (hu:∀u∈l,FewU u∧NumU u)(h:dS l=false) :Pure PP 15 [.ilst 5 (map LUnit.av l) false] (.tup [.ilst 1 (map aD ([] :List aB)) false,.int .i64 2]) :=
 pA (cJ (s:=aVN l) (by kernel_rfl) (by kernel_rfl) (by simp [keylessL,keyless]) (by simp [keylessL,keyless]) (aUd l (aLu l hu h _))) (fun E cv hv=>aAo hv)
theorem aLz (hu:∀u∈l,FewU u∧NumU u)(h:dS l=false) :Pure PP 17 [.ilst 5 (map LUnit.av l) false] (.tup [.ilst 2 (map LPlace.av ([] :List LPlace)) false,.int .i64 2]) :=
 pA (cJ (s:=aVO l) (by kernel_rfl) (by kernel_rfl) (by simp [keylessL,keyless]) (by simp [keylessL,keyless]) (aUe l (aLu l hu h _))) (fun E cv hv=>aAo hv)
theorem aRB (O:List Int)(y:Int)(u:LUnit)(i k:Nat)(hO:O.length≤1000)(hk:k≤1000) :∀ (t:List Int) (j:Nat) (b:Bool),O.drop j=t→LeadsM PP 0 (aDI l y b O u.name u.cons u.funs u.needs u.nodes (j:Int) (i:Int) (k:Int)).as
   (aA8 l (if b=true∨y∈t then O else O++ [y]) u.name u.cons u.funs u.needs u.nodes ((k:Int) +1) (i:Int)).as
 | [],j,b,h=>by
  have:=bE h;have hw:IntKind.i64.wrap ((k:Int) + (1:Int)) = (k:Int) + (1:Int) :=by apply wrap64<;>omega
  cases b with
  |true=>rw [if_pos (.inl rfl)];exact aUB l y true O _ _ _ _ _ j i k sd rfl hw
  |false=>rw [if_neg (by simp)];exact aUA l y false O _ _ _ _ _ j i k sd rfl (by simp;omega) hw
 | n ::t,j,b,h=>by
  obtain⟨q1,q2,q3⟩ :=bB h;have hw:IntKind.i64.wrap ((j:Int) + (1:Int)) = (j:Int) + (1:Int) :=by apply wrap64<;>omega
  cases b with
  | true=>
   have ih:=aRB O y u i k hO hk t (j+1) true q2;rw [if_pos (.inl rfl)]at ih ⊢;exact(aUy l y true O _ _ _ _ _ j i k sd rfl hw).trans ih
  | false=>
   have ih:=aRB O y u i k hO hk t (j+1) (n==y) q2;have e: (if(n==y) =true∨y∈t then O else O++ [y]) = (if false=true∨y∈n::t then O else O++ [y]) :=by
    by_cases g:n=y
    ·rw [if_pos (.inl (by simp [g])),if_pos (.inr (by simp [g]))]
    · by_cases g2:y∈t
      ·rw [if_pos (.inr g2),if_pos (.inr (List.mem_cons_of_mem _ g2))]
      ·rw [if_neg (by simp [g,g2]),if_neg (by simp [g2,Ne.symm g])]
   rw [e]at ih;exact(aUz l y false O _ _ _ _ _ j i k n sd rfl sd sd sd hw).trans ih
theorem aVV (hl:l.length≤10)(hf:∀u∈l,u.funs.length≤30)(u:LUnit)(hn:u.needs.length≤900)(i:Nat)(hi:i≤1000) :∀ (t:List aB) (k:Nat) (O:List Int),u.needs.drop k=t→InU l O →
  LeadsM PP 0 (aA8 l O u.name u.cons u.funs u.needs u.nodes (k:Int) (i:Int)).as (aDH l (rV l O t) ((i:Int) +1)).as
 | [],k,O,h,hI=>by
  have:=bE h;exact aUx l O _ _ _ _ _ k i sd (by apply wrap64<;>omega)
 | s::t,k,O,h,hI=>by
  obtain⟨q1,q2,q3⟩ :=bB h;have hlen:=hI.len;have h0:=aUw l O u.name u.cons u.funs u.needs u.nodes k i s _ sd sd sd (aDr l s (by omega) hf);have h1:=aRB l O (cF s l 0) u i k (by omega) (by omega) O 0 (decide (cF s l 0<0)) rfl;have e: (if decide (cF s l 0<0) =true∨cF s l 0∈O then O else O++ [cF s l 0]) =addN l O s:=by simp only [addN,decide_eq_true_eq]
  rw [e]at h1;have ih:=aVV hl hf u hn i hi t (k+1) (addN l O s) q2 (hI.add s);exact(h0.trans h1).trans ih
theorem aVW (hl:l.length≤10)(hu:∀u∈l,FewU u) :∀ (f i:Nat) (O:List Int),i≤O.length→l.length≤i+f→InU l O →
  Ends PP 0 (aDH l O (i:Int)).as (.ret (.tup [.ilst 1 (map bL (uV l f O i)) false,.int .i64 0])) (aF [] 0)
 | f, i,O,hi,hf,hI=>by
  have hlen:=hI.len;by_cases g:i<O.length
  · cases f with
    |zero=>omega
    | succ f=>
     have hO:O[i]?=some O[i] :=List.getElem?_eq_getElem g;generalize O[i] =y at hO;have hy:=hI.r y (List.mem_of_getElem? hO);obtain⟨u,hu'⟩ :∃u,l[y.toNat]?=some u:= ⟨_,List.getElem?_eq_getElem (by omega)⟩;have hum:=List.mem_of_getElem? hu';have hun:= (hu u hum).n;have h0:=aUu l O i y u sd sd sd (by simpa using hO) hy.1 hu';have h1:=aVV l hl (fun u h=> (hu u h).f) u (by omega) i (by omega) u.needs 0 O rfl hI;have e:uV l (f+1) O i=uV l f (rV l O u.needs) (i+1) :=by
      rw [uV,hO];simp only;unfold aG0;rw [hu'];rfl
     rw [e];have hle:∀ (t:List aB) (Q:List Int),Q.length≤ (rV l Q t).length:=by
      intro t
      induction t with
      |nil=>intro Q;exact Nat.le_refl _
      | cons s t ih=>
       intro Q;refine Nat.le_trans ?_ (ih (addN l Q s));unfold addN;split<;>simp
     have:=hle u.needs O;exact h0.ends (h1.ends (aVW hl hu f (i+1) _ (by omega) (by omega) (InU.all u.needs hI)))
  · have e:uV l f O i=O:=by
     cases f with
     |zero=>rfl
     |succ f=>rw [uV,List.getElem?_eq_none (by omega)]
    rw [e];exact aUv l O i sd
theorem aG2 (hl:l.length≤11)(hu:∀u∈l,FewU u) :Pure PP 19 [.ilst 5 (map LUnit.av l) false] (.tup [.ilst 1 (map bL (fV l).1) false,.int .i64 (fV l).2]) :=by
 have err:∀e:Int,Ends PP 0 (aMv l).as (.ret (.tup [.ilst 1 (map bL ([] :List Int)) true,.int .i64 e])) (aF [] 0) →Pure PP 19 [.ilst 5 (map LUnit.av l) false] (.tup [.ilst 1 (map bL ([] :List Int)) false,.int .i64 e]) :=fun e h=>
  pA (cJ (s:=aMv l) (by kernel_rfl) (by kernel_rfl) (by simp [keylessL,keyless]) (by simp [keylessL,keyless]) h) (fun E cv hv=>aAo hv)
 have h1:=aDx l hu;unfold fV;cases h:dS l with
 |false=>rw [h]at h1;rw [if_neg (by simp)];exact err 2 (aUq l false h1 rfl)
 | true=>
  rw [h]at h1;rw [if_pos rfl];obtain⟨hl10,hg⟩ :=lO hu h;have hal:=aI7 l hu;have h2:=aE4 l hl (fun u h=> (hu u h).f);have h3:=rC (aX l) (by omega);have h4:=aDr l eM hl (fun u h=> (hu u h).f);cases hd:bU (aX l)with
  |false=>rw [hd]at h3;rw [if_neg (fun g=>by cases g.1)];exact err 7 (aUr l true _ false h1 rfl h2 h3 rfl)
  | true=>
   rw [hd]at h3;by_cases g:cF eM l 0<0
   · rw [if_neg (fun k=>k.2 g)];exact err 7 (aUs l true _ true _ h1 rfl h2 h3 rfl h4 (decide_eq_true g))
   · rw [if_pos ⟨rfl,g⟩];have hlt:=pJ eM l 0;rw [Nat.zero_add]at hlt
     exact cJ (s:=aMv l) (by kernel_rfl) (by kernel_rfl) (by simp [keylessL,keyless]) (by simp [keylessL,keyless])
      ((aUt l true _ true _ _ h1 rfl h2 h3 rfl h4 (decide_eq_false g) h4).ends (aVW l hl10 hu l.length 0 _ (by simp) (by omega) (aLy (by omega) hlt)))
theorem aVX (hl:l.length≤11)(hu:∀u∈l,u.nodes.length≤320∧u.funs.length≤30) :∀ (t:List LUnit) (i n f:Nat) (acc:List LPlace),l.drop i=t→acc.length=i→n≤320*i→f≤30*i →
  Ends PP 0 (aGV l (i:Int) acc (n:Int) (f:Int)).as (.ret (.tup [.ilst 2 (map LPlace.av (acc++gY n f t)) false,.int .i64 0])) (aF [] 0)
 | [],i,n,f,acc,h,ha,_,_=>by
  have:=bE h;rw [gY,append_nil];exact aUE l i acc n f sd
 | u::t,i,n,f,acc,h,ha,hn,hf=>by
  obtain⟨q1,q2,q3⟩ :=bB h;have hx:=hu u (List.mem_of_getElem? q1);have h0:=aUD l i acc n f u sd (by simp;omega) sd sd sd;have e1:IntKind.i64.wrap ((n:Int) + ((u.nodes.length:Nat) :Int)) = ((n+u.nodes.length:Nat) :Int) :=by
   rw [show((n+u.nodes.length:Nat) :Int) = (n:Int) + ((u.nodes.length:Nat) :Int)by simp];apply wrap64<;>omega
  have e2:IntKind.i64.wrap ((f:Int) + ((u.funs.length:Nat) :Int)) = ((f+u.funs.length:Nat) :Int) :=by
   rw [show((f+u.funs.length:Nat) :Int) = (f:Int) + ((u.funs.length:Nat) :Int)by simp];apply wrap64<;>omega
  rw [e1,e2]at h0;have ih:=aVX hl hu t (i+1) (n+u.nodes.length) (f+u.funs.length) (acc++ [⟨n,f⟩]) q2 (by simp [ha]) (by omega) (by omega);rw [append_assoc]at ih;exact h0.ends ih
theorem aG3 (hl:l.length≤11)(hu:∀u∈l,FewU u)(h:dS l=true) :Pure PP 20 [.ilst 5 (map LUnit.av l) false] (.tup [.ilst 2 (map LPlace.av (gY 0 0 l)) false,.int .i64 0]) :=by
 obtain⟨hl10,hg⟩ :=lO hu h;have h1:=aDx l hu;rw [h]at h1
 exact cJ (s:=aVQ l) (by kernel_rfl) (by kernel_rfl) (by simp [keylessL,keyless]) (by simp [keylessL,keyless])
  ((aUC l true h1 rfl).ends (aVX l hl (fun u h=> ⟨(hg u h).small.1,(hu u h).f⟩) l 0 0 0 [] rfl rfl (by omega) (by omega)))
end
theorem aVY (a:List Int)(ha:a.length<1000000) :∀ (t:List Int) (i:Nat),a.drop i=t→Ends PP 0 (aGW a a (i:Int)).as (.ret (.bool true)) (aF [] 0)
 | [],i,h=>by
  have:=bE h;exact aUH a a i sd
 | n::t,i,h=>by
  obtain⟨q1,q2,q3⟩ :=bB h;exact(aUG a a i n n sd sd sd sd (by simp) sd).ends (aVY a ha t (i+1) q2)
theorem aLA (a:List Int)(ha:a.length<1000000) :Pure PP 23 [.ilst 1 (map bL a) false,.ilst 1 (map bL a) false] (.bool true) :=
 cJ (s:=aVR a a) (by kernel_rfl) (by kernel_rfl) (by simp [keylessL,keyless]) (by simp [keyless]) ((aUF a a (by simp)).ends (aVY a ha a 0 rfl))
theorem aVZ (a:List aB)(ha:a.length<1000000) :∀ (t:List aB) (i:Nat),a.drop i=t→Ends PP 0 (aGX a a (i:Int)).as (.ret (.bool true)) (aF [] 0)
 | [],i,h=>by
  have:=bE h;exact aUK a a i sd
 | n::t,i,h=>by
  obtain⟨q1,q2,q3⟩ :=bB h;exact(aUJ a a i n n sd sd sd sd (by rw [aK9];simp) sd).ends (aVZ a ha t (i+1) q2)
theorem aJm (a:List aB)(ha:a.length<1000000) :Pure PP 21 [.ilst 1 (map aD a) false,.ilst 1 (map aD a) false] (.bool true) :=
 cJ (s:=aVS a a) (by kernel_rfl) (by kernel_rfl) (by simp [keylessL,keyless]) (by simp [keyless]) ((aUI a a (by simp)).ends (aVZ a ha a 0 rfl))
end
end Go.Hb
namespace Go.Hb
open AV (keyless keylessL)
open List (append_assoc append_nil drop le_trans length length_map map map_map mergeSort_perm pairwise_cons take)
open Go.Proofs
noncomputable section
open Go.Proofs Tryz
def aV0(a:List LUnit):TS:=dL PP 22 [(.ilst 5 (map LUnit.av a) false)] [] 0
def aA9(d:List LUnit)(a b:List aB)(c:Int):TS:=⟨(tf 22 47 [(2,.nils),(3,(iS b)),(4,(iS a)),(5,(nI c))] [kc f22 244,kl f22 244,.inBlock 0,kc f22 31]),[],[],0⟩
def aG4(e:List LUnit)(a:List aB)(b:Int)(c:List aB)(d:Int):TS:=⟨(tf 22 47 [(2,.nils),(3,(iS c)),(4,(iS a)),(5,(nI d)),(6,(nI b))] [kc f22 31304,kl f22 31304,.inBlock 2,kc f22 7827,.inBlock 1,kc f22 979,kl f22 244,.inBlock 0,kc f22 31]),[],[],0⟩
def aUL (b:List LUnit):=fun a c=>(tT 0 (aV0 b)<|.y fun a:List aB=>gp 11 74 [(.ilst 5 (map LUnit.av b) false)] (iS a)<|.i [rn 9,.nilL 3 1] []<|gu 0 0 (map aD ([] :List aB))<|gs 0 3 (.gl 0 1 0 ([] :List aB).length false)<|gz 0 3 0 1 aD ([] :List aB) false<|.W 0 1 [] (aA9 b a ([] :List aB) 0)) a c tv
def aRC(d:List LUnit)(a b:List aB)(c:Int):=tT 0 (aA9 d a b c)<|gl 5 aD a<|gd 2 12 (c< (a.length:Int)) (.W 11 0 [] (aG4 d a 0 b c))<|gE 8 0 (iS b)
def aUM:=fun a b c d e=>aRC a b c d|>.t e tv
def aUN:=fun a b c d e=>aRC a b c d|>.f e tv
def aLB(g:List LUnit)(f:List aB)(a:Int)(b:List aB)(e:Int):=tT 0 (aG4 g f a b e)<|.o (.y fun c:aB=>.y fun d:aB=>.i [rn 2,.reg (.d::.d::.ans (.len (b.length:Int))::.d::.d::.b 19 true::.d::.d::.ans (.idx (aD c))::rd 3 (.ans (.idx (aD d))::rd 3 []))] [hl aD b,hA (decide (a< (b.length:Int)) =true),hA (0≤a),.a (((b)[a.toNat]?) =some c) (cV (f:=aD)),hA (0≤e),.a (((f)[e.toNat]?) =some d) (cV (f:=aD))]<|.b 0 29 (Op.bytesLess (aK c.length (aA c)) (aK d.length (aA d))) (gw 6 31 (a+1)<|.W 4 0 [] (aG4 g f (a+1) b e))<|.i [rn 2,.reg [.d,.d,.ans (.ev (iS (take a.toNat b))),.app (map aD (take a.toNat b)) (take a.toNat b).length,.d,.d,.ans (.idx (aD d)),.d,.d,.app (map aD ((take a.toNat b) ++ [d])) ((take a.toNat b) ++ [d]).length,.d,.d,.ans (.ev (iS (drop a.toNat b))),.app (map aD (((take a.toNat b) ++ [d]) ++ (drop a.toNat b))) (((take a.toNat b) ++ [d]) ++ (drop a.toNat b)).length,.d]] [.a (0≤a∧a.toNat≤length b) (p':=vT PP 25 (iS b) none (some (nI a)) (iS (take a.toNat b))) fun⟨ha,hb⟩=>(aCR (k:=a) (by kernel_rfl) ha hb),hA (length (take a.toNat b) ≤1000000),hr (map aD (take a.toNat b)),.q (p:=length (map aD (take a.toNat b)) =length (take a.toNat b)) (length_map ..),hA (0≤e),.a (((f)[e.toNat]?) =some d) (cV (f:=aD)),hb aD (take a.toNat b),hA (length ((take a.toNat b) ++ [d]) ≤1000000),hc aD (take a.toNat b) [d],he aD (take a.toNat b) [d],.a (0≤a∧a.toNat≤length b) (p':=vT PP 25 (iS b) (some (nI a)) none (iS (drop a.toNat b))) fun⟨ha,hb⟩=>(aCS (k:=a) (by kernel_rfl) ha hb),hb aD ((take a.toNat b) ++ [d]),hA (length (((take a.toNat b) ++ [d]) ++ (drop a.toNat b)) ≤1000000),hc aD ((take a.toNat b) ++ [d]) (drop a.toNat b),he aD ((take a.toNat b) ++ [d]) (drop a.toNat b),hr (aD d),hr (aD d)]<|gw 4 14 (e+1)<|gz 3 3 3 1 aD (((take a.toNat b) ++ [d]) ++ (drop a.toNat b)) false<|.W 0 4 [] (aA9 g f (((take a.toNat b) ++ [d]) ++ (drop a.toNat b)) (e+1)))<|.y fun c:aB=>.i [rn 2,.reg (.d::.d::.ans (.len (b.length:Int))::.d::.d::.b 19 false::rd 10 []),rn 2,.reg [.d,.d,.ans (.ev (iS (take a.toNat b))),.app (map aD (take a.toNat b)) (take a.toNat b).length,.d,.d,.ans (.idx (aD c)),.d,.d,.app (map aD ((take a.toNat b) ++ [c])) ((take a.toNat b) ++ [c]).length,.d,.d,.ans (.ev (iS (drop a.toNat b))),.app (map aD (((take a.toNat b) ++ [c]) ++ (drop a.toNat b))) (((take a.toNat b) ++ [c]) ++ (drop a.toNat b)).length,.d]] [hl aD b,hA (decide (a< (b.length:Int)) =false),.a (0≤a∧a.toNat≤length b) (p':=vT PP 25 (iS b) none (some (nI a)) (iS (take a.toNat b))) fun⟨ha,hb⟩=>(aCR (k:=a) (by kernel_rfl) ha hb),hA (length (take a.toNat b) ≤1000000),hr (map aD (take a.toNat b)),.q (p:=length (map aD (take a.toNat b)) =length (take a.toNat b)) (length_map ..),hA (0≤e),.a (((f)[e.toNat]?) =some c) (cV (f:=aD)),hb aD (take a.toNat b),hA (length ((take a.toNat b) ++ [c]) ≤1000000),hc aD (take a.toNat b) [c],he aD (take a.toNat b) [c],.a (0≤a∧a.toNat≤length b) (p':=vT PP 25 (iS b) (some (nI a)) none (iS (drop a.toNat b))) fun⟨ha,hb⟩=>(aCS (k:=a) (by kernel_rfl) ha hb),hb aD ((take a.toNat b) ++ [c]),hA (length (((take a.toNat b) ++ [c]) ++ (drop a.toNat b)) ≤1000000),hc aD ((take a.toNat b) ++ [c]) (drop a.toNat b),he aD ((take a.toNat b) ++ [c]) (drop a.toNat b),hr (aD c),hr (aD c)]<|gw 4 14 (e+1)<|gz 3 3 3 1 aD (((take a.toNat b) ++ [c]) ++ (drop a.toNat b)) false<|.W 0 4 [] (aA9 g f (((take a.toNat b) ++ [c]) ++ (drop a.toNat b)) (e+1))
def aUO:=fun a b c d e f g i j k l m n o=>aLB a b c d e|>.1 f g i j k l m|>.t n o tv
def aUP:=fun e f g i j k l m a n b c o d p q r s=>aLB e f g i j|>.1 k l m a n b c|>.f o ⟨a,d⟩ p b c q ⟨a,d⟩ r s tv
def aUQ:=fun c d e f g i j a b k l m n o p=>aLB c d e f g|>.2 i j ⟨a,b⟩ k l m n ⟨a,b⟩ o p tv
end
end Go.Hb
namespace Go.Hb
open AV (keyless keylessL)
open List (append_assoc append_nil drop le_trans length length_map map map_map mergeSort_perm pairwise_cons take)
open Go.Proofs
set_option maxHeartbeats 4000000
noncomputable section
def ltW (a b:aB) :Bool:=Op.bytesLess a b
theorem aMx (a b:aB) :Op.bytesLess (aK (length a) (aA a)) (aK (length b) (aA b)) =ltW a b:=by
 rw [bZ,bZ];rfl
theorem aRD :∀ (x y:aB),ltW x y=decide (x<y)
 | [],[] =>by simp [ltW,Op.bytesLess]
 |_::_,[] =>by simp [ltW,Op.bytesLess]
 | [],_::_=>by simp [ltW,Op.bytesLess]
 | a::x,b::y=>by
  have ih:=aRD x y;unfold ltW at ih ⊢;rw [Op.bytesLess,ih];simp only [List.cons_lt_cons_iff];by_cases h1:a<b<;>by_cases h2:a=b<;>by_cases h3:x<y<;>simp [h1,h2,h3]
def aBa (s:aB) :List aB→List aB
 | [] =>[s]
 |x::l=>if ltW x s=true then x::aBa s l else s::x::l
def aDJ :List aB→List aB→List aB
 |out,[] =>out
 |out,s::t=>aDJ (aBa s out) t
abbrev fW (l:List aB) :List aB:=l.mergeSort fun x y=>decide (x≤y)
theorem vR (s:aB) :∀l:List aB,(aBa s l).Perm (s::l)
 | [] =>List.Perm.refl _
 | x::l=>by
  rw [aBa];split
  ·exact((vR s l).cons x).trans (List.Perm.swap s x l)
  ·exact List.Perm.refl _
theorem aRE (s:aB)(l:List aB) : (aBa s l).length=l.length+1:=by
 rw [(vR s l).length_eq];rfl
theorem aBK (s:aB) :∀l:List aB,l.Pairwise (fun a b=>a≤b) → (aBa s l).Pairwise (fun a b=>a≤b)
 | [],_=>by rw [aBa];simp
 | x ::l,h=>by
  rw [pairwise_cons]at h;rw [aBa,aRD];by_cases g:x<s
  · rw [if_pos (decide_eq_true g),pairwise_cons];refine⟨fun y hy=>?_,aBK s l h.2⟩;rcases List.mem_cons.1 ((vR s l).mem_iff.1 hy)with e|e
    ·rw [e];exact List.le_of_lt g
    ·exact h.1 y e
  · rw [if_neg (by simpa using g),pairwise_cons];refine⟨fun y hy=>?_,List.pairwise_cons.2 h⟩;rw [List.not_lt]at g;rcases List.mem_cons.1 hy with e|e
    ·rw [e];exact g
    ·exact le_trans g (h.1 y e)
theorem aDK :∀ (t out:List aB),(aDJ out t).Perm (out++t)
 | [],out=>by rw [aDJ,append_nil]
 | s::t,out=>by
  rw [aDJ];refine(aDK t (aBa s out)).trans ?_;refine((vR s out).append_right t).trans ?_;exact(List.perm_middle (a:=s) (l₁:=out) (l₂:=t)).symm
theorem aAp :∀ (t out:List aB),out.Pairwise (fun a b=>a≤b) → (aDJ out t).Pairwise (fun a b=>a≤b)
 | [],out,h=>h
 |s::t,out,h=>aAp t (aBa s out) (aBK s out h)
theorem aLC (l:List aB) :aDJ [] l=fW l:=by
 have tr:∀a b c:List UInt8,decide (a≤b) =true→decide (b≤c) =true→decide (a≤c) =true:=fun a b c h1 h2=>by simp only [decide_eq_true_eq]at *;exact le_trans h1 h2
 have to:∀a b:List UInt8,(decide (a≤b) ||decide (b≤a)) =true:=fun a b=>by simp only [Bool.or_eq_true,decide_eq_true_eq];exact List.le_total a b
 refine List.Perm.eq_of_pairwise (le:=fun a b=>a≤b) (fun a b _ _ h1 h2=>List.le_antisymm h1 h2) (aAp l [] List.Pairwise.nil) ?_ ((aDK l []).trans (mergeSort_perm l _).symm);have:=List.pairwise_mergeSort tr to l;exact this.imp (fun {a b} h=>by simpa using h)
section
variable (l :List LUnit) (L:List aB)
theorem aV2 (hL:L.length≤1000)(i:Nat)(s:aB)(hs:L[i]?=some s)(out:List aB)(ho:out.length≤1000) :∀ (t:List aB) (k:Nat),k≤out.length→out.drop k=t→LeadsM PP 0 (aG4 l L (k:Int) out (i:Int)).as (aA9 l L (out.take k++aBa s t) ((i:Int) +1)).as
 | [],k,hk,h=>by
  have:=bE h;have hi:= (List.getElem?_eq_some_iff.1 hs).1;have h1:=aUQ l L k out i s sd (by omega) (by rw [Int.toNat_natCast];exact hk) (by simp;omega) (by omega) sd (by simp;omega) (by simp;omega) (by apply wrap64<;>omega);rw [Int.toNat_natCast,h,append_nil]at h1;exact h1
 | x::t,k,hk,h=>by
  obtain⟨q1,q2,q3⟩ :=bB h;have hi:= (List.getElem?_eq_some_iff.1 hs).1;rw [aBa];cases e:ltW x s with
  | true=>
   rw [if_pos rfl];have ih:=aV2 hL i s hs out ho t (k+1) (by omega) q2;rw [List.take_add_one,q1,Option.toList_some,append_assoc]at ih;exact(aUO l L k out i x s sd sd sd sd sd (by rw [aMx];exact e) sd).trans ih
  | false=>
   rw [if_neg (by simp)];have h1:=aUP l L k out i x s sd sd sd sd sd (by rw [aMx];exact e) (by simp;omega) (by simp;omega) (by simp;omega) (by simp;omega) (by apply wrap64<;>omega);rw [Int.toNat_natCast,h,append_assoc]at h1;exact h1
theorem aV3 (hL:L.length≤500) :∀ (t:List aB) (i:Nat) (out:List aB),L.drop i=t→out.length=i→Ends PP 0 (aA9 l L out (i:Int)).as (.ret (.ilst 1 (map aD (aDJ out t)) false)) (aF [] 0)
 | [],i,out,h,ho=>by
  have:=bE h;exact aUN l L out i sd
 | s::t,i,out,h,ho=>by
  obtain⟨q1,q2,q3⟩ :=bB h;have h1:=aV2 l L (by omega) i s q1 out (by omega) out 0 (Nat.zero_le _) rfl;rw [List.take_zero,List.nil_append]at h1;exact((aUM l L out i sd).trans h1).ends (aV3 hL t (i+1) (aBa s out) q2 (by rw [aRE,ho]))
theorem aD7 (hl:l.length≤11)(hu:∀u∈l,FewU u) :Pure PP 22 [.ilst 5 (map LUnit.av l) false] (.ilst 1 (map aD (fW (iU l))) false) :=by
 have h1:=aQ1 l hl hu;have hll:=vP (own:=aX l) (out:=[]) hu;have hll: (iU l).length≤25*l.length:=by simpa [iU]using hll
 rw [←aLC];exact cJ (s:=aV0 l) (by kernel_rfl) (by kernel_rfl) (by simp [keylessL,keyless]) (by simp [keyless]) ((aUL l _ h1).ends (aV3 l (iU l) (by omega) (iU l) 0 [] rfl rfl))
end
end
end Go.Hb
namespace Go.Proofs
open Go.Shelf
def Tryz.sortS_ren :Go.Shelf.Ren:= ⟨fun|190=>65|125=>154|258=>153|128=>221|129=>222|302=>212|303=>213|304=>214|305=>215|306=>216|307=>217|308=>218|309=>219|310=>220|333=>257|329=>258|330=>259|334=>260|335=>261|336=>262|344=>292|n=>n,fun|31=>25|9=>9|3=>3|46=>204|0=>0|51=>266|53=>268|4=>4|183=>259|182=>258|131=>105|5=>5|218=>297|222=>301|228=>325|229=>326|n=>n,fun|n=>n⟩
theorem Tryz.sortS :Go.Proofs.Lays.n190 Tryz.prog Tryz.sortS_ren:={
 mixed:=by kernel_rfl
 f125:=Tryz.func154.trans (congrArg some (by kernel_rfl))
 f128:=Tryz.func221.trans (congrArg some (by kernel_rfl))
 f129:=Tryz.func222.trans (congrArg some (by kernel_rfl))
 f190:=Tryz.func65.trans (congrArg some (by kernel_rfl))
 f258:=Tryz.func153.trans (congrArg some (by kernel_rfl))
 f302:=Tryz.func212.trans (congrArg some (by kernel_rfl))
 f303:=Tryz.func213.trans (congrArg some (by kernel_rfl))
 f304:=Tryz.func214.trans (congrArg some (by kernel_rfl))
 f305:=Tryz.func215.trans (congrArg some (by kernel_rfl))
 f306:=Tryz.func216.trans (congrArg some (by kernel_rfl))
 f307:=Tryz.func217.trans (congrArg some (by kernel_rfl))
 f308:=Tryz.func218.trans (congrArg some (by kernel_rfl))
 f309:=Tryz.func219.trans (congrArg some (by kernel_rfl))
 f310:=Tryz.func220.trans (congrArg some (by kernel_rfl))
 f329:=Tryz.func258.trans (congrArg some (by kernel_rfl))
 f330:=Tryz.func259.trans (congrArg some (by kernel_rfl))
 f333:=Tryz.func257.trans (congrArg some (by kernel_rfl))
 f334:=Tryz.func260.trans (congrArg some (by kernel_rfl))
 f335:=Tryz.func261.trans (congrArg some (by kernel_rfl))
 f336:=Tryz.func262.trans (congrArg some (by kernel_rfl))
 f344:=Tryz.func292.trans (congrArg some (by kernel_rfl))
 t0:=Tryz.underlying0
 a0:=Tryz.isAgg0
 z0:=Tryz.sizeOf0
 v0:=Tryz.zeroValue0
 t3:=Tryz.underlying3
 a3:=Tryz.isAgg3
 z3:=Tryz.sizeOf3
 v3:=Tryz.zeroValue3
 t4:=Tryz.underlying4
 a4:=Tryz.isAgg4
 z4:=Tryz.sizeOf4
 v4:=Tryz.zeroValue4
 t5:=Tryz.underlying5
 a5:=Tryz.isAgg5
 z5:=Tryz.sizeOf5
 v5:=Tryz.zeroValue5
 t9:=Tryz.underlying9
 a9:=Tryz.isAgg9
 z9:=Tryz.sizeOf9
 v9:=Tryz.zeroValue9
 t31:=Tryz.underlying25
 a31:=Tryz.isAgg25
 z31:=Tryz.sizeOf25
 v31:=Tryz.zeroValue25
 t46:=Tryz.underlying204
 a46:=Tryz.isAgg204
 z46:=Tryz.sizeOf204
 v46:=Tryz.zeroValue204
 t51:=Tryz.underlying266
 a51:=Tryz.isAgg266
 z51:=Tryz.sizeOf266
 v51:=Tryz.zeroValue266
 t53:=Tryz.underlying268
 a53:=Tryz.isAgg268
 z53:=Tryz.sizeOf268
 v53:=Tryz.zeroValue268
 t131:=Tryz.underlying105
 a131:=Tryz.isAgg105
 z131:=Tryz.sizeOf105
 v131:=Tryz.zeroValue105
 t182:=Tryz.underlying258
 a182:=Tryz.isAgg258
 z182:=Tryz.sizeOf258
 v182:=Tryz.zeroValue258
 t183:=Tryz.underlying259
 a183:=Tryz.isAgg259
 z183:=Tryz.sizeOf259
 v183:=Tryz.zeroValue259
 t218:=Tryz.underlying297
 a218:=Tryz.isAgg297
 z218:=Tryz.sizeOf297
 v218:=Tryz.zeroValue297
 t222:=Tryz.underlying301
 a222:=Tryz.isAgg301
 z222:=Tryz.sizeOf301
 v222:=Tryz.zeroValue301
 t228:=Tryz.underlying325
 a228:=Tryz.isAgg325
 z228:=Tryz.sizeOf325
 v228:=Tryz.zeroValue325
 t229:=Tryz.underlying326
 a229:=Tryz.isAgg326
 z229:=Tryz.sizeOf326
 v229:=Tryz.zeroValue326}
end Go.Proofs
namespace Go.Hb
open AV (keyless keylessL)
open List (append_assoc append_nil drop le_trans length length_map map map_map mergeSort_perm pairwise_cons take)
open Go.Proofs
set_option maxHeartbeats 4000000
noncomputable section
theorem aW2 {E:Emb}{s:aB}{v:Value}(h:VR E (aD s) v) :v=encStr s:=by
 simp only [aD,VR]at h;rw [h];unfold eV;rw [bZ]
theorem aMy {E:Emb}:∀ {L:List aB} {vs:List Value},VRs E (map aD L) vs→vs=L.map encStr
 | [],vs,h=>h.nil_inv
 | s::L,vs,h=>by
  obtain⟨v,vs',rfl,h1,h2⟩ :=h.cons_inv;rw [aW2 h1,aMy h2];rfl
theorem aJn {E:Emb}:∀ (L:List aB),VRs E (map aD L) (L.map encStr)
 | [] =>VRs.nil _
 |s::L=>VRs.cons (by simp only [aD,VR];unfold eV;rw [bZ]) (aJn L)
theorem aBb :∀ (L:List aB),flat (L.map encStr) =L.map encStr
 | [] =>rfl
 | s::L=>by
  have:=aBb L;unfold flat at this ⊢;rw [List.map_cons,List.flatMap_cons,this];rfl
theorem aUR (L:List aB) :∀u∈L.map encStr,xP 1 u:=fun u hu=>by
 obtain⟨s,_,rfl⟩ :=List.mem_map.1 hu
 exact⟨rfl,fun c hc=>by
  have:c=encStr s:=by simpa [Value.cells]using hc
  rw [this];rfl⟩
theorem Rel.grown {E:Emb}{h:Hp}{H:Array Obj}(r:Rel E h H)(os:Array Obj) :Rel E h (H++os) :=by
 have e:∀i,i<H.size→ (H++os)[i]?=H[i]?:=fun i hi=>Array.getElem?_append_left hi;refine⟨fun b o hb=>?_,r.kin,r.fresh,fun k C hk=>?_,r.apart,r.keys⟩
 · rcases r.obj0 b o hb with u| ⟨L,g1,g2⟩
   ·exact .inl u
   ·exact .inr ⟨L,g1,g2.heap (e _ g2.lt)⟩
 · obtain⟨a,f,g⟩ :=r.imm k C hk;exact⟨a,f,by rw [e k (r.immLt hk)];exact g⟩
theorem Ext.grown {E E':Emb}{h h':Hp}{w w':World}(x:Ext E h w E' h' w')(os:Array Obj) :Ext E h w E' h' (Go.Sort.grow w' os) :=by
 have e:∀i,i<w.heap.size→ (w'.heap++os)[i]?=w'.heap[i]?:=fun i hi=>Array.getElem?_append_left (Nat.lt_of_lt_of_le hi x.size);refine⟨x.le,?_,fun i hi hn=>?_,x.own,x.nb,x.os,x.tape,x.output,x.low,fun a ha=>?_,x.immo,x.keys⟩
 · show w.heap.size≤ (w'.heap++os).size;rw [Array.size_append];have:=x.size;omega
 · show(w'.heap++os)[i]?=_;rw [e i hi];exact x.keep i hi hn
 · rw [←x.froz a ha];unfold World.frozen?;show(match(w'.heap++os)[a.block]? with|some (.cells _ _ (lo,hi)) =>_|_=>_) =_;rw [e _ ha];generalize w'.heap[a.block]?=x;cases x with
   |none=>rfl
   |some o=>cases o<;>rfl
theorem aRF {E:Emb}{h:Hp}{w:World}{b:Nat}{o:AObj}(hb:h.look b=some o) :Rel E h w.heap→Rel E (h.set b o) w.heap∧Ext E h w E (h.set b o) w:=fun r=>by
 have hl:∀x ox,(h.set b o).look x=some ox→h.look x=some ox:=fun x ox e=>by
  rw [aW]at e;split at e
  ·rename_i hx;rw [hx,hb];exact e
  ·exact e
 exact⟨r.sub hl (Nat.le_refl _),Emb.le.refl E,Nat.le_refl _,fun _ _ _=>rfl,fun x ox L e k _=> ⟨x,ox,L,hl x ox e,k,rfl⟩,Nat.le_refl _,rfl,rfl,rfl,fun _ _=>rfl,fun _ _=>rfl,fun _ _ e _=>.inl e,fun x ox e _=> ⟨ox,hl x ox e⟩⟩
theorem aUS {L:List aB}(hlen:L.length<1000000)(h:Hp)(b:Nat)(hb:h.look b=some (.lst 1 (map aD L))) :
  aHq PP 65 [.gl b 1 0 L.length false] h (.tup []) (h.set b (.lst 1 (map aD (fW L)))) :=by
 intro E w cargs R V;obtain⟨c,rest,rfl,vc,vn⟩ :=V.cons_inv;have:=vn.nil_inv;subst this
 have hz:∀ (p:Option Addr) (cap:Nat),L.length=0→Calls PP 65 #[.slice p 0 cap] w fun e w'=>∃cv E',e= .returned cv∧VR E' (.tup []) cv∧Rel E' (h.set b (.lst 1 (map aD (fW L)))) w'.heap∧Ext E h w E' (h.set b (.lst 1 (map aD (fW L)))) w':=fun p cap h0=>by
  have:L= [] :=List.length_eq_zero_iff.1 h0;subst this;refine(Any.slices_Sort_string_none Tryz.sortS p cap w).mono ?_
  rintro e w' ⟨rfl,rfl⟩
  have hs:fW [] = [] :=by unfold fW;simp
  rw [hs];obtain⟨r1,r2⟩ :=aRF hb R;exact⟨_,E,rfl,by simp only [VR];exact⟨[],rfl,VRs.nil _⟩,r1,r2⟩
 simp only [VR]at vc;rcases vc with⟨h0,a,rfl⟩ | ⟨L0,a,cap,hE,rfl,hc1,_,hc2⟩
 ·exact hz a 0 h0
 · by_cases h0:L.length=0
   ·rw [h0];exact hz _ cap h0
   · obtain⟨C,elem,vs,o1,o2,o3,o4,o5⟩ :=R.objL hb hE;have hvs:=aMy o3;subst hvs;obtain⟨ha,hsz⟩ :=hc2 (by omega);rw [aBb]at o5;simp only [length_map]at o5
     have hcell:∀j (hj:j<L.length),C[a+j]?=some (encStr L[j]) :=fun j hj=>by
      have:=o5 j (by omega);rw [show L0.sh+j=a+j by omega]at this;rw [this,List.getElem?_map,List.getElem?_eq_getElem hj];rfl
     have hH:Go.Sort.Holds encStr w L0.blk a L.toArray:=fun j hj=>by
      have hj':j<L.length:=by simpa using hj
      refine⟨?_,?_⟩
      · unfold World.cell?;rw [o1];show C[a+j]?=_;rw [hcell j hj'];congr 2;rw [getElem!_pos _ j (by simpa using hj')];simp
      · unfold World.frozen?;rw [o1];simp
     refine(Any.slices_Sort_string Tryz.sortS L0.blk a cap L w hH (R.lt hb hE) (by omega)).mono ?_
     rintro e w' ⟨rfl,n,os,rfl⟩
     have hpl: (fW L).length=L.length:= (mergeSort_perm L _).length_eq;have hset: (Go.Sort.putRow encStr (Sort.ahead w n) L0.blk a (fW L).toArray).heap=w.heap.setIfInBounds L0.blk (.cells (Go.Sort.putCells encStr a (fW L).toArray C) elem (0,0)) :=by
      show w.heap.modify L0.blk (Go.Sort.onCells _) =_;apply Array.ext_getElem?;intro k;rw [Array.getElem?_modify,Array.getElem?_setIfInBounds];by_cases hk:L0.blk=k
      · subst hk;rw [if_pos rfl,if_pos rfl,if_pos (R.lt hb hE),o1];rfl
      ·rw [if_neg hk,if_neg hk]
     obtain⟨r1,r2⟩ :=R.setObj (o':=.lst 1 (map aD (fW L))) (.cells (Go.Sort.putCells encStr a (fW L).toArray C) elem (0,0)) hb hE rfl rfl (fun H' hH'=>by
      refine⟨_,elem,(fW L).map encStr,hH',?_,aJn _,aUR _,fun j hj=>?_⟩
      ·unfold Go.Sort.putCells;rw [Array.size_mapIdx];exact o2
      · rw [aBb];simp only [length_map]at hj;have hj1:j< (fW L).length:=by omega
        unfold Go.Sort.putCells;rw [Array.getElem?_mapIdx,show L0.sh+j=a+j by omega,hcell j (by omega),Option.map_some,if_pos ⟨by omega,by simp;omega⟩,List.getElem?_map,List.getElem?_eq_getElem hj1,Option.map_some];congr 2;rw [show a+j-a=j by omega,getElem!_pos _ j (by simpa using hj1)];simp)
     refine⟨_,E,rfl,by simp only [VR];exact⟨[],rfl,VRs.nil _⟩,?_,?_⟩
     · show Rel E _ ((Go.Sort.putRow encStr (Sort.ahead w n) L0.blk a (fW L).toArray).heap++os);rw [hset];exact r1.grown os
     · have e:Go.Sort.putRow encStr (Sort.ahead w n) L0.blk a (fW L).toArray= {({w with heap:=w.heap.setIfInBounds L0.blk (.cells (Go.Sort.putCells encStr a (fW L).toArray C) elem (0,0))}:World)with drawn:=w.drawn+n}:=by
        show({(Sort.ahead w n)with heap:= (Go.Sort.putRow encStr (Sort.ahead w n) L0.blk a (fW L).toArray).heap}:World) =_;rw [hset];rfl
       rw [e];exact(r2.drawn _).grown os
end
end Go.Hb
namespace Go.Hb
open AV (keyless keylessL)
open List (append_assoc append_nil drop le_trans length length_map map map_map mergeSort_perm pairwise_cons take)
open Go.Proofs
noncomputable section
def aDL(d:List LUnit)(a b:List LPlace)(c:Int):TS:=⟨(tf 3 121 [(2,(bV false)),(7,(.ilst 2 (map LPlace.av a) false)),(11,(.ilst 2 (map LPlace.av b) false)),(13,(nI c))] [kc Tryz.f3 16372,kl Tryz.f3 16372,.inBlock 0,kc Tryz.f3 2047]),[],[],0⟩
def aRG (a:List LUnit):=fun m d e f g b i n j k c o l p q r s t u v w x y z A B C D F G H I J=>(tT 0 (start PP 3 [(.ilst 5 (map LUnit.av a) false)])<|eS 8 13 [(.ilst 5 (map LUnit.av a) false)]<|fun m=>.b 2 16 (!m) .x<|.y fun d:List aB=>.y fun e:Int=>gp 5 15 [(.ilst 5 (map LUnit.av a) false)] (.tup [(iS d),(nI e)])<|.y fun f:List Int=>.y fun g:Int=>gp 9 16 [(.ilst 5 (map LUnit.av a) false)] (.tup [(iI f),(nI g)])<|.y fun b:List LPlace=>.y fun i:Int=>gp 9 17 [(.ilst 5 (map LUnit.av a) false)] (.tup [(.ilst 2 (map LPlace.av b) false),(nI i)])<|eS 10 18 [(.ilst 5 (map LUnit.av a) false)]<|fun n=>.b 2 35 (!n) .x<|.y fun j:List Int=>.y fun k:Int=>gp 5 19 [(.ilst 5 (map LUnit.av a) false)] (.tup [(iI j),(nI k)])<|.y fun c:List LPlace=>.y fun o:Int=>gp 9 20 [(.ilst 5 (map LUnit.av a) false)] (.tup [(.ilst 2 (map LPlace.av c) false),(nI o)])<|.b 12 76 (e != 0) .x<|.y fun l:List aB=>gp 2 22 [(.ilst 5 (map LUnit.av a) false)] (iS l)<|eS 0 21 [(iS d),(iS l)]<|fun p=>.b 3 83 (!p) .x<|.b 5 88 (g != k) .x<|eS 2 23 [(iI f),(iI j)]<|fun q=>.b 3 94 (!q) .x<|.b 4 98 (i != 0) .x<|gl 1 LPlace.av b<|gl 1 LPlace.av c<|.b 3 104 ((b.length:Int) != (c.length:Int)) .x<|.W 9 0 [] (aDL a b c 0)) m r|>.f s d e t f g u b i v n w|>.f x j k y c o z|>.f A l B p C|>.f D|>.f F q G|>.f H|>.f I|>.f J tv
def aUT (f:List LUnit)(d e:List LPlace)(a:Int):=fun b c i g j k l m=>(tT 0 (aDL f d e a)<|gl 5 LPlace.av d<|gd 2 108 (a< (d.length:Int)) (.y fun b:LPlace=>.y fun c:LPlace=>.i [rn 5,.reg (.d::.d::.ans (.idx (LPlace.av b))::rd 3 [.ans (.idx (LPlace.av c)),.d,.d])] [hA (0≤a),.a (((d)[a.toNat]?) =some b) (cV (f:=LPlace.av)),hA (0≤a),.a (((e)[a.toNat]?) =some c) (cV (f:=LPlace.av))]<|.b 0 119 (!((b.nodes==c.nodes) && ((b.funs==c.funs) &&true))) .x<|gw 6 110 (a+1)<|.W 3 0 [] (aDL f d e (a+1))) .x)|>.t i b c g j g k|>.f l m tv
theorem aUU (l:List LUnit)(y0 y1:Bool)(h0:Pure PP 13 [(.ilst 5 (map LUnit.av l) false)] (bV y0))(h1: (!y0) =true)(h2:Pure PP 14 [] (bV y1)) :
  ∀ (w:World) (cargs:List Value),VRs (embOf w) [.ilst 5 (map LUnit.av l) false] cargs→Calls PP 3 ⟨cargs⟩ w fun e w'=>e= .returned (.bool y1) ∧GrownO w w':=
 fun w cargs hv=>cW [qp h0,qp h1,qp h2] [rn 8,pB y0,rn 2,bt 16,rn 3,pB y1,rn 3] w hv
theorem aUV (l:List LUnit)(y0:Bool)(y1:List aB)(y2:Int)(y3:List Int)(y4:Int)(y5:List LPlace)(y6:Int)(y7 y8:Bool)(h0:Pure PP 13 [(.ilst 5 (map LUnit.av l) false)] (bV y0))(h1: (!y0) =false)(h2:Pure PP 15 [(.ilst 5 (map LUnit.av l) false)] (.tup [(iS y1),(nI y2)]))(h3:Pure PP 16 [(.ilst 5 (map LUnit.av l) false)] (.tup [(iI y3),(nI y4)]))(h4:Pure PP 17 [(.ilst 5 (map LUnit.av l) false)] (.tup [(.ilst 2 (map LPlace.av y5) false),(nI y6)]))(h5:Pure PP 18 [(.ilst 5 (map LUnit.av l) false)] (bV y7))(h6: (!y7) =true)(h7: (y2== (2:Int)) =true)(h8: ((y1.length:Int) == (0:Int)) =true)(h9: (y4== (2:Int)) =true)(h10: ((y3.length:Int) == (0:Int)) =true)(h11: (y6== (2:Int)) =true)(h12: ((y5.length:Int) == (0:Int)) =true)(h13:Pure PP 14 [] (bV y8)) :
  ∀ (w:World) (cargs:List Value),VRs (embOf w) [.ilst 5 (map LUnit.av l) false] cargs→Calls PP 3 ⟨cargs⟩ w fun e w'=>e= .returned (.bool y8) ∧GrownO w w':=
 fun w cargs hv=>cW [qp h0,qp h1,qp h2,qp h3,qp h4,qp h5,qp h6,qp h7,ql aD y1,qp h8,qp h9,ql bL y3,qp h10,qp h11,ql LPlace.av y5,qp h12,qp h13] [rn 8,pB y0,rn 2,bf 16,rn 5,.pure (.tup [(iS y1),(nI y2)]),rn 9,.pure (.tup [(iI y3),(nI y4)]),rn 9,.pure (.tup [(.ilst 2 (map LPlace.av y5) false),(nI y6)]),rn 10,pB y7,rn 2,bt 35,rn 6,bt 38,rn 1,aL y1,rn 3,bt 43,rn 4,bt 47,rn 1,aL y3,rn 3,bt 52,rn 4,bt 56,rn 1,aL y5,rn 3,bt 61,pB y8,rn 4] w hv
theorem aUW (l:List LUnit)(vy5 vy10:List LPlace)(i13:Int)(y0:Bool)(h0:decide (i13< (vy5.length:Int)) =false)(h1:Pure PP 14 [] (bV y0))(hl:LeadsM PP 0 (start PP 3 [.ilst 5 (map LUnit.av l) false]).as (aDL l vy5 vy10 i13).as) :
  ∀ (w:World) (cargs:List Value),VRs (embOf w) [.ilst 5 (map LUnit.av l) false] cargs→Calls PP 3 ⟨cargs⟩ w fun e w'=>e= .returned (.bool y0) ∧GrownO w w':=
 fun w cargs hv=>cL hl [ql LPlace.av vy5,qp h0,qp h1] [rn 5,aL vy5,rn 2,bf 108,rn 4,pB y0,rn 3] w hv
end
end Go.Hb
namespace Go.Hb
open AV (keyless keylessL)
open List (append_assoc append_nil drop le_trans length length_map map map_map mergeSort_perm pairwise_cons take)
open Go.Proofs
noncomputable section
def aV4(a:List LUnit):TS:=dL PP 15 [(.ilst 5 (map LUnit.av a) false)] [] 0
def aUX (f:List LUnit):=fun a b c g d e i j k l=>(tT 0 (aV4 f)<|.y fun a:List (aB×Int)=>.y fun b:List (aB×Int)=>.y fun c:List aB=>.y fun g:Bool=>gk 13 (.enter 63 [(.ilst 5 (map LUnit.av f) false)]) [oC 0 [.nils],oC 1 [(nI 0)]] 2 (.ptr 2 0) [oC 0 [.nils],oC 1 [(nI 0)],oC 2 [(.ilst 5 (map LUnit.av f) false),(.map 3),(.map 4),(.gl 5 1 0 c.length false),(bV g)],(3,(.map (aJ aD bL 0 a) a.length),true),(4,(.map (aJ aD bL 0 b) b.length),true),oL 5 1 (map aD c)] 6<|.y fun d:List aB=>gk 0 (.enter 64 [(.ptr 2 0)]) [oC 0 [.nils],oC 1 [(nI 0)],oC 2 [(.ilst 5 (map LUnit.av f) false),(.map 3),(.map 4),(.gl 5 1 0 c.length false),(bV g)],(3,(.map (aJ aD bL 0 a) a.length),true),(4,(.map (aJ aD bL 0 b) b.length),true),oL 5 1 (map aD c)] 6 (.gl 6 1 0 d.length false) [oC 0 [.nils],oC 1 [(nI 0)],oC 2 [(.ilst 5 (map LUnit.av f) false),(.map 3),(.map 4),(.gl 5 1 0 c.length false),(bV g)],(3,(.map (aJ aD bL 0 a) a.length),true),(4,(.map (aJ aD bL 0 b) b.length),true),oL 5 1 (map aD c),oL 6 1 (map aD d)] 7<|.y fun e:List aB=>.i [rn 5,.callC (.tup []) (aF [oC 0 [(.gl 6 1 0 d.length false)],oC 1 [(nI 0)],oC 2 [(.ilst 5 (map LUnit.av f) false),(.map 3),(.map 4),(.gl 5 1 0 c.length false),(bV g)],(3,(.map (aJ aD bL 0 a) a.length),true),(4,(.map (aJ aD bL 0 b) b.length),true),oL 5 1 (map aD c),oL 6 1 (map aD e)] 7)] [hA (aHq PP 65 [(.gl 6 1 0 d.length false)] (aF [oC 0 [(.gl 6 1 0 d.length false)],oC 1 [(nI 0)],oC 2 [(.ilst 5 (map LUnit.av f) false),(.map 3),(.map 4),(.gl 5 1 0 c.length false),(bV g)],(3,(.map (aJ aD bL 0 a) a.length),true),(4,(.map (aJ aD bL 0 b) b.length),true),oL 5 1 (map aD c),oL 6 1 (map aD d)] 7) (.tup []) (aF [oC 0 [(.gl 6 1 0 d.length false)],oC 1 [(nI 0)],oC 2 [(.ilst 5 (map LUnit.av f) false),(.map 3),(.map 4),(.gl 5 1 0 c.length false),(bV g)],(3,(.map (aJ aD bL 0 a) a.length),true),(4,(.map (aJ aD bL 0 b) b.length),true),oL 5 1 (map aD c),oL 6 1 (map aD e)] 7))]<|.i [.cset 0 0 (.gl 6 1 0 e.length false)] [.a (e.length=d.length) (p':=(AV.gl 6 1 0 d.length false) = (.gl 6 1 0 e.length false)) (fun h=>(dB h.symm))]<|gy 2 0 0 6 1 aD e false<|gE 23 7 (.tup [(iS e),(nI 0)])) a b c g i d j e k l tv
end
end Go.Hb
namespace Go.Hb
open AV (keyless keylessL)
open List (append_assoc append_nil drop le_trans length length_map map map_map mergeSort_perm pairwise_cons take)
open Go.Proofs
set_option maxHeartbeats 4000000
noncomputable section
section
variable (l :List LUnit) (mf mh:List (aB×Int)) (od:List aB) (tw:Bool)
theorem aXB {L:List aB}(h:L.length<1000000) :
  aHq PP 65 [.gl 6 1 0 (length L) false] (aF (aGS (GlC 6 L.length) l mf mh od tw++ [(6,aA4 L,true)]) 7) (.tup []) (aF (aGS (GlC 6 L.length) l mf mh od tw++ [(6,aA4 (fW L),true)]) 7) :=by
 have h1:=aUS (L:=L) h (aF (aGS (GlC 6 L.length) l mf mh od tw++ [(6,aA4 L,true)]) 7) 6 (by kernel_rfl);exact Eq.mp (by kernel_rfl) h1
end
section
variable (l :List LUnit)
theorem aD8 (hl:l.length≤11)(hu:∀u∈l,FewU u∧NumU u)(h0:dS l=true) :Pure PP 15 [.ilst 5 (map LUnit.av l) false] (.tup [.ilst 1 (map aD (fW (iU l))) false,.int .i64 0]) :=by
 obtain⟨mf,mh,ht,hs⟩ :=aRo l hu h0;have hg:=aRt l mf mh (aX l) (!bU (aX l)) ht hl (fun u h=> (hu u h).1);have hll:=vP (own:=aX l) (out:=[]) (fun u h=> (hu u h).1);have hll: (iU l).length≤25*l.length:=by simpa [iU]using hll
 exact cJ (s:=aV4 l) (by kernel_rfl) (by kernel_rfl) (by simp [keylessL,keyless]) (by simp [keylessL,keyless])
  (aUX l mf mh (aX l) (!bU (aX l)) (iU l) (fW (iU l)) (aVM l mf mh _ _ hs) (aXA l mf mh _ _ hg) (aXB l mf mh _ _ (by omega)) (mergeSort_perm _ _).length_eq)
theorem aAq (ps:List LPlace)(hp:ps.length<1000000)(hk:Pure PP 14 [] (.bool true)) :∀ (t:List LPlace) (i:Nat),ps.drop i=t→LeadsM PP 0 (start PP 3 [.ilst 5 (map LUnit.av l) false]).as (aDL l ps ps (i:Int)).as →
  ∀ (w:World) (cargs:List Value),VRs (embOf w) [.ilst 5 (map LUnit.av l) false] cargs→Calls PP 3 ⟨cargs⟩ w fun e w'=>e= .returned (.bool true) ∧GrownO w w'
 | [],i,h,hl=>by
  have:=bE h;exact aUW l ps ps i true sd hk hl
 | x::t,i,h,hl=>by
  obtain⟨q1,q2,q3⟩ :=bB h;exact aAq ps hp hk t (i+1) q2 (hl.trans (aUT l ps ps i x x sd sd sd sd (by simp) sd))
theorem lMisses_calls (hn:∀u∈l,NumU u)(hk:Pure PP 14 [] (.bool true)) :
  ∀ (w:World) (cargs:List Value),VRs (embOf w) [.ilst 5 (map LUnit.av l) false] cargs→Calls PP 3 ⟨cargs⟩ w fun e w'=>e= .returned (.bool true) ∧GrownO w w':=by
 have h0:=aOe l;cases e:jO l with
 |false=>rw [e]at h0;exact aUU l false true h0 rfl hk
 | true =>
  rw [e]at h0;obtain⟨h11,hs⟩ :=aI2 e;have hf:∀u∈l,FewU u:=fun u h=>aLh (hs u h);have hfn:∀u∈l,FewU u∧NumU u:=fun u h=> ⟨hf u h,hn u h⟩;have hUn:=aDx l hf;have hNe:=aG1 l h11 hfn;cases hu:dS l with
  | false=>
   rw [hu]at hUn;have en:fV l= ([],2) :=by unfold fV;rw [if_neg (by rw [hu];simp)]
   rw [en]at hNe;exact aUV l true [] 2 [] 2 [] 2 false true h0 rfl (aJl l hfn hu) hNe (aLz l hfn hu) hUn rfl rfl rfl rfl rfl rfl rfl hk
  | true =>
   rw [hu]at hUn;have hll:=vP (own:=aX l) (out:=[]) hf;have hll: (iU l).length≤25*l.length:=by simpa [iU]using hll
   have hsl: (fW (iU l)).length= (iU l).length:= (mergeSort_perm _ _).length_eq;have hnl: (fV l).1.length<1000000:=by
    unfold fV;rw [if_pos hu];split
    · rename_i g;have hlt:=pJ eM l 0;rw [Nat.zero_add]at hlt;have key:∀ (f i:Nat) (O:List Int),InU l O→ (uV l f O i).length≤l.length:=by
       intro f
       induction f with
       |zero=>intro i O hO;exact hO.len
       | succ f ih=>
        intro i O hO;rw [uV];cases O[i]? with
        |none=>exact hO.len
        |some n=>exact ih (i+1) _ (InU.all _ hO)
      have:=key l.length 0 _ (aLy (l:=l) (n:=cF eM l 0) (by omega) hlt);show(uV l l.length [cF eM l 0] 0).length<1000000;omega
    ·simp
   have hpl:=aBJ l 0 0
   exact aAq l (gY 0 0 l) (by omega) hk (gY 0 0 l) 0 rfl
    (aRG l true (fW (iU l)) 0 (fV l).1 (fV l).2 (gY 0 0 l) 0 true (fV l).1 (fV l).2 (gY 0 0 l) 0 (fW (iU l)) true true
     h0 rfl (aD8 l h11 hfn hu) hNe (aGQ l h11 hfn hu) hUn rfl (aG2 l h11 hf) (aG3 l h11 hf hu) rfl (aD7 l h11 hf) (aJm _ (by omega)) rfl (by simp) (aLA _ hnl) rfl rfl (by simp))
end
end
end Go.Hb
namespace Go.Hb
open AV (keyless keylessL)
open List (append_assoc append_nil drop le_trans length length_map map map_map mergeSort_perm pairwise_cons take)
open Go.Proofs
variable {H :Type} {enc:TypeId×Value→H} {w:World} {spare:Nat→Bool} {held:Bool}
theorem aXC {α:Type}{cs:List α}(h:cs.length=5) :∃a b c d e,cs= [a,b,c,d,e] :=by
 match cs,h with
 | [a,b,c,d,e],_=>exact⟨a,b,c,d,e,rfl⟩
section
theorem cells49 :Tryz.prog.cellsOf 49=5:=by kernel_rfl
theorem cells47 :Tryz.prog.cellsOf 47=1:=by kernel_rfl
theorem aMz :Tryz.prog.cellsOf 71=2:=by kernel_rfl
theorem cells25 :Tryz.prog.cellsOf 25=1:=by kernel_rfl
abbrev aRH :={x:Node // -9223372036854775808≤x.n∧x.n≤9223372036854775807}
abbrev aV5 :={u:LUnit // NumU u}
theorem aLD (fuel:Nat)(cs:List Value)(x:DataW H×List MemPlace)(h:DataW.trod enc Tryz.prog w 0 spare held fuel 98 cs=some x) :∃p:aRH,Elt w 4 (Node.av p.1) cs:=by
 obtain⟨xs,m,rfl,rfl,hl,hlen,hf⟩ :=DataW.trod_struct Tryz.underlying98 h;rw [aLX]at hl;obtain⟨c0,c1,c2,c3,rfl⟩ :=four hl;have h0:DataW.trod enc Tryz.prog w 0 spare held m 95 (([c0,c1,c2,c3].drop 0).take (Tryz.prog.cellsOf 95)) =xs[0]?:=hf 0 _ rfl;have h1:DataW.trod enc Tryz.prog w 0 spare held m 3 (([c0,c1,c2,c3].drop 1).take (Tryz.prog.cellsOf 3)) =xs[1]?:=hf 1 _ rfl;have h2:DataW.trod enc Tryz.prog w 0 spare held m 29 (([c0,c1,c2,c3].drop 2).take (Tryz.prog.cellsOf 29)) =xs[2]?:=hf 2 _ rfl;have h3:DataW.trod enc Tryz.prog w 0 spare held m 96 (([c0,c1,c2,c3].drop 3).take (Tryz.prog.cellsOf 96)) =xs[3]?:=hf 3 _ rfl;simp only [aSc,cells3,cells29,aLW,drop,take]at h0 h1 h2 h3;obtain⟨x0,h0⟩ :=got h0 hlen (by decide);obtain⟨x1,h1⟩ :=got h1 hlen (by decide);obtain⟨x2,h2⟩ :=got h2 hlen (by decide);obtain⟨x3,h3⟩ :=got h3 hlen (by decide);obtain⟨f,e0⟩ :=oY Tryz.underlying95 h0;obtain⟨n,e1,hw⟩ :=DataW.trod_int Tryz.underlying3 h1;obtain⟨ks,c,e2,v2⟩ :=aMQ h2;obtain⟨ps,c',e3,v3⟩ :=gB Pat.av Tryz.underlying96 aC8 (by omega) h3 (fun fu _ cs x hx=>aPo fu cs x hx);cases e0;cases e1;cases e2;cases e3;have hr: -9223372036854775808≤n∧n≤9223372036854775807:=by
  have e1:IntKind.i64.min= -9223372036854775808:=by decide
  have e2:IntKind.i64.max=9223372036854775807:=by decide
  have hw:=hw.2;simp only [Lit.wf,Bool.and_eq_true,decide_eq_true_eq]at hw;omega
 refine⟨⟨⟨f,n,ks,ps⟩,hr⟩,?_⟩;simp only [Node.av,aN];refine aAa (VRs.cons (by simp only [VR]) (VRs.cons (by simp only [VR]) (VRs.cons v2 (VRs.cons v3 (VRs.nil _))))) ?_;rfl
theorem aOn (fuel:Nat)(cs:List Value)(x:DataW H×List MemPlace)(h:DataW.trod enc Tryz.prog w 0 spare held fuel 71 cs=some x) :∃p:LFun,Elt w 2 (LFun.av p) cs:=by
 obtain⟨xs,m,rfl,rfl,hl,hlen,hf⟩ :=DataW.trod_struct Tryz.underlying71 h;rw [aMz]at hl;obtain⟨c0,c1,rfl⟩ :=two hl;have h0:DataW.trod enc Tryz.prog w 0 spare held m 9 (([c0,c1].drop 0).take (Tryz.prog.cellsOf 9)) =xs[0]?:=hf 0 _ rfl;have h1:DataW.trod enc Tryz.prog w 0 spare held m 3 (([c0,c1].drop 1).take (Tryz.prog.cellsOf 3)) =xs[1]?:=hf 1 _ rfl;simp only [cells9,cells3,drop,take]at h0 h1;obtain⟨x0,h0⟩ :=got h0 hlen (by decide);obtain⟨x1,h1⟩ :=got h1 hlen (by decide);obtain⟨s,c,e0,v0⟩ :=uF Tryz.underlying9 h0;obtain⟨n,e1⟩ :=oY Tryz.underlying3 h1;cases e0;cases e1;refine⟨⟨s,n⟩,?_⟩;simp only [LFun.av];refine aAa (VRs.cons v0 (VRs.cons (by simp only [VR]) (VRs.nil _))) ?_;rfl
theorem aOo {fuel:Nat}{cs:List Value}{x:DataW H×List MemPlace}(h:DataW.trod enc Tryz.prog w 0 spare held fuel 25 cs=some x) :∃ (l:List aB) (c:Value),cs= [c] ∧VR (embOf w) (.ilst 1 (l.map aD) false) c:=
 gB aD Tryz.underlying25 cells9 (by omega) h (fun fu _ cs x hx=>by
  obtain⟨s,c,rfl,v⟩ :=uF Tryz.underlying9 hx;exact⟨s,aLV v rfl (aPm v rfl)⟩)
theorem aLE (fuel:Nat)(cs:List Value)(x:DataW H×List MemPlace)(h:DataW.trod enc Tryz.prog w 0 spare held fuel 49 cs=some x) :∃p:aV5,Elt w 5 (LUnit.av p.1) cs:=by
 obtain⟨xs,m,rfl,rfl,hl,hlen,hf⟩ :=DataW.trod_struct Tryz.underlying49 h;rw [cells49]at hl;obtain⟨c0,c1,c2,c3,c4,rfl⟩ :=aXC hl;have h0:DataW.trod enc Tryz.prog w 0 spare held m 9 (([c0,c1,c2,c3,c4].drop 0).take (Tryz.prog.cellsOf 9)) =xs[0]?:=hf 0 _ rfl;have h1:DataW.trod enc Tryz.prog w 0 spare held m 41 (([c0,c1,c2,c3,c4].drop 1).take (Tryz.prog.cellsOf 41)) =xs[1]?:=hf 1 _ rfl;have h2:DataW.trod enc Tryz.prog w 0 spare held m 47 (([c0,c1,c2,c3,c4].drop 2).take (Tryz.prog.cellsOf 47)) =xs[2]?:=hf 2 _ rfl;have h3:DataW.trod enc Tryz.prog w 0 spare held m 25 (([c0,c1,c2,c3,c4].drop 3).take (Tryz.prog.cellsOf 25)) =xs[3]?:=hf 3 _ rfl;have h4:DataW.trod enc Tryz.prog w 0 spare held m 40 (([c0,c1,c2,c3,c4].drop 4).take (Tryz.prog.cellsOf 40)) =xs[4]?:=hf 4 _ rfl;simp only [cells9,cells41,cells47,cells25,cells40,drop,take]at h0 h1 h2 h3 h4;obtain⟨x0,h0⟩ :=got h0 hlen (by decide);obtain⟨x1,h1⟩ :=got h1 hlen (by decide);obtain⟨x2,h2⟩ :=got h2 hlen (by decide);obtain⟨x3,h3⟩ :=got h3 hlen (by decide);obtain⟨x4,h4⟩ :=got h4 hlen (by decide);obtain⟨s,c,e0,v0⟩ :=uF Tryz.underlying9 h0;obtain⟨ks,ck,e1,v1⟩ :=gB Con.av Tryz.underlying41 aHL (by omega) h1 (fun fu _ cs x hx=>aPp fu cs x hx);obtain⟨fs,cf,e2,v2⟩ :=gB LFun.av Tryz.underlying47 aMz (by omega) h2 (fun fu _ cs x hx=>aOn fu cs x hx);obtain⟨nd,cn,e3,v3⟩ :=aOo h3;obtain⟨ns,cx,e4,v4⟩ :=gB (fun p:aRH=>Node.av p.1) Tryz.underlying40 aLX (by omega) h4 (fun fu _ cs x hx=>aLD fu cs x hx);cases e0;cases e1;cases e2;cases e3;cases e4;refine⟨⟨⟨s,ks,fs,nd,ns.map Subtype.val⟩,fun x hx=>?_⟩,?_⟩
 · obtain⟨p,_,rfl⟩ :=List.mem_map.1 hx;exact p.2
 · simp only [LUnit.av];rw [show ns.map (fun p:aRH=>Node.av p.1) =map Node.av (ns.map Subtype.val)by rw [map_map];rfl]at v4;refine aAa (VRs.cons v0 (VRs.cons v1 (VRs.cons v2 (VRs.cons v3 (VRs.cons v4 (VRs.nil _)))))) ?_;rfl
theorem lift_units (fuel:Nat)(cs:List Value)(x:DataW H×List MemPlace)(h:DataW.trod enc Tryz.prog w 0 spare held fuel 22 cs=some x) :∃ (l:List LUnit) (c:Value),(∀u∈l,NumU u) ∧cs= [c] ∧VR (embOf w) (.ilst 5 (map LUnit.av l) false) c:=by
 obtain⟨ys,c,e,v⟩ :=gB (fun p:aV5=>LUnit.av p.1) Tryz.underlying22 cells49 (by omega) h (fun fu _ cs x hx=>aLE fu cs x hx);refine⟨ys.map Subtype.val,c,fun u hu=>?_,e,?_⟩
 · obtain⟨p,_,rfl⟩ :=List.mem_map.1 hu;exact p.2
 ·rw [map_map];exact v
end
end Go.Hb

