/-
  OWN WORK (V127, V128, V129, V130, V131, V132, V133, V134, V135, H18, V49, V50, V60, V61, V62, V63, V64, V65, V66, V136, V137, H48): a machine on abstract values, its soundness, ways through the text (the ways WRITTEN BY A PROGRAM), plain laws.
-/
import Derived.Test.YtabmpnmmkeieiaaGreatHF
import Derived.Test.YtabmpnmmkeieiaaGreatHG
import Derived.Test.YtabmpnmmkeieiaaGreatHK
import Derived.Test.YtabmpnmmkeieiaaGreatHL
set_option linter.defProp false
set_option linter.unusedVariables false
set_option linter.unusedSimpArgs false
set_option linter.unusedSectionVars false
set_option maxRecDepth 100000
namespace Go.Hb
open Go.Proofs
set_option maxHeartbeats 4000000
noncomputable section
abbrev jD :aC:=strOf [109,97,105,110]
end
end Go.Hb
namespace Go.Hb
open Go.Proofs
set_option maxHeartbeats 4000000
noncomputable section
end
end Go.Hb
namespace Go.Hb
open Go.Proofs
set_option maxHeartbeats 4000000
noncomputable section
def bEk (l l':List aC) :Prop:=∀ (i:Nat) (s:aC),l[i]?=some s→l'[i]?=some s
theorem aSv {cl:List Con}{pl pl':List aC}(h:bEk pl pl'){f n k:Int}{r}(h0:hdN cl pl f n k=some r) :hdN cl pl' f n k=some r:=by
 unfold hdN at h0 ⊢;by_cases h2:f=2
 · rw [if_pos h2]at h0 ⊢;by_cases hk:0≤k
   · rw [if_pos hk]at h0 ⊢;cases hs:pl[k.toNat]? with
     |none=>rw [hs]at h0;cases h0
     |some y=>rw [hs]at h0;rw [h _ _ hs];exact h0
   ·rw [if_neg hk]at h0;cases h0
 ·rw [if_neg h2]at h0 ⊢;exact h0
mutual
theorem aMS {cl:List Con}{pl pl':List aC}(h:bEk pl pl') :∀ (q:Pat) (k:Int) (r:Pat×Int),aA4 cl pl q k=some r→aA4 cl pl' q k=some r
 | .mk f n s ps,k,r,h0=>by
  rw [aA4]at h0 ⊢;cases hh:hdN cl pl f n k with
  |none=>rw [hh]at h0;cases h0
  | some y=>
   rw [hh]at h0;rw [aSv h hh];simp only at h0 ⊢;cases hp:kC cl pl ps y.2.2 with
   |none=>rw [hp]at h0;cases h0
   |some z=>rw [hp]at h0;rw [aDq h ps _ z hp];exact h0
theorem aDq {cl:List Con}{pl pl':List aC}(h:bEk pl pl') :∀ (ps:List Pat) (k:Int) (r:List Pat×Int),kC cl pl ps k=some r→kC cl pl' ps k=some r
 | [],k,r,h0=>by rw [kC]at h0 ⊢;exact h0
 | p::ps,k,r,h0=>by
  rw [kC]at h0 ⊢;cases hh:aA4 cl pl p k with
  |none=>rw [hh]at h0;cases h0
  | some y=>
   rw [hh]at h0;rw [aMS h p k y hh];simp only at h0 ⊢;cases hp:kC cl pl ps y.2 with
   |none=>rw [hp]at h0;cases h0
   |some z=>rw [hp]at h0;rw [aDq h ps _ z hp];exact h0
end
end
end Go.Hb
namespace Go.Hb
open Go.Proofs
set_option maxHeartbeats 4000000
noncomputable section
theorem aIg (o n:Int)(s:aC)(ks:List Term)(ps:List Pat)(hl:ps.length<1000000)(ih:∀p∈ps,Pure PP 88 [Pat.av p,Pat.av p] (.bool true)) :
  ∀ (t:List Pat) (i:Nat),ps.drop i=t→LeadsM PP 0 (aGr o n s ks ps o n s ks ps (i:Int)).as (aDp o n s ks ps o n s ks ps 0).as
 | [],i,h=>by
  have:=bA h;exact bAi o n s ks ps o n s ks ps i sd
 | .mk a1 a2 a3 a4::t,i,h=>by
  obtain⟨g1,g2,g3⟩ :=aZ h;exact(bAh o n s ks ps o n s ks ps i a1 a2 a3 a4 a1 a2 a3 a4 true sd sd sd sd (ih _ (List.mem_of_getElem? g1)) rfl sd).trans (aIg o n s ks ps hl ih t (i+1) g2)
theorem aIh (o n:Int)(s:aC)(ks:List Term)(ps:List Pat)(hl:ks.length<1000000)(ih:∀k∈ks,Pure PP 28 [Term.av k,Term.av k] (.bool true)) :
  ∀ (t:List Term) (i:Nat),ks.drop i=t→Ends PP 0 (aDp o n s ks ps o n s ks ps (i:Int)).as (.ret (.bool true)) (aG [] 0)
 | [],i,h=>by
  have:=bA h;exact bAk o n s ks ps o n s ks ps i sd
 | .mk a1 a2 a3 a4 a5::t,i,h=>by
  obtain⟨g1,g2,g3⟩ :=aZ h;exact(bAj o n s ks ps o n s ks ps i a1 a2 a3 a4 a5 a1 a2 a3 a4 a5 true sd sd sd sd (ih _ (List.mem_of_getElem? g1)) rfl sd).ends (aIh o n s ks ps hl ih t (i+1) g2)
theorem aIi :∀ks:List Term,ks.length≤kX ks
 | [] =>Nat.zero_le _
 | k::ks=>by
  have:=aIi ks;obtain⟨_,_,_,_,_⟩ :=k;simp only [kX,wB,List.length_cons];omega
mutual
theorem aSw :∀ (t:Term),wB t<1000000→Pure PP 28 [Term.av t,Term.av t] (.bool true)
 | .mk o n s ks ps,h=>by
  simp only [wB]at h;have h1:=aIi ks;have h2:=bK ps;refine aV (by kernel_rfl) (by simp only [AV.keylessL,gV];rfl) rfl ?_;refine(bAg o n s ks ps o n s ks ps (by simp) (by simp) (by rw [yD];rfl) (by simp) (by simp)).ends ?_;exact(aIg o n s ks ps (by omega) (aB6 ps (by omega)) ps 0 rfl).ends (aIh o n s ks ps (by omega) (aLy ks (by omega)) ks 0 rfl)
theorem aLy :∀ (ks:List Term),kX ks<1000000→∀k∈ks,Pure PP 28 [Term.av k,Term.av k] (.bool true)
 | [],_,k,hk=>by cases hk
 | q::ks,h,k,hk=>by
  simp only [kX]at h;rcases List.mem_cons.1 hk with e|hk
  ·rw [e];exact aSw q (by omega)
  ·exact aLy ks (by omega) k hk
end
end
end Go.Hb
namespace Go.Hb
open Go.Proofs
set_option maxHeartbeats 4000000
noncomputable section
theorem bEl {cons:List Con}{f n:Int}{s:aC}{ps:List Pat}(h:cZ cons f n s ps.length=true)(hf:f=6) :0≤n∧n<cons.length:=by
 subst hf;simp [cZ,bR]at h;omega
mutual
theorem aMT (cl:List Con)(pl:List aC) :∀ (q:Pat) (k:Int),dB cl q=true→0≤k→k+rnm q≤pl.length→∃r,aA4 cl pl q k=some r∧r.2=k+rnm q
 | .mk f n s ps,k,h,hk,hb=>by
  simp only [dB,Bool.and_eq_true]at h;have h1:=vX ps;rw [rnm]at hb ⊢;rw [aA4];unfold hdN;by_cases h2:f=2
  · rw [if_pos h2]at hb ⊢;rw [if_pos h2,if_pos hk,List.getElem?_eq_getElem (show k.toNat<pl.length by omega)];obtain⟨r,e1,e2⟩ :=yH cl pl ps (k+1) h.2 (by omega) (by omega);simp only [e1];exact⟨_,rfl,by rw [e2];omega⟩
  · rw [if_neg h2]at hb ⊢;rw [if_neg h2];obtain⟨r,e1,e2⟩ :=yH cl pl ps k h.2 hk (by omega);by_cases h6:f=6
    · obtain⟨g1,g2⟩ :=bEl h.1 h6;rw [if_pos h6,if_pos g1,List.getElem?_eq_getElem (show n.toNat<cl.length by omega)];simp only [e1];exact⟨_,rfl,by rw [e2];omega⟩
    · rw [if_neg h6];simp only [e1];exact⟨_,rfl,by rw [e2];omega⟩
theorem yH (cl:List Con)(pl:List aC) :∀ (ps:List Pat) (k:Int),bS cl ps=true→0≤k→k+vB ps≤pl.length→∃r,kC cl pl ps k=some r∧r.2=k+vB ps
 | [],k,_,_,_=> ⟨_,by rw [kC],by simp [vB]⟩
 | p::ps,k,h,hk,hb=>by
  simp only [bS,Bool.and_eq_true]at h;rw [vB]at hb ⊢;have h1:=aJ7 p;have h2:=vX ps;obtain⟨q,e1,e2⟩ :=aMT cl pl p k h.1 hk (by omega);obtain⟨r,e3,e4⟩ :=yH cl pl ps q.2 h.2 (by omega) (by omega);rw [kC,e1];simp only [e3];exact⟨_,rfl,by rw [e4];omega⟩
end
end
end Go.Hb
namespace Go.Hb
open Go.Proofs
set_option maxHeartbeats 4000000
noncomputable section
end
end Go.Hb
namespace Go.Hb
open Go.Proofs
set_option maxHeartbeats 4000000
noncomputable section
end
end Go.Hb
namespace Go.Hb
open Go.Proofs
set_option maxHeartbeats 4000000
noncomputable section
end
end Go.Hb
namespace Go.Hb
open Go.Proofs
set_option maxHeartbeats 4000000
noncomputable section
end
end Go.Hb
namespace Go.Hb
open Go.Proofs
noncomputable section
open Go.Proofs Tryz
abbrev aSx(a:Prog):Nat ×AObj×Bool:=oC 0 [(iN a.nodes),(iI a.funs),(nI a.main),(iC a.cons)]
abbrev aSy(a:List Node)(b:List Int)(c:Int)(d:List Con):Nat×AObj×Bool:=oC 2 [(.gl 4 4 0 a.length false),(.gl 5 1 0 b.length false),(nI c),(.gl 6 2 0 d.length false)]
abbrev aSz:Nat ×AObj×Bool:=oC 1 [.nils,.nils,(nI 0),.nils]
abbrev aSA:Nat ×AObj×Bool:=oC 3 [(.map 7),(.map 8)]
abbrev aSB(a:List (Int×Int)):Nat×AObj×Bool:=(8,(.map (aB aO aO 0 a) a.length),true)
abbrev aSC(a:List (Int×Int)):Nat×AObj×Bool:=(7,(.map (aB aO aO 0 a) a.length),true)
def aSD(j a:Prog)(e:Int)(b:List Node)(c:List Int)(d:List Con)(f:List (Int×Int))(g:Int)(i:List (Int×Int)):TS:=⟨(tf 39 131 [kp 3 0,kp 4 1,(5,(nI 0)),kp 9 2,kp 11 3,(57,(iC a.cons)),(58,(nI (a.cons.length:Int))),(59,(nI g))] [kc f39 1012,kl f39 1012,.inBlock 4,kc f39 127]),[],[aSx a,aSz,aSy b c e d,aSA,oL 4 4 (jN b),oL 5 1 (jI c),oL 6 2 (jC d),aSC f,aSB i],9⟩
def bEm(i d:Prog)(e:Int)(a:List Node)(b:List Int)(c:List Con)(f g:List (Int×Int)):TS:=⟨(tf 39 131 [kp 3 0,kp 4 1,(5,(nI 0)),kp 9 2,kp 11 3] [kc f39 254,kc f39 255]),[],[aSx d,aSz,aSy a b e c,aSA,oL 4 4 (jN a),oL 5 1 (jI b),oL 6 2 (jC c),aSC f,aSB g],9⟩
end
end Go.Hb
namespace Go.Hb
open Go.Proofs
set_option maxHeartbeats 2000000
noncomputable section
section
variable (p q:Prog) (mn:Int) (zn:List Node) (zu:List Int)
def FindGoal (zc:List Con)(c:Con)(mf:List (Int×Int))(i:Int)(m:List (Int×Int))(s:TS)(r:Int) :Prop:=
 if r<0 then LeadsM PP 0 s.as (aSD p q mn zn zu (zc++ [c]) mf (i+1) (eF i ((zc.length:Nat) :Int) m)).as
 else match zc[r.toNat]? with
  | some d=>if d.args=c.args then LeadsM PP 0 s.as (aSD p q mn zn zu zc mf (i+1) (eF i r m)).as
   else Ends PP 0 s.as (.ret (.tup [aLp,.int .i64 7])) (aG [] 0)
  |none=>True
theorem FindGoal.of {zc:List Con}{c:Con}{mf:List (Int×Int)}{i:Int}{m:List (Int×Int)}{s s':TS}{r:Int}(h:LeadsM PP 0 s'.as s.as)(g:FindGoal p q mn zn zu zc c mf i m s r) :FindGoal p q mn zn zu zc c mf i m s' r:=by
 unfold FindGoal at g ⊢;split
 · rename_i hr;rw [if_pos hr]at g;exact h.trans g
 · rename_i hr;rw [if_neg hr]at g;split
   · rename_i d hd;rw [hd]at g;simp only at g;split
     · rename_i e;rw [if_pos e]at g;exact h.trans g
     · rename_i e;rw [if_neg e]at g;exact h.ends g
   ·trivial
def ConsB (mf:List (Int×Int))(s:TS) :Option (List Con×List (Int×Int)) →Prop
 |none=>Ends PP 0 s.as (.ret (.tup [aLp,.int .i64 7])) (aG [] 0)
 |some r=>LeadsM PP 0 s.as (bEm p q mn zn zu r.1 mf r.2).as
theorem ConsB.of {mf:List (Int×Int)}{s s':TS}(h:LeadsM PP 0 s'.as s.as) :∀ {r:Option (List Con×List (Int×Int))},ConsB p q mn zn zu mf s r→ConsB p q mn zn zu mf s' r
 |none,g=>h.ends g
 |some _,g=>h.trans g
end
end
end Go.Hb
namespace Go.Hb
open Go.Proofs
theorem hasS_mem {l:List aC}{s:aC}:eZ l s=true↔s∈l:=by
 simp [eZ]
theorem aAp :∀ (l pre:List aC),bC pre l=true→l.Nodup∧∀x∈l,x∉pre
 | [],pre,_=> ⟨List.nodup_nil,fun x hx=>by cases hx⟩
 | x::t,pre,h=>by
  simp only [bC,Bool.and_eq_true,Bool.not_eq_true']at h;obtain⟨h1,h2⟩ :=aAp t (pre++ [x]) h.2
  have hx:x∉pre:=fun hm=>by
   have:=hasS_mem.2 hm;rw [h.1]at this;cases this
  refine⟨List.nodup_cons.2 ⟨fun hm=>h2 x hm (by simp),h1⟩,fun y hy=>?_⟩;rcases List.mem_cons.1 hy with rfl|hy
  ·exact hx
  ·exact fun hm=>h2 y hy (List.mem_append_left _ hm)
structure Fm (p:Prog) :Prop where
 fine:FineP p
 cons:p.cons.length≤25
 dup: ((p.funs.map (pre p p.nodes.length)).flatten).Nodup
 len: ((p.funs.map (pre p p.nodes.length)).flatten).length=p.nodes.length
 into:∀x∈ (p.funs.map (pre p p.nodes.length)).flatten,0≤x∧x<p.nodes.length
 node:∀ (i:Nat) (x:Node),p.nodes[i]?=some x→sC p x=true∧x.pats.length≤10
 names: (p.cons.map Con.name).Nodup
theorem aJ8 {p:Prog}(hs:lJ p=true)(hf:iT p=true) :Fm p:=by
 have hss:=hs;simp only [lJ,Bool.and_eq_true,decide_eq_true_eq]at hss;obtain⟨⟨⟨⟨s1,s2⟩,s3⟩,_⟩,s5⟩ :=hss;obtain⟨a,b,c,d⟩ :=aJY hs hf;refine⟨aBB hs hf,s3,a,b,c,fun i x hx=> ⟨d i x hx,?_⟩,?_⟩
 · have h10:=List.all_eq_true.1 s5 x (List.mem_of_getElem? hx);simp only [dQ,Bool.and_eq_true,decide_eq_true_eq]at h10;omega
 · simp only [iT,Bool.and_eq_true,aJx]at hf;exact(aAp _ _ hf.1.2.2).1
end Go.Hb
namespace Go.Hb
open Go.Proofs
def nodeAt (p:Prog)(k:Int) :Node:= (p.nodes[k.toNat]?).getD ⟨0,0,[],[]⟩
theorem aA5 {p:Prog}{k:Int}{x:Node}(h:p.nodes[k.toNat]?=some x) :nodeAt p k=x:=by unfold nodeAt;rw [h];rfl
def yI (p:Prog) :List Int:= (p.funs.map (pre p p.nodes.length)).flatten
def KidsAfter (p:Prog)(l:List Int) :Prop:=∀ (i:Nat) (k c:Int),l[i]?=some k→c∈fC p k→∃j,i<j∧l[j]?=some c
theorem KidsAfter.append {p:Prog}{l m:List Int}(h1:KidsAfter p l)(h2:KidsAfter p m) :KidsAfter p (l++m) :=fun i k c hi hc=>by
 by_cases h:i<l.length
 · rw [List.getElem?_append_left h]at hi;obtain⟨j,hj,e⟩ :=h1 i k c hi hc;exact⟨j,hj,by rw [List.getElem?_append_left (List.getElem?_eq_some_iff.1 e).1];exact e⟩
 · rw [List.getElem?_append_right (by omega)]at hi;obtain⟨j,hj,e⟩ :=h2 _ k c hi hc;exact⟨l.length+j,by omega,by rw [List.getElem?_append_right (by omega),show l.length+j-l.length=j by omega];exact e⟩
theorem KidsAfter.flatten {p:Prog}:∀ {L:List (List Int)},(∀l∈L,KidsAfter p l) →KidsAfter p L.flatten
 | [],_=>fun i k c hi _=>by simp at hi
 | l::L,h=>by
  rw [List.flatten_cons];exact(h l (List.mem_cons_self ..)).append (KidsAfter.flatten fun m hm=>h m (List.mem_cons_of_mem _ hm))
theorem aIj {p:Prog}(h:Fm p){k:Int}(h0:0≤k)(h1:k<p.nodes.length) :∃i:Nat,(yI p)[i]?=some k:=by
 refine List.mem_iff_getElem?.1 ?_;have hd: ((yI p).map Int.toNat).Nodup:=by
  have hd:=h.dup;rw [List.nodup_iff_pairwise_ne]at hd ⊢;refine List.pairwise_map.2 (hd.imp_of_mem (fun {a b} ha hb hne e=>?_));have:=h.into a ha;have:=h.into b hb;exact hne (by omega)
 by_cases hm:k∈yI p
 ·exact hm
 · have h2:=vW (p.nodes.length) (k.toNat:: (yI p).map Int.toNat) (List.nodup_cons.2 ⟨fun hm2=>by
    obtain⟨y,hy,e⟩ :=List.mem_map.1 hm2;have:=h.into y hy;exact hm ((show y=k by omega) ▸ hy),hd⟩) (fun x hx=>by
    rcases List.mem_cons.1 hx with rfl|hx
    ·omega
    · obtain⟨y,hy,rfl⟩ :=List.mem_map.1 hx;have:=h.into y hy;omega)
   rw [List.length_cons,List.length_map]at h2;have:=h.len;unfold yI at h2;omega
structure Laid (a:Prog) (off:Nat) (p:Prog) (mf mc:List (Int×Int)) (to:List Int) :Prop where
 node:∀ (i:Nat) (k:Int),(yI p)[i]?=some k→a.nodes[off+i]?=some (aBy mf mc to (nodeAt p k))
 to:∀ (i:Nat) (k:Int),(yI p)[i]?=some k→aFU to k= ((off+i:Nat) :Int)
section
variable {a p:Prog} {off:Nat} {mf mc:List (Int×Int)} {to:List Int}
theorem Laid.at (h:Laid a off p mf mc to)(hp:Fm p){k:Int}(h0:0≤k)(h1:k<p.nodes.length) :0≤aFU to k∧a.nodes[(aFU to k).toNat]?=some (aBy mf mc to (nodeAt p k)) :=by
 obtain⟨i,hi⟩ :=aIj hp h0 h1;have e:=h.to i k hi;rw [e,Int.toNat_natCast];exact⟨by omega,h.node i k hi⟩
theorem Laid.pre (h:Laid a off p mf mc to)(hp:Fm p) :∀ (f:Nat) (k:Int),0≤k→k<p.nodes.length→p.nodes.length-k.toNat≤f→pre a f (aFU to k) = (pre p f k).map (aFU to)
 |0,k,h0,h1,h2=>by omega
 | f+1,k,h0,h1,h2=>by
  obtain⟨x,hx⟩ :∃x,p.nodes[k.toNat]?=some x:= ⟨_,List.getElem?_eq_getElem (by omega)⟩;obtain⟨g0,g1⟩ :=h.at hp h0 h1;rw [aA5 hx]at g1;rw [Go.Hb.pre,Go.Hb.pre,hx,g1];simp only [List.map_cons,List.map_flatten,List.map_map,aBy];congr 2
  exact List.map_congr_left (fun c hc=>by
   have:= (hp.fine.node _ _ hx).2.2 c hc;exact h.pre hp f c (by omega) (by omega) (by omega))
end
end Go.Hb
namespace Go.Hb
open Go.Proofs
mutual
theorem aJ9 (mc:List (Int×Int)) :∀q:Pat,mV (mH mc q) =mV q
 | .mk f n s ps=>by rw [mH,mV,mV,aBC mc ps]
theorem aBC (mc:List (Int×Int)) :∀ps:List Pat,nL (eH mc ps) =nL ps
 | [] =>rfl
 |q::ps=>by rw [eH,nL,nL,aJ9 mc q,aBC mc ps]
end
structure MapsOk (p a:Prog) (mf mc:List (Int×Int)) :Prop where
 funs:∀i:Int,0≤i→i<p.funs.length→0≤sS mf i∧sS mf i<a.funs.length
 cons:∀ (i:Nat) (d:Con),p.cons[i]?=some d→0≤sS mc (i:Int) ∧a.cons[(sS mc (i:Int)).toNat]?=some d
section
variable {p a:Prog} {mf mc:List (Int×Int)}
theorem MapsOk.at (h:MapsOk p a mf mc){n:Int}(h0:0≤n)(h1:n<p.cons.length) :0≤sS mc n∧sS mc n<a.cons.length∧fR a.cons (sS mc n) =fR p.cons n∧a.cons[(sS mc n).toNat]?=p.cons[n.toNat]?:=by
 have e:p.cons[n.toNat]?=some p.cons[n.toNat] :=List.getElem?_eq_getElem (by omega);obtain⟨g0,g1⟩ :=h.cons n.toNat _ e;rw [show((n.toNat:Nat) :Int) =n by omega]at g0 g1;have:= (List.getElem?_eq_some_iff.1 g1).1;refine⟨g0,by omega,?_,by rw [g1,e]⟩;unfold fR;rw [g1,e]
theorem aEN (mc:List (Int×Int)) :∀ps:List Pat,(eH mc ps).length=ps.length
 | [] =>rfl
 |p::ps=>by rw [eH,List.length_cons,List.length_cons,aEN mc ps]
mutual
theorem bAl (h:MapsOk p a mf mc) :∀q:Pat,dB p.cons q=true→dB a.cons (mH mc q) =true
 | .mk f n s ps,g=>by
  rw [dB,Bool.and_eq_true]at g;rw [mH,dB,aIk h ps g.2,Bool.and_true,aEN];have g1:=g.1;by_cases hf:f=6
  · subst hf;unfold cZ at g1 ⊢;simp [bR]at g1 ⊢;obtain⟨⟨⟨a0,a1⟩,a2⟩,a3⟩ :=g1;obtain⟨b0,b1,b2,b3⟩ :=h.at a0 (by omega);exact⟨⟨⟨b0,by omega⟩,by rw [b2];exact a2⟩,a3⟩
  · rw [if_neg hf];unfold cZ at g1 ⊢;rw [if_neg hf]at g1 ⊢;exact g1
theorem aIk (h:MapsOk p a mf mc) :∀ps:List Pat,bS p.cons ps=true→bS a.cons (eH mc ps) =true
 | [],_=>rfl
 | q::ps,g=>by
  rw [bS,Bool.and_eq_true]at g;rw [eH,bS,bAl h q g.1,aIk h ps g.2];rfl
end
end
end Go.Hb
namespace Go.Hb
open Go.Proofs
theorem conIx_mem {s:aC}{l:List Con}:0≤dY s l 0↔s∈l.map Con.name:=by
 constructor
 · intro h;rcases mJ s l 0 (Int.le_refl _)with g| ⟨_,_,d,h3,h4⟩
   ·omega
   ·exact List.mem_map.2 ⟨d,List.mem_of_getElem? h3,h4⟩
 · intro h;rcases mJ s l 0 (Int.le_refl _)with g| ⟨h1,_⟩
   · have :dY s l 0≠ -1:=by
      clear g;have :∀ (l:List Con) (i:Int),0≤i→s∈l.map Con.name→dY s l i≠ -1:=by
       intro l
       induction l with
       |nil=>intro i _ h;simp at h
       | cons c l ih=>
        intro i hi h;rw [dY];split
        ·omega
        · rename_i e;rcases List.mem_cons.1 (by simpa using h:s∈c.name::l.map Con.name)with g|g
          ·exact absurd g.symm e
          ·exact ih (i+1) (by omega) g
      exact this l 0 (Int.le_refl _) h
     exact absurd g this
   ·exact h1
theorem aDr (s:aC)(A:List Con) :∀ (l:List Con) (i:Int),s∈l.map Con.name→dY s (l++A) i=dY s l i
 | [],i,h=>by simp at h
 | c ::l,i,h=>by
  rw [List.cons_append,dY,dY];by_cases e:c.name=s
  ·rw [if_pos e,if_pos e]
  · rw [if_neg e,if_neg e];rcases List.mem_cons.1 (by simpa using h:s∈c.name::l.map Con.name)with g|g
    ·exact absurd g.symm e
    ·exact aDr s A l (i+1) g
theorem aBD (s:aC)(A:List Con) :∀ (l:List Con) (i:Int),s∉l.map Con.name→dY s (l++A) i=dY s A (i+l.length)
 | [],i,h=>by simp
 | c::l,i,h=>by
  simp only [List.map_cons,List.mem_cons,not_or]at h;rw [List.cons_append,dY,if_neg (fun e=>h.1 e.symm),aBD s A l (i+1) h.2];congr 1;simp;omega
end Go.Hb
namespace Go.Hb
open Go.Proofs
def toL (p:Prog)(off:Nat) :List Int:=aR2 (List.replicate p.nodes.length 0) off (yI p)
section
variable {p :Prog}
end
end Go.Hb
namespace Go.Hb
open Go.Proofs
structure Fs (p:Prog) :Prop extends Fm p where
 sm:lJ p=true
 fo:iT p=true
theorem Fs.of {p:Prog}(hs:lJ p=true)(hf:iT p=true) :Fs p:={aJ8 hs hf with sm:=hs,fo:=hf}
theorem Fs.head {p:Prog}(h:Fs p) :p.nodes.length≤300∧1≤p.funs.length∧p.funs.length≤p.nodes.length∧0≤p.main∧p.main<p.funs.length∧p.cons.length≤20∧ (∀c∈p.cons,aKJ c=true) :=by
 have:=h.fo;simp only [iT,Bool.and_eq_true,aHx,aJx,decide_eq_true_eq]at this;obtain⟨⟨⟨⟨a1,a2⟩,a3⟩,⟨a4,a5⟩,_⟩,_⟩ :=this;simp [bR]at a2 a3;exact⟨a1,by omega,by omega,by omega,by omega,a5,fun c hc=>List.all_eq_true.1 a4 c hc⟩
section
variable {a :Prog} {N:Nat}
end
section
variable {p a:Prog} {off:Nat} {mf mc:List (Int×Int)} {to:List Int}
end
section
variable {p q:Prog}
end
end Go.Hb
namespace Go.Hb
open Go.Proofs
mutual
theorem aMU {cons:List Con}{mc mc' mc2:List (Int×Int)}(h:∀n:Int,0≤n→n<cons.length→sS mc2 n=sS mc' (sS mc n)) :∀q:Pat,dB cons q=true→mH mc' (mH mc q) =mH mc2 q
 | .mk f n s ps,g=>by
  rw [dB,Bool.and_eq_true]at g;rw [mH,mH,mH,yJ h ps g.2];by_cases hf:f=6
  · subst hf;have g1:=g.1;unfold cZ at g1;simp [bR]at g1;rw [if_pos rfl,if_pos rfl,if_pos rfl,h n g1.1.1.1 (by omega)]
  ·rw [if_neg hf,if_neg hf,if_neg hf]
theorem yJ {cons:List Con}{mc mc' mc2:List (Int×Int)}(h:∀n:Int,0≤n→n<cons.length→sS mc2 n=sS mc' (sS mc n)) :∀ps:List Pat,bS cons ps=true→eH mc' (eH mc ps) =eH mc2 ps
 | [],_=>rfl
 | q::ps,g=>by
  rw [bS,Bool.and_eq_true]at g;rw [eH,eH,eH,aMU h q g.1,yJ h ps g.2]
end
theorem aSE {p:Prog}{x:Node}(h:sC p x=true) : (x.op=4→ -(p.funs.length:Int) ≤x.n) ∧ (x.op=14→0≤x.n∧x.n<p.cons.length) ∧bS p.cons x.pats=true:=by
 simp only [sC,aHw,Bool.and_eq_true]at h;obtain⟨⟨⟨h1,_⟩,h2⟩,_⟩ :=h;refine⟨fun e=>?_,fun e=>?_,aDc fun q hq=>?_⟩
 · rw [e]at h1;simp [aAV,bR]at h1;omega
 · rw [e]at h1;simp [aAV,bR]at h1;omega
 · have:=List.all_eq_true.1 h2 q hq;simp only [aFL,Bool.and_eq_true]at this;exact this.2
structure Comp (p:Prog) (mf mc:List (Int×Int)) (to:List Int) (mf' mc':List (Int×Int)) (to':List Int) (mf2 mc2:List (Int×Int)) (to2:List Int) :Prop where
 f0:∀i:Int,0≤i→i<p.funs.length→0≤sS mf i
 f:∀i:Int,0≤i→i<p.funs.length→sS mf2 i=sS mf' (sS mf i)
 c:∀i:Int,0≤i→i<p.cons.length→sS mc2 i=sS mc' (sS mc i)
 t:∀ (i:Nat) (k:Int),(yI p)[i]?=some k→aFU to2 k=aFU to' (aFU to k)
theorem Comp.node {p:Prog}{mf mc mf' mc' mf2 mc2:List (Int×Int)}{to to' to2:List Int}(h:Comp p mf mc to mf' mc' to' mf2 mc2 to2)(hp:Fm p){k:Int}(hk:k∈yI p) :aBy mf' mc' to' (aBy mf mc to (nodeAt p k)) =aBy mf2 mc2 to2 (nodeAt p k) :=by
 have hr:=hp.into k hk;obtain⟨x,hx⟩ :∃x,p.nodes[k.toNat]?=some x:= ⟨_,List.getElem?_eq_getElem (by omega)⟩;rw [aA5 hx];obtain⟨h4,h14,hps⟩ :=aSE (hp.node _ x hx).1;unfold aBy;simp only [Node.mk.injEq,List.map_map,true_and];refine⟨?_,List.map_congr_left fun c hc=>?_,yJ h.c _ hps⟩
 · unfold bN;by_cases e4:x.op=4
   · rw [if_pos e4,if_pos e4,if_pos e4];by_cases hn:0≤x.n
     ·rw [if_pos hn,if_pos hn,if_pos hn]
     · have:=h4 e4;have h0:=h.f0 (-1-x.n) (by omega) (by omega);have h1:=h.f (-1-x.n) (by omega) (by omega);rw [if_neg hn,if_neg hn,if_neg (by omega),h1];congr 2;omega
   · rw [if_neg e4,if_neg e4,if_neg e4];by_cases e14:x.op=14
     · have:=h14 e14;rw [if_pos e14,if_pos e14,if_pos e14,h.c x.n this.1 this.2]
     ·rw [if_neg e14,if_neg e14,if_neg e14]
 · have:= (hp.fine.node _ _ hx).2.2 c hc;obtain⟨i,hi⟩ :=aIj hp (k:=c) (by omega) (by omega);exact(h.t i c hi).symm
theorem Laid.slice {a p:Prog}{off:Nat}{mf mc:List (Int×Int)}{to:List Int}(h:Laid a off p mf mc to)(F:Node→Node) : ((List.range (yI p).length).map fun i=>F (nodeAt a ((off+i:Nat) :Int))) = (yI p).map fun k=>F (aBy mf mc to (nodeAt p k)) :=by
 refine List.ext_getElem? (fun i=>?_);rw [List.getElem?_map,List.getElem?_map];by_cases hi:i< (yI p).length
 · have e: (yI p)[i]?=some (yI p)[i] :=List.getElem?_eq_getElem hi;rw [List.getElem?_range hi,e];simp only [Option.map_some];rw [aA5 (p:=a) (k:= ((off+i:Nat) :Int)) (by rw [Int.toNat_natCast];exact h.node i _ e)]
 ·rw [List.getElem?_eq_none (by simp;omega),List.getElem?_eq_none (by omega)];rfl
section
variable {p q r:Prog}
end
end Go.Hb
namespace Go.Hb
open Go.Proofs
mutual
def aIl (l:List Con) :Pat→Pat
 | .mk f n s ps=>match(if f=6∧0≤n∧n<l.length then l[n.toNat]? else none)with
  |some c=>.mk f 0 c.name (yK l ps)
  |none=>.mk f n s (yK l ps)
def yK (l:List Con) :List Pat→List Pat
 | [] =>[]
 |p::ps=>aIl l p::yK l ps
end
mutual
theorem aKa {cons l l':List Con}{mc mc':List (Int×Int)}(h:∀n:Int,0≤n→n<cons.length→∃d,0≤sS mc n∧0≤sS mc' n∧l[(sS mc n).toNat]?=some d∧l'[(sS mc' n).toNat]?=some d) :∀q:Pat,dB cons q=true→aIl l (mH mc q) =aIl l' (mH mc' q)
 | .mk f n s ps,g=>by
  rw [dB,Bool.and_eq_true]at g;rw [mH,mH,aIl,aIl,aBE h ps g.2];by_cases hf:f=6
  · subst hf;have g1:=g.1;unfold cZ at g1;simp [bR]at g1;obtain⟨d,h0,h1,h2,h3⟩ :=h n g1.1.1.1 (by omega);have l2:= (List.getElem?_eq_some_iff.1 h2).1;have l3:= (List.getElem?_eq_some_iff.1 h3).1;rw [if_pos rfl,if_pos rfl,if_pos ⟨rfl,h0,by omega⟩,if_pos ⟨rfl,h1,by omega⟩,h2,h3]
  ·rw [if_neg hf,if_neg hf,if_neg (fun h=>hf h.1),if_neg (fun h=>hf h.1)]
theorem aBE {cons l l':List Con}{mc mc':List (Int×Int)}(h:∀n:Int,0≤n→n<cons.length→∃d,0≤sS mc n∧0≤sS mc' n∧l[(sS mc n).toNat]?=some d∧l'[(sS mc' n).toNat]?=some d) :∀ps:List Pat,bS cons ps=true→yK l (eH mc ps) =yK l' (eH mc' ps)
 | [],_=>rfl
 | q::ps,g=>by
  rw [bS,Bool.and_eq_true]at g;rw [eH,eH,yK,yK,aKa h q g.1,aBE h ps g.2]
end
end Go.Hb
namespace Go.Hb
open Go.Proofs
set_option maxHeartbeats 4000000
noncomputable section
structure PlOk (p:Prog) (n:Nat) :Prop where
 low:30≤n
 big:n≤900000
 kid:∀ (a:Nat) (x:Node) (sz:Int) (i:Nat),(aJW p)[a]?=some sz→p.nodes[a]?=some x→i<x.kids.length→sz+aHI x i≤n
 own:∀ (a:Nat) (x:Node) (sz:Int),(aJW p)[a]?=some sz→p.nodes[a]?=some x→x.op=5∨x.op=27∨x.op=7→sz<n
mutual
theorem aMV {cl:List Con}{pl:List aC}:∀ (q:Pat) (k:Int) (r:Pat×Int),aA4 cl pl q k=some r→aQ r.1=aQ q
 | .mk f n _ ps,k,r,h=>by
  rw [aA4]at h;split at h
  · split at h
    · rename_i r' hr;cases h;simp only [aQ,aDs ps _ r' hr]
    ·cases h
  ·cases h
theorem aDs {cl:List Con}{pl:List aC}:∀ (ps:List Pat) (k:Int) (r:List Pat×Int),kC cl pl ps k=some r→aM r.1=aM ps
 | [],k,r,h=>by rw [kC]at h;cases h;rfl
 | p ::ps,k,r,h=>by
  rw [kC]at h;split at h
  · rename_i q hq;split at h
    · rename_i r' hr;cases h;simp only [aM,aMV p k q hq,aDs ps _ r' hr]
    ·cases h
  ·cases h
end
end
end Go.Hb
namespace Go.Hb
open Go.Proofs
set_option maxHeartbeats 4000000
noncomputable section
def KidLe (p:Prog)(b:Int)(P:Nat→Prop) :Prop:=∀ (c:Nat) (x:Node) (s:Int) (i:Nat),P c→ (aJW p)[c]?=some s→p.nodes[c]?=some x→i<x.kids.length→s+aHI x i≤b
theorem KidLe.mono {p:Prog}{b b':Int}{P:Nat→Prop}(h:KidLe p b P)(hb:b≤b') :KidLe p b' P:=fun c x s i a1 a2 a3 a4=>by
 have:=h c x s i a1 a2 a3 a4;omega
end
end Go.Hb
namespace Go.Hb
open Go.Proofs
noncomputable section
open Go.Proofs Tryz
end
end Go.Hb
