/- A machine on abstract values, its soundness, ways, plain laws. -/
import Derived.Test.YtlgoblkihmkmcaaGreatHF
import Derived.Test.YtlgoblkihmkmcaaGreatHG
set_option linter.defProp false
set_option linter.unusedVariables false
set_option linter.unusedSimpArgs false
set_option linter.unusedSectionVars false
set_option maxRecDepth 100000
set_option maxHeartbeats 8000000
namespace Go.Hb
open AV (keyless keylessL)
open List (append_nil length length_map map mem_of_getElem? set)
open Pats (av)
open Go.Proofs Tryz
noncomputable section
def aCF(b i:Int)(c:aB)(d:List Pat)(e:List Int)(f g:Int)(a:List Pat):TS:=⟨(tf 158 36 [(1,(iI e)),kp 2 0,kp 4 1,(5,(.gl 2 4 0 a.length false)),(6,(nI g))] [kc f158 244,kl f158 244,.inBlock 0,kc f158 31]),[],[oC 0 [(nI b),(nI f),(aH c),(iP d)],oC 1 [(nI 0),(nI 0),(.str 0 0),.nils],oL 2 4 (av a)],3⟩
def aFj(b c d:Int)(a:List Int):TS:=⟨(tf 101 19 [(0,(nI b)),(1,(nI c)),(4,.nils),(5,(.gl 0 1 0 a.length false)),(6,(nI d))] [kc f101 116,kl f101 116,.inBlock 0,kc f101 15]),[],[oL 0 1 (jI a)],1⟩
def bGs(b a:Int)(d:aB)(e:List Pat)(c:List Int):=tT 0 (start PP 158 [(.agg [(nI b),(nI a),(aH d),(iP e)]),(iI c)])<|.b 12 9 (b==6) (gX aY 5 c a<|fun f=>.i [rn 15,.nilL 5 4] []<|gu 0 2 (av ([] :List Pat))<|gs 0 5 (.gl 2 4 0 ([] :List Pat).length false)<|.W 0 3 [0,1,2] (aCF b a d e c f 0 ([] :List Pat)))<|.i [rn 13,.nilL 5 4] []<|gu 0 2 (av ([] :List Pat))<|gs 0 5 (.gl 2 4 0 ([] :List Pat).length false)<|.W 0 3 [0,1,2] (aCF b a d e c a 0 ([] :List Pat))
def aWL:=fun a b c d e f g i j=>bGs a b c d e|>.t g f i j ⟨eT,trivial⟩
def aWM:=fun a b c d e f=>bGs a b c d e|>.f f ⟨eT,trivial⟩
def bGt(d m:Int)(e:aB)(a:List Pat)(f:List Int)(g b:Int)(c:List Pat):=tT 0 (aCF d m e a f g b c)<|gm 6 aE a<|gd 2 20 (b< (a.length:Int)) (aF6 9 a b<|fun n o p q=>.y fun i:Int=>.y fun j:Int=>.y fun k:aB=>.y fun l:List Pat=>gp 2 158 [(.agg [(nI n),(nI o),(aH p),(iP q)]),(iI f)] (.agg [(nI i),(nI j),(aH k),(iP l)])<|gA 1 aE c [(Pat.mk i j k l)]<|gw 6 22 (b+1)<|.W 3 5 [0,1,4] (aCF d m e a f g (b+1) (c++ [(Pat.mk i j k l)])))<|gZ 6 33 2 4 aE eT c false<|gE 8 3 (.agg [(nI d),(nI g),(aH e),(iP c)])
def aWN:=fun a b c d e f g i j k l m n o p q r s t u v w=>bGt a b c d e f g i|>.t r j k l m s t n o p q u v w ⟨eT,trivial⟩
def aWO:=fun a b c d e f g i j=>bGt a b c d e f g i|>.f j tv
def aWP (a b:Int):=(tT 0 (start PP 101 [(nI a),(nI b)])<|.i [rn 15,.nilL 5 1] []<|gu 0 0 (jI ([] :List Int))<|gs 0 5 (.gl 0 1 0 ([] :List Int).length false)<|.W 0 1 [0] (aFj a b 0 ([] :List Int))) ⟨kk,trivial⟩
def bGu(b d a:Int)(c:List Int):=tT 0 (aFj b d a c)<|gd 7 9 (a<d) (gw 9 15 (b+a)<|ga 1 aY c [(b+a)]<|gw 6 11 (a+1)<|.W 3 3 [2] (aFj b d (a+1) (c++ [(b+a)])))<|gz 8 4 0 1 aY c false<|gE 0 1 (iI c)
def aWQ:=fun a b c d e f g i=>bGu a b c d|>.t e f g i ⟨kk,trivial⟩
def aWR:=fun a b c d e=>bGu a b c d|>.f e tv
def aGt (cons:List Int)(f n:Int) :Option Int:=if f=6 then(if 0≤n then cons[n.toNat]? else none)else some n
mutual
def aGu (cons:List Int) :Pat→Option Pat
 | .mk f n t ps=>match aGt cons f n with
  | some n'=>match mC cons ps with
   |some ps'=>some (.mk f n' t ps')
   |none=>none
  |none=>none
def mC (cons:List Int) :List Pat→Option (List Pat)
 | [] =>some []
 | p::ps=>match aGu cons p with
  | some p'=>match mC cons ps with
   |some ps'=>some (p'::ps')
   |none=>none
  |none=>none
end
theorem aIN (f n:Int)(s:aB)(ps:List Pat)(cons:List Int)(n':Int)(hl:ps.length<1000000)(ih:∀p∈ps,∀p',aGu cons p=some p'→Pure PP 158 [Pat.av p,.ilst 1 (map aY cons) false] (Pat.av p')) :
  ∀ (t:List Pat) (i:Nat) (acc t':List Pat),ps.drop i=t→acc.length=i→mC cons t=some t'→Ends PP 0 (aCF f n s ps cons n' (i:Int) acc).as (.ret (Pat.av (.mk f n' s (acc++t')))) (aD [] 0)
 | [],i,acc,t',h,ha,ht=>by
  have:=bA h;cases ht;rw [append_nil];exact aWO f n s ps cons n' i acc sd
 | .mk f1 n1 s1 ps1::t,i,acc,t',h,ha,ht=>by
  obtain⟨g1,g2,g3⟩ :=aZ h;simp only [mC]at ht;split at ht
  · rename_i p' hp';split at ht
    · rename_i t1 ht1;cases ht;obtain⟨f2,n2,s2,ps2⟩ :=p';refine(aWN f n s ps cons n' i acc f1 n1 s1 ps1 f2 n2 s2 ps2 sd sd sd (ih (.mk f1 n1 s1 ps1) (mem_of_getElem? g1) _ hp') (by simp;omega) sd).ends ?_;have:=aIN f n s ps cons n' hl ih t (i+1) (acc++ [.mk f2 n2 s2 ps2]) t1 g2 (by simp [ha]) ht1;rw [List.append_assoc]at this;exact this
    ·cases ht
  ·cases ht
mutual
theorem aTY (cons:List Int) :∀ (p:Pat),cU p<1000000→∀p',aGu cons p=some p'→Pure PP 158 [Pat.av p,.ilst 1 (map aY cons) false] (Pat.av p')
 | .mk f n s ps,h,p',hp'=>by
  refine aV (by kernel_rfl) (by simp [keylessL,qI,keyless]) (qI _) ?_;simp only [cU]at h;have:=iW ps;simp only [aGu]at hp';split at hp'
  · rename_i n' hn';split at hp'
    · rename_i ps' hps';cases hp';have hloop:=aIN f n s ps cons n' (by omega) (aGv cons ps (by omega)) ps 0 [] ps' rfl rfl hps';unfold aGt at hn';split at hn'
      · rename_i hf;split at hn'
        · rename_i h0;exact(aWL f n s ps cons n' (by simp [hf]) h0 hn').ends hloop
        ·cases hn'
      · rename_i hf;cases hn';exact(aWM f n s ps cons (by simp [hf])).ends hloop
    ·cases hp'
  ·cases hp'
theorem aGv (cons:List Int) :∀ (ps:List Pat),bH ps<1000000→∀p∈ps,∀p',aGu cons p=some p'→Pure PP 158 [Pat.av p,.ilst 1 (map aY cons) false] (Pat.av p')
 | [],_,p,hp=>by cases hp
 | q::ps,h,p,hp=>by
  simp only [bH]at h;rcases List.mem_cons.1 hp with e|hp
  ·rw [e];exact aTY cons q (by omega)
  ·exact aGv cons ps (by omega) p hp
end
def mN (funs cons:List Int)(op n:Int) :Option Int:=
 if op=4∧n<0 then
  match funs[(-1-n).toNat]? with
  |some g=>if -1000000000≤n∧ -1000000000≤g∧g≤1000000000 then some (-1-g)else none
  |none=>none
 else if op=14 then(if 0≤n then cons[n.toNat]? else none)else some n
def jD (f:Nat→Int→Option (List Node)) :Nat→List Int→Option (List Int×List Node)
 |_,[] =>some ([],[])
 | len,c::cs=>match f len c with
  | some ns=>match jD f (len+ns.length) cs with
   |some (ks,r) =>some ((len:Int) ::ks,ns++r)
   |none=>none
  |none=>none
def dA (p:Prog)(funs cons:List Int) :Nat→Nat→Int→Option (List Node)
 |0,_,_=>none
 | k+1, len,at0=>if 0≤at0∧len<1000000 then
   match p.nodes[at0.toNat]? with
   | some y=>if y.kids.length<1000000∧bH y.pats<1000000 then
     match mN funs cons y.op y.n with
     | some n'=>match mC cons y.pats with
      | some ps'=>match jD (dA p funs cons k) (len+1) y.kids with
       |some (ks,r) =>some (⟨y.op,n',ks,ps'⟩ ::r)
       |none=>none
      |none=>none
     |none=>none
    else none
   |none=>none
  else none
abbrev PA (p:Prog) :AV:=.agg [(.ilst 4 (map Node.av p.nodes) false),(.ilst 1 (map aY p.funs) false),(.int .i64 p.main),(.ilst 2 (map Con.av p.cons) false)]
abbrev aRU (p:Prog) :AObj:=.cells (putCells .leaf 0 [(.ilst 4 (map Node.av p.nodes) false),(.ilst 1 (map aY p.funs) false),(.int .i64 p.main),(.ilst 2 (map Con.av p.cons) false)]) 4 [] false
abbrev OL (L:List ONode) :AObj:=.lst 4 (map ONode.av L)
abbrev EndsL (s:TS)(L:List ONode) :Prop:=Ends PP 0 s.as (.ret (.gl 0 4 0 (length L) false)) (aD [(0,OL L,true)] 1)
def aCG (p:Prog)(funs cons:List Int)(c:Int)(L:List ONode)(ns:List Node) :Prop:=
 aCp PP (.enter 100 [.gl 0 4 0 (length L) false,PA p,.int .i64 c,.ilst 1 (map aY funs) false,.ilst 1 (map aY cons) false]) (aD [(0,OL L,true)] 1)
  (.ret (.gl 0 4 0 (length (L++map Node.o ns)) false)) (aD [(0,OL (L++map Node.o ns),true)] 1)
theorem xA (L:List ONode) : (OL L).kl:=aG _ (fun _=>bG _) _
theorem aWS {p:Prog}{funs cons:List Int}{c:Int}{L:List ONode}{ns:List Node}(h:aCG p funs cons c L ns)(u:Value)(l2:List Int) :
  Spec PP (.enter 100 [.gl 0 4 0 (length L) false,PA p,.int .i64 c,.ilst 1 (map aY funs) false,.ilst 1 (map aY cons) false])
   (aD [(0,OL L,true),(1,aRU p,false),(2,.lstv u 1 (map aY l2),true)] 3)
   (.ret (.gl 3 4 0 (length (L++map Node.o ns)) false))
   (aD [(1,aRU p,false),(2,.lstv u 1 (map aY l2),true),(3,OL (L++map Node.o ns),true)] 4) :=
 Eq.mp (by kernel_rfl) (aCq (ks:=[0]) (n2:=3) (lc:=[(0,OL L,true),(1,aRU p,false),(2,.lstv u 1 (map aY l2),true)])
  (x:=[(1,aRU p,false),(2,.lstv u 1 (map aY l2),true)])
  (args':=[.gl 0 4 0 (length L) false,PA p,.int .i64 c,.ilst 1 (map aY funs) false,.ilst 1 (map aY cons) false])
  h (by kernel_rfl) (by kernel_rfl) (by kernel_rfl) ⟨xA L,trivial⟩ (by kernel_rfl) (by kernel_rfl) (by kernel_rfl) (by kernel_rfl) ⟨xA _,trivial⟩ (by kernel_rfl))
theorem aTZ (p:Prog)(l:List ONode)(at0:Int)(funs cons w5:List Int)(vl0:List ONode)(l2:List Int)(i16:Int)(ua:Option Addr)(un uc:Nat) :
  (⟨{(zB p l at0 funs cons w5 vl0 l2 i16).as.fr with tm:= (zB p l at0 funs cons w5 vl0 l2 i16).as.fr.tm.put 91 (.val (.slice ua un uc))},(zB p l at0 funs cons w5 vl0 l2 i16).as.cs,(zB p l at0 funs cons w5 vl0 l2 i16).as.h.set 2 (.lstv (.slice ua un uc) 1 (map aY l2))⟩ :AS) = (aKX p l at0 funs cons w5 vl0 l2 i16 ua un uc).as:=by kernel_rfl
theorem aWT {p:Prog}{l:List ONode}{at0:Int}{funs cons w5:List Int}{vl0:List ONode}{l2:List Int}{i16:Int}{L:List ONode}(h0:0<l2.length)
  (hk:∀ua un uc,EndsL (aKX p l at0 funs cons w5 vl0 l2 i16 ua un uc) L) :EndsL (zB p l at0 funs cons w5 vl0 l2 i16) L:=by
 refine aSO (j:=91) (b:=2) (e:=1) (n:=length l2) (ex:=false) (xs:=map aY l2) (by kernel_rfl) (by kernel_rfl) (length_map ..) h0 (fun ua un uc=>?_);have:=hk ua un uc;unfold EndsL at this;rw [←aTZ]at this;exact this
theorem aKZ (l:List ONode)(y:ONode)(r:List ONode) : (l++y::r)[((length l:Nat) :Int).toNat]?=some y:=by simp
theorem tB (l:List ONode)(y:ONode)(r:List ONode) : (l++y::r)[length l]?=some y:=by simp
theorem aRV (l:List ONode)(y z:ONode)(r:List ONode) :set (l++y::r) (((length l:Nat) :Int).toNat) z=l++z::r:=by simp
theorem tC (l:List ONode)(y z:ONode)(r:List ONode) :set (l++y::r) (length l) z=l++z::r:=by simp
theorem EndsL.of {s:TS}{L L':List ONode}(h:EndsL s L)(e:L=L') :EndsL s L':=e ▸ h
section
variable (p :Prog) (funs cons:List Int) (k:Nat) (ih:∀ (L:List ONode) (c:Int) (ns:List Node),dA p funs cons k L.length c=some ns→aCG p funs cons c L ns)
 (l:List ONode) (at0 op n':Int) (ps':List Pat) (kids:List Int) (hkids:kids.length<1000000)
include ih hkids
theorem aRW (c:Int)(i:Nat)(kv:KV)(r0:List Node)(l2:List Int)(ns:List Node)(L:List ONode)(hc:kids[i]?=some c)(h0:0<l2.length)(hns:dA p funs cons k (l++ ⟨op,n',kv,ps'⟩ ::map Node.o r0).length c=some ns)
  (hk:∀u,EndsL (aKY p l at0 funs cons kids (l++ ⟨op,n',.val u,ps'⟩ ::map Node.o (r0++ns)) l2 u ((i+1:Nat) :Int)) L) :
  EndsL (zB p l at0 funs cons kids (l++ ⟨op,n',kv,ps'⟩ ::map Node.o r0) l2 (i:Int)) L:=by
 have hi:= (List.getElem?_eq_some_iff.1 hc).1;refine aWT h0 (fun ua un uc=>?_);have hs:=ih (l++ ⟨op,n',.val (.slice ua un uc),ps'⟩ ::map Node.o r0) c ns (by rw [←hns];simp);have hcall:=aWS hs (.slice ua un uc) l2;have h1:=bAb p l at0 funs cons kids (l++ ⟨op,n',kv,ps'⟩ ::map Node.o r0) l2 i ua un uc ⟨op,n',kv,ps'⟩ c ns (aKZ ..) sd (by simpa using hc) (by rw [aRV];exact hcall) sd;rw [aRV]at h1;refine h1.ends ?_;have:=hk (.slice ua un uc);rw [List.map_append]at this;rw [show(l++ ⟨op,n',.val (.slice ua un uc),ps'⟩ ::map Node.o r0) ++map Node.o ns=l++ ⟨op,n',.val (.slice ua un uc),ps'⟩ :: (map Node.o r0++map Node.o ns)by simp];exact this
theorem aNL :∀ (cs:List Int) (i:Nat) (u:Value) (r0:List Node) (ks0 ks:List Int) (r:List Node),kids.drop i=cs→ks0.length=i→0<i →
  jD (dA p funs cons k) (l.length+1+r0.length) cs=some (ks,r) →
  EndsL (aKY p l at0 funs cons kids (l++ ⟨op,n',.val u,ps'⟩ ::map Node.o r0) ks0 u (i:Int)) (l++map Node.o (⟨op,n',ks0++ks,ps'⟩ :: (r0++r)))
 | [],i,u,r0,ks0,ks,r,h,hl,hi,hm=>by
  have:=bA h;cases hm;have h1:=bAd p l at0 funs cons kids (l++ ⟨op,n',.val u,ps'⟩ ::map Node.o r0) ks0 u i ⟨op,n',.val u,ps'⟩ sd (tB ..) rfl;rw [tC]at h1;rw [append_nil,append_nil];exact h1
 | c ::cs,i,u,r0,ks0,ks,r,h,hl,hi,hm=>by
  obtain⟨g1,g2,g3⟩ :=aZ h;simp only [jD]at hm;split at hm
  · rename_i ns hns;split at hm
    · rename_i ks1 r1 hm1;cases hm;have hlen: (l++ (⟨op,n',.val u,ps'⟩ :ONode) ::map Node.o r0).length=l.length+1+r0.length:=by simp;omega
      refine(bAc p l at0 funs cons kids (l++ ⟨op,n',.val u,ps'⟩ ::map Node.o r0) ks0 u i ⟨op,n',.val u,ps'⟩ sd (by omega) (by rw [hlen];omega) (aKZ ..) rfl (by simp;omega)).ends ?_;refine aRW p funs cons k ih l at0 op n' ps' kids hkids c i (.val u) r0 _ ns _ g1 (by simp) (by rw [hlen];exact hns) (fun u'=>?_);have:=aNL cs (i+1) u' (r0++ns) (ks0++ [((l.length+1+r0.length:Nat) :Int)]) ks1 r1 g2 (by simp [hl]) (by omega) (by rw [List.length_append,←Nat.add_assoc];exact hm1);rw [hlen];exact this.of (by simp)
    ·cases hm
  ·cases hm
theorem aWU (ks:List Int)(r:List Node)(hm:jD (dA p funs cons k) (l.length+1) kids=some (ks,r)) :
  EndsL (aKW p l at0 funs cons kids (l++ [⟨op,n',.nil,ps'⟩])) (l++map Node.o (⟨op,n',ks,ps'⟩ ::r)) :=by
 cases kids with
 | nil=>
  cases hm;have h1:=bAa p l at0 funs cons [] (l++ [⟨op,n',.nil,ps'⟩]) ⟨op,n',.nil,ps'⟩ sd (tB ..) rfl;rw [tC]at h1;exact h1
 | cons c cs=>
  simp only [jD]at hm;split at hm
  · rename_i ns hns;split at hm
    · rename_i ks1 r1 hm1;cases hm;have hlen: (l++ [(⟨op,n',.nil,ps'⟩ :ONode)]).length=l.length+1:=by simp
      refine(aZ9 p l at0 funs cons (c::cs) (l++ [⟨op,n',.nil,ps'⟩]) ⟨op,n',.nil,ps'⟩ (by simp<;>omega) (by omega) (by rw [hlen];omega) (aKZ ..) rfl (by simp)).ends ?_;refine aRW p funs cons k ih l at0 op n' ps' (c::cs) hkids c 0 .nil [] _ ns _ rfl (by simp) (by simpa using hns) (fun u'=>?_);have:=aNL p funs cons k ih l at0 op n' ps' (c::cs) hkids cs 1 u' ns [((l.length+1:Nat) :Int)] ks1 r1 rfl rfl (by omega) hm1;rw [hlen];exact this.of (by simp)
    ·cases hm
  ·cases hm
end
theorem aNM (p:Prog)(funs cons:List Int)(l:List ONode)(at0 op n':Int)(kids:List Int)(ps:List Pat)(hps:bH ps<1000000)(hl:l.length<1000000)(L:List ONode) :∀ (t:List Pat) (i:Nat) (acc t':List Pat),ps.drop i=t→acc.length=i→mC cons t=some t' →
  EndsL (aKW p l at0 funs cons kids (l++ [⟨op,n',.nil,acc++t'⟩])) L→EndsL (aBz p l at0 funs cons op n' kids ps (i:Int) acc) L
 | [],i,acc,t',h,ha,ht,hk=>by
  have:=bA h;cases ht;rw [append_nil]at hk;exact(aZ8 p l at0 funs cons op n' kids ps i acc sd (by simp;omega)).ends hk
 | .mk f1 n1 s1 ps1::t,i,acc,t',h,ha,ht,hk=>by
  obtain⟨g1,g2,g3⟩ :=aZ h;have:=iW ps;simp only [mC]at ht;split at ht
  · rename_i p' hp';split at ht
    · rename_i t1 ht1;cases ht;obtain⟨f2,n2,s2,ps2⟩ :=p';rw [show acc++ .mk f2 n2 s2 ps2::t1= (acc++ [.mk f2 n2 s2 ps2]) ++t1 by simp]at hk;have h2:=aNM p funs cons l at0 op n' kids ps hps hl L t (i+1) (acc++ [.mk f2 n2 s2 ps2]) t1 g2 (by simp [ha]) ht1 (by exact hk);have h1:=aZ7 p l at0 funs cons op n' kids ps i acc f1 n1 s1 ps1 f2 n2 s2 ps2 sd sd sd (aGv cons ps hps (.mk f1 n1 s1 ps1) (mem_of_getElem? g1) _ hp') (by simp;omega) sd;exact h1.ends h2
    ·cases ht
  ·cases ht
theorem aT0 (p:Prog)(l:List ONode)(at0:Int)(funs cons:List Int){L:List ONode}{ns:List Node}(e:L=l++map Node.o ns)(h:EndsL (aWK p l at0 funs cons) L) :aCG p funs cons at0 l ns:=by
 subst e;exact⟨(aWK p l at0 funs cons).as.fr,by kernel_rfl,Eq.mp (by kernel_rfl) h⟩
theorem aK0 {n:Int}(h0: -1000000000≤n)(h1:n≤1000000000) :IntKind.i64.wrap (-1-n) = -1-n:=sd
theorem aGw (p:Prog)(funs cons:List Int) :∀ (k:Nat) (l:List ONode) (at0:Int) (ns:List Node),dA p funs cons k l.length at0=some ns→aCG p funs cons at0 l ns
 |0,l,at0,ns,h=>by cases h
 | k+1, l, at0, ns, h=>by
  simp only [dA]at h;split at h
  · rename_i hh;obtain⟨hat,hlen⟩ :=hh;split at h
    · rename_i y hy;split at h
      · rename_i hb;split at h
        · rename_i n' hn';split at h
          · rename_i ps' hps';split at h
            · rename_i ks r hks;cases h;have hC:=aNM p funs cons l at0 y.op n' y.kids y.pats hb.2 hlen _ y.pats 0 [] ps' rfl rfl hps' (aWU p funs cons k (aGw p funs cons k) l at0 y.op n' ps' y.kids hb.1 ks r hks);refine aT0 p l at0 funs cons rfl ?_;unfold mN at hn';split at hn'
              · rename_i h4;have ho: (y.op== (14:Int)) =false:=by rw [h4.1];rfl
                split at hn'
                · rename_i g hg;split at hn'
                  · rename_i hr;cases hn';exact(aZ3 p l at0 funs cons y g hat hy (by simp [h4.1]) (by simp [h4.2]) (aK0 (by omega) (by omega)) (by omega) hg (aK0 (by omega) (by omega)) ho).ends hC
                  ·cases hn'
                ·cases hn'
              · rename_i h4;split at hn'
                · rename_i h14;split at hn'
                  · rename_i h0;exact(aZ5 p l at0 funs cons y n' hat hy (by simp [h14]) (by simp [h14]) h0 hn').ends hC
                  ·cases hn'
                · rename_i h14;cases hn';by_cases ho:y.op=4
                  ·exact(aZ4 p l at0 funs cons y hat hy (by simp [ho]) (by simp;omega) (by simp [ho])).ends hC
                  ·exact(aZ6 p l at0 funs cons y hat hy (by simp [ho]) (by simp [h14])).ends hC
            ·cases h
          ·cases h
        ·cases h
      ·cases h
    ·cases h
  ·cases h
def bEi(a:Prog):TS:=cQ PP 99 [(Prog.av a)] [] 0
def bAe (a:Prog):=fun b=>(tT 0 (bEi a)<|.i [rn 6,.reg (rd 4 [.app (jC a.cons) a.cons.length,.d,.d])] [hA (length a.cons≤1000000),hr (jC a.cons),.q (p:=length (jC a.cons) =length a.cons) (length_map ..),hr (nI a.main),hr (nI a.main)]<|gy 1 1 3 2 2 Con.av a.cons false<|gE 0 3 (.agg [.nils,.nils,(nI a.main),(iC a.cons)])) b tv
def numsL (a:Int) :Nat→List Int
 |0=>[]
 |n+1=>numsL a n++ [a+ (n:Int)]
theorem tD (a:Int) :∀n,(numsL a n).length=n
 |0=>rfl
 |n+1=>by simp [numsL,tD a n]
theorem aIO (a:Int) :∀ {n i:Nat},i<n→ (numsL a n)[i]?=some (a+ (i:Int))
 | n+1,i,h=>by
  rw [numsL];by_cases hi:i<n
  ·rw [List.getElem?_append_left (by rw [tD];exact hi),aIO a hi]
  · have:i=n:=by omega
    subst this;rw [List.getElem?_append_right (by rw [tD];omega),tD];simp
theorem aIP (a:Int)(n:Nat)(hn:n<1000000)(ha: -1000000000≤a)(hb:a≤1000000000) :∀ (j i:Nat),i+j=n→Ends PP 0 (aFj a (n:Int) (i:Int) (numsL a i)).as (.ret (.ilst 1 (map aY (numsL a n)) false)) (aD [] 0)
 | 0,i,h=>by
  have:i=n:=by omega
  subst this;exact aWR a i i _ sd
 | j+1,i,h=>by
  have h1:=aWQ a n i (numsL a i) sd sd (by rw [List.length_append,tD];simp;omega) sd;exact h1.ends (aIP a n hn ha hb j (i+1) (by omega))
theorem aT1 (a:Int)(n:Nat)(hn:n<1000000)(ha: -1000000000≤a)(hb:a≤1000000000) :Pure PP 101 [.int .i64 a,.int .i64 (n:Int)] (.ilst 1 (map aY (numsL a n)) false) :=
 aV (by kernel_rfl) rfl rfl ((aWP a n).ends (aIP a n hn ha hb n 0 (by omega)))
theorem dP {f:Nat}{args:List AV}{v:AV}{s:TS}(e: (start PP f args).as=s.as)(hb:kR PP f=true)(hk:keylessL args=true)(hv:keyless v=true)(he:Ends PP 0 s.as (.ret v) (aD [] 0)) :Pure PP f args v:=
 aV hb hk hv (by rw [e];exact he)
theorem aWV {p:Prog}(h:p.cons.length≤1000000) :Pure PP 99 [PA p] (.agg [.nils,.nils,.int .i64 p.main,.ilst 2 (map Con.av p.cons) false]) :=
 dP (s:=bEi p) (by kernel_rfl) (by kernel_rfl) (by simp [keylessL,keyless]) (by simp [keylessL,keyless]) (bAe p h)
theorem aT2 {p:Prog}{funs cons:List Int}{k:Nat}{l ns:List Node}{c:Int}(h:dA p funs cons k l.length c=some ns) :
  aCp PP (.enter 100 [.gl 0 4 0 (length l) false,PA p,.int .i64 c,.ilst 1 (map aY funs) false,.ilst 1 (map aY cons) false]) (aD [(0,.lst 4 (map Node.av l),true)] 1)
   (.ret (.gl 0 4 0 (length (l++ns)) false)) (aD [(0,.lst 4 (map Node.av (l++ns)),true)] 1) :=by
 have:=aGw p funs cons k (map Node.o l) c ns (by rw [length_map];exact h);unfold aCG OL at this;rw [←List.map_append,aKw,aKw,length_map,length_map]at this;exact this
theorem aWW :Pure PP 166 [] (.ilst 1 (map aH kwL) false) :=
 dP (s:=bEh) (by kernel_rfl) (by kernel_rfl) rfl (by simp [keyless]) aZA
theorem aT3 (s:aB) :Pure PP 115 [aH s] (.bool (aQ kwL s)) :=
 aV (by kernel_rfl) rfl rfl (aVD s kwL _ aWW (aDu kwL s (by unfold kwL;simp)))
theorem aWX (s:aB)(l:List Nat){k n:Nat}(hk: (strOf l).length=k)(hn:aA (strOf l) =n) :bM (length s) (aA s) k n=decide (s=strOf l) :=by
 rw [←hk,←hn];exact eE s (strOf l)
theorem cN {s:aB}(l:List Nat){k n:Nat}(e:s=strOf l)(hk: (strOf l).length=k)(hn:aA (strOf l) =n) :bM (length s) (aA s) k n=true:=by rw [aWX s l hk hn];simp [e]
theorem dW {s:aB}(l:List Nat){k n:Nat}(e:¬s=strOf l)(hk: (strOf l).length=k)(hn:aA (strOf l) =n) :bM (length s) (aA s) k n=false:=by rw [aWX s l hk hn];simp [e]
theorem eB {l:List aB}{s:aB}(i:Nat){w:aB}(hi:l[i]?=some w)(e:s=w) :aQ l s=true:=by
 unfold aQ;exact List.any_eq_true.2 ⟨w,mem_of_getElem? hi,by simp [e]⟩
theorem aWY (s:aB) :Pure PP 162 [aH s] (.bool (aQ kwL s)) :=by
 refine aV (by kernel_rfl) rfl rfl ?_;by_cases e0:s=strOf [98,111,111,108]
 ·rw [eB 0 (by kernel_rfl) e0];exact aZF s (cN _ e0 (by kernel_rfl) (by kernel_rfl))
 have n0:=dW (k:=4) (n:=1819242338) _ e0 (by kernel_rfl) (by kernel_rfl);by_cases e1:s=strOf [99,101,108,108]
 ·rw [eB 1 (by kernel_rfl) e1];exact aZG s n0 (cN _ e1 (by kernel_rfl) (by kernel_rfl))
 have n1:=dW (k:=4) (n:=1819043171) _ e1 (by kernel_rfl) (by kernel_rfl);by_cases e2:s=strOf [99,104,97,110]
 ·rw [eB 2 (by kernel_rfl) e2];exact aZH s n0 n1 (cN _ e2 (by kernel_rfl) (by kernel_rfl))
 have n2:=dW (k:=4) (n:=1851877475) _ e2 (by kernel_rfl) (by kernel_rfl);by_cases e3:s=strOf [101,108,115,101]
 ·rw [eB 3 (by kernel_rfl) e3];exact aZI s n0 n1 n2 (cN _ e3 (by kernel_rfl) (by kernel_rfl))
 have n3:=dW (k:=4) (n:=1702063205) _ e3 (by kernel_rfl) (by kernel_rfl);by_cases e4:s=strOf [102,97,108,115,101]
 ·rw [eB 4 (by kernel_rfl) e4];exact aZJ s n0 n1 n2 n3 (cN _ e4 (by kernel_rfl) (by kernel_rfl))
 have n4:=dW (k:=5) (n:=435728179558) _ e4 (by kernel_rfl) (by kernel_rfl);by_cases e5:s=strOf [102,117,110]
 ·rw [eB 5 (by kernel_rfl) e5];exact aZK s n0 n1 n2 n3 n4 (cN _ e5 (by kernel_rfl) (by kernel_rfl))
 have n5:=dW (k:=3) (n:=7239014) _ e5 (by kernel_rfl) (by kernel_rfl);by_cases e6:s=strOf [103,101,116]
 ·rw [eB 6 (by kernel_rfl) e6];exact aZL s n0 n1 n2 n3 n4 n5 (cN _ e6 (by kernel_rfl) (by kernel_rfl))
 have n6:=dW (k:=3) (n:=7628135) _ e6 (by kernel_rfl) (by kernel_rfl);by_cases e7:s=strOf [105,102]
 ·rw [eB 7 (by kernel_rfl) e7];exact aZM s n0 n1 n2 n3 n4 n5 n6 (cN _ e7 (by kernel_rfl) (by kernel_rfl))
 have n7:=dW (k:=2) (n:=26217) _ e7 (by kernel_rfl) (by kernel_rfl);by_cases e8:s=strOf [105,110]
 ·rw [eB 8 (by kernel_rfl) e8];exact aZN s n0 n1 n2 n3 n4 n5 n6 n7 (cN _ e8 (by kernel_rfl) (by kernel_rfl))
 have n8:=dW (k:=2) (n:=28265) _ e8 (by kernel_rfl) (by kernel_rfl);by_cases e9:s=strOf [105,110,112,117,116]
 ·rw [eB 9 (by kernel_rfl) e9];exact aZO s n0 n1 n2 n3 n4 n5 n6 n7 n8 (cN _ e9 (by kernel_rfl) (by kernel_rfl))
 have n9:=dW (k:=5) (n:=500186508905) _ e9 (by kernel_rfl) (by kernel_rfl);by_cases e10:s=strOf [105,110,116]
 ·rw [eB 10 (by kernel_rfl) e10];exact aVE s n0 n1 n2 n3 n4 n5 n6 n7 n8 n9 (cN _ e10 (by kernel_rfl) (by kernel_rfl))
 have n10:=dW (k:=3) (n:=7630441) _ e10 (by kernel_rfl) (by kernel_rfl);by_cases e11:s=strOf [106,111,105,110]
 ·rw [eB 11 (by kernel_rfl) e11];exact aVF s n0 n1 n2 n3 n4 n5 n6 n7 n8 n9 n10 (cN _ e11 (by kernel_rfl) (by kernel_rfl))
 have n11:=dW (k:=4) (n:=1852403562) _ e11 (by kernel_rfl) (by kernel_rfl);by_cases e12:s=strOf [108,101,116]
 ·rw [eB 12 (by kernel_rfl) e12];exact aVG s n0 n1 n2 n3 n4 n5 n6 n7 n8 n9 n10 n11 (cN _ e12 (by kernel_rfl) (by kernel_rfl))
 have n12:=dW (k:=3) (n:=7628140) _ e12 (by kernel_rfl) (by kernel_rfl);by_cases e13:s=strOf [109,97,116,99,104]
 ·rw [eB 13 (by kernel_rfl) e13];exact aVH s n0 n1 n2 n3 n4 n5 n6 n7 n8 n9 n10 n11 n12 (cN _ e13 (by kernel_rfl) (by kernel_rfl))
 have n13:=dW (k:=5) (n:=448345170285) _ e13 (by kernel_rfl) (by kernel_rfl);by_cases e14:s=strOf [109,111,100,117,108,101]
 ·rw [eB 14 (by kernel_rfl) e14];exact aVI s n0 n1 n2 n3 n4 n5 n6 n7 n8 n9 n10 n11 n12 n13 (cN _ e14 (by kernel_rfl) (by kernel_rfl))
 have n14:=dW (k:=6) (n:=111516500389741) _ e14 (by kernel_rfl) (by kernel_rfl);by_cases e15:s=strOf [111,117,116]
 ·rw [eB 15 (by kernel_rfl) e15];exact aVJ s n0 n1 n2 n3 n4 n5 n6 n7 n8 n9 n10 n11 n12 n13 n14 (cN _ e15 (by kernel_rfl) (by kernel_rfl))
 have n15:=dW (k:=3) (n:=7632239) _ e15 (by kernel_rfl) (by kernel_rfl);by_cases e16:s=strOf [112,97,117,115,101]
 ·rw [eB 16 (by kernel_rfl) e16];exact aVK s n0 n1 n2 n3 n4 n5 n6 n7 n8 n9 n10 n11 n12 n13 n14 n15 (cN _ e16 (by kernel_rfl) (by kernel_rfl))
 have n16:=dW (k:=5) (n:=435728769392) _ e16 (by kernel_rfl) (by kernel_rfl);by_cases e17:s=strOf [112,117,116]
 ·rw [eB 17 (by kernel_rfl) e17];exact aVL s n0 n1 n2 n3 n4 n5 n6 n7 n8 n9 n10 n11 n12 n13 n14 n15 n16 (cN _ e17 (by kernel_rfl) (by kernel_rfl))
 have n17:=dW (k:=3) (n:=7632240) _ e17 (by kernel_rfl) (by kernel_rfl);by_cases e18:s=strOf [114,101,115,101,116]
 ·rw [eB 18 (by kernel_rfl) e18];exact aVM s n0 n1 n2 n3 n4 n5 n6 n7 n8 n9 n10 n11 n12 n13 n14 n15 n16 n17 (cN _ e18 (by kernel_rfl) (by kernel_rfl))
 have n18:=dW (k:=5) (n:=499918267762) _ e18 (by kernel_rfl) (by kernel_rfl);by_cases e19:s=strOf [115,101,110,100]
 ·rw [eB 19 (by kernel_rfl) e19];exact aVN s n0 n1 n2 n3 n4 n5 n6 n7 n8 n9 n10 n11 n12 n13 n14 n15 n16 n17 n18 (cN _ e19 (by kernel_rfl) (by kernel_rfl))
 have n19:=dW (k:=4) (n:=1684956531) _ e19 (by kernel_rfl) (by kernel_rfl);by_cases e20:s=strOf [115,104,105,102,116]
 ·rw [eB 20 (by kernel_rfl) e20];exact aVO s n0 n1 n2 n3 n4 n5 n6 n7 n8 n9 n10 n11 n12 n13 n14 n15 n16 n17 n18 n19 (cN _ e20 (by kernel_rfl) (by kernel_rfl))
 have n20:=dW (k:=5) (n:=499934390387) _ e20 (by kernel_rfl) (by kernel_rfl);by_cases e21:s=strOf [115,112,97,119,110]
 ·rw [eB 21 (by kernel_rfl) e21];exact aVP s n0 n1 n2 n3 n4 n5 n6 n7 n8 n9 n10 n11 n12 n13 n14 n15 n16 n17 n18 n19 n20 (cN _ e21 (by kernel_rfl) (by kernel_rfl))
 have n21:=dW (k:=5) (n:=474449277043) _ e21 (by kernel_rfl) (by kernel_rfl);by_cases e22:s=strOf [116,97,107,101]
 ·rw [eB 22 (by kernel_rfl) e22];exact aVQ s n0 n1 n2 n3 n4 n5 n6 n7 n8 n9 n10 n11 n12 n13 n14 n15 n16 n17 n18 n19 n20 n21 (cN _ e22 (by kernel_rfl) (by kernel_rfl))
 have n22:=dW (k:=4) (n:=1701536116) _ e22 (by kernel_rfl) (by kernel_rfl);by_cases e23:s=strOf [116,97,115,107]
 ·rw [eB 23 (by kernel_rfl) e23];exact aVR s n0 n1 n2 n3 n4 n5 n6 n7 n8 n9 n10 n11 n12 n13 n14 n15 n16 n17 n18 n19 n20 n21 n22 (cN _ e23 (by kernel_rfl) (by kernel_rfl))
 have n23:=dW (k:=4) (n:=1802723700) _ e23 (by kernel_rfl) (by kernel_rfl);by_cases e24:s=strOf [116,104,101,110]
 ·rw [eB 24 (by kernel_rfl) e24];exact aVS s n0 n1 n2 n3 n4 n5 n6 n7 n8 n9 n10 n11 n12 n13 n14 n15 n16 n17 n18 n19 n20 n21 n22 n23 (cN _ e24 (by kernel_rfl) (by kernel_rfl))
 have n24:=dW (k:=4) (n:=1852139636) _ e24 (by kernel_rfl) (by kernel_rfl);by_cases e25:s=strOf [116,114,117,101]
 ·rw [eB 25 (by kernel_rfl) e25];exact aVT s n0 n1 n2 n3 n4 n5 n6 n7 n8 n9 n10 n11 n12 n13 n14 n15 n16 n17 n18 n19 n20 n21 n22 n23 n24 (cN _ e25 (by kernel_rfl) (by kernel_rfl))
 have n25:=dW (k:=4) (n:=1702195828) _ e25 (by kernel_rfl) (by kernel_rfl);by_cases e26:s=strOf [116,121,112,101]
 ·rw [eB 26 (by kernel_rfl) e26];exact aVU s n0 n1 n2 n3 n4 n5 n6 n7 n8 n9 n10 n11 n12 n13 n14 n15 n16 n17 n18 n19 n20 n21 n22 n23 n24 n25 (cN _ e26 (by kernel_rfl) (by kernel_rfl))
 have n26:=dW (k:=4) (n:=1701869940) _ e26 (by kernel_rfl) (by kernel_rfl);by_cases e27:s=strOf [117,110,105,116]
 ·rw [eB 27 (by kernel_rfl) e27];exact aVV s n0 n1 n2 n3 n4 n5 n6 n7 n8 n9 n10 n11 n12 n13 n14 n15 n16 n17 n18 n19 n20 n21 n22 n23 n24 n25 n26 (cN _ e27 (by kernel_rfl) (by kernel_rfl))
 have n27:=dW (k:=4) (n:=1953066613) _ e27 (by kernel_rfl) (by kernel_rfl);have hno:aQ kwL s=false:=by
  unfold aQ kwL;simp only [List.any_cons,List.any_nil,Bool.or_false,Bool.or_eq_false_iff,decide_eq_false_iff_not];exact⟨fun h=>e0 h.symm,fun h=>e1 h.symm,fun h=>e2 h.symm,fun h=>e3 h.symm,fun h=>e4 h.symm,fun h=>e5 h.symm,fun h=>e6 h.symm,fun h=>e7 h.symm,fun h=>e8 h.symm,fun h=>e9 h.symm,fun h=>e10 h.symm,fun h=>e11 h.symm,fun h=>e12 h.symm,fun h=>e13 h.symm,fun h=>e14 h.symm,fun h=>e15 h.symm,fun h=>e16 h.symm,fun h=>e17 h.symm,fun h=>e18 h.symm,fun h=>e19 h.symm,fun h=>e20 h.symm,fun h=>e21 h.symm,fun h=>e22 h.symm,fun h=>e23 h.symm,fun h=>e24 h.symm,fun h=>e25 h.symm,fun h=>e26 h.symm,fun h=>e27 h.symm⟩
 rw [hno];exact aVW s n0 n1 n2 n3 n4 n5 n6 n7 n8 n9 n10 n11 n12 n13 n14 n15 n16 n17 n18 n19 n20 n21 n22 n23 n24 n25 n26 n27
def mJ (s:aB) :Bool:=decide (1≤s.length) &&decide (s.length≤8) &&fG s&& !aQ kwL s
theorem aGx (s:aB) :Pure PP 39 [aH s] (.bool (mJ s)) :=by
 refine aV (by kernel_rfl) rfl rfl ?_;unfold mJ;by_cases h1:1≤s.length
 · by_cases h2:s.length≤8
   · have hS:=aEy s (by omega);cases h3:fG s
     case true=>
      rw [h3]at hS;have:=aZB s true _ sd sd hS rfl (aT3 s);simpa [h1,h2]using this
     rw [h3]at hS;have:=aZC s false sd sd hS rfl;simpa [h1,h2]using this
   · have:=aZD s sd sd;simpa [h1,h2]using this
 · have:=aZE s sd;simpa [h1]using this
theorem aNN (s:aB) :Pure PP 107 [aH s] (.bool (mJ s)) :=by
 refine aV (by kernel_rfl) rfl rfl ?_;unfold mJ;by_cases h1:s= []
 · subst h1;have:=aZS [] (by rfl);simpa using this
 · have hpos:1≤s.length:=by cases s with
    |nil=>exact absurd rfl h1
    |cons _ _=>simp
   have h0: (!(bM (length s) (aA s) 0 0)) =true:=by
    have:=dW (k:=0) (n:=0) (s:=s) [] h1 rfl rfl;rw [this];rfl
   by_cases h2:s.length≤8
   · have hS:=aED s;cases h3:fG s
     case true=>
      rw [h3]at hS;have:=aZP s true _ h0 sd hS rfl (aWY s);simpa [hpos,h2]using this
     rw [h3]at hS;have:=aZQ s false h0 sd hS rfl;simpa [hpos,h2]using this
   · have:=aZR s h0 sd;simpa [hpos,h2]using this
theorem sdW {p:Prop}(h:p:=by simp_all only [inB_iff,inB_not,beq_iff_eq,decide_eq_true_eq,decide_eq_false_iff_not] <;>omega) :p:=h
theorem idW {p:Prop}(h:p:=by exact⟨_,List.getElem?_eq_getElem (by simp_all only [inB_iff,inB_not,beq_iff_eq,decide_eq_true_eq,decide_eq_false_iff_not] <;>omega)⟩) :p:=h
theorem aIQ (l:List Pat)(p:Prog)(hl:l.length<1000000)(ih:∀q∈l,Pure PP 258 [Prog.av p,Pat.av q] (.bool (cM p.cons q))) :
  ∀ (t:List Pat) (i:Nat),l.drop i=t→Ends PP 0 (aFe l p (i:Int)).as (.ret (.bool (bX p.cons t))) (aD [] 0)
 | [],i,h=>by
  have:=bA h;exact Ends.eqv (aWu l p i sd) (by simp [bX])
 | .mk f n s ps::t,i,h=>by
  obtain⟨g1,g2,g3⟩ :=aZ h;have hq:=ih (.mk f n s ps) (mem_of_getElem? g1);cases k:cM p.cons (.mk f n s ps)
  case false=>
   rw [k]at hq;exact Ends.eqv (aWs l p i f n s ps false sd sd sd hq rfl) (by simp [bX,k])
  rw [k]at hq;refine(aWt l p i f n s ps true sd sd sd hq rfl sd).ends ?_;exact Ends.eqv (aIQ l p hl ih t (i+1) g2) (by simp [bX,k])
theorem aT4 (l:List Pat)(p:Prog)(hl:l.length<1000000)(ih:∀q∈l,Pure PP 258 [Prog.av p,Pat.av q] (.bool (cM p.cons q))) :
  Pure PP 260 [.ilst 4 (av l) false,.func 258 [Prog.av p] []] (.bool (bX p.cons l)) :=
 aV (by kernel_rfl) (by simp [keylessL,keyless,Prog.av]) rfl ((aWr l p).ends (aIQ l p hl ih l 0 rfl))
theorem bFw (p:Prog)(t4 t9:Int)(t5:aB)(t0:List Pat)(hc:p.cons.length≤1000)(hev:Pure PP 260 [.ilst 4 (av t0) false,.func 258 [Prog.av p] []] (.bool (bX p.cons t0))) :
  Ends PP 0 (start PP 258 [Prog.av p,Pat.av (.mk t4 t9 t5 t0)]).as (.ret (.bool (cM p.cons (.mk t4 t9 t5 t0)))) (aD [] 0) :=by
 have hw:IntKind.i64.wrap ((p.cons.length:Int) -1) = (p.cons.length:Int) -1:=by apply wrap64<;>omega
 cases hb1: (!(bM (length t5) (aA t5) 0 0))
 case true=>exact Ends.eqv (aWh p t4 t9 t5 t0   hb1) (by clear hev;simp_all [cM,cX,fH,dO,hX] <;>rfl)
 cases hb2: (!(bX p.cons t0))
 case true=>exact Ends.eqv (aWi p t4 t9 t5 t0  (bX p.cons t0) hb1 hev hb2) (by clear hev;simp_all [cM,cX,fH,dO,hX] <;>rfl)
 cases hb3: (t4== (1:Int))
 case true=>
  cases hb4: (t9== (0:Int))
  case true=>exact Ends.eqv (aWj p t4 t9 t5 t0  (bX p.cons t0) hb1 hev hb2 hb3 hb4) (by clear hev;simp_all [cM,cX,fH,dO,hX] <;>rfl)
  exact Ends.eqv (aWk p t4 t9 t5 t0  (bX p.cons t0) hb1 hev hb2 hb3 hb4) (by clear hev;simp_all [cM,cX,fH,dO,hX] <;>rfl)
 cases hb5: (t4== (2:Int))
 case true=>
  cases hb6: (t9== (0:Int))
  case true=>exact Ends.eqv (aWl p t4 t9 t5 t0  (bX p.cons t0) hb1 hev hb2 hb3 hb5 hb6) (by clear hev;simp_all [cM,cX,fH,dO,hX] <;>rfl)
  exact Ends.eqv (aWm p t4 t9 t5 t0  (bX p.cons t0) hb1 hev hb2 hb3 hb5 hb6) (by clear hev;simp_all [cM,cX,fH,dO,hX] <;>rfl)
 cases hb7: (t4== (5:Int))
 case true=>
  cases hb8: (t9== (0:Int))
  case true=>exact Ends.eqv (aWn p t4 t9 t5 t0  (bX p.cons t0) hb1 hev hb2 hb3 hb5 hb7 hb8) (by clear hev;simp_all [cM,cX,fH,dO,hX] <;>rfl)
  exact Ends.eqv (aWo p t4 t9 t5 t0  (bX p.cons t0) hb1 hev hb2 hb3 hb5 hb7 hb8) (by clear hev;simp_all [cM,cX,fH,dO,hX] <;>rfl)
 cases hb9: (t4== (3:Int))
 case true=>
  cases hb10: (dG t9 (-1000000000) 1000000000)
  case true=>exact Ends.eqv (aWp p t4 t9 t5 t0  (bX p.cons t0) (dG t9 (-1000000000) 1000000000) hb1 hev hb2 hb3 hb5 hb7 hb9 (aDw t9) hb10) (by clear hev;simp_all [cM,cX,fH,dO,hX] <;>rfl)
  exact Ends.eqv (aWq p t4 t9 t5 t0  (bX p.cons t0) (dG t9 (-1000000000) 1000000000) hb1 hev hb2 hb3 hb5 hb7 hb9 (aDw t9) hb10) (by clear hev;simp_all [cM,cX,fH,dO,hX] <;>rfl)
 cases hb11: (t4== (4:Int))
 case true=>
  cases hb12: (dG t9 0 1)
  case true=>exact Ends.eqv (aTD p t4 t9 t5 t0  (bX p.cons t0) (dG t9 0 1) hb1 hev hb2 hb3 hb5 hb7 hb9 hb11 (gG t9 0 1) hb12) (by clear hev;simp_all [cM,cX,fH,dO,hX] <;>rfl)
  exact Ends.eqv (aTE p t4 t9 t5 t0  (bX p.cons t0) (dG t9 0 1) hb1 hev hb2 hb3 hb5 hb7 hb9 hb11 (gG t9 0 1) hb12) (by clear hev;simp_all [cM,cX,fH,dO,hX] <;>rfl)
 cases hb13: (t4== (6:Int))
 case true=>
  cases hb14: (dG t9 0 (IntKind.i64.wrap (((length p.cons:Nat) :Int) - (1:Int))))
  case true=>
   obtain⟨y2,hx15⟩ :∃y,((p.cons)[t9.toNat]?) =some y:=idW;exact Ends.eqv (aTF p t4 t9 t5 t0  (bX p.cons t0) (dG t9 0 (IntKind.i64.wrap (((length p.cons:Nat) :Int) - (1:Int)))) y2 hb1 hev hb2 hb3 hb5 hb7 hb9 hb11 hb13 (gG t9 0 (IntKind.i64.wrap (((length p.cons:Nat) :Int) - (1:Int)))) hb14 sdW hx15) (by clear hev;simp_all [cM,cX,fH,dO,hX] <;>rfl)
  exact Ends.eqv (aTG p t4 t9 t5 t0  (bX p.cons t0) (dG t9 0 (IntKind.i64.wrap (((length p.cons:Nat) :Int) - (1:Int)))) hb1 hev hb2 hb3 hb5 hb7 hb9 hb11 hb13 (gG t9 0 (IntKind.i64.wrap (((length p.cons:Nat) :Int) - (1:Int)))) hb14) (by clear hev;simp_all [cM,cX,fH,dO,hX] <;>rfl)
 exact Ends.eqv (aTH p t4 t9 t5 t0  (bX p.cons t0) hb1 hev hb2 hb3 hb5 hb7 hb9 hb11 hb13) (by clear hev;simp_all [cM,cX,fH,dO,hX] <;>rfl)
mutual
theorem aIR (p:Prog)(hc:p.cons.length≤1000) :∀ (q:Pat),cU q<1000000→Pure PP 258 [Prog.av p,Pat.av q] (.bool (cM p.cons q))
 | .mk f n s ps,h=>by
  refine aV (by kernel_rfl) (by simp [keylessL,qI,keyless,Prog.av]) rfl ?_;simp only [cU]at h;have:=iW ps;exact bFw p f n s ps hc (aT4 ps p (by omega) (aNO p hc ps (by omega)))
theorem aNO (p:Prog)(hc:p.cons.length≤1000) :∀ (ps:List Pat),bH ps<1000000→∀q∈ps,Pure PP 258 [Prog.av p,Pat.av q] (.bool (cM p.cons q))
 | [],_,q,hq=>by cases hq
 | r::ps,h,q,hq=>by
  simp only [bH]at h;rcases List.mem_cons.1 hq with e|hq
  ·rw [e];exact aIR p hc r (by omega)
  ·exact aNO p hc ps (by omega) q hq
end
def cS (op:Int) :Option Int:=
 if op=1∨op=2∨op=3∨op=4∨op=21∨op=25∨op=28 then some 0
 else if op=5∨op=27∨op=16∨op=17∨op=19∨op=20∨op=23∨op=26∨op=24 then some 1
 else if op=6∨op=7∨op=9∨op=10∨op=11∨op=12∨op=13∨op=18∨op=22 then some 2
 else if op=8 then some 3 else none
def bK (op:Int) :AV:=
 match cS op with
 |some k=>.iface 322 (.int .i64 k)
 |none=>if op=15 then .iface 305 (.agg [])else if op=14 then .iface 323 (.agg [])else .nili
theorem aNP {op k:Int}(h:cS op=some k)(pats args:Int) :dS op pats args=k∧op≠15∧op≠14:=by
 unfold cS at h;unfold dS;split at h
 ·rename_i g;rw [if_pos g];simp only [Option.some.injEq]at h;refine⟨h,?_,?_⟩ <;>omega
 · rename_i g0;rw [if_neg g0];split at h
   ·rename_i g;rw [if_pos g];simp only [Option.some.injEq]at h;refine⟨h,?_,?_⟩ <;>omega
   · rename_i g1;rw [if_neg g1];split at h
     ·rename_i g;rw [if_pos g];simp only [Option.some.injEq]at h;refine⟨h,?_,?_⟩ <;>omega
     · rename_i g2;rw [if_neg g2];split at h
       ·rename_i g;rw [if_pos g];simp only [Option.some.injEq]at h;refine⟨h,?_,?_⟩ <;>omega
       ·cases h
theorem aQz {op:Int}(h:cS op=none)(pats args:Int) :dS op pats args=if op=15 then 1+pats else if op=14 then args else -1:=by
 unfold cS at h;unfold dS;split at h
 ·cases h
 · rename_i g0;rw [if_neg g0];split at h
   ·cases h
   · rename_i g1;rw [if_neg g1];split at h
     ·cases h
     · rename_i g2;rw [if_neg g2];split at h
       ·cases h
       ·rename_i g;rw [if_neg g]
theorem aT5 (op:Int) :Ends PP 0 (start PP 255 [.int .i64 op]).as (.ret (bK op)) (aD [] 0) :=by
 cases hb1: (op== (1:Int))
 case true=>exact Ends.eqv (aNf op   hb1) (by simp_all [bK,cS])
 cases hb2: (op== (2:Int))
 case true=>exact Ends.eqv (aNg op   hb1 hb2) (by simp_all [bK,cS])
 cases hb3: (op== (3:Int))
 case true=>exact Ends.eqv (aNh op   hb1 hb2 hb3) (by simp_all [bK,cS])
 cases hb4: (op== (4:Int))
 case true=>exact Ends.eqv (aNi op   hb1 hb2 hb3 hb4) (by simp_all [bK,cS])
 cases hb5: (op== (21:Int))
 case true=>exact Ends.eqv (aNj op   hb1 hb2 hb3 hb4 hb5) (by simp_all [bK,cS])
 cases hb6: (op== (25:Int))
 case true=>exact Ends.eqv (aNk op   hb1 hb2 hb3 hb4 hb5 hb6) (by simp_all [bK,cS])
 cases hb7: (op== (28:Int))
 case true=>exact Ends.eqv (aNl op   hb1 hb2 hb3 hb4 hb5 hb6 hb7) (by simp_all [bK,cS])
 cases hb8: (op== (5:Int))
 case true=>exact Ends.eqv (aNm op   hb1 hb2 hb3 hb4 hb5 hb6 hb7 hb8) (by simp_all [bK,cS])
 cases hb9: (op== (27:Int))
 case true=>exact Ends.eqv (aNn op   hb1 hb2 hb3 hb4 hb5 hb6 hb7 hb8 hb9) (by simp_all [bK,cS])
 cases hb10: (op== (16:Int))
 case true=>exact Ends.eqv (aNo op   hb1 hb2 hb3 hb4 hb5 hb6 hb7 hb8 hb9 hb10) (by simp_all [bK,cS])
 cases hb11: (op== (17:Int))
 case true=>exact Ends.eqv (aKB op   hb1 hb2 hb3 hb4 hb5 hb6 hb7 hb8 hb9 hb10 hb11) (by simp_all [bK,cS])
 cases hb12: (op== (19:Int))
 case true=>exact Ends.eqv (aKC op   hb1 hb2 hb3 hb4 hb5 hb6 hb7 hb8 hb9 hb10 hb11 hb12) (by simp_all [bK,cS])
 cases hb13: (op== (20:Int))
 case true=>exact Ends.eqv (aKD op   hb1 hb2 hb3 hb4 hb5 hb6 hb7 hb8 hb9 hb10 hb11 hb12 hb13) (by simp_all [bK,cS])
 cases hb14: (op== (23:Int))
 case true=>exact Ends.eqv (aKE op   hb1 hb2 hb3 hb4 hb5 hb6 hb7 hb8 hb9 hb10 hb11 hb12 hb13 hb14) (by simp_all [bK,cS])
 cases hb15: (op== (24:Int))
 case true=>exact Ends.eqv (aKF op   hb1 hb2 hb3 hb4 hb5 hb6 hb7 hb8 hb9 hb10 hb11 hb12 hb13 hb14 hb15) (by simp_all [bK,cS])
 cases hb16: (op== (26:Int))
 case true=>exact Ends.eqv (aKG op   hb1 hb2 hb3 hb4 hb5 hb6 hb7 hb8 hb9 hb10 hb11 hb12 hb13 hb14 hb15 hb16) (by simp_all [bK,cS])
 cases hb17: (op== (6:Int))
 case true=>exact Ends.eqv (aKH op   hb1 hb2 hb3 hb4 hb5 hb6 hb7 hb8 hb9 hb10 hb11 hb12 hb13 hb14 hb15 hb16 hb17) (by simp_all [bK,cS])
 cases hb18: (op== (7:Int))
 case true=>exact Ends.eqv (aKI op   hb1 hb2 hb3 hb4 hb5 hb6 hb7 hb8 hb9 hb10 hb11 hb12 hb13 hb14 hb15 hb16 hb17 hb18) (by simp_all [bK,cS])
 cases hb19: (op== (9:Int))
 case true=>exact Ends.eqv (aKJ op   hb1 hb2 hb3 hb4 hb5 hb6 hb7 hb8 hb9 hb10 hb11 hb12 hb13 hb14 hb15 hb16 hb17 hb18 hb19) (by simp_all [bK,cS])
 cases hb20: (op== (10:Int))
 case true=>exact Ends.eqv (aKK op   hb1 hb2 hb3 hb4 hb5 hb6 hb7 hb8 hb9 hb10 hb11 hb12 hb13 hb14 hb15 hb16 hb17 hb18 hb19 hb20) (by simp_all [bK,cS])
 cases hb21: (op== (11:Int))
 case true=>exact Ends.eqv (aKL op   hb1 hb2 hb3 hb4 hb5 hb6 hb7 hb8 hb9 hb10 hb11 hb12 hb13 hb14 hb15 hb16 hb17 hb18 hb19 hb20 hb21) (by simp_all [bK,cS])
 cases hb22: (op== (12:Int))
 case true=>exact Ends.eqv (aKM op   hb1 hb2 hb3 hb4 hb5 hb6 hb7 hb8 hb9 hb10 hb11 hb12 hb13 hb14 hb15 hb16 hb17 hb18 hb19 hb20 hb21 hb22) (by simp_all [bK,cS])
 cases hb23: (op== (13:Int))
 case true=>exact Ends.eqv (aKN op   hb1 hb2 hb3 hb4 hb5 hb6 hb7 hb8 hb9 hb10 hb11 hb12 hb13 hb14 hb15 hb16 hb17 hb18 hb19 hb20 hb21 hb22 hb23) (by simp_all [bK,cS])
 cases hb24: (op== (18:Int))
 case true=>exact Ends.eqv (aKO op   hb1 hb2 hb3 hb4 hb5 hb6 hb7 hb8 hb9 hb10 hb11 hb12 hb13 hb14 hb15 hb16 hb17 hb18 hb19 hb20 hb21 hb22 hb23 hb24) (by simp_all [bK,cS])
 cases hb25: (op== (22:Int))
 case true=>exact Ends.eqv (aKP op   hb1 hb2 hb3 hb4 hb5 hb6 hb7 hb8 hb9 hb10 hb11 hb12 hb13 hb14 hb15 hb16 hb17 hb18 hb19 hb20 hb21 hb22 hb23 hb24 hb25) (by simp_all [bK,cS])
 cases hb26: (op== (8:Int))
 case true=>exact Ends.eqv (aKQ op   hb1 hb2 hb3 hb4 hb5 hb6 hb7 hb8 hb9 hb10 hb11 hb12 hb13 hb14 hb15 hb16 hb17 hb18 hb19 hb20 hb21 hb22 hb23 hb24 hb25 hb26) (by simp_all [bK,cS])
 cases hb27: (op== (14:Int))
 case true=>exact Ends.eqv (aKR op   hb1 hb2 hb3 hb4 hb5 hb6 hb7 hb8 hb9 hb10 hb11 hb12 hb13 hb14 hb15 hb16 hb17 hb18 hb19 hb20 hb21 hb22 hb23 hb24 hb25 hb26 hb27) (by simp_all [bK,cS])
 cases hb28: (op== (15:Int))
 case true=>exact Ends.eqv (aKS op   hb1 hb2 hb3 hb4 hb5 hb6 hb7 hb8 hb9 hb10 hb11 hb12 hb13 hb14 hb15 hb16 hb17 hb18 hb19 hb20 hb21 hb22 hb23 hb24 hb25 hb26 hb27 hb28) (by simp_all [bK,cS])
 exact Ends.eqv (aKT op   hb1 hb2 hb3 hb4 hb5 hb6 hb7 hb8 hb9 hb10 hb11 hb12 hb13 hb14 hb15 hb16 hb17 hb18 hb19 hb20 hb21 hb22 hb23 hb24 hb25 hb26 hb27 hb28) (by simp_all [bK,cS])
theorem aQA (op:Int) :keyless (bK op) =true:=by
 unfold bK;split
 ·rfl
 · split
   ·rfl
   ·split<;>rfl
theorem aK1 (op:Int) :Pure PP 255 [.int .i64 op] (bK op) :=
 aV (by kernel_rfl) rfl (aQA op) (aT5 op)
theorem aGy (p:Prog)(x:Node)(hc:p.cons.length≤1000)(hx:x.pats.length≤10) :
  ∀ (t:List Pat) (i:Nat),x.pats.drop i=t→Ends PP 0 (tA p x (i:Int)).as (.ret (.bool (t.all (iY p.cons)))) (aD [] 0)
 | [],i,h=>by
  have:=bA h;exact Ends.eqv (aTU p x i sd) (by simp)
 | .mk f n s ps::t,i,h=>by
  obtain⟨g1,g2,g3⟩ :=aZ h;have hs:=aGs (.mk f n s ps) 12 (by omega) (by omega);by_cases k:cU (.mk f n s ps) ≤12
  · have hg:qL (.mk f n s ps) 12≤12:= (aIL (.mk f n s ps) 12 (by omega)).2 (by omega);have hq:=aIR p hc (.mk f n s ps) (by omega);cases kq:cM p.cons (.mk f n s ps)
    case false=>
     rw [kq]at hq;exact Ends.eqv (aTR p x i f n s ps _ false sd sd sd hs (decide_eq_true hg) hq rfl) (by simp [iY,kq])
    rw [kq]at hq;refine(aTS p x i f n s ps _ true sd sd sd hs (decide_eq_true hg) hq rfl sd).ends ?_;exact Ends.eqv (aGy p x hc hx t (i+1) g2) (by simp [iY,k,kq])
  · have hg:¬qL (.mk f n s ps) 12≤12:=fun g=>k (by have:= (aIL (.mk f n s ps) 12 (by omega)).1 g;omega);exact Ends.eqv (aTT p x i f n s ps _ sd sd sd hs (decide_eq_false hg)) (by simp [iY,k])
theorem aQB (p:Prog)(x:Node)(hc:p.cons.length≤1000)(hf:p.funs.length≤1000)(hx:x.pats.length≤10)(hk:x.kids.length≤10) :Pure PP 229 [Prog.av p,Node.av x] (.bool (bJ p x)) :=by
 refine aV (by kernel_rfl) rfl rfl ?_;have hw:IntKind.i64.wrap ((p.cons.length:Int) -1) = (p.cons.length:Int) -1:=by apply wrap64<;>omega
 have hko:=aK1 x.op;have hn:=aKV p x hf;have hl:=aGy p x hc hx x.pats 0 rfl;cases kf:cS x.op
 case some k=>
  obtain⟨e1,e2,e3⟩ :=aNP kf (x.pats.length:Int) (gC p x);have ev:bK x.op= .iface 322 (.int .i64 k) :=by unfold bK;rw [kf]
  rw [ev]at hko;have en:bJ p x= (pA p x&&decide (x.pats.length=0) &&x.pats.all (iY p.cons) &&decide ((x.kids.length:Int) =k)) :=by
   simp only [bJ,fJ,pA,e1,if_neg e2,if_neg e3]
  rw [en];by_cases g0:x.pats.length=0
  · by_cases g1: (x.kids.length:Int) =k
    · have b1: (((length x.kids:Nat) :Int) ==k) =true:=by simp [g1]
      cases g2:pA p x
      case false=>
       rw [g2]at hn;exact Ends.eqv (aQu p x k false hko sd b1 hn rfl) (by simp)
      rw [g2]at hn;refine(aQt p x k true hko sd b1 hn rfl).ends ?_;exact Ends.eqv hl (by simp [g0,g1])
    · have b1: (((length x.kids:Nat) :Int) ==k) =false:=by simp [g1]
      exact Ends.eqv (aQv p x k hko sd b1) (by simp [g1])
  ·exact Ends.eqv (aTQ p x k hko sd) (by simp [g0])
 have e1:=aQz kf (x.pats.length:Int) (gC p x);by_cases h15:x.op=15
 · have ev:bK x.op= .iface 305 (.agg []) :=by unfold bK;rw [kf];simp only [h15,if_true]
   rw [ev]at hko;have en:bJ p x= (pA p x&&dG (x.pats.length:Int) 1 5&&x.pats.all (iY p.cons) &&decide ((x.kids.length:Int) =1+ (x.pats.length:Int))) :=by
    simp only [bJ,fJ,pA,e1,if_pos h15,if_neg (show ¬x.op=14 by omega)]
   rw [en];have hi:=gG (x.pats.length:Int) 1 5;cases g0:dG (x.pats.length:Int) 1 5
   case false=>
    rw [g0]at hi;exact Ends.eqv (aTL p x false hko hi rfl) (by simp)
   rw [g0]at hi;by_cases g1: (x.kids.length:Int) =1+ (x.pats.length:Int)
   · have b1: (((length x.kids:Nat) :Int) == ((1:Int) + ((length x.pats:Nat) :Int))) =true:=by simp [g1]
     cases g2:pA p x
     case false=>
      rw [g2]at hn;exact Ends.eqv (aTJ p x true false hko hi rfl sd b1 hn rfl) (by simp)
     rw [g2]at hn;refine(aTI p x true true hko hi rfl sd b1 hn rfl).ends ?_;exact Ends.eqv hl (by simp [g1])
   · have b1: (((length x.kids:Nat) :Int) == ((1:Int) + ((length x.pats:Nat) :Int))) =false:=by simp [g1]
     exact Ends.eqv (aTK p x true hko hi rfl sd b1) (by simp [g1])
 · by_cases h14:x.op=14
   · have ev:bK x.op= .iface 323 (.agg []) :=by unfold bK;rw [kf];simp [h14]
     rw [ev]at hko;have en:bJ p x= (dG x.n 0 ((p.cons.length:Int) -1) &&decide (x.pats.length=0) &&x.pats.all (iY p.cons) &&decide ((x.kids.length:Int) =gC p x)) :=by
      simp only [bJ,fJ,bP,e1,if_neg h15,if_pos h14,if_neg (show ¬x.op=1 by omega),if_neg (show ¬x.op=2 by omega),if_neg (show ¬x.op=4 by omega),if_neg (show ¬x.op=24 by omega)]
     rw [en];by_cases g0:x.pats.length=0
     · have hi:=gG x.n 0 ((p.cons.length:Int) -1);rw [←hw]at hi;cases g1:dG x.n 0 ((p.cons.length:Int) -1)
       case false=>
        rw [hw,g1,←hw]at hi;exact Ends.eqv (aTP p x false hko sd hi rfl) (by simp)
       rw [hw,g1,←hw]at hi;have hb:=inB_iff.1 g1;obtain⟨c,hcx⟩ :∃c,p.cons[x.n.toNat]?=some c:= ⟨_,List.getElem?_eq_getElem (by omega)⟩;have ea:gC p x=c.args:=by simp [gC,h14,g1,fH,hcx]
       rw [ea];by_cases g2: (x.kids.length:Int) =c.args
       · have b1: (((length x.kids:Nat) :Int) ==c.args) =true:=by simp [g2]
         have hnn:pA p x=true:=by simp [pA,h14]
         rw [hnn]at hn;refine(aTN p x true c true hko sd hi rfl (by omega) hcx b1 hn rfl).ends ?_;exact Ends.eqv hl (by simp [g0,g2])
       · have b1: (((length x.kids:Nat) :Int) ==c.args) =false:=by simp [g2]
         exact Ends.eqv (aTO p x true c hko sd hi rfl (by omega) hcx b1) (by simp [g2])
     ·exact Ends.eqv (aTM p x hko sd) (by simp [g0])
   · have ev:bK x.op= .nili:=by unfold bK;rw [kf];simp [h15,h14]
     rw [ev]at hko;have en:bJ p x=false:=by
      have:dS x.op x.pats.length (gC p x) = -1:=by rw [e1,if_neg h15,if_neg h14]
      have h2:¬ (x.kids.length:Int) = -1:=by omega
      simp [bJ,this,h2]
     rw [en];exact aQw p x hko
mutual
def aWZ :Pat→List aB
 | .mk f _ t ps=>if f=2 then [t]else aRX ps
def aRX :List Pat→List aB
 | [] =>[]
 |p::ps=>aWZ p++aRX ps
end
mutual
def bEj :Term→Nat
 | .mk _ _ _ ks _=>aW0 ks+1
def aW0 :List Term→Nat
 | [] =>0
 |t::ts=>bEj t+aW0 ts
end
end
end Go.Hb
