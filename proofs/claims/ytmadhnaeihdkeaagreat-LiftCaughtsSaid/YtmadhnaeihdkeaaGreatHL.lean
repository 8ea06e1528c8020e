/- A machine on abstract values, its soundness, ways, plain laws. -/
import Derived.Test.YtmadhnaeihdkeaaGreatHF
import Derived.Test.YtmadhnaeihdkeaaGreatHG
import Derived.Test.YtmadhnaeihdkeaaGreatHH
import Derived.Test.YtmadhnaeihdkeaaGreatHK
import Derived.Shelf.SlGeneric
import Derived.Shelf.SlIterI.Nil
import Derived.Shelf.SortM.Plain
import Derived.Shelf.SortM.SortNone
set_option linter.defProp false
set_option linter.unusedVariables false
set_option linter.unusedSimpArgs false
set_option linter.unusedSectionVars false
set_option maxRecDepth 100000
namespace Go.Hb
open AV (ilst keyless keylessL)
open List (drop length range' set take)
open Go.Proofs
set_option maxHeartbeats 1000000
noncomputable section
end
end Go.Hb
namespace Go.Hb
open AV (ilst keyless keylessL)
open List (drop length range' set take)
open Go.Proofs
set_option maxHeartbeats 1000000
mutual
theorem aVg {p:Prog}(e:FineP p) :∀ (t:XT) (a:Int) (f:Nat),IsTree p t a→p.nodes.length-a.toNat≤f→ (pre p f a).length=eO t
 | .mk o n i q,a,f,h,b=>by
  simp only [IsTree]at h;obtain⟨m,nd,d,rfl,rfl,rfl,j⟩ :=h;have l:= (zq0.1 d).1;obtain⟨_,_,hk⟩ :=e.node _ nd d
  match f,b with
  |0,b=>omega
  | g+1,b=>
   simp only [pre,d,eO,rY];rw [aDx e i nd.kids g j (fun k c=>by have:=hk k c;omega)]
theorem aDx {p:Prog}(b:FineP p) :∀ (a:List XT) (l:List Int) (g:Nat),aO p a l→ (∀k∈l,p.nodes.length-k.toNat≤g) → ((l.map (pre p g)).flatten).length=aG a
 | [],l,g,h,_=>by simp only [aO]at h;subst h;rfl
 | t::a,l,g,h,hk=>by
  simp only [aO]at h;obtain⟨k,f,rfl,e,d⟩ :=h;simp only [dS,aHt,pU,aG];rw [aVg b t k g e (hk k (dJ ..)),aDx b a f g d (fun x c=>hk x (dR _ c))]
end
theorem xN {p:Prog}(b:aE p=true)(a:aM p=true){ts:List XT}(e:aO p ts p.funs) :aG ts=p.nodes.length:=by
 obtain⟨d,_,_⟩ :=gW b a;obtain⟨_,c,_⟩ :=aMl b a;rw [←c,aDx d ts p.funs p.nodes.length e (fun k _=>by omega)]
theorem aJB {p:Prog}(a:aM p=true) :p.funs≠ [] :=fun e=>by
 simp only [aM,dI,dC]at a;have h:=a.1.1;simp [e,cZ]at h
end Go.Hb
namespace Go.Hb
open AV (ilst keyless keylessL)
open List (drop length range' set take)
open Go.Proofs
noncomputable section
end
end Go.Hb
namespace Go.Hb
open AV (ilst keyless keylessL)
open List (drop length range' set take)
open Go.Proofs
set_option maxHeartbeats 1000000
mutual
def stT :XT→Int→List Int
 | .mk o n ks ps,a=> (if(aVW (.mk o n ks ps)).isSome then [a]else []) ++aPq ks (a+1)
def aPq :List XT→Int→List Int
 | [],_=>[]
 |t::ts,a=>stT t a++aPq ts (a+ (eO t:Nat))
end
noncomputable section
end
section
variable (B :Int)
end
theorem nX {E:Emb}{e:Nat}{xs:List AV}{n:AV}{v:Value}(h:VR E (.tup [.ilst e xs true,n]) v) :VR E (.tup [.ilst e xs false,n]) v:=aWN h
end Go.Hb
namespace Go.Hb
open AV (ilst keyless keylessL)
open List (drop length range' set take)
open Go.Proofs
noncomputable section
def aWR(a b:Int)(c:List Pat)(d:List RT)(e:Int):TS:=cJ PP 106 [(.agg [(nI a),(nI b),(iP c),(.ilst 4 (RTs.av d) false)]),(nI e)] [] 0
def aRM (b e:Int)(c:List Pat)(f:List RT)(d:Int):=fun a g=>(tT 0 (aWR b e c f d)<|gpI 13 116 [(.agg [(nI b),(nI 0),.nils,(iP c)]),(nI d)]<|fun a=>gE 3 1 (nI a)) a g tv
end
end Go.Hb
namespace Go.Hb
open AV (ilst keyless keylessL)
open List (drop length range' set take)
open Go.Proofs
noncomputable section
open Go.Proofs Tryz
abbrev aRN (a:List ONode)(b:List Int)(c:Int)(d:List Con)(e:List Node):=aA [oC 0 [.nils,.nils,(nI 0),.nils],oC 1 [(.gl 2 4 0 a.length false),(.gl 6 1 0 (b++ [(a.length:Int)]).length false),(nI c),(.gl 4 2 0 d.length false)],oL 4 2 (jC d),oC 5 [(nI (a.length:Int))],oL 6 1 (jI (b++ [(a.length:Int)])),oL 7 4 (List.map ONode.av (a++List.map Node.o e))] 8
abbrev uI (a b:Int)(c:List Pat)(d:List RT):AV:=.agg [(nI a),(nI b),(iP c),(.ilst 4 (RTs.av d) false)]
abbrev aRO (a:Nat)(b:Prog):=oC a [(iN b.nodes),(iI b.funs),(nI b.main),(iC b.cons)]
abbrev aAF (a:Nat)(b c:Int)(d:List Pat)(e:List RT):=oC a [(nI b),(nI c),(iP d),(.ilst 4 (RTs.av e) false)]
abbrev aRP (a:Nat):=oC a [.nils,.nils,(nI 0),.nils]
abbrev aAG (a:Nat)(b:List ONode):=oL a 4 (List.map ONode.av b)
def aWS(a:Prog)(b:Int):TS:=cJ PP 102 [(Prog.av a),(nI b)] [] 0
def aBL(a:Prog)(l c d:Int)(e:List Int)(f:List Pat)(g i:Int)(j:List Pat)(k:Int)(b:List RT):TS:=⟨(tf 102 40 [kp 2 0,kp 4 1,kp 5 2,kp 6 3,(7,(nI k))] [kc f102 244,kl f102 244,.inBlock 0,kc f102 31]),[],[aRO 0 a,oC 1 [(nI 0),(nI 0),.nils,.nils],oC 2 [(nI c),(nI d),(iI e),(iP f)],oC 3 [(nI g),(nI i),(iP j),(.gl 4 4 0 b.length false)],oL 4 4 (RTs.av b)],5⟩
def aRQ(a:Prog):TS:=cJ PP 64 [(Prog.av a)] [] 0
def aBM(a:Prog)(c:Int)(b:List RT):TS:=⟨(tf 64 23 [kp 1 0,(2,.nils),(3,(.gl 1 4 0 b.length false)),(4,(nI c))] [kc f64 116,kl f64 116,.inBlock 0,kc f64 15]),[],[aRO 0 a,oL 1 4 (RTs.av b)],2⟩
def aRR(a:List ONode)(b c:Int)(d:List Pat)(e:List RT):TS:=cJ PP 108 [(.gl 0 4 0 a.length false),(uI b c d e)] [aAG 0 a] 1
def aG3(a:List ONode)(b c:Int)(d:List Pat)(e:List RT):TS:=⟨(tf 108 47 [(0,(.gl 0 4 0 (a++ [(ONode.mk b c KV.nil d)]).length false)),kp 3 1,(4,.nils),(5,(nI (a.length:Int))),(6,(nI 0))] [kc f108 244,kl f108 244,.inBlock 0,kc f108 31]),[],[oL 0 4 (List.map ONode.av (a++ [(ONode.mk b c KV.nil d)])),aAF 1 b c d e],2⟩
def nY(a:List ONode)(d e:Int)(f:List Pat)(g:List RT)(i:Int)(b:List ONode)(c:List Int):TS:=⟨(tf 108 47 [(0,(.gl 0 4 0 b.length false)),kp 3 1,(4,.nils),(5,(nI (a.length:Int))),(6,(nI i)),(36,(.gl 2 1 0 c.length false)),(38,(.ep 0 4 (0+ (a.length:Int).toNat) 2))] [ko f108 3912 13,kc f108 3913,.inBlock 1,kc f108 979,kl f108 244,.inBlock 0,kc f108 31]),[],[aAG 0 b,aAF 1 d e f g,oL 2 1 (jI c)],3⟩
def aDy(a:List ONode)(f g:Int)(i:List Pat)(j:List RT)(k:Int)(b:List ONode)(l:List Int)(c:Option Addr)(d e:Nat):TS:=⟨(tf 108 47 [(0,(.gl 0 4 0 b.length false)),kp 3 1,(4,.nils),(5,(nI (a.length:Int))),(6,(nI k)),(36,(.val (Value.slice c d e))),(38,(.ep 0 4 (0+ (a.length:Int).toNat) 2))] [ko f108 3912 13,kc f108 3913,.inBlock 1,kc f108 979,kl f108 244,.inBlock 0,kc f108 31]),[],[aAG 0 b,aAF 1 f g i j,(2,(.lstv (Value.slice c d e) 1 (jI l)),true)],3⟩
def aBN(b:List ONode)(c d:Int)(e:List Pat)(f:List RT)(a:List ONode)(g:List Int)(i:Value)(j:Int):TS:=⟨(tf 108 47 [(0,(.gl 0 4 0 a.length false)),kp 3 1,(4,.nils),(5,(nI (b.length:Int))),(6,(nI j))] [kc f108 244,kl f108 244,.inBlock 0,kc f108 31]),[],[aAG 0 a,aAF 1 c d e f,(2,(.lstv i 1 (jI g)),true)],3⟩
def aWT(a:List RT)(b:Int)(c:List Con):TS:=cJ PP 66 [(.ilst 4 (RTs.av a) false),(nI b),(iC c)] [] 0
def aBO(d:List RT)(e:Int)(a:List Con)(f:Int)(b:List ONode)(c:List Int):TS:=⟨(tf 66 36 [(0,(.ilst 4 (RTs.av d) false)),kp 6 0,kp 7 1,(8,(nI f))] [kc f66 116,kl f66 116,.inBlock 0,kc f66 15]),[],[aRP 0,oC 1 [(.gl 2 4 0 b.length false),(.gl 3 1 0 c.length false),(nI e),(.gl 4 2 0 a.length false)],aAG 2 b,oL 3 1 (jI c),oL 4 2 (jC a)],5⟩
def aRS(a:Prog):TS:=cJ PP 32 [(Prog.av a)] [] 0
def aRT (b:Prog)(c:Int):=fun a d e=>(tT 0 (aWS b c)<|gX Node.av 10 b.nodes c<|fun a=>.i [rn 23,.cnil 3 3 4] []<|gu 0 4 (RTs.av ([] :List RT))<|gv 0 3 3 (.gl 4 4 0 ([] :List RT).length false)<|.W 0 5 [0,1,2,3,4] (aBL b c a.op a.n a.kids a.pats a.op a.n a.pats 0 ([] :List RT))) a d e ⟨fY,trivial⟩
def aRU(i:Prog)(n o p:Int)(g:List Int)(q:List Pat)(j k:Int)(l:List Pat)(f:Int)(a:List RT):=tT 0 (aBL i n o p g q j k l f a)<|gl 6 aY g<|gd 2 24 (f< (g.length:Int)) (.y fun m:Int=>.y fun b:Int=>.y fun c:Int=>.y fun d:List Pat=>.y fun e:List RT=>.i [rn 4,.reg (rd 6 [.ans (.idx (aY m)),.d,.pure (uI b c d e),.d,.app (RTs.av (a++ [(RT.mk b c d e)])) (a++ [(RT.mk b c d e)]).length,.d,.d])] [hA (0≤f),.a (((g)[f.toNat]?) =some m) (bW (f:=aY)),hA (aK PP 102 [(Prog.av i),(nI m)] (uI b c d e)),.q (p:=0+a.length≤length (RTs.av a)) (aBx bR _),hA (length (a++ [(RT.mk b c d e)]) ≤1000000),.q (p:=take a.length (drop 0 (RTs.av a)) ++ (RTs.av [(RT.mk b c d e)]) = (RTs.av (a++ [(RT.mk b c d e)]))) (aBy bR _ _),.q (p:=a.length+length (RTs.av [(RT.mk b c d e)]) =length (a++ [(RT.mk b c d e)])) (aBz bR _ _),hr (AV.gl 4 4 0 a.length false),hr (AV.gl 4 4 0 a.length false)]<|gw 4 26 (f+ (1:Int))<|.W 3 7 [0,1,2,3,6] (aBL i n o p g q j k l (f+ (1:Int)) (a++ [(RT.mk b c d e)])))<|.i [rn 3,.cfrz 3 3 4 (RTs.av a)] [.q (p:=keylessL (RTs.av a) =true) fY,.q (p:=AV.frzOk 4 4 (RTs.av a) (RTs.av a) (.gl 4 4 0 a.length false)) (wY bR _)]<|gE 5 5 (uI j k l a)
def aRV:=fun a b c d e f g i j k l m n o p q r s t u v w=>aRU a b c d e f g i j k l|>.t r m n o p q s t u v w ⟨fY,trivial⟩
def aRW:=fun a b c d e f g i j k l m=>aRU a b c d e f g i j k l|>.f m tv
def aRX (a:Prog):=(tT 0 (aRQ a)<|.i [rn 16,.nilL 3 4] []<|gu 0 1 (RTs.av ([] :List RT))<|gs 0 3 (.gl 1 4 0 ([] :List RT).length false)<|.W 0 2 [0,1] (aBM a 0 ([] :List RT))) ⟨fY,trivial⟩
def aRY(f:Prog)(g:Int)(a:List RT):=tT 0 (aBM f g a)<|gl 6 aY f.funs<|gd 2 9 (g< (f.funs.length:Int)) (.y fun i:Int=>.y fun b:Int=>.y fun c:Int=>.y fun d:List Pat=>.y fun e:List RT=>.i [rn 4,.reg (rd 5 [.ans (.idx (aY i)),.d,.pure (uI b c d e),.d,.app (RTs.av (a++ [(RT.mk b c d e)])) (a++ [(RT.mk b c d e)]).length,.d])] [hA (0≤g),.a (((f.funs)[g.toNat]?) =some i) (bW (f:=aY)),hA (aK PP 102 [(Prog.av f),(nI i)] (uI b c d e)),.q (p:=0+a.length≤length (RTs.av a)) (aBx bR _),hA (length (a++ [(RT.mk b c d e)]) ≤1000000),.q (p:=take a.length (drop 0 (RTs.av a)) ++ (RTs.av [(RT.mk b c d e)]) = (RTs.av (a++ [(RT.mk b c d e)]))) (aBy bR _ _),.q (p:=a.length+length (RTs.av [(RT.mk b c d e)]) =length (a++ [(RT.mk b c d e)])) (aBz bR _ _)]<|gw 4 11 (g+1)<|.W 3 4 [0,3] (aBM f (g+1) (a++ [(RT.mk b c d e)])))<|.E 8 2 [1] (.gl 0 4 0 a.length false) [oL 0 4 (RTs.av a)] 1
def aRZ:=fun a b c d e f g i j k l m n o=>aRY a b c|>.t j d e f g i k l m n o ⟨fY,trivial⟩
def aR0:=fun a b c d=>aRY a b c|>.f d ⟨fY,trivial⟩
def aR1 (a:List ONode)(b c:Int)(d:List Pat)(e:List RT):=fun f=>(tT 0 (aRR a b c d e)<|ga 22 ONode.av a [(ONode.mk b c KV.nil d)]<|.W 9 4 [3,1] (aG3 a b c d e)) f ⟨(bL _ (fun _=>jL _) _),trivial⟩
def aR2(a:List ONode)(c d:Int)(e:List Pat)(f:List RT):=tT 0 (aG3 a c d e f)<|.i [rn 6,aL f] [.q (p:=((RTs.av f).length:Int) = (f.length:Int)) (fM bR _)]<|gd 2 23 (0< (f.length:Int)) (.i [rn 10,.ans (.ix)] [hA (0≤ (a.length:Int)),hA ((a.length:Int) < (((a++ [(ONode.mk c d KV.nil e)]).length:Nat) :Int))]<|.y fun b:ONode=>gj ONode.av 1 (a++ [(ONode.mk c d KV.nil e)]) ((a.length:Int).toNat) b<|.i [.set 32 .nils] [.a (b.kv=KV.nil) (congrArg KV.av)]<|.i [rn 3,.nilL 32 1] []<|gu 0 3 (jI ([] :List Int))<|gs 0 32 (.gl 3 1 0 ([] :List Int).length false)<|ga 0 aY ([] :List Int) [(((a++ [(ONode.mk c d KV.nil e)]).length:Nat) :Int)]<|.i [.ans (.ix)] [hA (0≤ (a.length:Int)),hA ((a.length:Int) < (((a++ [(ONode.mk c d KV.nil e)]).length:Nat) :Int))]<|.W 1 5 [0,1,4] (nY a c d e f 0 (a++ [(ONode.mk c d KV.nil e)]) (([] :List Int) ++ [(((a++ [(ONode.mk c d KV.nil e)]).length:Nat) :Int)])))<|.y fun b:ONode=>.i [rn 8,.lw 0 (List.map ONode.av (set (a++ [(ONode.mk c d KV.nil e)]) a.length (ONode.mk b.op b.n (KV.row []) b.pats)))] [.a ((a++ [(ONode.mk c d KV.nil e)])[a.length]?=some b) (p':=(List.map ONode.av (a++ [(ONode.mk c d KV.nil e)])) ≠ []) aRr,.a ((a++ [(ONode.mk c d KV.nil e)])[a.length]?=some b∧b.kv=KV.nil) (p':=VW (List.map ONode.av (a++ [(ONode.mk c d KV.nil e)])) (List.map ONode.av (set (a++ [(ONode.mk c d KV.nil e)]) a.length (ONode.mk b.op b.n (KV.row []) b.pats)))) fun⟨ha,hb⟩=>(aWF ha hb)]<|.i [.set 0 (.gl 0 4 0 (set (a++ [(ONode.mk c d KV.nil e)]) a.length (ONode.mk b.op b.n (KV.row []) b.pats)).length false)] [.q (p:=(AV.gl 0 4 0 (a++ [(ONode.mk c d KV.nil e)]).length false) = (.gl 0 4 0 (set (a++ [(ONode.mk c d KV.nil e)]) a.length (ONode.mk b.op b.n (KV.row []) b.pats)).length false)) (cE (jP ..).symm)]<|.i [.set 4 (.gl 0 4 0 (set (a++ [(ONode.mk c d KV.nil e)]) a.length (ONode.mk b.op b.n (KV.row []) b.pats)).length false)] [.q (p:=(AV.gl 0 4 0 (a++ [(ONode.mk c d KV.nil e)]).length false) = (.gl 0 4 0 (set (a++ [(ONode.mk c d KV.nil e)]) a.length (ONode.mk b.op b.n (KV.row []) b.pats)).length false)) (cE (jP ..).symm)]<|.i [.set 46 (.gl 0 4 0 (set (a++ [(ONode.mk c d KV.nil e)]) a.length (ONode.mk b.op b.n (KV.row []) b.pats)).length false)] [.q (p:=(AV.gl 0 4 0 (a++ [(ONode.mk c d KV.nil e)]).length false) = (.gl 0 4 0 (set (a++ [(ONode.mk c d KV.nil e)]) a.length (ONode.mk b.op b.n (KV.row []) b.pats)).length false)) (cE (jP ..).symm)]<|.E 0 2 [0] (.gl 0 4 0 (set (a++ [(ONode.mk c d KV.nil e)]) a.length (ONode.mk b.op b.n (KV.row []) b.pats)).length false) [oL 0 4 (List.map ONode.av (set (a++ [(ONode.mk c d KV.nil e)]) a.length (ONode.mk b.op b.n (KV.row []) b.pats)))] 1
def aR3:=fun c d e f g i j a b k l m=>aR2 c d e f g|>.t j a b i k l m a b ⟨(bL _ (fun _=>jL _) _),⟨kk,trivial⟩⟩
def aR4:=fun b c d e f g i a j=>aR2 b c d e f|>.f i g a ⟨a,j⟩ ⟨(bL _ (fun _=>jL _) _),trivial⟩
def aR5 (e:List ONode)(j k:Int)(l:List Pat)(g:List RT)(m:Int)(f:List ONode)(n:List Int)(b:Option Addr)(c d:Nat):=fun a o p q r i s t u v w=>(tT 0 (aDy e j k l g m f n b c d)<|.y fun a:ONode=>.i [.st (ONode.av a) (ONode.av (ONode.mk a.op a.n (KV.val (Value.slice b c d)) a.pats))] [.a (((f)[(e.length:Int).toNat]?) =some a) (eZ (f:=ONode.av)),hr (some (ONode.av (ONode.mk a.op a.n (KV.val (Value.slice b c d)) a.pats)))]<|.i [.lset 0 (List.map ONode.av (set f ((e.length:Int).toNat) (ONode.mk a.op a.n (KV.val (Value.slice b c d)) a.pats)))] [.q (p:=(List.map ONode.av f).set (0+ (e.length:Int).toNat) (ONode.av (ONode.mk a.op a.n (KV.val (Value.slice b c d)) a.pats)) = (List.map ONode.av (set f ((e.length:Int).toNat) (ONode.mk a.op a.n (KV.val (Value.slice b c d)) a.pats)))) (lB _ _ _ _)]<|.i [.set 0 (.gl 0 4 0 (set f ((e.length:Int).toNat) (ONode.mk a.op a.n (KV.val (Value.slice b c d)) a.pats)).length false)] [.q (p:=(AV.gl 0 4 0 f.length false) = (.gl 0 4 0 (set f ((e.length:Int).toNat) (ONode.mk a.op a.n (KV.val (Value.slice b c d)) a.pats)).length false)) (cE (jP ..).symm)]<|.y fun o:Int=>.y fun p:Int=>.y fun q:List Pat=>.y fun r:List RT=>giF bR 6 g m (RT.mk o p q r)<|.y fun i:List Node=>gk 1 (.enter 108 [(.gl 0 4 0 (set f ((e.length:Int).toNat) (ONode.mk a.op a.n (KV.val (Value.slice b c d)) a.pats)).length false),(uI o p q r)]) [oL 0 4 (List.map ONode.av (set f ((e.length:Int).toNat) (ONode.mk a.op a.n (KV.val (Value.slice b c d)) a.pats))),aAF 1 j k l g,(2,(.lstv (Value.slice b c d) 1 (jI n)),true)] 3 (.gl 3 4 0 ((set f ((e.length:Int).toNat) (ONode.mk a.op a.n (KV.val (Value.slice b c d)) a.pats)) ++List.map Node.o i).length false) [aAF 1 j k l g,(2,(.lstv (Value.slice b c d) 1 (jI n)),true),oL 3 4 (List.map ONode.av ((set f ((e.length:Int).toNat) (ONode.mk a.op a.n (KV.val (Value.slice b c d)) a.pats)) ++List.map Node.o i))] 4<|gw 6 25 (m+1)<|.W 3 4 [3,1,2] (aBN e j k l g ((set f ((e.length:Int).toNat) (ONode.mk a.op a.n (KV.val (Value.slice b c d)) a.pats)) ++List.map Node.o i) n (Value.slice b c d) (m+1))) a s o p q r t u i v w ⟨(bL _ (fun _=>jL _) _),⟨kk,trivial⟩⟩
def aR6(c:List ONode)(i j:Int)(k:List Pat)(e:List RT)(b:List ONode)(d:List Int)(f:Value)(g:Int):=tT 0 (aBN c i j k e b d f g)<|.i [rn 6,aL e] [.q (p:=((RTs.av e).length:Int) = (e.length:Int)) (fM bR _)]<|gd 2 23 (g< (e.length:Int)) (.i [rn 10,.ans (.ix)] [hA (0≤ (c.length:Int)),hA ((c.length:Int) < (b.length:Int))]<|.y fun a:ONode=>gj ONode.av 1 b ((c.length:Int).toNat) a<|.i [.set 32 (.val f)] [.a (a.kv=KV.val f) (congrArg KV.av)]<|.i [.unname 32 2] [hr f]<|.i [.set 32 (.gl 2 1 0 d.length false)] [.q (p:=(AV.gl 2 1 0 (jI d).length false) = (.gl 2 1 0 d.length false)) (cE (lP ..))]<|ga 3 aY d [(b.length:Int)]<|.i [.ans (.ix)] [hA (0≤ (c.length:Int)),hA ((c.length:Int) < (b.length:Int))]<|.W 1 5 [0,1,4] (nY c i j k e g b (d++ [(b.length:Int)])))<|.y fun a:ONode=>.i [rn 8,.vfrz 2 0 (List.map ONode.av (set b c.length (ONode.mk a.op a.n (KV.row d) a.pats)))] [.a (b[c.length]?=some a) (p':=(List.map ONode.av b) ≠ []) aRr,hk aY d,.a (b[c.length]?=some a∧a.kv=KV.val f) (p':=VQ f 1 (jI d) (List.map ONode.av b) (List.map ONode.av (set b c.length (ONode.mk a.op a.n (KV.row d) a.pats)))) fun⟨ha,hb⟩=>(aWG ha hb)]<|.i [.set 0 (.gl 0 4 0 (set b c.length (ONode.mk a.op a.n (KV.row d) a.pats)).length false)] [.q (p:=(AV.gl 0 4 0 b.length false) = (.gl 0 4 0 (set b c.length (ONode.mk a.op a.n (KV.row d) a.pats)).length false)) (cE (jP ..).symm)]<|.i [.set 4 (.gl 0 4 0 (set b c.length (ONode.mk a.op a.n (KV.row d) a.pats)).length false)] [.q (p:=(AV.gl 0 4 0 b.length false) = (.gl 0 4 0 (set b c.length (ONode.mk a.op a.n (KV.row d) a.pats)).length false)) (cE (jP ..).symm)]<|.i [.set 46 (.gl 0 4 0 (set b c.length (ONode.mk a.op a.n (KV.row d) a.pats)).length false)] [.q (p:=(AV.gl 0 4 0 b.length false) = (.gl 0 4 0 (set b c.length (ONode.mk a.op a.n (KV.row d) a.pats)).length false)) (cE (jP ..).symm)]<|.E 0 3 [0] (.gl 0 4 0 (set b c.length (ONode.mk a.op a.n (KV.row d) a.pats)).length false) [oL 0 4 (List.map ONode.av (set b c.length (ONode.mk a.op a.n (KV.row d) a.pats)))] 1
def aR7:=fun c d e f g i j k l m n a b o p q=>aR6 c d e f g i j k l|>.t n a b m o p q a b ⟨(bL _ (fun _=>jL _) _),⟨kk,trivial⟩⟩
def aR8:=fun b c d e f g i j k l m a n=>aR6 b c d e f g i j k|>.f m l a ⟨a,n⟩ ⟨(bL _ (fun _=>jL _) _),trivial⟩
def aR9 (b:List RT)(c:Int)(a:List Con):=fun d=>(tT 0 (aWT b c a)<|.i [rn 8,.appN (jC a) a.length] [hA (a.length≤1000000),hr (jC a),.q (p:=length (jC a) =a.length) (lP ..)]<|.i [rn 11,.cnil 2 0 4] []<|gu 0 3 (List.map ONode.av ([] :List ONode))<|gv 0 2 0 (.gl 3 4 0 ([] :List ONode).length false)<|.i [.cnil 2 1 1] []<|gu 0 4 (jI ([] :List Int))<|gv 0 2 1 (.gl 4 1 0 ([] :List Int).length false)<|.W 0 5 [0,2,3,4,1] (aBO b c a 0 ([] :List ONode) ([] :List Int))) d ⟨(bL _ (fun _=>jL _) _),⟨kk,⟨kk,trivial⟩⟩⟩
def aSa(e:List RT)(f:Int)(c:List Con)(g:Int)(a:List ONode)(b:List Int):=tT 0 (aBO e f c g a b)<|.i [rn 5,aL e] [.q (p:=((RTs.av e).length:Int) = (e.length:Int)) (fM bR _)]<|gd 2 16 (g< (e.length:Int)) (ga 12 aY b [(a.length:Int)]<|.y fun j:Int=>.y fun k:Int=>.y fun l:List Pat=>.y fun m:List RT=>.y fun i:List Node=>.i [rn 3,.reg (rd 4 [.ans (.idx (RT.av (RT.mk j k l m))),.d,.call (.gl 7 4 0 (a++List.map Node.o i).length false) (aRN a b f c i),.d,.d])] [hA (0≤g),.a (((e)[g.toNat]?) =some (RT.mk j k l m)) (hU bR),hA (Spec PP (.enter 108 [(.gl 2 4 0 a.length false),(uI j k l m)]) (aA [aRP 0,oC 1 [(.gl 2 4 0 a.length false),(.gl 6 1 0 (b++ [(a.length:Int)]).length false),(nI f),(.gl 4 2 0 c.length false)],aAG 2 a,oL 4 2 (jC c),oC 5 [(nI (a.length:Int))],oL 6 1 (jI (b++ [(a.length:Int)]))] 7) (.ret (.gl 7 4 0 (a++List.map Node.o i).length false)) (aRN a b f c i))]<|gw 4 18 (g+1)<|.W 3 8 [0,1,7,6,4] (aBO e f c (g+1) (a++List.map Node.o i) (b++ [(a.length:Int)])))<|.y fun d:List Node=>.i [rn 3,.lset 2 (jN d)] [.a (a=List.map Node.o d) (p':=(List.map ONode.av a) = (jN d)) aMm]<|.i [.cset 1 0 (.gl 2 4 0 d.length false)] [.a (d.length=a.length) (p':=(AV.gl 2 4 0 a.length false) = (.gl 2 4 0 d.length false)) (fun h=>(cE h.symm))]<|gy 0 1 0 2 4 Node.av d false<|gy 0 1 1 3 1 aY b false<|.E 5 5 [4] (.agg [(iN d),(iI b),(nI f),(.gl 0 2 0 c.length false)]) [oL 0 2 (jC c)] 1
def aSb:=fun a b c d e f g i j k l m n o p q r=>aSa a b c d e f|>.t m n g i j k l o p q r ⟨(bL _ (fun _=>jL _) _),⟨kk,⟨kk,trivial⟩⟩⟩
def aSc:=fun a b c d e f g i j k=>aSa a b c d e f|>.f i g j k ⟨kk,trivial⟩
def aMn(a:Prog):=tT 0 (aRS a)<|iE 9 22 [(Prog.av a)]<|fun b=>.b 2 5 (!b) (gE 6 1 (nI 2))<|iE 6 45 [(Prog.av a)]<|fun c=>.b 2 8 (!c) (gE 6 1 (nI 7))<|gE 7 1 (nI 0)
def aSd:=fun a b c d=>aMn a b c|>.t d tv
def aSe:=fun a b c d e f g=>aMn a b d|>.f e c f|>.t g tv
def aSf:=fun a b c d e f g=>aMn a b d|>.f e c f|>.f g tv
end
end Go.Hb
namespace Go.Hb
open AV (ilst keyless keylessL)
open List (drop length range' set take)
open Go.Proofs
set_option maxHeartbeats 1000000
mutual
theorem aJC {p:Prog}(b:aDn p) :∀ (t:XT) (a:Int),IsTree p t a→aK PP 102 [Prog.av p,.int .i64 a] (RT.av t)
 | .mk o n d i,a,h=>by
  simp only [IsTree]at h;obtain⟨g,nd,c,rfl,rfl,rfl,e⟩ :=h;obtain⟨f,_⟩ :=b nd (oG c);refine aH kR0 rfl (aC2 _) ((aRT p a nd g c).ends ?_);exact aJD b a nd.op nd.n nd.kids nd.pats f d [] 0 (by simpa using e) rfl
theorem aJD {p:Prog}(l:aDn p)(a o n:Int)(kids:List Int)(ps:List Pat)(hk:kids.length<1000000) :∀ (c b:List XT) (i:Nat),aO p c (kids.drop i) →b.length=i →
  Ends PP 0 (aBL p a o n kids ps o n ps (i:Int) b).as (.ret (RT.av (.mk o n (b++c) ps))) (aA [] 0)
 | [],b,i,h,j=>by
  simp only [aO]at h;have w:=bJ h;rw [rZ];exact aRW p a o n kids ps o n ps (i:Int) b sd
 | .mk f e d g::c,b,i,h,j=>by
  simp only [aO]at h;obtain⟨k,t,q,r,m⟩ :=h;obtain⟨v,s,u⟩ :=bH q;refine(aRV p a o n kids ps o n ps (i:Int) b k f e g d sd sd sd (aJC l (.mk f e d g) k r) (by simp;omega) sd).ends ?_;have:=aJD l a o n kids ps hk c (b++ [.mk f e d g]) (i+1) (by rw [s];exact m) (by simp [j]);rw [zq9]at this;exact this
end
theorem aJE {p:Prog}(j:aDn p)(hl:p.funs.length≤1000) :∀ (b a:List XT) (i:Nat),aO p b (p.funs.drop i) →a.length=i →
  Ends PP 0 (aBM p (i:Int) a).as (.ret (.gl 0 4 0 (length (a++b)) false)) (aA [(0,(.lst 4 (RTs.av (a++b))),true)] 1)
 | [],a,i,h,g=>by
  simp only [aO]at h;have t:=bJ h;rw [rZ];exact aR0 p (i:Int) a sd
 | .mk d c e f::b,a,i,h,g=>by
  simp only [aO]at h;obtain⟨k,q,m,n,l⟩ :=h;obtain⟨s,o,r⟩ :=bH m;refine(aRZ p (i:Int) a k d c f e sd sd sd (aJC j (.mk d c e f) k n) (by simp;omega) sd).ends ?_;have:=aJE j hl b (a++ [.mk d c e f]) (i+1) (by rw [o];exact l) (by simp [g]);rw [zq9]at this;exact this
theorem aSg {p:Prog}(a:aDn p)(hl:p.funs.length≤1000){ts:List XT}(h:aO p ts p.funs) :kY PP 0 (.enter 64 [Prog.av p]) (aA [] 0) (.ret (.gl 0 4 0 (length ts) false)) (aA [(0,(.lst 4 (RTs.av ts)),true)] 1) :=
 ⟨(aRQ p).as.fr,by kernel_rfl,(aRX p).ends (by simpa using aJE a hl ts [] 0 (by simpa using h) rfl)⟩
end Go.Hb
namespace Go.Hb
open AV (ilst keyless keylessL)
open List (drop length range' set take)
open Go.Proofs
set_option maxHeartbeats 1000000
theorem aPr {E:Emb}{v:Value}(h:VR E .nils v) :VR E (.ilst 1 (List.map aY []) false) v:=by
 simp only [VR]at h ⊢;subst h;exact⟨[],by simp [VRs],fun _ a=>by(cases a),.inl ⟨rfl,none,0,rfl,fun _=>rfl,fun h=>by(cases h)⟩⟩
theorem aSh (o n:Int)(ks:List XT)(ps:List Pat)(t:∀q∈ps,bU q≤1000)(s:∀q∈ps,bnm q=rnm q)(k:Int)(hk:0≤k∧k≤1000)(x:o=7→k≤1)(v:o=15→0<k→∃q,ps[(k-1).toNat]?=some q) :aK PP 106 [RT.av (.mk o n ks ps),.int .i64 k] (.int .i64 (cL o ps k)) :=by
 have r :aK PP 116 [Node.av ⟨o,0,[],ps⟩,.int .i64 k] (.int .i64 (cL o ps k)) :=by
  refine aH kR0 rfl rfl ?_;refine aDr o ps k (fun z=>Ends PP 0 _ (.ret (.int .i64 z)) _) (fun h=>?_) (fun h m u q j=>?_) v (fun h I=>?_)
  · by_cases a:o=5
    ·exact aE5 ⟨o,0,[],ps⟩ k (by simpa using a)
    · by_cases b:o=27
      ·exact aE6 ⟨o,0,[],ps⟩ k (by simpa using a) (by simpa using b)
      · have c:o=7∧k=1:=by omega
        have e:=aAy ⟨o,0,[],ps⟩ k (by simpa using a) (by simpa using b) (by simpa using c.1);rw [c.2]at e;rw [c.2];exact e
  · obtain⟨a,b,c,d⟩ :=q;have:=t _ (oG j);rw [s _ (oG j)];exact aE7 ⟨o,0,[],ps⟩ k a b c d _ (by simp;omega) (by simp;omega) (by simp;omega) (by simpa using m) sd sd (by omega) j (uD (.mk a b c d) (by omega))
  · have a:¬o=5:=fun e=>h (.inl e);have b:¬o=27:=fun e=>h (.inr (.inl e));by_cases c:o=7
    · have d:¬k=1:=fun e=>h (.inr (.inr ⟨c,e⟩));have p:k=0:=by have:=x c;omega
      have e:=aAy ⟨o,0,[],ps⟩ k (by simpa using a) (by simpa using b) (by simpa using c);rw [p]at e;rw [p];exact e
    · by_cases e:o=15
      ·exact aE8 ⟨o,0,[],ps⟩ k (by simpa using a) (by simpa using b) (by simpa using c) (by simpa using e) (by simp;omega)
      ·exact aE9 ⟨o,0,[],ps⟩ k (by simpa using a) (by simpa using b) (by simpa using c) (by simpa using e)
 refine aH kR0 (by simp [keylessL,keyless,aC2]) rfl ?_;refine aRM o n ps ks k _ (aPp r rfl (fun E i a K c g f l=>?_))
 match i,g,f with
 | 0,g,f=>
  simp only [aKb,Option.some.injEq]at g f;subst g f;simp only [VR]at l;obtain⟨G,rfl,f⟩ :=l;obtain⟨H,C,rfl,A,f⟩ :=f.cons_inv;obtain⟨J,F,rfl,y,f⟩ :=f.cons_inv;obtain⟨B,D,rfl,w,f⟩ :=f.cons_inv;show VR E (.agg [.int .i64 o,.int .i64 0,.ilst 1 (List.map aY []) false,.ilst 4 (Pats.av ps) false]) _;simp only [VR];exact⟨_,rfl,VRs.cons (by simpa only [VR]using A) (VRs.cons (by simpa only [VR]using y) (VRs.cons (aPr w) f))⟩
 |1,g,f=>simp at g f;subst g f;exact l
 |i+2,g,f=>simp at g
end Go.Hb
namespace Go.Hb
open AV (ilst keyless keylessL)
open List (drop length range' set take)
open Go.Proofs
set_option maxHeartbeats 1000000
theorem aAH {P:Program}{m:Nat}{s:AS}{v v':AV}{h h':Hp}(e:Ends P m s (.ret v) h)(z:mP m h h' v v') :Ends P m s (.ret v') h':=fun b E fr c w f fs r n a=>by
 obtain⟨q,d,x,j,⟨g,rfl,t⟩,k,u⟩ :=e b E fr c w f fs r n a;obtain⟨p,y,i,l,o⟩ :=z x d k;exact⟨_,d,p,j,⟨g,rfl,o g t⟩,i,u.trans l⟩
end Go.Hb
namespace Go.Hb
open AV (ilst keyless keylessL)
open List (drop length range' set take)
open Go.Proofs
set_option maxHeartbeats 1000000
end Go.Hb
namespace Go.Hb
open AV (ilst keyless keylessL)
open List (drop length range' set take)
open Go.Proofs
noncomputable section
end
end Go.Hb
namespace Go.Hb
open AV (ilst keyless keylessL)
open List (drop length range' set take)
open Go.Proofs
set_option maxHeartbeats 400000
noncomputable section
end
section
variable (B :Int) (hB:B≤1000000) (tg:Int)
end
end Go.Hb
namespace Go.Hb
open AV (ilst keyless keylessL)
open List (drop length range' set take)
open Go.Proofs
set_option maxHeartbeats 1000000
noncomputable section
abbrev LaS (t:XT)(L:List ONode)(ns:List Node) :Prop:=kY PP 0 (.enter 108 [.gl 0 4 0 (length L) false,RT.av t]) (aA [(0,OL L,true)] 1) (.ret (.gl 0 4 0 (length (L++List.map Node.o ns)) false)) (aA [(0,OL (L++List.map Node.o ns),true)] 1)
theorem aG4 (L:List ONode) :eG [(0,OL L,true)] := ⟨aX5 L,trivial⟩
theorem aSi (l:List ONode)(o n:Int)(ps:List Pat)(ks:List XT)(i:Int)(b:List ONode)(a:List Int)(e:Option Addr)(c d:Nat) :
  (⟨{(nY l o n ps ks i b a).as.fr with tm:= (nY l o n ps ks i b a).as.fr.tm.put 36 (.val (.slice e c d))},(nY l o n ps ks i b a).as.cs,(nY l o n ps ks i b a).as.h.set 2 (.lstv (.slice e c d) 1 (List.map aY a))⟩ :AS) = (aDy l o n ps ks i b a e c d).as:=by kernel_rfl
theorem aVh {l:List ONode}{o n:Int}{ps:List Pat}{ks:List XT}{i:Int}{g:List ONode}{a:List Int}{L:List ONode}(h:0<a.length)
  (hk:∀f c d,EndsL (aDy l o n ps ks i g a f c d) L) :EndsL (nY l o n ps ks i g a) L:=by
 refine aND (j:=36) (b:=2) (e:=1) (n:=length a) (ex:=false) (xs:=List.map aY a) kR0 kR0 (lP ..) h (fun f c d=>?_);have:=hk f c d;unfold EndsL at this;rw [←aSi]at this;exact this
section
variable (l :List ONode) (o n:Int) (ks:List XT) (ps:List Pat) (hkl:ks.length≤1000) (ih:∀t∈ks,∀ (M:List ONode),M.length+eO t≤1000000→LaS t M (xM t M.length))
include hkl ih
theorem aSj (t:XT)(i:Nat)(kv:KV)(a:List Node)(g:List Int)(L:List ONode)(hc:ks[i]?=some t)(w:0<g.length)(hb:l.length+1+a.length+eO t≤1000000)
  (hk:∀u,EndsL (aBN l o n ps ks (l++ ⟨o,n,.val u,ps⟩ ::List.map Node.o (a++xM t (l.length+1+a.length))) g u ((i+1:Nat) :Int)) L) :
  EndsL (nY l o n ps ks (i:Int) (l++ ⟨o,n,kv,ps⟩ ::List.map Node.o a) g) L:=by
 have y:= (zq0.1 hc).1;refine aVh w (fun c b d=>?_);have e: (l++ (⟨o,n,.val (.slice c b d),ps⟩ :ONode) ::List.map Node.o a).length=l.length+1+a.length:=by simp;omega
 have k:=ih t (oG hc) (l++ ⟨o,n,.val (.slice c b d),ps⟩ ::List.map Node.o a) (by rw [e];omega);rw [e]at k;have h:=hk (.slice c b d);generalize xM t (l.length+1+a.length) =j at k h;obtain⟨q,r,v,s⟩ :=t
 have f:Spec PP (.enter 108 [(.gl 0 4 0 (length (l++ (⟨o,n,.val (.slice c b d),ps⟩ :ONode) ::List.map Node.o a)) false),RT.av (.mk q r v s)]) (aA [(0,OL (l++ (⟨o,n,.val (.slice c b d),ps⟩ :ONode) ::List.map Node.o a),true),(1,(.cells (putCells .leaf 0 [(.int .i64 o),(.int .i64 n),(.ilst 4 (Pats.av ps) false),(.ilst 4 (RTs.av ks) false)]) 4 [] false),false),(2,(.lstv (Value.slice c b d) 1 (List.map aY g)),true)] 3)
   (.ret (.gl 3 4 0 (length ((l++ (⟨o,n,.val (.slice c b d),ps⟩ :ONode) ::List.map Node.o a) ++List.map Node.o j)) false)) (aA [(1,(.cells (putCells .leaf 0 [(.int .i64 o),(.int .i64 n),(.ilst 4 (Pats.av ps) false),(.ilst 4 (RTs.av ks) false)]) 4 [] false),false),(2,(.lstv (Value.slice c b d) 1 (List.map aY g)),true),(3,OL ((l++ (⟨o,n,.val (.slice c b d),ps⟩ :ONode) ::List.map Node.o a) ++List.map Node.o j),true)] 4) :=
  sg3 (m:=0) (ks:=[0]) k kR0 kR0 (aG4 _) (aG4 _)
 have p:=aR5 l o n ps ks (i:Int) (l++ ⟨o,n,kv,ps⟩ ::List.map Node.o a) g c b d ⟨o,n,kv,ps⟩ q r s v j (aG2 ..) sd (by simpa using hc) (by rw [aM5];exact f) sd;rw [aM5]at p;refine p.ends ?_;have x: (l++ (⟨o,n,.val (.slice c b d),ps⟩ :ONode) ::List.map Node.o a) ++List.map Node.o j=l++ ⟨o,n,.val (.slice c b d),ps⟩ ::List.map Node.o (a++j) :=by simp
 rw [x];exact h
theorem aNd :∀ (d:List XT) (i:Nat) (u:Value) (a:List Node) (c:List Int),ks.drop i=d→c.length=i→0<i→l.length+1+a.length+aG d≤1000000 →
  EndsL (aBN l o n ps ks (l++ ⟨o,n,.val u,ps⟩ ::List.map Node.o a) c u (i:Int)) (l++List.map Node.o (⟨o,n,c++ (hM d (l.length+1+a.length)).1,ps⟩ :: (a++ (hM d (l.length+1+a.length)).2)))
 | [],i,u,a,c,h,hk,k,_=>by
  have:=bJ h;have e:=aR8 l o n ps ks (l++ ⟨o,n,.val u,ps⟩ ::List.map Node.o a) c u (i:Int) ⟨o,n,.val u,ps⟩ sd (aJy ..) rfl;rw [aJz]at e;rw [hM];simp only [rZ];exact e
 | t::d,i,u,a,c,h,hk,k,hb=>by
  obtain⟨j,m,p⟩ :=bH h;simp only [aG]at hb;have b: (l++ (⟨o,n,.val u,ps⟩ :ONode) ::List.map Node.o a).length=l.length+1+a.length:=by simp;omega
  refine(aR7 l o n ps ks (l++ ⟨o,n,.val u,ps⟩ ::List.map Node.o a) c u (i:Int) ⟨o,n,.val u,ps⟩ sd (by omega) (by rw [b];omega) (aG2 ..) rfl (by simp;omega)).ends ?_;refine aSj l o n ks ps hkl ih t i (.val u) a _ _ j (by simp) (by omega) (fun f=>?_);have g:=zT t (l.length+1+a.length);have:=aNd d (i+1) f (a++xM t (l.length+1+a.length)) (c++ [((l.length+1+a.length:Nat) :Int)]) m (by simp [hk]) (by omega) (by rw [pU];omega);rw [b];rw [hM];rw [pU,←Nat.add_assoc]at this;simp only [zq9,List.singleton_append]at this ⊢;exact this
theorem aVi (hb:l.length+1+aG ks≤1000000) :
  EndsL (aG3 l o n ps ks) (l++List.map Node.o (⟨o,n,(hM ks (l.length+1)).1,ps⟩ :: (hM ks (l.length+1)).2)) :=by
 cases a:ks with
 | nil=>
  subst a;have d:=aR4 l o n ps [] ⟨o,n,.nil,ps⟩ (by simp) (aJy ..) rfl;rw [aJz]at d;rw [hM];exact d
 | cons t c=>
  have h:ks[0]?=some t:=by rw [a];rfl
  rw [←a];have b: (l++ [(⟨o,n,.nil,ps⟩ :ONode)]).length=l.length+1:=by simp
  have g:eO t+aG c=aG ks:=by rw [a,aG]
  have ep:hM ks (l.length+1) =hM (t::c) (l.length+1) :=by rw [a]
  have f:=zT t (l.length+1);refine(aR3 l o n ps ks ⟨o,n,.nil,ps⟩ (by rw [a];simp) (by omega) (by rw [b];omega) (aG2 ..) rfl (by simp)).ends ?_;refine aSj l o n ks ps hkl ih t 0 .nil [] _ _ h (by simp) (by simp;omega) (fun e=>?_);have:=aNd l o n ks ps hkl ih c 1 e (xM t (l.length+1)) [((l.length+1:Nat) :Int)] (by rw [a];rfl) rfl (by omega) (by omega);rw [b,ep,hM];exact this
end
mutual
theorem aNe {B:Int}:∀ (t:XT),FineX B t→ (∀L:List ONode,L.length+eO t≤1000000→LaS t L (xM t L.length))
 | .mk o n a b,c=>fun L hb=>by
  simp only [FineX]at c;obtain⟨_,e,f,_,_,g,d⟩ :=c;simp only [eO]at hb;rw [xM];refine⟨(aRR L o n b a).as.fr,by kernel_rfl,?_⟩;exact(aR1 L o n b a (by simp;omega)).ends (aVi L o n a b e (aSk a d) (by omega))
theorem aSk {B:Int}:∀ (b:List XT),FineXs B b→∀t∈b,∀ (M:List ONode),M.length+eO t≤1000000→LaS t M (xM t M.length)
 | [],_,t,a=>by cases a
 | k::b,c,t,a=>by
  simp only [FineXs]at c;rcases zq7.1 a with e|a
  ·rw [e];exact aNe k c.1
  ·exact aSk b c.2 t a
end
theorem aWU {s:AS}{a:List Node}{fs:List Int}{mn:Int}{cs:List Con}(e:Ends PP 0 s (.ret (.agg [(.ilst 4 (List.map Node.av a) false),(.ilst 1 (List.map aY fs) false),(.int .i64 mn),(.gl 0 2 0 (length cs) false)])) (aA [(0,(.lst 2 (List.map Con.av cs)),true)] 1)) :
  Ends PP 0 s (.ret (Prog.av ⟨a,fs,mn,cs⟩)) (aA [] 0) :=by
 have z:=pJ (m:=0) (h:=aA [(0,(.lst 2 (List.map Con.av cs)),true)] 1)
  (b:=0) (e:=2) (xs:=List.map Con.av cs) (ys:=List.map Con.av cs) (v:=.agg [(.ilst 4 (List.map Node.av a) false),(.ilst 1 (List.map aY fs) false),(.int .i64 mn),(.gl 0 2 0 (length cs) false)]) kR0 (bL _ (fun _=>rfl) _)
  (by
   simp only [AV.frzOk,AV.frzOkL,true_and,and_true];intro _;exact⟨by simp,by rw [List.drop_zero,aBg (by simp)]⟩) (Nat.zero_le _)
 have d:=aAH e z;have c:Ends PP 0 s (.ret (Prog.av ⟨a,fs,mn,cs⟩)) (aA [] 1) :=Eq.mp kR0 d;exact mY (ks:=[]) (l:=[]) (nb:=0) c kR0 kR0 kR0 trivial
theorem aJF (ts:List XT)(mn:Int)(cs:List Con){B:Int}(hl:ts.length≤1000) :∀ (d:List XT) (i:Nat) (a:List Node) (c:List Int),ts.drop i=d→FineXs B d→a.length+aG d≤100000→c.length=i →
  Ends PP 0 (aBO ts mn cs (i:Int) (List.map Node.o a) c).as (.ret (Prog.av ⟨a++ (hM d a.length).2,c++ (hM d a.length).1,mn,cs⟩)) (aA [] 0)
 | [],i,a,c,h,_,_,_=>by
  have:=bJ h;have e:=aSc ts mn cs (i:Int) (List.map Node.o a) c a sd rfl (by simp);simp only [hM,rZ];exact aWU e
 | .mk f o n k::d,i,a,c,h,l,hb,q=>by
  obtain⟨t,r,s⟩ :=bH h;simp only [FineXs]at l;simp only [aG]at hb;have b: (List.map Node.o a).length=a.length:=by simp
  have j:=aNe _ l.1 (List.map Node.o a) (by rw [b];omega);rw [b]at j;rw [hM];have g:=zT (.mk f o n k) a.length;generalize xM (.mk f o n k) a.length=p at j g ⊢;have st:=aSb ts mn cs (i:Int) (List.map Node.o a) c f o k n p sd (by simp;omega) sd sd (sg3 (m:=0) (ks:=[2]) j kR0 kR0 (aG4 _) (aG4 _)) sd;refine st.ends ?_;rw [b,←aNr];have e:=aJF ts mn cs hl d (i+1) (a++p) (c++ [((a.length:Nat) :Int)]) r l.2 (by rw [pU];omega) (by simp [q]);rw [pU]at e;simp only [zq9,List.singleton_append]at e ⊢;exact e
theorem aSl (ts:List XT)(mn:Int)(cs:List Con){B:Int}(hl:ts.length≤1000)(hc:cs.length≤1000000)(a:FineXs B ts)(b:aG ts≤100000) :aK PP 66 [.ilst 4 (RTs.av ts) false,.int .i64 mn,.ilst 2 (List.map Con.av cs) false] (Prog.av (aNc ts mn cs)) :=by
 refine aH kR0 (by simp [keylessL,keyless]) rfl ((aR9 ts mn cs hc).ends ?_);have e:=aJF ts mn cs hl ts 0 [] [] rfl a (by simpa using b) rfl;exact e
end
end Go.Hb
namespace Go.Hb
open AV (ilst keyless keylessL)
open List (drop length range' set take)
open Go.Proofs
set_option maxHeartbeats 1000000
section
variable {B :Int} (hB:B≤1000000) (p:Prog)
end
end Go.Hb
namespace Go.Hb
open AV (ilst keyless keylessL)
open List (drop length range' set take)
open Go.Proofs
set_option maxHeartbeats 1000000
section
variable {C :Pat→Prop}
end
end Go.Hb
namespace Go.Hb
open AV (ilst keyless keylessL)
open List (drop length range' set take)
open Go.Proofs
set_option maxHeartbeats 1000000
def vQ :List Int→Int→List Int
 | [],n=>[n]
 |a::l,n=>if a<n then a::vQ l n else if a=n then a::l else n::a::l
def eJ :List Int→List Int→List Int
 |l,[] =>l
 |l,n::t=>eJ (vQ l n) t
def aDz (b o n:Int) :List Int:=if o=4∧0≤n∧n<b then [n]else []
mutual
def hJ (b:Int) :XT→List Int
 | .mk o n ks _=>nD b (aDz b o n) ks
def nD (b:Int) :List Int→List XT→List Int
 |out,[] =>out
 |out,k::ks=>nD b (eJ out (hJ b k)) ks
end
mutual
def sE (b:Int) :XT→List (Int×Bool) →List (Int×Bool)
 | .mk o n ks _,m=>lO b ks (if o=4∧0≤n∧n<b then dN n true m else m)
def lO (b:Int) :List XT→List (Int×Bool) →List (Int×Bool)
 | [],m=>m
 |k::ks,m=>lO b ks (sE b k m)
end
def Inc (l:List Int) :Prop:=l.Pairwise fun a b=>a<b
theorem aDA (n x:Int) :∀l:List Int,x∈vQ l n↔x=n∨x∈l
 | [] =>by simp [vQ]
 | a ::l=>by
  rw [vQ];split
  ·rw [zq7,aDA n x l,zq7];exact⟨fun h=>by rcases h with h|h|h<;>simp [h],fun h=>by rcases h with h|h|h<;>simp [h]⟩
  · split
    ·rename_i e;subst e;simp
    ·simp
theorem aJG (n:Int) :∀l:List Int,Inc l→Inc (vQ l n)
 | [],_=>by simp [vQ,Inc]
 | a ::l,h=>by
  have c:=List.pairwise_cons.1 h;rw [vQ];split
  · refine List.pairwise_cons.2 ⟨fun x b=>?_,aJG n l c.2⟩;rcases(aDA n x l).1 b with rfl|b
    ·assumption
    ·exact c.1 x b
  · split
    ·exact h
    · refine List.pairwise_cons.2 ⟨fun x b=>?_,h⟩;rcases zq7.1 b with rfl|b
      ·omega
      ·have:=c.1 x b;omega
theorem uJ (x:Int) :∀ (t l:List Int),x∈eJ l t↔x∈l∨x∈t
 | [],l=>by simp [eJ]
 |n::t,l=>by rw [eJ,uJ x t,aDA,zq7];exact⟨fun h=>by rcases h with(h|h) |h<;>simp [h],fun h=>by rcases h with h|h|h<;>simp [h]⟩
theorem aBc :∀ (t l:List Int),Inc l→Inc (eJ l t)
 | [],l,h=>h
 |n::t,l,h=>by rw [eJ];exact aBc t _ (aJG n l h)
theorem aSm (b o n:Int) :Inc (aDz b o n) :=by unfold aDz;split<;>simp [Inc]
theorem aVj {b o n x:Int}(h:x∈aDz b o n) :0≤x∧x<b:=by
 unfold aDz at h;split at h
 ·rename_i g;rw [zq32]at h;subst h;exact g.2
 ·cases h
mutual
theorem aDB (b:Int) :∀t:XT,Inc (hJ b t)
 | .mk o n a _=>by rw [hJ];exact aFj b a _ (aSm b o n)
theorem aFj (b:Int) :∀ (a:List XT) (out:List Int),Inc out→Inc (nD b out a)
 | [],_,h=>h
 |k::a,out,h=>by rw [nD];exact aFj b a _ (aBc _ _ h)
end
theorem aG5 :∀ {a b:List Int},Inc a→Inc b→ (∀x,x∈a↔x∈b) →a=b
 | [],[],_,_,_=>rfl
 | [],y::b,_,_,h=>absurd ((h y).2 (dJ ..)) (by simp)
 |x::a,[],_,_,h=>absurd ((h x).1 (dJ ..)) (by simp)
 | x ::a,y::b,j,i,h=>by
  have d:=List.pairwise_cons.1 j;have c:=List.pairwise_cons.1 i;have e:x=y:=by
   rcases zq7.1 ((h x).1 (dJ ..))with e|e
   ·exact e
   · rcases zq7.1 ((h y).2 (dJ ..))with f|f
     ·exact f.symm
     ·have:=c.1 x e;have:=d.1 y f;omega
  subst e;congr 1;refine aG5 d.2 c.2 fun z=>?_;have hz:=h z;rw [zq7,zq7]at hz;constructor
  · intro g;rcases hz.1 (.inr g)with e|e
    ·subst e;have:=d.1 z g;omega
    ·exact e
  · intro g;rcases hz.2 (.inr g)with e|e
    ·subst e;have:=c.1 z g;omega
    ·exact e
theorem aDC (n x:Int) :∀m:List (Int×Bool),x∈ (dN n true m).map Prod.fst↔x=n∨x∈m.map Prod.fst
 | [] =>by simp [dN]
 | (a,v) ::m=>by
  rw [dN];split
  ·rename_i e;subst e;simp
  ·rw [dS,zq7,aDC n x m,dS,zq7];exact⟨fun h=>by rcases h with h|h|h<;>simp [h],fun h=>by rcases h with h|h|h<;>simp [h]⟩
theorem aDD (n:Int) :∀m:List (Int×Bool),(m.map Prod.fst).Nodup→ ((dN n true m).map Prod.fst).Nodup
 | [],_=>by simp [dN]
 | (a,v) ::m,h=>by
  have b:=List.nodup_cons.1 h;rw [dN];split
  ·rename_i e;subst e;exact h
  · rename_i e;refine List.nodup_cons.2 ⟨fun g=>?_,aDD n m b.2⟩;rcases(aDC n a m).1 g with g|g
    ·exact e g.symm
    ·exact b.1 g
theorem aJH (n:Int) :∀m:List (Int×Bool),(dN n true m).length≤m.length+1
 | [] =>by simp [dN]
 | (a,v) ::m=>by
  have:=aJH n m;rw [dN];split<;>simp<;>omega
mutual
theorem aG6 (b x:Int) :∀ (t:XT) (m:List (Int×Bool)),x∈ (sE b t m).map Prod.fst↔x∈m.map Prod.fst∨x∈hJ b t
 | .mk o n c d,m=>by
  rw [sE,hJ,aJI b x c,aDE b x c,aDz];split
  ·rw [aDC,zq32,or_comm (a:=x=n),or_assoc]
  ·simp
theorem aJI (b x:Int) :∀ (a:List XT) (m:List (Int×Bool)),x∈ (lO b a m).map Prod.fst↔x∈m.map Prod.fst∨∃k∈a,x∈hJ b k
 | [],m=>by simp [lO]
 | k::a,m=>by
  rw [lO,aJI b x a,aG6 b x k,or_assoc];simp
theorem aDE (b x:Int) :∀ (a:List XT) (out:List Int),x∈nD b out a↔x∈out∨∃k∈a,x∈hJ b k
 | [],out=>by simp [nD]
 | k::a,out=>by
  rw [nD,aDE b x a,uJ,or_assoc];simp
end
mutual
theorem aAI (b:Int) :∀ (t:XT) (m:List (Int×Bool)),(m.map Prod.fst).Nodup→ ((sE b t m).map Prod.fst).Nodup
 | .mk o n a c,m,h=>by
  rw [sE];refine aDF b a _ ?_;split
  ·exact aDD _ _ h
  ·exact h
theorem aDF (b:Int) :∀ (a:List XT) (m:List (Int×Bool)),(m.map Prod.fst).Nodup→ ((lO b a m).map Prod.fst).Nodup
 | [],m,h=>h
 |k::a,m,h=>by rw [lO];exact aDF b a _ (aAI b k m h)
end
mutual
theorem aNf (b:Int) :∀ (t:XT) (m:List (Int×Bool)),(sE b t m).length≤m.length+eO t
 | .mk o n a c,m=>by
  rw [sE,eO];have:=aJH n m;refine Nat.le_trans (aJJ b a _) ?_;split<;>omega
theorem aJJ (b:Int) :∀ (a:List XT) (m:List (Int×Bool)),(lO b a m).length≤m.length+aG a
 | [],m=>by simp [lO]
 | k::a,m=>by
  have:=aJJ b a (sE b k m);have:=aNf b k m;rw [lO,aG];omega
end
theorem aMo (b:Int)(t:XT) : ((sE b t []).map Prod.fst).mergeSort (fun x y=>decide (x≤y)) =hJ b t:=by
 refine aG5 ?_ (aDB b t) fun x=>?_
 · have e: (((sE b t []).map Prod.fst).mergeSort (fun x y=>decide (x≤y))).Pairwise (fun x y=>decide (x≤y) =true) :=List.pairwise_mergeSort (fun a b c e d=>by simp at e d ⊢;omega) (fun a b=>by simp;omega) _;have d: (((sE b t []).map Prod.fst).mergeSort (fun x y=>decide (x≤y))).Nodup:= (List.mergeSort_perm _ _).nodup_iff.2 (aAI b t [] (by simp));refine(e.and (List.nodup_iff_pairwise_ne.1 d)).imp fun {x y} h=>?_;have:=h.1;simp at this;have:=h.2;omega
 ·rw [List.mem_mergeSort,aG6];simp
mutual
theorem aNg (b:Int) :∀ (t:XT),∀x∈hJ b t,0≤x∧x<b
 | .mk o n a d,x,h=>by
  rw [hJ]at h;exact aJK b a _ (fun y c=>aVj c) x h
theorem aJK (b:Int) :∀ (d:List XT) (out:List Int),(∀x∈out,0≤x∧x<b) →∀x∈nD b out d,0≤x∧x<b
 | [],out,h,x,c=>h x c
 | k::d,out,h,x,c=>by
  rw [nD]at c;refine aJK b d _ (fun y a=>?_) x c;rcases(uJ y _ _).1 a with a|a
  ·exact h y a
  ·exact aNg b k y a
end
end Go.Hb
namespace Go.Hb
open AV (ilst keyless keylessL)
open List (drop length range' set take)
open Go.Proofs
set_option maxHeartbeats 1000000
structure LF where
 node:Int
 places:List Int
def LF.av (x:LF) :AV:=.agg [.int .i64 x.node,.ilst 1 (List.map aY x.places) false]
theorem LF.kl (x:LF) :keyless x.av=true:=by simp [LF.av,keyless,keylessL]
mutual
def lfT :XT→Int→Int→List LF
 | .mk o n ks ps,a,z=> (if o=5 then [⟨a,hJ z (.mk o n ks ps)⟩]else []) ++xO o ps ks 0 (a+1) z
def xO (o:Int)(ps:List Pat) :List XT→Nat→Int→Int→List LF
 | [],_,_,_=>[]
 |t::ts,i,a,z=>lfT t a (z+cL o ps (i:Int)) ++xO o ps ts (i+1) (a+ (eO t:Nat)) z
end
def lfF :List XT→Int→List LF
 | [],_=>[]
 |t::ts,a=>lfT t a 1++lfF ts (a+ (eO t:Nat))
mutual
theorem vJ :∀ (t:XT) (a z:Int),(lfT t a z).length≤eO t
 | .mk o n c b,a,z=>by
  have:=aJM o b c 0 (a+1) z;simp only [lfT,eO,pU];split<;>simp<;>omega
theorem aJM (o:Int)(ps:List Pat) :∀ (b:List XT) (i:Nat) (a z:Int),(xO o ps b i a z).length≤aG b
 | [],i,a,z=>by simp [xO]
 | t::b,i,a,z=>by
  have:=vJ t a (z+cL o ps (i:Int));have:=aJM o ps b (i+1) (a+ (eO t:Nat)) z;simp only [xO,aG,pU];omega
end
theorem aNh :∀ (b:List XT) (a:Int),(lfF b a).length≤aG b
 | [],a=>by simp [lfF]
 | t::b,a=>by
  have:=vJ t a 1;have:=aNh b (a+ (eO t:Nat));simp only [lfF,aG,pU];omega
theorem aSn (z n:Int)(k:XT)(ps:List Pat) :hJ z (.mk 5 n [k] ps) =hJ z k:=
 aG5 (aDB ..) (aDB ..) fun x=>by
  rw [hJ,aDE];unfold aDz;rw [if_neg (fun h=>by omega)];simp
mutual
def aMp (pl:Int) :XT→Bool
 | .mk o n ks _=>if o=4 then decide (n≠pl)else aFk pl o ks 0
def aFk (pl o:Int) :List XT→Nat→Bool
 | [],_=>true
 |k::ks,i=>if o=6∧i=0∧k.op=4 then aFk pl o ks (i+1)else aMp pl k&&aFk pl o ks (i+1)
end
def aDG (z:Int)(t:XT) :Bool:=decide (t.op=5) &&decide ((hJ z t).length=0)
def aJN (z:Int)(t:XT) :Bool:=decide (t.op=7) && (match t.kids with
 |f::b::_=>decide (f.op=5) && (decide (0< (hJ z f).length) &&decide ((hJ z f).length≤2) &&aMp z b)
 |_=>false)
end Go.Hb
namespace Go.Hb
open AV (ilst keyless keylessL)
open List (drop length range' set take)
open Go.Proofs
noncomputable section
open Go.Proofs Tryz
abbrev aG7 (a:Int):=[oC 4 [(nI a)],(5,(.defd false),false),(6,(.loop .ready none 31 (pL [kp 3 0,kp 5 2]) 45 [12] (kd f31 116) (kd f31 117) 5),false)]
abbrev aMq (a:Nat)(b c:Int)(d:List XT)(e:List Pat):=oC a [(.iptr [(nI b),(nI c),(.ilst 1 (XTs.av d) false),(iP e)])]
abbrev aMr (a:Int)(b:List (Int×Bool))(c d:Int)(e:List XT)(f:List Pat)(g h i j:Int)(k:List XT)(l:List Pat):=aA ([oC 0 [(nI a)],(1,(.map (bT aY kZ 0 b) b.length),true),oC 2 [(.map 1)],aMq 3 c d e f]++aG7 a++[oC 7 [(nI g),(nI h),(.iptr [(.iptr [(nI i),(nI j),(.ilst 1 (XTs.av k) false),(iP l)])])]]) 8
abbrev aMs (a:Int)(b:List (Int×Bool))(c d:Int)(e:List XT)(f:List Pat)(g h:Int):=aA ([oC 0 [(nI a)],(1,(.map (bT aY kZ 0 b) b.length),true),oC 2 [(.map 1)],aMq 3 c d e f]++aG7 a++[oC 7 [(nI g),(nI h),(.ptr 3 0)]]) 8
abbrev aMt (a:Int)(b:List (Int×Bool))(c d:Int)(e:List XT)(f:List Pat):=aA [oC 0 [(nI a)],(1,(.map (bT aY kZ 0 b) b.length),true),oC 2 [(.map 1)],aMq 3 c d e f,oC 4 [(nI a)],(5,(.defd false),false),(6,(.loop .exhausted none 31 (pL [kp 3 0,kp 5 2]) 45 [12] (kd f31 116) (kd f31 117) 5),false)] 7
abbrev aSo (a b c d e:Int)(f:List XT)(g:List Pat):AV:=.agg [(nI a),(nI (IntKind.i64.wrap (b+c))),(.iptr [(.iptr [(nI d),(nI e),(.ilst 1 (XTs.av f) false),(iP g)])])]
abbrev oW (a:Nat)(b c:Int)(d:List XT)(e:List Pat):=oC a [(.iptr [(nI b),(nI c),(.ilst 1 (XTs.av d) false),(iP e)])]
abbrev rO (a:Nat)(b:List (Int×Bool)):Nat×AObj×Bool:=(a,(.map (bT aY kZ 0 b) b.length),true)
abbrev xP (a:List XT):AV:=.ilst 1 (XTs.av a) false
def aVZ(a b:Int)(c:List XT)(d:List Pat)(e:Int):TS:=cJ PP 31 [(.iptr [(nI a),(nI b),(xP c),(iP d)]),(nI e)] [] 0
def aSp(c d:Int)(e:List XT)(f:List Pat)(a:Int)(b:List (Int×Bool))(g i:Int):TS:=cJ PP 60 [(.agg [(nI g),(nI i),(.ptr 3 0)]),(.yield 6)] [oC 0 [(nI a)],(rO 1 b),oC 2 [(.map 1)],oW 3 c d e f,oC 4 [(nI a)],(5,(.defd false),false),(6,(.loop .ready none 31 (pL [kp 3 0,kp 5 2]) 45 [12] (kd f31 116) (kd f31 117) 5),false)] 7
def rP(b c:Int)(a:List XT)(d:List Pat)(e:Int)(l:List (Int×Bool))(g i:Int)(f:List (Int×Bool))(j k:Int):TS:=⟨(tf 60 48 [(1,(.yield 6)),kp 2 7,(4,(nI 0)),(5,(nI j)),(6,(.iptr [(nI b),(nI c),(xP a),(iP d)])),(23,(nI (a.length:Int))),(24,(nI k))] [kc f60 500,kl f60 500,.inBlock 0,kc f60 63]),[],([oC 0 [(nI e)],(rO 1 f),oC 2 [(.map 1)],oW 3 b c a d]++aG7 e++[oC 7 [(nI g),(nI i),(.ptr 3 0)]]),8⟩
def aSq(c d:Int)(e:List XT)(f:List Pat)(a:Int)(b:List (Int×Bool))(g i j k:Int)(l:List XT)(m:List Pat):TS:=cJ PP 60 [(.agg [(nI g),(nI i),(.iptr [(.iptr [(nI j),(nI k),(xP l),(iP m)])])]),(.yield 6)] [oC 0 [(nI a)],(rO 1 b),oC 2 [(.map 1)],oW 3 c d e f,oC 4 [(nI a)],(5,(.defd false),false),(6,(.loop .ready none 31 (pL [kp 3 0,kp 5 2]) 45 [12] (kd f31 116) (kd f31 117) 5),false)] 7
def rQ(g i:Int)(j:List XT)(k:List Pat)(b:Int)(p:List (Int×Bool))(l m c d:Int)(a:List XT)(e:List Pat)(f:List (Int×Bool))(n o:Int):TS:=⟨(tf 60 48 [(1,(.yield 6)),kp 2 7,(4,(nI 0)),(5,(nI n)),(6,(.iptr [(nI c),(nI d),(xP a),(iP e)])),(23,(nI (a.length:Int))),(24,(nI o))] [kc f60 500,kl f60 500,.inBlock 0,kc f60 63]),[],([oC 0 [(nI b)],(rO 1 f),oC 2 [(.map 1)],oW 3 g i j k]++aG7 b++[oC 7 [(nI l),(nI m),(.iptr [(.iptr [(nI c),(nI d),(xP a),(iP e)])])]]),8⟩
def aVk (c d:Int)(e:List XT)(f:List Pat)(a:Int):=fun b i g j k=>(tT 0 (aVZ c d e f a)<|.i [rn 8,.mset 1 (bT aY kZ 0 ([] :List (Int×Bool))) ([] :List (Int×Bool)).length] [hr (bT aY kZ 0 ([] :List (Int×Bool))),hr (length ([] :List (Int×Bool)))]<|.i [rn 25,.lkeep 6 [3,5]] []<|.y fun b:List (Int×Bool)=>.y fun i:Int=>gk 4 (.enter 60 [(.agg [(nI 0),(nI a),(.ptr 3 0)]),(.yield 6)]) [oC 0 [(nI a)],(1,(.map (bT aY kZ 0 ([] :List (Int×Bool))) ([] :List (Int×Bool)).length),true),oC 2 [(.map 1)],oW 3 c d e f,oC 4 [(nI a)],(5,(.defd false),false),(6,(.loop .ready none 31 (pL [kp 3 0,kp 5 2]) 45 [12] (kd f31 116) (kd f31 117) 5),false)] 7 (nI i) [oC 0 [(nI a)],(rO 1 b),oC 2 [(.map 1)],oW 3 c d e f,oC 4 [(nI a)],(5,(.defd false),false),(6,(.loop .ready none 31 (pL [kp 3 0,kp 5 2]) 45 [12] (kd f31 116) (kd f31 117) 5),false)] 7<|.y fun g:List Int=>.i [rn 8,.call2 (iI g) (aMt a b c d e f)] [hA (aCw PP 63 [(.map 1)] 62 (aMt a b c d e f) (iI g) (aMt a b c d e f))]<|gE 4 7 (iI g)) b i j g k tv
def aG8(e c:Int)(a:List XT)(g:List Pat)(f:Int)(b:List (Int×Bool))(d i:Int):=tT 7 (aSp e c a g f b d i)<|.o (.i [rn 26,.reg (rd 6 (.b 22 true::rd 7 (.b 29 true::rd 7 [])))] [hA ((e==4) =true),hA (decide (c≥0) =true)]<|gd 0 36 (c<f) (.i [rn 1,.reg (rd 5 [.mput (bT aY kZ 0 (dN c true b)) (dN c true b).length])] [.q (p:=qS (bT aY kZ 0 b) b.length (aY c) (kZ true) =some ((bT aY kZ 0 (dN c true b)),length (dN c true b))) (aGc aMS _ _ _)]<|gw 11 14 (d+1)<|.i [rn 17,aL a] [.q (p:=((XTs.av a).length:Int) = (a.length:Int)) (fM dY _)]<|.W 4 9 [7] (rP e c a g f b d i (dN c true b) (d+1) 0))<|gw 13 14 (d+1)<|.i [rn 17,aL a] [.q (p:=((XTs.av a).length:Int) = (a.length:Int)) (fM dY _)]<|.W 4 9 [7] (rP e c a g f b d i b (d+1) 0))<|.o (.i [rn 26,.reg (rd 6 (.b 22 true::rd 7 (.b 29 false::rd 7 [])))] [hA ((e==4) =true),hA (decide (c≥0) =false)]<|gw 13 14 (d+1)<|.i [rn 17,aL a] [.q (p:=((XTs.av a).length:Int) = (a.length:Int)) (fM dY _)]<|.W 4 9 [7] (rP e c a g f b d i b (d+1) 0))<|.i [rn 26,.reg (rd 6 (.b 22 false::rd 14 []))] [hA ((e==4) =false)]<|gw 13 14 (d+1)<|.i [rn 17,aL a] [.q (p:=((XTs.av a).length:Int) = (a.length:Int)) (fM dY _)]<|.W 4 9 [7] (rP e c a g f b d i b (d+1) 0)
def aSr:=fun a b c d e f g i j k l m=>aG8 a b c d e f g i|>.1 j k|>.t l m ⟨kZ0,trivial⟩
def aSs:=fun a b c d e f g i j k l m=>aG8 a b c d e f g i|>.1 j k|>.f l m ⟨kZ0,trivial⟩
def aSt:=fun a b c d e f g i j k l=>aG8 a b c d e f g i|>.2|>.1 j k l ⟨kZ0,trivial⟩
def aSu:=fun a b c d e f g i j k=>aG8 a b c d e f g i|>.2|>.2 j k ⟨kZ0,trivial⟩
def aSv(c d:Int)(a:List XT)(e:List Pat)(b:Int)(s:List (Int×Bool))(j f:Int)(k:List (Int×Bool))(m g:Int):=tT 7 (rP c d a e b s j f k m g)<|gd 5 25 (g< (a.length:Int)) (.y fun n:Int=>.y fun o:Int=>.y fun p:Int=>.y fun q:List XT=>.y fun r:List Pat=>.y fun i:List (Int×Bool)=>.y fun l:Int=>.i [rn 10,.reg (rd 5 (.pure (nI n)::rd 6 [.ans (.idx (XT.av (XT.mk o p q r))),.d,.d,.call (nI l) (aMs b i c d a e j f),.d]))] [hA (aK PP 97 [(.iptr [(nI c),(nI d),(xP a),(iP e)]),(nI g)] (nI n)),hA (0≤g),.a (((a)[g.toNat]?) =some (XT.mk o p q r)) (hU dY),hA (Spec PP (.enter 60 [(aSo m f n o p q r),(.yield 6)]) (aMs b k c d a e j f) (.ret (nI l)) (aMs b i c d a e j f)),hr (ilst 1 (XTs.av a) false),hr (ilst 1 (XTs.av a) false),hr (nI f),hr (nI f)]<|gd 5 44 (l<0) (.E 7 8 [] (nI l) [oC 0 [(nI b)],(rO 1 i),oC 2 [(.map 1)],oW 3 c d a e,oC 4 [(nI b)],(5,(.defd false),false),(6,(.loop .ready none 31 (pL [kp 3 0,kp 5 2]) 45 [12] (kd f31 116) (kd f31 117) 5),false)] 7)<|gw 5 46 (g+1)<|.W 3 8 [7] (rP c d a e b s j f i l (g+1)))<|.E 8 8 [] (nI m) [oC 0 [(nI b)],(rO 1 k),oC 2 [(.map 1)],oW 3 c d a e,oC 4 [(nI b)],(5,(.defd false),false),(6,(.loop .ready none 31 (pL [kp 3 0,kp 5 2]) 45 [12] (kd f31 116) (kd f31 117) 5),false)] 7
def aSw:=fun a b c d e f g i j k l m n o p q r s t u v w x y z=>aSv a b c d e f g i j k l|>.t t m n o p q r s u v w x|>.f y z ⟨kZ0,trivial⟩
def aSx:=fun a b c d e f g i j k l m=>aSv a b c d e f g i j k l|>.f m ⟨kZ0,trivial⟩
def aG9(g i:Int)(j:List XT)(k:List Pat)(f:Int)(b:List (Int×Bool))(d l e c:Int)(a:List XT)(m:List Pat):=tT 7 (aSq g i j k f b d l e c a m)<|.o (.i [rn 26,.reg (rd 6 (.b 22 true::rd 7 (.b 29 true::rd 7 [])))] [hA ((e==4) =true),hA (decide (c≥0) =true)]<|gd 0 36 (c<f) (.i [rn 1,.reg (rd 5 [.mput (bT aY kZ 0 (dN c true b)) (dN c true b).length])] [.q (p:=qS (bT aY kZ 0 b) b.length (aY c) (kZ true) =some ((bT aY kZ 0 (dN c true b)),length (dN c true b))) (aGc aMS _ _ _)]<|gw 11 14 (d+1)<|.i [rn 17,aL a] [.q (p:=((XTs.av a).length:Int) = (a.length:Int)) (fM dY _)]<|.W 4 9 [7] (rQ g i j k f b d l e c a m (dN c true b) (d+1) 0))<|gw 13 14 (d+1)<|.i [rn 17,aL a] [.q (p:=((XTs.av a).length:Int) = (a.length:Int)) (fM dY _)]<|.W 4 9 [7] (rQ g i j k f b d l e c a m b (d+1) 0))<|.o (.i [rn 26,.reg (rd 6 (.b 22 true::rd 7 (.b 29 false::rd 7 [])))] [hA ((e==4) =true),hA (decide (c≥0) =false)]<|gw 13 14 (d+1)<|.i [rn 17,aL a] [.q (p:=((XTs.av a).length:Int) = (a.length:Int)) (fM dY _)]<|.W 4 9 [7] (rQ g i j k f b d l e c a m b (d+1) 0))<|.i [rn 26,.reg (rd 6 (.b 22 false::rd 14 []))] [hA ((e==4) =false)]<|gw 13 14 (d+1)<|.i [rn 17,aL a] [.q (p:=((XTs.av a).length:Int) = (a.length:Int)) (fM dY _)]<|.W 4 9 [7] (rQ g i j k f b d l e c a m b (d+1) 0)
def aSy:=fun a b c d e f g i j k l m n o p q=>aG9 a b c d e f g i j k l m|>.1 n o|>.t p q ⟨kZ0,trivial⟩
def aSz:=fun a b c d e f g i j k l m n o p q=>aG9 a b c d e f g i j k l m|>.1 n o|>.f p q ⟨kZ0,trivial⟩
def aSA:=fun a b c d e f g i j k l m n o p=>aG9 a b c d e f g i j k l m|>.2|>.1 n o p ⟨kZ0,trivial⟩
def aSB:=fun a b c d e f g i j k l m n o=>aG9 a b c d e f g i j k l m|>.2|>.2 n o ⟨kZ0,trivial⟩
def aSC(d e:Int)(f:List XT)(g:List Pat)(a:Int)(w:List (Int×Bool))(n c k l:Int)(b:List XT)(m:List Pat)(o:List (Int×Bool))(q i:Int):=tT 7 (rQ d e f g a w n c k l b m o q i)<|gd 5 25 (i< (b.length:Int)) (.y fun r:Int=>.y fun s:Int=>.y fun t:Int=>.y fun u:List XT=>.y fun v:List Pat=>.y fun j:List (Int×Bool)=>.y fun p:Int=>.i [rn 10,.reg (rd 5 (.pure (nI r)::rd 6 [.ans (.idx (XT.av (XT.mk s t u v))),.d,.d,.call (nI p) (aMr a j d e f g n c k l b m),.d]))] [hA (aK PP 97 [(.iptr [(nI k),(nI l),(xP b),(iP m)]),(nI i)] (nI r)),hA (0≤i),.a (((b)[i.toNat]?) =some (XT.mk s t u v)) (hU dY),hA (Spec PP (.enter 60 [(aSo q c r s t u v),(.yield 6)]) (aMr a o d e f g n c k l b m) (.ret (nI p)) (aMr a j d e f g n c k l b m)),hr (ilst 1 (XTs.av b) false),hr (ilst 1 (XTs.av b) false),hr (nI c),hr (nI c)]<|gd 5 44 (p<0) (.E 7 8 [] (nI p) [oC 0 [(nI a)],(rO 1 j),oC 2 [(.map 1)],oW 3 d e f g,oC 4 [(nI a)],(5,(.defd false),false),(6,(.loop .ready none 31 (pL [kp 3 0,kp 5 2]) 45 [12] (kd f31 116) (kd f31 117) 5),false)] 7)<|gw 5 46 (i+1)<|.W 3 8 [7] (rQ d e f g a w n c k l b m j p (i+1)))<|.E 8 8 [] (nI q) [oC 0 [(nI a)],(rO 1 o),oC 2 [(.map 1)],oW 3 d e f g,oC 4 [(nI a)],(5,(.defd false),false),(6,(.loop .ready none 31 (pL [kp 3 0,kp 5 2]) 45 [12] (kd f31 116) (kd f31 117) 5),false)] 7
def aSD:=fun a b c d e f g i j k l m n o p q r s t u v w x y z A B C D=>aSC a b c d e f g i j k l m n o p|>.t x q r s t u v w y z A B|>.f C D ⟨kZ0,trivial⟩
def aSE:=fun a b c d e f g i j k l m n o p q=>aSC a b c d e f g i j k l m n o p|>.f q ⟨kZ0,trivial⟩
end
end Go.Hb
namespace Go.Hb
open AV (ilst keyless keylessL)
open List (drop length range' set take)
open Go.Proofs
noncomputable section
abbrev CTl (o n:Int)(ks:List XT)(ps:List Pat)(sz:Int)(ml:List (Int×Bool)) :HL:=[(0,(.cells (putCells .leaf 0 [(.int .i64 sz)]) 1 [] false),false),(1,(.map (bT aY kZ 0 ml) (length ml)),true),(2,(.cells (putCells .leaf 0 [(.map 1)]) 1 [] false),false),(3,(.cells (putCells .leaf 0 [(.iptr [(.int .i64 o),(.int .i64 n),(.ilst 1 (XTs.av ks) false),(.ilst 4 (Pats.av ps) false)])]) 1 [] false),false),(4,(.cells (putCells .leaf 0 [(.int .i64 sz)]) 1 [] false),false),(5,(.defd false),false),(6,(.loop .ready none 31 (pL [(3,(.ptr 0 0)),(5,(.ptr 2 0))]) 45 [12] (cd Tryz.f31 [1,1,0,1,0,0]) (cd Tryz.f31 [1,1,0,1,0,1]) 5),false)]
end
theorem aAJ (o n:Int)(ks:List XT)(ps:List Pat)(sz:Int)(a:List (Int×Bool)) :eG (CTl o n ks ps sz a) := ⟨kZ0,trivial⟩
section
variable (B :Int) (ro rn:Int) (rks:List XT) (rps:List Pat) (sz:Int)
mutual
theorem aNi :∀ (t:XT),FineX B t→∀ (d:List (Int×Bool)) (a b:Int),0≤a→a+ (eO t:Nat) ≤1000000→0≤b→b+1000* (eO t:Nat) ≤1000000000 →
  kY PP 7 (.enter 60 [.agg [.int .i64 a,.int .i64 b,.iptr [XT.av t]],.yield 6]) (aA (CTl ro rn rks rps sz d) 7) (.ret (.int .i64 (a+ (eO t:Nat)))) (aA (CTl ro rn rks rps sz (sE sz t d)) 7)
 | .mk o n c e,k,d,a,b,w,s,l,r=>by
  simp only [FineX]at k;obtain⟨_,u,q,p,v,x,m⟩ :=k;simp only [eO]at s r;refine⟨(aSq ro rn rks rps sz d a b o n c e).as.fr,by kernel_rfl,?_⟩;have g:=fun i=>aNj d a b o n c e u q p l c 0 (a+1) i rfl m (by omega) (by omega) (by omega);rw [sE,show a+ ((eO (.mk o n c e) :Nat) :Int) =a+1+ ((aG c:Nat) :Int)by simp only [eO];omega];by_cases f:o=4
  · by_cases h:0≤n
    · by_cases j:n<sz
      · rw [if_pos ⟨f,h,j⟩];exact(aSy ro rn rks rps sz d a b o n c e (by simpa using f) (by simpa using h) (by simpa using j) sd).ends (g _)
      · rw [if_neg (by omega)];exact(aSz ro rn rks rps sz d a b o n c e (by simpa using f) (by simpa using h) (by simpa using j) sd).ends (g _)
    · rw [if_neg (by omega)];exact(aSA ro rn rks rps sz d a b o n c e (by simpa using f) (by simpa using h) sd).ends (g _)
  · rw [if_neg (by omega)];exact(aSB ro rn rks rps sz d a b o n c e (by simpa using f) sd).ends (g _)
theorem aNj (d:List (Int×Bool))(l c:Int)(o n:Int)(ks:List XT)(ps:List Pat)(G:ks.length≤1000)(u:∀q∈ps,bU q≤1000)(w:o=15→ks.length=1+ps.length)(h2:0≤c) :
  ∀ (b:List XT) (i:Nat) (a:Int) (e:List (Int×Bool)),ks.drop i=b→FineXs B b→0≤a→a+ (aG b:Nat) ≤1000000→c+1000+1000* (aG b:Nat) ≤1000000000 →
  Ends PP 7 (rQ ro rn rks rps sz d l c o n ks ps e a (i:Int)).as (.ret (.int .i64 (a+ (aG b:Nat)))) (aA (CTl ro rn rks rps sz (lO sz b e)) 7)
 | [],i,a,e,h,_,_,_,_=>by
  have:=bJ h;simp only [lO,aG];rw [show a+ ((0:Nat) :Int) =a by omega];exact aSE ro rn rks rps sz d l c o n ks ps e a (i:Int) sd
 | .mk j g f p::b,i,a,e,h,t,z,y,x=>by
  obtain⟨J,D,I⟩ :=bH h;simp only [FineXs]at t;simp only [aG]at y x ⊢;have H:=zN (o:=o) u (i:Int);have A:IntKind.i64.wrap (c+cL o ps (i:Int)) =c+cL o ps (i:Int) :=wrap64 (by omega) (by omega)
  have C:o=15→0< (i:Int) →∃q,ps[((i:Int) -1).toNat]?=some q:=fun r K=>by
   have:=w r;exact⟨_,lZ (by omega)⟩
  have s:=aNi (.mk j g f p) t.1 e a (c+cL o ps (i:Int)) z (by omega) (by omega) (by omega);have F:=aDv o n ks ps u (i:Int) ⟨by omega,by omega⟩ C;rw [lO];generalize eO (.mk j g f p) =k at s y x ⊢;generalize sE sz (.mk j g f p) e=v at s ⊢;have st:=aSD ro rn rks rps sz d l c o n ks ps e a (i:Int) (cL o ps (i:Int)) j g f p v (a+ (k:Nat)) sd F sd sd (aWK A (sg3 (m:=7) (ks:=[0,1,2,3,4,5,6]) s kR0 kR0 (aAJ ..) (aAJ ..))) (by simp;omega) sd;rw [show a+ ((k+aG b:Nat) :Int) =a+ (k:Nat) + ((aG b:Nat) :Int)by omega];exact st.ends (aNj d l c o n ks ps G u w h2 b (i+1) (a+ (k:Nat)) v D t.2 (by omega) (by omega) (by omega))
end
end
section
variable (B :Int) (o n:Int) (ks:List XT) (ps:List Pat) (sz:Int)
theorem aJO (d:List (Int×Bool))(l c:Int)(G:ks.length≤1000)(u:∀q∈ps,bU q≤1000)(w:o=15→ks.length=1+ps.length)(h2:0≤c) :
  ∀ (b:List XT) (i:Nat) (a:Int) (e:List (Int×Bool)),ks.drop i=b→FineXs B b→0≤a→a+ (aG b:Nat) ≤1000000→c+1000+1000* (aG b:Nat) ≤1000000000 →
  Ends PP 7 (rP o n ks ps sz d l c e a (i:Int)).as (.ret (.int .i64 (a+ (aG b:Nat)))) (aA (CTl o n ks ps sz (lO sz b e)) 7)
 | [],i,a,e,h,_,_,_,_=>by
  have:=bJ h;simp only [lO,aG];rw [show a+ ((0:Nat) :Int) =a by omega];exact aSx o n ks ps sz d l c e a (i:Int) sd
 | .mk j g f p::b,i,a,e,h,t,z,y,x=>by
  obtain⟨J,D,I⟩ :=bH h;simp only [FineXs]at t;simp only [aG]at y x ⊢;have H:=zN (o:=o) u (i:Int);have A:IntKind.i64.wrap (c+cL o ps (i:Int)) =c+cL o ps (i:Int) :=wrap64 (by omega) (by omega)
  have C:o=15→0< (i:Int) →∃q,ps[((i:Int) -1).toNat]?=some q:=fun r K=>by
   have:=w r;exact⟨_,lZ (by omega)⟩
  have s:=aNi B o n ks ps sz (.mk j g f p) t.1 e a (c+cL o ps (i:Int)) z (by omega) (by omega) (by omega);have F:=aDv o n ks ps u (i:Int) ⟨by omega,by omega⟩ C;rw [lO];generalize eO (.mk j g f p) =k at s y x ⊢;generalize sE sz (.mk j g f p) e=v at s ⊢;have st:=aSw o n ks ps sz d l c e a (i:Int) (cL o ps (i:Int)) j g f p v (a+ (k:Nat)) sd F sd sd (aWK A (sg3 (m:=7) (ks:=[0,1,2,3,4,5,6]) s kR0 kR0 (aAJ ..) (aAJ ..))) (by simp;omega) sd;rw [show a+ ((k+aG b:Nat) :Int) =a+ (k:Nat) + ((aG b:Nat) :Int)by omega];exact st.ends (aJO d l c G u w h2 b (i+1) (a+ (k:Nat)) v D t.2 (by omega) (by omega) (by omega))
theorem aVl (f:FineX B (.mk o n ks ps))(g:eO (.mk o n ks ps) ≤100000)(h2:0≤sz)(m:sz≤1000000) :
  kY PP 7 (.enter 60 [.agg [.int .i64 0,.int .i64 sz,.ptr 3 0],.yield 6]) (aA (CTl o n ks ps sz []) 7) (.ret (.int .i64 (0+1+ (aG ks:Nat)))) (aA (CTl o n ks ps sz (sE sz (.mk o n ks ps) [])) 7) :=by
 simp only [FineX]at f;obtain⟨_,k,j,i,l,p,h⟩ :=f;simp only [eO]at g;refine⟨(aSp o n ks ps sz [] 0 sz).as.fr,by kernel_rfl,?_⟩;have b:=fun d=>aJO B o n ks ps sz [] 0 sz k j i h2 ks 0 (0+1) d rfl h (by omega) (by omega) (by omega);rw [sE];by_cases a:o=4
 · by_cases c:0≤n
   · by_cases e:n<sz
     · rw [if_pos ⟨a,c,e⟩];exact(aSr o n ks ps sz [] 0 sz (by simpa using a) (by simpa using c) (by simpa using e) sd).ends (b _)
     · rw [if_neg (by omega)];exact(aSs o n ks ps sz [] 0 sz (by simpa using a) (by simpa using c) (by simpa using e) sd).ends (b _)
   · rw [if_neg (by omega)];exact(aSt o n ks ps sz [] 0 sz (by simpa using a) (by simpa using c) sd).ends (b _)
 · rw [if_neg (by omega)];exact(aSu o n ks ps sz [] 0 sz (by simpa using a) sd).ends (b _)
end
def nZ :Prop:=∀ {ml:List (Int×Bool)} (_: (ml.map Prod.fst).Nodup) (_:∀k∈ml.map Prod.fst,0≤k∧k≤1000000) (_:ml.length≤1000000) {ks:List Int} (_:ks= (ml.map Prod.fst).mergeSort (fun x y=>decide (x≤y))) (h:Hp) (r:Nat) (_:h.look r=some (.map (bT aY kZ 0 ml) (length ml))),
  aCw Tryz.prog 63 [.map r] 62 h (.ilst 1 (List.map aY ks) false) h
theorem aSF (hk:nZ){B:Int}:∀ (t:XT) (a:Int),FineX B t→eO t≤100000→0≤a→a≤1000000→aK PP 31 [XT.av t,.int .i64 a] (.ilst 1 (List.map aY (hJ a t)) false)
 | .mk o n ks b,a,g,f,d,e=>by
  have hr:=aVl B o n ks b a g f d e;have hl:=aNf a (.mk o n ks b) [];refine hX (s:=aVZ o n ks b a) kR0 kR0 (by simp [keylessL,keyless,aQo]) (by simp [keyless]) ?_;refine aVk o n ks b a (sE a (.mk o n ks b) []) (0+1+ ((aG ks:Nat) :Int)) (hJ a (.mk o n ks b)) (sg3 (m:=7) (ks:=[0,1,2,3,4,5,6]) hr kR0 kR0 (aAJ ..) (aAJ ..)) (hk (aAI a _ [] (by simp)) (fun k c=>?_) (by simp at hl;omega) (aMo a _).symm _ _ kR0);rw [aG6]at c;rcases c with h|h
  ·simp at h
  ·have:=aNg a _ k h;omega
end Go.Hb
namespace Go.Proofs
open Go.Shelf
def Tryz.keysA_ren :Go.Shelf.Ren:= ⟨fun|7=>63|10=>101|n=>n,fun|23=>115|26=>3|3=>4|28=>119|0=>0|27=>118|33=>90|4=>4|n=>n,fun|n=>n⟩
theorem Tryz.keysA :Go.Proofs.SlLaysZI.n7 Tryz.prog Tryz.keysA_ren:={
 mixed:=by kernel_rfl
 f7:= ⟨Tryz.f63.name,by decide,Tryz.func63.trans (congrArg some Go.Hb.kR0)⟩
 f10:= ⟨Tryz.f101.name,by decide,Tryz.func101.trans (congrArg some Go.Hb.kR0)⟩
 t0:=Tryz.underlying0
 a0:=Tryz.isAgg0
 z0:=Tryz.sizeOf0
 v0:=Tryz.zeroValue0
 t4:=Tryz.underlying4
 a4:=Tryz.isAgg4
 z4:=Tryz.sizeOf4
 v4:=Tryz.zeroValue4
 t23:=Tryz.underlying115
 a23:=Tryz.isAgg115
 z23:=Tryz.sizeOf115
 v23:=Tryz.zeroValue115
 t26:=Tryz.underlying3
 a26:=Tryz.isAgg3
 z26:=Tryz.sizeOf3
 v26:=Tryz.zeroValue3
 t27:=Tryz.underlying118
 a27:=Tryz.isAgg118
 z27:=Tryz.sizeOf118
 v27:=Tryz.zeroValue118
 t28:=Tryz.underlying119
 a28:=Tryz.isAgg119
 z28:=Tryz.sizeOf119
 v28:=Tryz.zeroValue119
 t33:=Tryz.underlying90
 a33:=Tryz.isAgg90
 z33:=Tryz.sizeOf90
 v33:=Tryz.zeroValue90}
def Tryz.sortedA_ren :Go.Shelf.Ren:= ⟨fun|6=>62|8=>99|9=>100|11=>148|13=>150|12=>149|23=>206|24=>207|14=>197|15=>198|16=>199|17=>200|18=>201|19=>202|20=>203|21=>204|22=>205|25=>228|26=>229|27=>230|28=>231|29=>232|30=>233|31=>246|n=>n,fun|26=>3|28=>119|24=>23|0=>0|3=>3|37=>224|48=>265|50=>267|4=>4|40=>257|39=>256|45=>262|5=>5|9=>9|51=>281|55=>285|57=>294|58=>295|33=>90|n=>n,fun|n=>n⟩
theorem Tryz.sortedA :Go.Proofs.SlLaysZI.n6 Tryz.prog Tryz.sortedA_ren:={
 mixed:=by kernel_rfl
 f6:= ⟨Tryz.f62.name,by decide,Tryz.func62.trans (congrArg some Go.Hb.kR0)⟩
 f8:= ⟨Tryz.f99.name,by decide,Tryz.func99.trans (congrArg some Go.Hb.kR0)⟩
 f11:= ⟨Tryz.f148.name,by decide,Tryz.func148.trans (congrArg some Go.Hb.kR0)⟩
 t0:=Tryz.underlying0
 a0:=Tryz.isAgg0
 z0:=Tryz.sizeOf0
 v0:=Tryz.zeroValue0
 t24:=Tryz.underlying23
 a24:=Tryz.isAgg23
 z24:=Tryz.sizeOf23
 v24:=Tryz.zeroValue23
 t26:=Tryz.underlying3
 a26:=Tryz.isAgg3
 z26:=Tryz.sizeOf3
 v26:=Tryz.zeroValue3
 t28:=Tryz.underlying119
 a28:=Tryz.isAgg119
 z28:=Tryz.sizeOf119
 v28:=Tryz.zeroValue119
 i26:=by kernel_rfl}
def Tryz.sortA_ren :Go.Shelf.Ren:= ⟨fun|5=>100|8=>150|7=>149|19=>206|20=>207|10=>197|11=>198|12=>199|13=>200|14=>201|15=>202|16=>203|17=>204|18=>205|30=>228|31=>229|32=>230|33=>231|34=>232|35=>233|40=>246|n=>n,fun|23=>23|25=>3|3=>3|32=>224|22=>23|0=>0|44=>265|46=>267|4=>4|36=>257|35=>256|41=>262|5=>5|9=>9|53=>281|57=>285|63=>294|64=>295|n=>n,fun|n=>n⟩
theorem Tryz.sortA :Go.Proofs.SlLaysM.n5 Tryz.prog Tryz.sortA_ren:={
 mixed:=by kernel_rfl
 f5:= ⟨Tryz.f100.name,by decide,Tryz.func100.trans (congrArg some Go.Hb.kR0)⟩
 f7:= ⟨Tryz.f149.name,by decide,Tryz.func149.trans (congrArg some Go.Hb.kR0)⟩
 f8:=Tryz.func150.trans (congrArg some Go.Hb.kR0)
 f10:= ⟨Tryz.f197.name,by decide,Tryz.func197.trans (congrArg some Go.Hb.kR0)⟩
 f11:= ⟨Tryz.f198.name,by decide,Tryz.func198.trans (congrArg some Go.Hb.kR0)⟩
 f12:= ⟨Tryz.f199.name,by decide,Tryz.func199.trans (congrArg some Go.Hb.kR0)⟩
 f13:= ⟨Tryz.f200.name,by decide,Tryz.func200.trans (congrArg some Go.Hb.kR0)⟩
 f14:= ⟨Tryz.f201.name,by decide,Tryz.func201.trans (congrArg some Go.Hb.kR0)⟩
 f15:= ⟨Tryz.f202.name,by decide,Tryz.func202.trans (congrArg some Go.Hb.kR0)⟩
 f16:= ⟨Tryz.f203.name,by decide,Tryz.func203.trans (congrArg some Go.Hb.kR0)⟩
 f17:= ⟨Tryz.f204.name,by decide,Tryz.func204.trans (congrArg some Go.Hb.kR0)⟩
 f18:= ⟨Tryz.f205.name,by decide,Tryz.func205.trans (congrArg some Go.Hb.kR0)⟩
 f19:=Tryz.func206.trans (congrArg some Go.Hb.kR0)
 f20:=Tryz.func207.trans (congrArg some Go.Hb.kR0)
 f30:= ⟨Tryz.f228.name,by decide,Tryz.func228.trans (congrArg some Go.Hb.kR0)⟩
 f31:=Tryz.func229.trans (congrArg some Go.Hb.kR0)
 f32:=Tryz.func230.trans (congrArg some Go.Hb.kR0)
 f33:= ⟨Tryz.f231.name,by decide,Tryz.func231.trans (congrArg some Go.Hb.kR0)⟩
 f34:= ⟨Tryz.f232.name,by decide,Tryz.func232.trans (congrArg some Go.Hb.kR0)⟩
 f35:= ⟨Tryz.f233.name,by decide,Tryz.func233.trans (congrArg some Go.Hb.kR0)⟩
 f40:= ⟨Tryz.f246.name,by decide,Tryz.func246.trans (congrArg some Go.Hb.kR0)⟩
 t0:=Tryz.underlying0
 a0:=Tryz.isAgg0
 z0:=Tryz.sizeOf0
 v0:=Tryz.zeroValue0
 t3:=Tryz.underlying3
 a3:=Tryz.isAgg3
 z3:=Tryz.sizeOf3
 v3:=Tryz.zeroValue3
 t4:=Tryz.underlying4
 a4:=Tryz.isAgg4
 z4:=Tryz.sizeOf4
 v4:=Tryz.zeroValue4
 t5:=Tryz.underlying5
 a5:=Tryz.isAgg5
 z5:=Tryz.sizeOf5
 v5:=Tryz.zeroValue5
 t9:=Tryz.underlying9
 a9:=Tryz.isAgg9
 z9:=Tryz.sizeOf9
 v9:=Tryz.zeroValue9
 t22:=Tryz.underlying23
 a22:=Tryz.isAgg23
 z22:=Tryz.sizeOf23
 v22:=Tryz.zeroValue23
 t23:=Tryz.underlying23
 a23:=Tryz.isAgg23
 z23:=Tryz.sizeOf23
 v23:=Tryz.zeroValue23
 t25:=Tryz.underlying3
 a25:=Tryz.isAgg3
 z25:=Tryz.sizeOf3
 v25:=Tryz.zeroValue3
 t32:=Tryz.underlying224
 a32:=Tryz.isAgg224
 z32:=Tryz.sizeOf224
 v32:=Tryz.zeroValue224
 t35:=Tryz.underlying256
 a35:=Tryz.isAgg256
 z35:=Tryz.sizeOf256
 v35:=Tryz.zeroValue256
 t36:=Tryz.underlying257
 a36:=Tryz.isAgg257
 z36:=Tryz.sizeOf257
 v36:=Tryz.zeroValue257
 t41:=Tryz.underlying262
 a41:=Tryz.isAgg262
 z41:=Tryz.sizeOf262
 v41:=Tryz.zeroValue262
 t44:=Tryz.underlying265
 a44:=Tryz.isAgg265
 z44:=Tryz.sizeOf265
 v44:=Tryz.zeroValue265
 t46:=Tryz.underlying267
 a46:=Tryz.isAgg267
 z46:=Tryz.sizeOf267
 v46:=Tryz.zeroValue267
 t53:=Tryz.underlying281
 a53:=Tryz.isAgg281
 z53:=Tryz.sizeOf281
 v53:=Tryz.zeroValue281
 t57:=Tryz.underlying285
 a57:=Tryz.isAgg285
 z57:=Tryz.sizeOf285
 v57:=Tryz.zeroValue285
 t63:=Tryz.underlying294
 a63:=Tryz.isAgg294
 z63:=Tryz.sizeOf294
 v63:=Tryz.zeroValue294
 t64:=Tryz.underlying295
 a64:=Tryz.isAgg295
 z64:=Tryz.sizeOf295
 v64:=Tryz.zeroValue295}
end Go.Proofs
namespace Go.Hb
open AV (ilst keyless keylessL)
open List (drop length range' set take)
open Go.Proofs Go.RowKit Go.Maps Go.Sort Go.Shelf Go.WideElems
set_option maxHeartbeats 2000000
theorem sortsA (m:Nat) :AnyZI.SortsIn Tryz.prog Tryz.sortedA_ren Fence.wide m:=
 ⟨fun blk off cap ss W hH hblk hsz=>callsIn_wide.2 (AnyM.slices_Sort_int Tryz.sortA blk off cap ss W hH hblk hsz),
  fun p cap W=>callsIn_wide.2 (AnyM.slices_Sort_int_none Tryz.sortA p cap W)⟩
def aBd :Value→Option (DataW Unit×List MemPlace) :=fun _=>some (.nil,[])
theorem aJP {E:Emb}:∀ {ml:List (Int×Bool)} {n:Nat} {us:List MapEntry},ERs E (bT aY kZ n ml) us→us.map (·.key) =ml.map (fun e=>encZ e.1) ∧us.map (·.born) =range' n ml.length
 | [],n,us,h=>by
  simp only [bT,ERs]at h;subst h;exact⟨rfl,rfl⟩
 | e::ml,n,us,h=>by
  simp only [bT,ERs]at h;obtain⟨u,us',rfl,h1,h2,h3,h4⟩ :=h;obtain⟨a,b⟩ :=aJP h4;simp only [aY,VR]at h1;refine⟨by rw [dS,dS,a,h1],?_⟩;rw [dS,b,h3,rY,List.range'_succ]
theorem aJQ {k:Int}(h0:0≤k)(h1:k≤1000000) :keyOf Tryz.prog 3 (encZ k) =some (.int .i64 k) :=by
 have hw: (Lit.int .i64 k).wf=true:=by
  simp only [Lit.wf,dC,decide_eq_true_eq];constructor
  ·show(-9223372036854775808:Int) ≤k;omega
  ·show k≤9223372036854775807;omega
 simp [keyOf,Tryz.underlying3,mapKey,encZ,hw]
theorem aSG {ml:List (Int×Bool)}(hnd: (ml.map Prod.fst).Nodup)(hr:∀k∈ml.map Prod.fst,0≤k∧k≤1000000)(hlen:ml.length≤1000000){ES:Array MapEntry}(hk:ES.toList.map (·.key) =ml.map (fun e=>encZ e.1))(hb:ES.toList.map (·.born) =range' 0 ml.length) :
  WideElems.Fit Tryz.prog 3 aBd ES ml.length:=by
 have hl:ES.toList.length=ml.length:=by have:=congrArg length hk;simpa using this
 refine⟨?_,⟨fun x hx=>?_,?_,?_⟩,fun x hx=>?_⟩
 ·rw [←Array.length_toList,hl];unfold maxLen;omega
 · have:x.born∈ES.toList.map (·.born) :=zq24.2 ⟨x,hx,rfl⟩;rw [hb,List.mem_range']at this;obtain⟨i,h1,h2⟩ :=this;omega
 ·rw [hb];exact List.nodup_range' ..
 · rw [hk];have: (ml.map fun e=>encZ e.1) = (ml.map Prod.fst).map encZ:=by rw [aT3];rfl
   rw [this];exact List.Pairwise.map _ (fun a b h e=>h (encZ_inj e)) hnd
 · have:x.key∈ES.toList.map (·.key) :=zq24.2 ⟨x,hx,rfl⟩;rw [hk]at this;obtain⟨e,he,hke⟩ :=zq24.1 this;have hb:=hr e.1 (zq24.2 ⟨e,he,rfl⟩);refine⟨(.int .i64 e.1,.nil),?_⟩;unfold WideElems.rd;rw [←hke,aJQ hb.1 hb.2];rfl
theorem aPs {ml:List (Int×Bool)}(hr:∀k∈ml.map Prod.fst,0≤k∧k≤1000000){ES:Array MapEntry}(hk:ES.toList.map (·.key) =ml.map (fun e=>encZ e.1)) :
  (intKeys (.map ((ES.toList.map (WideElems.rg Tryz.prog 3 aBd)).foldr DataW.insert []) :DataW Unit)).Perm (ml.map Prod.fst) :=by
 have h1: (ES.toList.map (WideElems.rg Tryz.prog 3 aBd)).map (fun p=>intOf p.1) =ml.map Prod.fst:=by
  have:∀ (us:List MapEntry) (ml:List (Int×Bool)),(∀k∈ml.map Prod.fst,0≤k∧k≤1000000) →us.map (·.key) =ml.map (fun e=>encZ e.1) → (us.map (WideElems.rg Tryz.prog 3 aBd)).map (fun p=>intOf p.1) =ml.map Prod.fst:=by
   intro us
   induction us with
   | nil=>intro ml _ h;cases ml with
    |nil=>rfl
    |cons _ _=>simp at h
   | cons u us ih=>
    intro ml hr h;cases ml with
    |nil=>simp at h
    | cons e ml=>
     simp only [dS,List.cons.injEq]at h;have hb:=hr e.1 (by simp);rw [dS,dS,dS,ih ml (fun k hk=>hr k (by simp only [dS,zq7];exact .inr hk)) h.2];refine congrArg (· ::ml.map Prod.fst) ?_;unfold WideElems.rg WideElems.rd;rw [h.1,aJQ hb.1 hb.2];simp only [aBd,Option.map_some,Option.bind_some,Option.getD_some,intOf]
  exact this _ ml hr hk
 rw [←h1];exact(WideShapes.sorted_perm _).map _
theorem aFl :∀l:List Int,flat (l.map encZ) =l.map encZ
 | [] =>rfl
 | a::l=>by
  have:=aFl l;simp only [flat,dS,List.flatMap_cons]at this ⊢;rw [this];rfl
theorem aJR (E:Emb) :∀l:List Int,VRs E (List.map aY l) (l.map encZ)
 | [] =>VRs.nil _
 |a::l=>VRs.cons (by simp only [aY,VR]) (aJR E l)
theorem aPt {ml:List (Int×Bool)}(hnd: (ml.map Prod.fst).Nodup)(hr:∀k∈ml.map Prod.fst,0≤k∧k≤1000000)(hlen:ml.length≤1000000){ks:List Int}(hks:ks= (ml.map Prod.fst).mergeSort (fun x y=>decide (x≤y)))(h:Hp)(r:Nat)(hb:h.look r=some (.map (bT aY kZ 0 ml) (length ml))) :
  aCw Tryz.prog 63 [.map r] 62 h (.ilst 1 (List.map aY ks) false) h:=by
 intro E w cargs R V;obtain⟨c,rest,rfl,vc,vn⟩ :=V.cons_inv;have:=vn.nil_inv;subst this;simp only [VR]at vc;obtain⟨L,hE,rfl⟩ :=vc;obtain⟨L',hE',ES,o1,o2⟩ :=R.obj r _ hb;rw [hE]at hE';cases hE';obtain⟨k1,k2⟩ :=aJP o2;have hfit:=aSG hnd hr hlen k1 k2;have hown:w.ownsMap Tryz.prog 3 aBd L.blk ES.size (.map ((ES.toList.map (WideElems.rg Tryz.prog 3 aBd)).foldr DataW.insert [])) := ⟨ES,_,o1,hfit,Nat.le_refl _,rfl⟩;have hperm:=aPs hr k1;generalize (DataW.map ((ES.toList.map (WideElems.rg Tryz.prog 3 aBd)).foldr DataW.insert []) :DataW Unit) =D0 at hown hperm;have hsz:Maps.size D0≤1000000:=by
  cases D0 with
  | map es=>
   have:=hperm.length_eq;simp only [intKeys,lP]at this;rw [Maps.size_eq];omega
  |_=>simp [Maps.size]
 have hbl:=hown.lt;have hseq:SeqGives Fence.wide 2 Tryz.prog 101 #[.pointer (some ⟨w.heap.size,0,none⟩)] encZ (fun ss=>ss.Perm (intKeys D0)) (Maps.size D0) (w.alloc (.cells #[.map (some L.blk)] 115)) :=
  AnyZI.keys_gives (ρ:=Tryz.keysA_ren) {Tryz.keysA with} Fence.wide _ trivial rfl (by omega) w.heap.size L.blk ES.size D0 _ (by simp) (by simp) (by
   obtain⟨es,clock,hb,Ft,hs,hD⟩ :=hown;exact⟨es,clock,(Below.heap_alloc _ _ _ hbl).trans hb,Ft,hs,hD⟩)
 have cK:CallsIn Fence.wide 5 Tryz.prog 63 #[.map (some L.blk)] w fun e w'=>e= .returned (.func (.func 101) #[] #[.pointer (some ⟨w.heap.size,0,none⟩)]) ∧w'=w.alloc (.cells #[.map (some L.blk)] 115) :=AnyZI.keys_in Tryz.keysA Fence.wide 5 trivial rfl _ w;have cS:=AnyZI.sorted_in Tryz.sortedA Fence.wide 5 trivial trivial trivial trivial rfl (by omega) (sortsA _) (enters_of Tryz.func100 kR0 rfl) 101 #[.pointer (some ⟨w.heap.size,0,none⟩)] trivial (enters_of Tryz.func101 kR0 rfl) _ _ (show Maps.size D0≤maxLen by unfold maxLen;omega) (by omega) _ hseq
 change CallsIn _ _ Tryz.prog 62 _ _ _ at cS
 refine(callsIn_wide.1 cK).mono ?_
 rintro e w1 ⟨rfl,rfl⟩
 have hheap:∀i,i<w.heap.size→ (w.alloc (.cells #[.map (some L.blk)] 115)).heap[i]?=w.heap[i]?:=fun i hi=>Below.heap_alloc _ _ i hi;have hsize: (w.alloc (.cells #[.map (some L.blk)] 115)).heap.size=w.heap.size+1:=by
  show(w.heap.push _).size=_;simp
 have relOf:∀ (E':Emb) (w':World),(∀b,E' b=E b) → (∀k C,E.imm k=some C→E'.imm k=some C) → (∀i,i<w.heap.size→w'.heap[i]?=w.heap[i]?) → (∀k C,E'.imm k=some C→ (E.imm k=some C) ∨ (w.heap.size≤k∧∃e f,w'.heap[k]?=some (.cells C e f))) →Rel E' h w'.heap:=by
  intro E' w' hl hi hh hm;have hle:E.le E':= ⟨fun b L e=>by rw [hl];exact e,hi⟩;refine⟨fun b o e=>?_,fun b b' o o' L L' e e' k k'=>?_,fun b hb'=>by rw [hl];exact R.fresh b hb',fun k C hk=>?_,fun b o L e k i hi=>?_,R.keys⟩
  · rcases R.obj0 b o e with⟨q1,q2⟩ | ⟨L,q1,q2⟩
    ·exact .inl ⟨q1,by rw [hl];exact q2⟩
    ·exact .inr ⟨L,by rw [hl];exact q1,(q2.mono hle).heap fun i hi=>hh i (q2.lt i hi)⟩
  · rw [hl]at k k';exact R.kin b b' o o' L L' e e' k k'
  · rcases hm k C hk with q| ⟨_,q⟩
    · obtain⟨e,f,q1⟩ :=R.imm k C q;exact⟨e,f,by rw [hh _ (zq44.1 q1).1];exact q1⟩
    ·exact q
  · rw [hl]at k;have h1:=R.apart b o L e k i hi;cases hq:E'.imm i with
    |none=>rfl
    | some C=>
     rcases hm _ _ hq with q| ⟨q,_⟩
     ·rw [h1]at q;cases q
     ·have:=R.lt e k i hi;omega
 refine⟨_,rfl,relOf E _ (fun _=>rfl) (fun _ _ e=>e) hheap (fun k C hk=>.inl hk),?_⟩;refine(callsIn_wide.1 cS).mono ?_
 rintro e w' ⟨v,ss,rfl,hS,hrow,hnil,hbel⟩
 have hss:ss.mergeSort (fun x y=>decide (x≤y)) =ks:=by
  rw [hks];exact mergeSort_of_perm_i (hS.trans hperm)
 have hss':ss.length=ks.length:=by rw [←hss,List.length_mergeSort]
 have hold:∀i,i<w.heap.size→w'.heap[i]?=w.heap[i]?:=fun i hi=> (hbel.block i (by rw [hsize];omega)).trans (hheap i hi);have extOf:∀E':Emb,(∀b,E' b=E b) → (∀k C,E.imm k=some C→E'.imm k=some C) → (∀k C,E'.imm k=some C→k<w.heap.size→E.imm k=some C) →Ext E h w E' h w':=fun E' hl hi hm=>
  ⟨⟨fun b L e=>by rw [hl];exact e,hi⟩,by have:=hbel.size;rw [hsize]at this;omega,fun i hi _=>hold i hi,fun b o L e k i hi _=> ⟨b,o,L,e,by rw [hl]at k;exact k,hi⟩,Nat.le_refl _,hbel.os,hbel.tape,hbel.output,fun b _=>hl b,
   fun a ha=>World.frozen?_of_block (w:=w) (hold _ ha),fun k C e hk=>.inl (hm k C e hk),fun b o e _=> ⟨o,e⟩⟩
 rw [hss]at hrow;rcases hrow.2 with⟨rfl,hz⟩ | ⟨g,cap,cur,rfl,hg,hgc,r1,r2,r3,r4⟩
 · have hk0:ks= [] :=List.eq_nil_of_length_eq_zero (by omega);subst hk0;refine⟨_,E,rfl,?_,relOf E w' (fun _=>rfl) (fun _ _ e=>e) hold (fun k C hk=>.inl hk),extOf E (fun _=>rfl) (fun _ _ e=>e) (fun _ _ e _=>e)⟩;simp only [VR,List.map_nil,VRs];exact⟨[],rfl,fun u hu=> (by cases hu),.inl ⟨rfl,none,0,rfl,fun _=>rfl,fun _=>rfl⟩⟩
 · have hgw:w.heap.size≤g:=by rw [hsize]at hg;omega
   have hgn:E.imm g=none:=by
    cases hq:E.imm g with
    |none=>rfl
    | some C=>
     obtain⟨e,f,q1⟩ :=R.imm g C hq;have:= (zq44.1 q1).1;omega
   have up:∀k C,E.imm k=some C→ (if k=g then some cur else E.imm k) =some C:=fun k C e=>by
    rw [if_neg (fun q=>by rw [q,hgn]at e;cases e)];exact e
   refine⟨_,⟨E.loc,fun k=>if k=g then some cur else E.imm k⟩,rfl,?_,relOf _ w' (fun _=>rfl) up hold (fun k C hk=>?_),extOf _ (fun _=>rfl) up (fun k C e hk=>?_)⟩
   · simp only [VR];refine⟨ks.map encZ,aJR _ ks,fun u hu=>?_,.inr ⟨g,0,cap,cur,?_,if_pos rfl,?_,(fun q=>by cases q),fun j hj=>?_⟩⟩
     · obtain⟨a,_,rfl⟩ :=zq24.1 hu;exact⟨rfl,fun c hc=>by rw [zq32.1 hc];rfl⟩
     ·rw [lP,hss']
     ·rw [lP];omega
     · rw [aFl];rw [lP]at hj;have h4: (cur.toList.take (ss.length*1))[j]?= (ks.map encZ)[j]?:=by rw [r4]
       rw [List.getElem?_take,if_pos (by omega)]at h4;rw [jS,←h4,oZ]
   · simp only at hk;split at hk
     · rename_i q;cases hk;subst q;exact .inr ⟨hgw,_,_,hgc⟩
     ·exact .inl hk
   · simp only at e;rw [if_neg (by omega)]at e;exact e
end Go.Hb
namespace Go.Hb
open AV (ilst keyless keylessL)
open List (drop length range' set take)
open Go.Proofs
set_option maxHeartbeats 1000000
noncomputable section
end
section
variable (F :List XT) (mn:Int) (cs:List Con) (B:Int)
end
end Go.Hb
namespace Go.Hb
open AV (ilst keyless keylessL)
open List (drop length range' set take)
open Go.Proofs
noncomputable section
end
end Go.Hb
namespace Go.Hb
open AV (ilst keyless keylessL)
open List (drop length range' set take)
open Go.Proofs
noncomputable section
end
end Go.Hb
namespace Go.Hb
open AV (ilst keyless keylessL)
open List (drop length range' set take)
open Go.Proofs
set_option maxHeartbeats 1000000
def aYb :Nat→List XT→Option (List XT×List Int)
 |0,ts=>if aPq ts 0= []then some (ts,[])else none
 | k+1,ts=>match aPq ts 0 with
  | [] =>some (ts,[])
  | a::_=>match atF a ts 0 with
   | .did ts'=> (aYb k ts').map fun r=> (r.1,a::r.2)
   |_=>none
section
variable {I :List XT→Prop} (hI:∀ts,I ts→FineXs 1000000 ts∧aG ts≤100000∧ts.length≤1000)
 (hS:∀ts a l ts',I ts→aPq ts 0=a::l→atF a ts 0= .did ts'→I ts')
include hS in
include hI hS
end
section
variable {p :Prog} (hs:aE p=true) {ts q:List XT} {m:List Int} {I:List XT→Prop} (hI:∀ts,I ts→FineXs 1000000 ts∧aG ts≤100000∧ts.length≤1000)
 (hS:∀ts a l ts',I ts→aPq ts 0=a::l→atF a ts 0= .did ts'→I ts') (hi:aM p=true→ (eA p).1=true→aO p ts p.funs∧I ts∧aYb 1000 ts=some (q,m))
include hs hI hS hi
end
end Go.Hb
namespace Go.Hb
open AV (ilst keyless keylessL)
open List (drop length range' set take)
open Go.Proofs
noncomputable section
def aNk(a:Prog):TS:=cJ PP 29 [(Prog.av a)] [] 0
def aMu(a:Prog):=tT 0 (aNk a)<|gpI 10 56 [(Prog.av a)]<|fun f=>.b 2 8 (f != 0) (gE 7 1 (.tup [.nilp,(nI 2)]))<|.y fun c:Bool=>.y fun g:Int=>gp 6 57 [(Prog.av a)] (.tup [(bV c),(nI g)])<|.b 11 15 (!c) (gE 7 1 (.tup [.nilp,(nI 7)]))<|.y fun b:List XT=>.y fun d:Int=>.y fun e:List Con=>gk 5 (.enter 58 [(Prog.av a)]) [oC 0 [(iN a.nodes),(iI a.funs),(nI a.main),(iC a.cons)]] 1 (.ptr 1 0) [oC 0 [(iN a.nodes),(iI a.funs),(nI a.main),(iC a.cons)],oC 1 [(.gl 2 1 0 b.length false),(nI d),(iC e)],(2,gh,false),(3,(.zone true [2] (aEa b)),false)] 4<|.E 4 4 [1,2,3] (.tup [(.ptr 0 0),(nI 0)]) [oC 0 [(.gl 1 1 0 b.length false),(nI d),(iC e)],(1,gh,false),(2,(.zone true [1] (aEa b)),false)] 3
def aVm:=fun a b c d=>aMu a b c|>.t d tv
def aVn:=fun a b c d e f g i=>aMu a b e|>.f f c d g|>.t i tv
def aVo:=fun a b c d e f g i j k l m=>aMu a b i|>.f j c d k|>.f l e f g m tv
end
end Go.Hb
namespace Go.Hb
open AV (ilst keyless keylessL)
open List (drop length range' set take)
open Go.Proofs
set_option maxHeartbeats 1000000
theorem aMv {m:Nat}{h h':Hp}{v v':AV}{k:IntKind}{x:Int}(z:mP m h h' v v') :mP m h h' (.tup [v,.int k x]) (.tup [v',.int k x]) :=fun E w r=>by
 obtain⟨j,i,b,e,f⟩ :=z E w r;refine⟨j,i,b,e,fun p a=>?_⟩;simp only [VR]at a ⊢;obtain⟨n,rfl,g⟩ :=a;obtain⟨s,q,rfl,d,g⟩ :=g.cons_inv;obtain⟨o,l,rfl,c,g⟩ :=g.cons_inv;rw [g.nil_inv];exact⟨_,rfl,VRs.cons (f _ d) (VRs.cons (by simpa only [VR]using c) (VRs.nil _))⟩
theorem aVp {p:Prog}(a:aE p=true)(b:aM p=false) :aK PP 29 [Prog.av p] (.tup [.nilp,.int .i64 2]) :=by
 have hc:=zR a;rw [b]at hc;exact hX (s:=aNk p) kR0 kR0 rfl rfl (aVm p _ hc (by rfl))
theorem aPu {p:Prog}(c:aE p=true)(d:aM p=true)(a: (eA p).1=false) :aK PP 29 [Prog.av p] (.tup [.nilp,.int .i64 7]) :=by
 have hc:=zR c;rw [d]at hc;have b:=zS c;rw [a]at b;exact hX (s:=aNk p) kR0 kR0 rfl rfl (aVn p _ false _ hc (by rfl) b rfl)
theorem aSH {p:Prog}(b:aE p=true)(g:aM p=true)(d: (eA p).1=true){ts:List XT}(h:aO p ts p.funs) :aK PP 29 [Prog.av p] (.tup [fvA ts p.main p.cons,.int .i64 0]) :=by
 have hc:=zR b;rw [g]at hc;have f:=zS b;rw [d]at f;have hb:=b;simp only [aE,dC,decide_eq_true_eq]at hb;have a:=jO h
 have c:ts≠ [] :=fun e=>by
  rw [e]at a;exact aJB g (zq35.1 a.symm)
 have e:=aVo p _ true _ ts p.main p.cons hc (by rfl) f rfl (sg3 (m:=0) (ks:=[]) (aVe (aM7 b) (by omega) (by omega) h c) kR0 kR0 trivial trivial);refine hX (s:=aNk p) kR0 kR0 rfl (by simp [keyless,keylessL,fvA]) ?_;have z:mP 0 (aA (FHl ts.length p.main p.cons ts) 3) (aA [] 3) (.ptr 0 0) (fvA ts p.main p.cons) :=aGj (k:=0) (q:=1) (z:=2) (n:=ts.length) (mn:=p.main) (cs:=p.cons) (ts:=ts) kR0 kR0 rfl kR0 (mX (l:=[]) (nb:=3) trivial) (Nat.zero_le _);exact mY (ks:=[]) (l:=[]) (nb:=0) (aAH e (aMv z)) kR0 kR0 kR0 trivial
end Go.Hb
namespace Go.Hb
open AV (ilst keyless keylessL)
open List (drop length range' set take)
open Go.Proofs
set_option maxHeartbeats 1000000
def aVq :XT→List Int→XT
 | .mk o n ks ps,to=>if o=4∧0≤n then .mk o (to.getD n.toNat 0) ks ps else .mk o n ks ps
def plc (to:List Int)(n k:Int) :List Int:=to++ (List.range k.toNat).map (fun i=>n+ ((i:Nat) :Int))
def clB :List XT→XT→XT
 | [],t=>t
 |a::bs,t=>.mk 7 0 [a,clB bs t] []
def clF (f:Flow) :XT:=clB f.binds f.last
mutual
def flT :XT→List Int→Int→Flow
 | .mk o n ks ps,to,z=>
  if zM (.mk o n ks ps) =true then⟨[],aVq (.mk o n ks ps) to⟩
  else if o=7 then flL ks to z
  else⟨(flO ks (uE o ks.length) to z).1,.mk o n ((flO ks (uE o ks.length) to z).2++flR o ps ks 0 (uE o ks.length) to (z+ ((flO ks (uE o ks.length) to z).1.length:Nat))) ps⟩
def flL :List XT→List Int→Int→Flow
 | [],_,_=> ⟨[],dXT⟩
 |a::ks,to,z=> ⟨(flT a to z).binds++ (flT a to z).last:: (flB ks (to++ [z+ ((flT a to z).binds.length:Nat)]) (z+ ((flT a to z).binds.length+1:Nat))).binds,(flB ks (to++ [z+ ((flT a to z).binds.length:Nat)]) (z+ ((flT a to z).binds.length+1:Nat))).last⟩
def flB :List XT→List Int→Int→Flow
 | [],_,_=> ⟨[],dXT⟩
 |b::_,to,z=>flT b to z
def flO :List XT→Nat→List Int→Int→List XT×List XT
 | [],_,_,_=> ([],[])
 |_::_,0,_,_=> ([],[])
 | k::ks,m+1,to,z=>if zM k=true then((flO ks m to z).1,aVq k to:: (flO ks m to z).2)
  else((flT k to z).binds++ (flT k to z).last:: (flO ks m to (z+ ((flT k to z).binds.length+1:Nat))).1,.mk 4 (z+ ((flT k to z).binds.length:Nat)) [] [] :: (flO ks m to (z+ ((flT k to z).binds.length+1:Nat))).2)
def flR (o:Int)(ps:List Pat) :List XT→Nat→Nat→List Int→Int→List XT
 | [],_,_,_,_=>[]
 |_::ks,i,m+1,to,n=>flR o ps ks (i+1) m to n
 |k::ks,i,0,to,n=>clF (flT k (plc to n (cL o ps (i:Int))) (n+cL o ps (i:Int))) ::flR o ps ks (i+1) 0 to n
end
def NdX (p:Prog)(o n:Int)(k:Nat)(ps:List Pat) :Prop:=
 (o=4→0- (p.funs.length:Int) ≤n∧k=0∧ps= []) ∧ (o≠4→aW p ⟨o,n,List.replicate k 0,ps⟩ =true)
mutual
def WX (p:Prog) :XT→Prop
 | .mk o n ks ps=>NdX p o n ks.length ps∧WXs p ks
def WXs (p:Prog) :List XT→Prop
 | [] =>True
 |t::ts=>WX p t∧WXs p ts
end
theorem NdX.let7 {p:Prog}{o n:Int}{k:Nat}{ps:List Pat}(h:NdX p o n k ps)(c:o=7) :n=0∧ps= [] ∧k=2:=by
 subst c;have:=h.2 (by decide);simp only [aW,fZ,dL,dC,decide_eq_true_eq,aKc]at this;obtain⟨⟨⟨b,a⟩,_⟩,d⟩ :=this;simp at b a;simp [bY]at d;exact⟨b,a,by omega⟩
theorem NdX.pats {p:Prog}{o n:Int}{k:Nat}{ps:List Pat}(h:NdX p o n k ps) :∀q∈ps,bU q≤12:=fun q a=>by
 by_cases b:o=4
 ·rw [(h.1 b).2.2]at a;cases a
 · have:=h.2 b;simp only [aW,dC]at this;have:=zq27.1 this.1.2 q a;simp only [gU,dC,decide_eq_true_eq]at this;exact this.1
section
variable {p :Prog} (c:Int)
end
end Go.Hb
