/- A machine on abstract values, its soundness, ways, plain laws. -/
import Derived.Test.YtmadhnaeihdkeaaGreatHF
import Derived.Test.YtmadhnaeihdkeaaGreatHI
import Derived.Test.YtmadhnaeihdkeaaGreatHL
set_option linter.defProp false
set_option linter.unusedVariables false
set_option linter.unusedSimpArgs false
set_option linter.unusedSectionVars false
set_option maxRecDepth 100000
set_option maxHeartbeats 1000000
namespace Go.Hb
open AV (agg keyless keylessL)
open List (drop drop_zero length map set take)
open Go.Proofs Tryz
noncomputable section
mutual
def ScX :XT→Int→Prop
 | .mk o n ks ps,z=> (o=4→n<z) ∧aYe o ps ks 0 z
def aYe (o:Int)(ps:List Pat) :List XT→Nat→Int→Prop
 | [],_,_=>True
 |t::ts,i,z=>ScX t (z+cL o ps (i:Int)) ∧aYe o ps ts (i+1) z
end
mutual
def fT :XT→Nat
 | .mk o n ks ps=>if zM (.mk o n ks ps) =true then 0 else if o=7 then fL ks else fO ks (uE o ks.length) +fR ks (uE o ks.length)
def gT :XT→Nat
 | .mk o n ks ps=>if zM (.mk o n ks ps) =true then 0 else if o=7 then gL ks else gO ks (uE o ks.length) +fR ks (uE o ks.length)
def fL :List XT→Nat
 | [] =>0
 |a::ks=>gT a+fB ks
def fB :List XT→Nat
 | [] =>0
 |b::_=>fT b
def gL :List XT→Nat
 | [] =>0
 |a::ks=>1+gT a+gB ks
def gB :List XT→Nat
 | [] =>0
 |b::_=>gT b
def fO :List XT→Nat→Nat
 | [],_=>0
 |_::_,0=>0
 |k::ks,m+1=> (if zM k=true then 0 else 1+gT k) +fO ks m
def gO :List XT→Nat→Nat
 | [],_=>0
 |_::_,0=>0
 |k::ks,m+1=> (if zM k=true then 0 else 2+gT k) +gO ks m
def fR :List XT→Nat→Nat
 | [],_=>0
 |_::ks,m+1=>fR ks m
 |k::ks,0=>fT k+fR ks 0
end
def fF :List XT→Nat
 | [] =>0
 |t::ts=>fT t+fF ts
section
variable (c :Int)
end
def zU (f:Flow) :Nat:=aG f.binds+f.binds.length+eO f.last
theorem lC :∀ (a b:List XT),aG (a++b) =aG a+aG b
 | [],b=>by simp [aG]
 |x::a,b=>by simp only [aDS,aG,lC a b];omega
theorem aMw :∀ (b:List XT) (t:XT),eO (clB b t) =aG b+b.length+eO t
 | [],t=>by simp [clB,aG]
 |a::b,t=>by simp only [clB,eO,aG,rY,aMw b t];omega
theorem aNl (to:List Int) :∀ (t:XT),eO (aVq t to) =eO t
 | .mk o n b a=>by simp only [aVq];split<;>simp only [eO]
mutual
theorem aSI {p:Prog}:∀ (t:XT),WX p t→∀ (b:List Int) (z:Int),eO t≤zU (flT t b z) ∧zU (flT t b z) +2≤3*eO t
 | .mk o n a e,c,b,z=>by
  have g:=c;simp only [WX]at c;simp only [flT];by_cases f:zM (.mk o n a e) =true
  · rw [if_pos f];simp only [zU,aG,List.length_nil,aNl,eO];omega
  · rw [if_neg f];by_cases d:o=7
    · rw [if_pos d];obtain⟨_,_,hl⟩ :=c.1.let7 d;have:=aZO a c.2 (by omega) b z;simp only [eO];omega
    · rw [if_neg d];have j:=aWW a c.2 (uE o a.length) b z;have h:=aWX o e a c.2 0 (uE o a.length) b (z+ ((flO a (uE o a.length) b z).1.length:Nat));have i:aG a=aG (a.take (uE o a.length)) +aG (a.drop (uE o a.length)) :=by rw [←lC,List.take_append_drop]
      simp only [zU,eO,lC];omega
theorem aZO {p:Prog}:∀ (c:List XT),WXs p c→c.length≤2→∀ (b:List Int) (z:Int),1+aG c≤zU (flL c b z) ∧zU (flL c b z) +2≤3* (1+aG c)
 | [],_,_,b,z=>by simp [flL,zU,aG,dXT,eO]
 | a::c,d,hl,b,z=>by
  simp only [WXs]at d;have f:=aSI a d.1 b z;have e:=aZP c d.2 (by simp only [rY]at hl;omega) (b++ [z+ ((flT a b z).binds.length:Nat)]) (z+ ((flT a b z).binds.length+1:Nat));simp only [flL,zU,lC,aG,pU,rY]at f e ⊢;omega
theorem aZP {p:Prog}:∀ (a:List XT),WXs p a→a.length≤1→∀ (c:List Int) (z:Int),aG a≤zU (flB a c z) ∧zU (flB a c z) ≤1+3*aG a
 | [],_,_,c,z=>by simp [flB,zU,aG,dXT,eO]
 | [b],d,_,c,z=>by
  simp only [WXs]at d;have e:=aSI b d.1 c z;simp only [flB,aG];omega
 |_::_::_,_,hl,_,_=>by simp at hl
theorem aWW {p:Prog}:∀ (b:List XT),WXs p b→∀ (m:Nat) (a:List Int) (z:Int),aG (b.take m) ≤aG (flO b m a z).1+ (flO b m a z).1.length+aG (flO b m a z).2∧aG (flO b m a z).1+ (flO b m a z).1.length+aG (flO b m a z).2≤3*aG (b.take m)
 | [],_,m,a,z=>by simp [flO,aG]
 |k::b,_,0,a,z=>by simp [flO,aG]
 | k ::b,c,m+1,a,z=>by
  simp only [WXs]at c;simp only [flO,List.take_succ_cons,aG];by_cases d:zM k=true
  · rw [if_pos d];have e:=aWW b c.2 m a z;simp only [aG,aNl];omega
  · rw [if_neg d];have f:=aSI k c.1 a z;have e:=aWW b c.2 m a (z+ ((flT k a z).binds.length+1:Nat));simp only [zU]at f;simp only [lC,aG,pU,rY,eO];omega
theorem aWX {p:Prog}(o:Int)(ps:List Pat) :∀ (a:List XT),WXs p a→∀ (i m:Nat) (b:List Int) (n:Int),aG (a.drop m) ≤aG (flR o ps a i m b n) ∧aG (flR o ps a i m b n) ≤3*aG (a.drop m)
 | [],_,i,m,b,n=>by simp [flR,aG]
 | k::a,c,i,m+1,b,n=>by
  simp only [WXs]at c;simp only [flR,List.drop_succ_cons];exact aWX o ps a c.2 (i+1) m b n
 | k::a,c,i,0,b,n=>by
  simp only [WXs]at c;have e:=aSI k c.1 (plc b n (cL o ps (i:Int))) (n+cL o ps (i:Int));have d:=aWX o ps a c.2 (i+1) 0 b n;rw [drop_zero]at d;simp only [flR,drop_zero,aG,clF,aMw];simp only [zU]at e;omega
end
def nfT (t:XT) :XT:=clF (flT t [0] 1)
structure NInv (p:Prog) (q:List XT) (ts:List XT) :Prop where
 wx:WXs p ts
 sc:∀t∈ts,ScX t 1
 nf:ts.map nfT=q
 qs:aG q≤900
 fs:fF ts≤900
 fine:FineXs (950900- (fF ts:Nat)) ts
 len:ts.length≤1000
theorem aNm {p:Prog}:∀ {a:List XT},WXs p a→aG a≤aG (a.map nfT) ∧aG (a.map nfT) ≤3*aG a
 | [],_=>by simp [aG]
 | t::a,h=>by
  simp only [WXs]at h;have b:=aSI t h.1 [0] 1;have c:=aNm h.2;simp only [dS,aG,nfT,clF,aMw];simp only [zU]at b;omega
theorem NInv.small {p:Prog}{q ts:List XT}(h:NInv p q ts) :aG ts≤900:=by
 have:= (aNm h.wx).1;rw [h.nf]at this;have:=h.qs;omega
theorem aMx {p:Prog}{nd:Node}:aW p ⟨nd.op,nd.n,List.replicate nd.kids.length 0,nd.pats⟩ =aW p nd:=by
 simp only [aW,fZ,fA,aKc];try rfl
mutual
theorem aVr {p:Prog}(f:∀ (i:Nat) (x:Node),p.nodes[i]?=some x→aW p x=true) :∀ (t:XT) (a:Int),IsTree p t a→WX p t
 | .mk o n k q,a,h=>by
  simp only [IsTree]at h;obtain⟨m,nd,l,rfl,rfl,rfl,g⟩ :=h;have b:=f _ nd l;simp only [WX];rw [jO g];refine⟨⟨fun e=>?_,fun _=>by rw [aMx];exact b⟩,aDH f k nd.kids g⟩;simp only [aW,fZ,dL,dC,e,decide_eq_true_eq]at b;obtain⟨⟨⟨j,d⟩,_⟩,c⟩ :=b;simp [cZ]at j d;simp [bY]at c;exact⟨by omega,by simp [c],d⟩
theorem aDH {p:Prog}(b:∀ (i:Nat) (x:Node),p.nodes[i]?=some x→aW p x=true) :∀ (a:List XT) (l:List Int),aO p a l→WXs p a
 | [],_,_=>trivial
 | t::a,l,h=>by
  simp only [aO]at h;obtain⟨k,e,rfl,d,c⟩ :=h;exact⟨aVr b t k d,aDH b a e c⟩
end
abbrev aSJ (a:List XT)(b:Int)(c:List Con)(d e:List LF)(f g h i:Int)(j:List XT)(k:List Pat):=aA [(0,(.loop .ready none 10 (pL [kp 6 2]) 45 [19] (kd f10 500) (kd f10 501) 3),false),oC 1 [(.iptr [(.ilst 1 (XTs.av a) false),(nI b),(iC c)])],oC 2 [(.gl 6 2 0 (d++e).length false)],(3,(.defd false),false),oC 4 [(nI f),(nI g),(.iptr [(.iptr [(nI h),(nI i),(.ilst 1 (XTs.av j) false),(iP k)])])],oL 6 2 (map LF.av (d++e))] 7
abbrev uK (a:Nat)(b:List XT)(c:Int)(d:List Con):=oC a [(.iptr [(.ilst 1 (XTs.av b) false),(nI c),(iC d)])]
abbrev aSK:AV:=.ilst 2 (map LF.av ([] :List LF)) true
abbrev aHb (a:Nat)(b:List LF):=oC a [(.gl 4 2 0 b.length false)]
abbrev rR (a:List XT):AV:=.ilst 1 (XTs.av a) false
abbrev aAK (a:Nat)(b:List LF):=oL a 2 (map LF.av b)
def aV1(a:Prog)(b:List XT)(c:Int)(d:List Con):TS:=cJ PP 10 [(Prog.av a)] [] 0
def aHc(g:Prog)(a:List XT)(c:Int)(d:List Con)(e f:Int)(b:List LF):TS:=⟨(tf 59 26 [(0,(.yield 0)),kp 1 1,(3,(nI e)),(9,(nI (a.length:Int))),(10,(nI f))] [kc f59 28,kl f59 28,.inBlock 0]),[(tf 10 45 [(2,.nils),(3,(nI 0)),kp 6 2] [.inRF 0,.inBlock 0,kc f10 63] (defers:=[.col 3]))],[(0,(.loop .ready none 10 (pL [kp 6 2]) 45 [19] (kd f10 500) (kd f10 501) 3),false),uK 1 a c d,aHb 2 b,(3,(.defd false),false),aAK 4 b],5⟩
def aSL(b:List XT)(c:Int)(d:List Con)(a:List LF)(e f g i:Int)(j:List XT)(k:List Pat):TS:=cJ PP 60 [(.agg [(nI e),(nI f),(.iptr [(.iptr [(nI g),(nI i),(rR j),(iP k)])])]),(.yield 0)] [(0,(.loop .ready none 10 (pL [kp 6 2]) 45 [19] (kd f10 500) (kd f10 501) 3),false),uK 1 b c d,aHb 2 a,(3,(.defd false),false),aAK 4 a] 5
def zV(f:List XT)(g:Int)(i:List Con)(n:List LF)(j k b c:Int)(a:List XT)(d:List Pat)(e:List LF)(l m:Int):TS:=⟨(tf 60 48 [(1,(.yield 0)),kp 2 4,(4,(nI 0)),(5,(nI l)),(6,(.iptr [(nI b),(nI c),(rR a),(iP d)])),(23,(nI (a.length:Int))),(24,(nI m))] [kc f60 500,kl f60 500,.inBlock 0,kc f60 63]),[],[(0,(.loop .ready none 10 (pL [kp 6 2]) 45 [19] (kd f10 500) (kd f10 501) 3),false),uK 1 f g i,oC 2 [(.gl 5 2 0 e.length false)],(3,(.defd false),false),oC 4 [(nI j),(nI k),(.iptr [(.iptr [(nI b),(nI c),(rR a),(iP d)])])],aAK 5 e],6⟩
def aMy(b:Prog)(a:List XT)(c:Int)(d:List Con):=tT 0 (aV1 b a c d)<|.o (gp 9 29 [(Prog.av b)] (.tup [.nilp,(nI 7)])<|.i [rn 20,.nilI 2 2] []<|gE 0 1 (.tup [aSK,(nI 7)]))<|.o (gp 9 29 [(Prog.av b)] (.tup [.nilp,(nI 2)])<|.i [rn 20,.nilI 2 2] []<|gE 0 1 (.tup [aSK,(nI 2)]))<|gp 9 29 [(Prog.av b)] (.tup [(.iptr [(rR a),(nI c),(iC d)]),(nI 0)])<|.i [rn 38,.lkeep 4 [6]] []<|.i [rn 10,aL a] [.q (p:=((XTs.av a).length:Int) = (a.length:Int)) (fM dY _)]<|.i [rn 4,.cnil 1 0 2] []<|gu 0 5 (map LF.av ([] :List LF))<|gv 0 1 0 (.gl 5 2 0 ([] :List LF).length false)<|.W 0 6 [4,2,1,3,5] (aHc b a c d 0 0 ([] :List LF))
def aVs:=fun a b c d e=>aMy a b c d|>.1 e tv
def aVt:=fun a b c d e=>aMy a b c d|>.2|>.1 e tv
def aVu:=fun a b c d e=>aMy a b c d|>.2|>.2 e ⟨kk,trivial⟩
def aSM(i:Prog)(b:List XT)(e:Int)(f:List Con)(j c:Int)(a:List LF):=tT 0 (aHc i b e f j c a)<|gd 5 11 (c< (b.length:Int)) (.y fun k:Int=>.y fun l:Int=>.y fun m:List XT=>.y fun n:List Pat=>giF dY 17 b c (XT.mk k l m n)<|.y fun d:List LF=>.y fun g:Int=>gk 2 (.enter 60 [(.agg [(nI j),(nI 1),(.iptr [(.iptr [(nI k),(nI l),(rR m),(iP n)])])]),(.yield 0)]) [(0,(.loop .ready none 10 (pL [kp 6 2]) 45 [19] (kd f10 500) (kd f10 501) 3),false),uK 1 b e f,aHb 2 a,(3,(.defd false),false),aAK 4 a] 5 (nI g) [(0,(.loop .ready none 10 (pL [kp 6 2]) 45 [19] (kd f10 500) (kd f10 501) 3),false),uK 1 b e f,oC 2 [(.gl 5 2 0 (a++d).length false)],(3,(.defd false),false),oL 5 2 (map LF.av (a++d))] 6<|gd 7 24 (g<0) (gz 13 2 5 2 LF.av (a++d) false<|gE 0 6 (.tup [(.ilst 2 (map LF.av (a++d)) false),(nI 0)]))<|gw 5 25 (c+1)<|.W 3 6 [0,1,2,3,5] (aHc i b e f g (c+1) (a++d)))<|gz 14 2 4 2 LF.av a false<|gE 0 5 (.tup [(.ilst 2 (map LF.av a) false),(nI 0)])
def aVv:=fun a b c d e f g i j k l m n o p q r s t=>aSM a b c d e f g|>.t o i j k l p q m n r|>.f s t ⟨kk,trivial⟩
def aVw:=fun a b c d e f g i=>aSM a b c d e f g|>.f i tv
def aSN(g:List XT)(i:Int)(j:List Con)(b:List LF)(a e f k:Int)(c:List XT)(l:List Pat):=tT 4 (aSL g i j b a e f k c l)<|.b 33 28 (f== (5:Int)) (.y fun m:Int=>.y fun n:Int=>.y fun o:List XT=>.y fun p:List Pat=>.y fun d:List Int=>.i [rn 1,.reg (rd 7 (.ans (.idx (XT.av (XT.mk m n o p)))::rd 3 [.pure (iI d),.d,.d,.app (map LF.av (b++ [(LF.mk a d)])) (b++ [(LF.mk a d)]).length,.d]))] [hA (0≤ (0:Int)),.a (((c)[(0:Int).toNat]?) =some (XT.mk m n o p)) (hU dY),hA (aK PP 31 [(.iptr [(nI m),(nI n),(rR o),(iP p)]),(nI e)] (iI d)),hb LF.av b,hA (length (b++ [(LF.mk a d)]) ≤1000000),hc LF.av b [(LF.mk a d)],he LF.av b [(LF.mk a d)],hr (nI a),hr (nI a),hr (AV.gl 4 2 0 b.length false),hr (AV.gl 4 2 0 b.length false)]<|gw 11 14 (a+ (1:Int))<|.i [rn 17,aL c] [.q (p:=((XTs.av c).length:Int) = (c.length:Int)) (fM dY _)]<|.W 4 9 [5,8] (zV g i j b a e f k c l (b++ [(LF.mk a d)]) (a+ (1:Int)) 0))<|gw 13 14 (a+ (1:Int))<|.i [rn 17,aL c] [.q (p:=((XTs.av c).length:Int) = (c.length:Int)) (fM dY _)]<|.W 4 7 [5,4] (zV g i j b a e f k c l b (a+ (1:Int)) 0)
def aSO:=fun a b c d e f g i j k l m n o p q r s t u v=>aSN a b c d e f g i j k|>.t q l m n o p r s t u v ⟨kk,trivial⟩
def aSP:=fun a b c d e f g i j k l m=>aSN a b c d e f g i j k|>.f l m ⟨kk,trivial⟩
def aSQ(d:List XT)(e:Int)(f:List Con)(u:List LF)(m c j k:Int)(b:List XT)(l:List Pat)(a:List LF)(o g:Int):=tT 4 (zV d e f u m c j k b l a o g)<|gd 5 25 (g< (b.length:Int)) (.y fun p:Int=>.y fun q:Int=>.y fun r:Int=>.y fun s:List XT=>.y fun t:List Pat=>.y fun i:List LF=>.y fun n:Int=>.i [rn 10,.reg (rd 5 (.pure (nI p)::rd 6 [.ans (.idx (XT.av (XT.mk q r s t))),.d,.d,.call (nI n) (aSJ d e f a i m c j k b l),.d]))] [hA (aK PP 97 [(.iptr [(nI j),(nI k),(rR b),(iP l)]),(nI g)] (nI p)),hA (0≤g),.a (((b)[g.toNat]?) =some (XT.mk q r s t)) (hU dY),hA (Spec PP (.enter 60 [(.agg [(nI o),(nI (IntKind.i64.wrap (c+p))),(.iptr [(.iptr [(nI q),(nI r),(rR s),(iP t)])])]),(.yield 0)]) (aA [(0,(.loop .ready none 10 (pL [kp 6 2]) 45 [19] (kd f10 500) (kd f10 501) 3),false),uK 1 d e f,oC 2 [(.gl 5 2 0 a.length false)],(3,(.defd false),false),oC 4 [(nI m),(nI c),(.iptr [(.iptr [(nI j),(nI k),(rR b),(iP l)])])],aAK 5 a] 6) (.ret (nI n)) (aSJ d e f a i m c j k b l)),hr (AV.ilst 1 (XTs.av b) false),hr (AV.ilst 1 (XTs.av b) false),hr (nI c),hr (nI c)]<|gd 5 44 (n<0) (.E 7 7 [6] (nI n) [(0,(.loop .ready none 10 (pL [kp 6 2]) 45 [19] (kd f10 500) (kd f10 501) 3),false),uK 1 d e f,oC 2 [(.gl 4 2 0 (a++i).length false)],(3,(.defd false),false),oL 4 2 (map LF.av (a++i))] 5)<|gw 5 46 (g+1)<|.W 3 7 [4,6] (zV d e f u m c j k b l (a++i) n (g+1)))<|.E 8 6 [5] (nI o) [(0,(.loop .ready none 10 (pL [kp 6 2]) 45 [19] (kd f10 500) (kd f10 501) 3),false),uK 1 d e f,aHb 2 a,(3,(.defd false),false),aAK 4 a] 5
def aSR:=fun a b c d e f g i j k l m n o p q r s t u v w x y z A B=>aSQ a b c d e f g i j k l m n|>.t v o p q r s t u w x y z|>.f A B ⟨kk,trivial⟩
def aSS:=fun a b c d e f g i j k l m n o=>aSQ a b c d e f g i j k l m n|>.f o ⟨kk,trivial⟩
abbrev CGl (ts:List XT)(mn:Int)(cs:List Con)(l:List LF) :HL:=[(0,(.loop .ready none 10 (pL [(6,(.ptr 2 0))]) 45 [19] (cd Tryz.f10 [1,1,1,1,0,1,0,0]) (cd Tryz.f10 [1,1,1,1,0,1,0,1]) 3),false),(1,(.cells (putCells .leaf 0 [(.iptr [(.ilst 1 (XTs.av ts) false),(.int .i64 mn),(.ilst 2 (map Con.av cs) false)])]) 1 [] false),false),(2,(.cells (putCells .leaf 0 [(.gl 4 2 0 (length l) false)]) 1 [] false),false),(3,(.defd false),false),(4,(.lst 2 (map LF.av l)),true)]
theorem aHd (ts:List XT)(mn:Int)(cs:List Con)(l:List LF) :eG (CGl ts mn cs l) := ⟨bL _ LF.kl _,trivial⟩
theorem aWY {p:Prog}{n:Int}{k:Nat}{ps:List Pat}(h:NdX p 5 n k ps) :k=1:=by
 have:=h.2 (by decide);simp only [aW,dC,decide_eq_true_eq,aKc]at this;have:=this.2;simp [bY]at this;omega
section
variable (hk :nZ) (p:Prog) (B:Int) (F:List XT) (mn:Int) (cs:List Con)
mutual
theorem aNn (hk:nZ) :∀ (t:XT),FineX B t→WX p t→∀ (l:List LF) (a b:Int),l.length+eO t≤100000→0≤a→a+ (eO t:Nat) ≤1000000→0≤b→b+1000* (eO t:Nat) ≤1000000 →
  kY PP 4 (.enter 60 [.agg [.int .i64 a,.int .i64 b,.iptr [XT.av t]],.yield 0]) (aA (CGl F mn cs l) 5) (.ret (.int .i64 (a+ (eO t:Nat)))) (aA (CGl F mn cs (l++lfT t a b)) 5)
 | .mk o n d e,w,j,l,a,b,hl,D,v,x,u=>by
  simp only [FineX]at w;simp only [WX]at j;obtain⟨_,A,z,y,C,G,i⟩ :=w;simp only [eO]at v u hl;refine⟨(aSL F mn cs l a b o n d e).as.fr,by kernel_rfl,?_⟩;have r:=fun l' (hl':l'.length+aG d≤100000) =>aNo hk l a b o n d e A z y x d 0 (a+1) l' rfl i j.2 hl' (by omega) (by omega) (by omega);rw [lfT,←zq9,show a+ ((eO (.mk o n d e) :Nat) :Int) =a+1+ ((aG d:Nat) :Int)by simp only [eO];omega];by_cases f:o=5
  · subst f;have g:=aWY j.1;obtain⟨k,rfl⟩ :∃k,d= [k] :=by
     match d,g with
     | [k],_=>exact⟨k,rfl⟩
    rw [if_pos rfl,aSn];obtain⟨q,m,h,s⟩ :=k;simp only [FineXs,aG]at i v u hl r ⊢;have c:=aSF hk (.mk q m h s) b i.1 (by omega) x (by omega);exact(aSO F mn cs l a b 5 n [.mk q m h s] e q m h s _ rfl (by decide) rfl c (by simp;omega) sd).ends (r _ (by simp;omega))
  · rw [if_neg f,rZ];exact(aSP F mn cs l a b o n d e (by simpa using f) sd).ends (r _ (by omega))
theorem aNo (hk:nZ)(k:List LF)(s b:Int)(o n:Int)(ks:List XT)(ps:List Pat)(K:ks.length≤1000)(y:∀q∈ps,bU q≤1000)(A:o=15→ks.length=1+ps.length)(h2:0≤b) :
  ∀ (c:List XT) (i:Nat) (a:Int) (l:List LF),ks.drop i=c→FineXs B c→WXs p c→l.length+aG c≤100000→0≤a→a+ (aG c:Nat) ≤1000000→b+1000+1000* (aG c:Nat) ≤1000000 →
  Ends PP 4 (zV F mn cs k s b o n ks ps l a (i:Int)).as (.ret (.int .i64 (a+ (aG c:Nat)))) (aA (CGl F mn cs (l++xO o ps c i a b)) 5)
 | [],i,a,l,h,_,_,_,_,_,_=>by
  have:=bJ h;simp only [xO,aG,rZ];rw [show a+ ((0:Nat) :Int) =a by omega];exact aSS F mn cs k s b o n ks ps l a (i:Int) sd
 | .mk g f e j::c,i,a,l,h,w,x,hl,G,D,C=>by
  obtain⟨N,I,M⟩ :=bH h;simp only [FineXs]at w;simp only [WXs]at x;simp only [aG]at D C hl ⊢;have L:=zN (o:=o) y (i:Int);have v:IntKind.i64.wrap (b+cL o ps (i:Int)) =b+cL o ps (i:Int) :=wrap64 (by omega) (by omega)
  have H:o=15→0< (i:Int) →∃q,ps[((i:Int) -1).toNat]?=some q:=fun t O=>by
   have:=A t;exact⟨_,lZ (by omega)⟩
  have u:=aNn hk (.mk g f e j) w.1 x.1 l a (b+cL o ps (i:Int)) (by omega) G (by omega) (by omega) (by omega);have d:=vJ (.mk g f e j) a (b+cL o ps (i:Int));have J:=aDv o n ks ps y (i:Int) ⟨by omega,by omega⟩ H;rw [xO,←zq9];generalize eO (.mk g f e j) =r at u D C hl d ⊢;generalize lfT (.mk g f e j) a (b+cL o ps (i:Int)) =z at u d ⊢;have st:=aSR F mn cs k s b o n ks ps l a (i:Int) (cL o ps (i:Int)) g f e j z (a+ (r:Nat)) sd J sd sd (aWK v (sg3 (m:=4) (ks:=[0,1,2,3,5]) u kR0 kR0 (aHd ..) (aHd ..))) (by simp;omega) sd;rw [show a+ ((r+aG c:Nat) :Int) =a+ (r:Nat) + ((aG c:Nat) :Int)by omega];exact st.ends (aNo hk k s b o n ks ps K y A h2 c (i+1) (a+ (r:Nat)) (l++z) I w.2 x.2 (by rw [pU];omega) (by omega) (by omega) (by omega))
end
theorem aBe (hk:nZ)(q:Prog)(hl:F.length≤1000) :∀ (a:List XT) (i:Nat) (n:Int) (l:List LF),F.drop i=a→FineXs B a→WXs p a→l.length+aG a≤900→0≤n→n+ (aG a:Nat) ≤900 →
  Ends PP 0 (aHc q F mn cs n (i:Int) l).as (.ret (.tup [.ilst 2 (map LF.av (l++lfF a n)) false,.int .i64 0])) (aA [] 0)
 | [],i,n,l,h,_,_,_,_,_=>by
  have:=bJ h;simp only [lfF,rZ];exact aVw q F mn cs n (i:Int) l sd
 | .mk d b f g::a,i,n,l,h,o,j,e,v,t=>by
  obtain⟨x,u,w⟩ :=bH h;simp only [FineXs]at o;simp only [WXs]at j;simp only [aG]at e t;have k:=aNn p B F mn cs hk (.mk d b f g) o.1 j.1 l n 1 (by omega) v (by omega) (by omega) (by omega);have c:=vJ (.mk d b f g) n 1;rw [lfF,←zq9];generalize eO (.mk d b f g) =s at k e t c ⊢;generalize lfT (.mk d b f g) n 1=r at k c ⊢;have st:=aVv q F mn cs n (i:Int) l d b f g r (n+ (s:Nat)) sd sd sd (sg3 (m:=4) (ks:=[0,1,2,3,4]) k kR0 kR0 (aHd ..) (aHd ..)) (by simp;omega) sd;exact st.ends (aBe hk q hl a (i+1) (n+ (s:Nat)) (l++r) u o.2 j.2 (by rw [pU];omega) (by omega) (by omega))
end
noncomputable def kQ (p:Prog)(ts:List XT) :List LF×Int:=
 if aM p=false then([],2)else if(eA p).1=false then([],7)else(lfF ts 0,0)
theorem aJT (hk:nZ){p:Prog}(c:aE p=true){ts:List XT}(b:aM p=true→aO p ts p.funs) :aK PP 10 [Prog.av p] (.tup [.ilst 2 (map LF.av (kQ p ts).1) false,.int .i64 (kQ p ts).2]) :=by
 refine hX (s:=aV1 p ts p.main p.cons) kR0 kR0 rfl (by simp [keyless,keylessL]) ?_;unfold kQ;have hb:=c;simp only [aE,dC,decide_eq_true_eq]at hb;cases a:aM p
 case false=>
  rw [if_pos rfl];exact Ends.val (aVt p ts p.main p.cons (aVp c a)) (fun E f h=>nX h)
 rw [if_neg (by decide)];cases hc: (eA p).1
 case false=>
  rw [if_pos rfl];exact Ends.val (aVs p ts p.main p.cons (aPu c a hc)) (fun E f h=>nX h)
 rw [if_neg (by decide)];have b:=b a;obtain⟨g,_,_⟩ :=gW c a;have j:=xN c a b;have i:=jO b;have e:=rX a;have d:=rN g e ts p.funs b;exact(aVu p ts p.main p.cons (aSH c a hc b)).ends (aBe p 400 ts p.main p.cons hk p (by omega) ts 0 0 [] rfl d (aDH e ts p.funs b) (by simp;omega) (by omega) (by omega))
abbrev nE (a b:Int)(c:List Pat)(d:List RT):AV:=.agg [(nI a),(nI b),(iP c),(.ilst 4 (RTs.av d) false)]
abbrev aMz:AV:=.gl 1 1 0 ([] :List Int).length false
def aWZ(a:List Int)(b:Int):TS:=cJ PP 151 [(iI a),(nI b)] [] 0
def aBP(a:List Int)(b c:Int):TS:=⟨(tf 151 44 [(0,(iI a)),(1,(nI b)),(4,.nils),(5,(nI c))] [kc f151 56,kl f151 56,.inBlock 0,kc f151 15]),[],[],0⟩
def aW0(a b:Int)(c:List Pat)(d:List RT)(e:Int):TS:=cJ PP 103 [(nE a b c d),(nI e)] [] 0
def rS(a b:Int)(c:List Pat)(d:List RT)(e:Int)(f:List Int)(g:Int):TS:=⟨(tf 103 55 [(1,(nI e)),kp 2 0,(4,.nils),(5,(iI f)),(6,(nI g))] [kc f103 244,kl f103 244,.inBlock 0,kc f103 31]),[],[oC 0 [(nI a),(nI b),(iP c),(.ilst 4 (RTs.av d) false)]],1⟩
def zW(a b:Int)(c:List Pat)(d:List RT)(e:Int)(f g:List Int)(i j:Int):TS:=⟨(tf 103 55 [(1,(nI e)),kp 2 0,(4,.nils),(5,(iI f)),(6,(nI j)),(7,(iI g)),(8,(nI i))] [kc f103 31308,kl f103 31308,.inBlock 2,.inBlock 1,kc f103 979,kl f103 244,.inBlock 0,kc f103 31]),[],[oC 0 [(nI a),(nI b),(iP c),(.ilst 4 (RTs.av d) false)]],1⟩
def aW1(a b:Int)(c:List Pat)(d:List RT)(e:Int):TS:=cJ PP 152 [(nE a b c d),(nI e)] [] 0
def rT(a b:Int)(c:List Pat)(d:List RT)(e f:Int):TS:=⟨(tf 152 42 [(1,(nI e)),kp 2 0,(4,(bV false)),(5,(nI f))] [kc f152 116,kl f152 116,.inBlock 0,kc f152 15]),[],[oC 0 [(nI a),(nI b),(iP c),(.ilst 4 (RTs.av d) false)]],1⟩
def aMA(a b:Int)(c:List Pat)(d:List RT)(e:Int):TS:=cJ PP 104 [(nE a b c d),(nI e)] [] 0
def aMB(a b:Int)(c:List Pat)(d:List RT)(e:Int):TS:=cJ PP 105 [(nE a b c d),(nI e)] [] 0
def aST (a:List Int)(b:Int):=(tT 0 (aWZ a b)<|.W 11 0 [] (aBP a b 0)) tv
def aHe(b:List Int)(c a:Int):=tT 0 (aBP b c a)<|gl 5 aY b<|gd 2 10 (a< (b.length:Int)) (gX aY 2 b a<|fun d=>gd 5 17 (d<c) (gw 6 19 (a+1)<|.W 4 0 [] (aBP b c (a+1)))<|gl 7 aY b<|gd 2 24 (a< (b.length:Int)) (gi aY 2 b a d<|.b 5 31 (d==c) (gE 7 0 (iI b))<|.i [rn 3,.reg [.d,.d,.ans (.ev (iI (take a.toNat b))),.app (jI (take a.toNat b)) (take a.toNat b).length,.d,.d,.app (jI ((take a.toNat b) ++ [c])) ((take a.toNat b) ++ [c]).length,.d,.d,.ans (.ev (iI (drop a.toNat b))),.app (jI (((take a.toNat b) ++ [c]) ++ (drop a.toNat b))) (((take a.toNat b) ++ [c]) ++ (drop a.toNat b)).length,.d]] [.a (0≤a∧a.toNat≤length b) (p':=aBk PP 23 (iI b) none (some (nI a)) (iI (take a.toNat b))) fun⟨ha,hb⟩=>(aCI (k:=a) kR0 ha hb),hA (length (take a.toNat b) ≤1000000),hr (jI (take a.toNat b)),.q (p:=length (jI (take a.toNat b)) =length (take a.toNat b)) (lP ..),hb aY (take a.toNat b),hA (length ((take a.toNat b) ++ [c]) ≤1000000),hc aY (take a.toNat b) [c],he aY (take a.toNat b) [c],.a (0≤a∧a.toNat≤length b) (p':=aBk PP 23 (iI b) (some (nI a)) none (iI (drop a.toNat b))) fun⟨ha,hb⟩=>(aCJ (k:=a) kR0 ha hb),hb aY ((take a.toNat b) ++ [c]),hA (length (((take a.toNat b) ++ [c]) ++ (drop a.toNat b)) ≤1000000),hc aY ((take a.toNat b) ++ [c]) (drop a.toNat b),he aY ((take a.toNat b) ++ [c]) (drop a.toNat b)]<|gz 1 4 3 1 aY (((take a.toNat b) ++ [c]) ++ (drop a.toNat b)) false<|gE 0 4 (iI (((take a.toNat b) ++ [c]) ++ (drop a.toNat b)))) .x)<|gl 15 aY b<|gd 2 24 (a< (b.length:Int)) .x<|.i [rn 11,.reg [.d,.d,.ans (.ev (iI (take a.toNat b))),.app (jI (take a.toNat b)) (take a.toNat b).length,.d,.d,.app (jI ((take a.toNat b) ++ [c])) ((take a.toNat b) ++ [c]).length,.d,.d,.ans (.ev (iI (drop a.toNat b))),.app (jI (((take a.toNat b) ++ [c]) ++ (drop a.toNat b))) (((take a.toNat b) ++ [c]) ++ (drop a.toNat b)).length,.d]] [.a (0≤a∧a.toNat≤length b) (p':=aBk PP 23 (iI b) none (some (nI a)) (iI (take a.toNat b))) fun⟨ha,hb⟩=>(aCI (k:=a) kR0 ha hb),hA (length (take a.toNat b) ≤1000000),hr (jI (take a.toNat b)),.q (p:=length (jI (take a.toNat b)) =length (take a.toNat b)) (lP ..),hb aY (take a.toNat b),hA (length ((take a.toNat b) ++ [c]) ≤1000000),hc aY (take a.toNat b) [c],he aY (take a.toNat b) [c],.a (0≤a∧a.toNat≤length b) (p':=aBk PP 23 (iI b) (some (nI a)) none (iI (drop a.toNat b))) fun⟨ha,hb⟩=>(aCJ (k:=a) kR0 ha hb),hb aY ((take a.toNat b) ++ [c]),hA (length (((take a.toNat b) ++ [c]) ++ (drop a.toNat b)) ≤1000000),hc aY ((take a.toNat b) ++ [c]) (drop a.toNat b),he aY ((take a.toNat b) ++ [c]) (drop a.toNat b)]<|gz 1 4 3 1 aY (((take a.toNat b) ++ [c]) ++ (drop a.toNat b)) false<|gE 0 4 (iI (((take a.toNat b) ++ [c]) ++ (drop a.toNat b)))
def aSU:=fun a b c d e f g i j=>aHe a b c|>.t e d f g|>.t i j tv
def aSV:=fun d e f g a b c i j=>aHe d e f|>.t a g b c|>.f i|>.t a b c|>.t j tv
def aSW:=fun e f g i b a c j k d l m n=>aHe e f g|>.t b i a c|>.f j|>.t b a c|>.f k ⟨a,d⟩ l m ⟨a,d⟩ n tv
def aSX:=fun d e f a b c g i j=>aHe d e f|>.f a|>.f a ⟨b,c⟩ g i ⟨b,c⟩ j tv
def aHf(b a:Int)(d:List Pat)(e:List RT)(c:Int):=tT 0 (aW0 b a d e c)<|.b 16 12 (b==4) (gd 5 17 (a≥0) (gd 6 22 (a<c) (.i [rn 6,.nilL 23 1] []<|gu 0 2 (jI ([] :List Int))<|gs 0 23 (.gl 2 1 0 ([] :List Int).length false)<|ga 0 aY ([] :List Int) [a]<|gz 4 5 3 1 aY (([] :List Int) ++ [a]) false<|.W 5 4 [0] (rS b a d e c (([] :List Int) ++ [a]) 0))<|.i [rn 4,.nilL 5 1] []<|gu 0 1 (jI ([] :List Int))<|gs 0 5 aMz<|gz 0 5 1 1 aY ([] :List Int) false<|.W 5 2 [0] (rS b a d e c ([] :List Int) 0))<|.i [rn 10,.nilL 5 1] []<|gu 0 1 (jI ([] :List Int))<|gs 0 5 aMz<|gz 0 5 1 1 aY ([] :List Int) false<|.W 5 2 [0] (rS b a d e c ([] :List Int) 0))<|.i [rn 15,.nilL 5 1] []<|gu 0 1 (jI ([] :List Int))<|gs 0 5 aMz<|gz 0 5 1 1 aY ([] :List Int) false<|.W 5 2 [0] (rS b a d e c ([] :List Int) 0)
def aSY:=fun a b c d e f g i j=>aHf a b c d e|>.t f|>.t g|>.t i j tv
def aSZ:=fun a b c d e f g i=>aHf a b c d e|>.t f|>.t g|>.f i tv
def aS0:=fun a b c d e f g=>aHf a b c d e|>.t f|>.f g tv
def aS1:=fun a b c d e f=>aHf a b c d e|>.f f tv
def aS2(e f:Int)(g:List Pat)(a:List RT)(c:Int)(d:List Int)(b:Int):=tT 0 (rS e f g a c d b)<|.i [rn 6,aL a] [.q (p:=((RTs.av a).length:Int) = (a.length:Int)) (fM bR _)]<|gd 2 32 (b< (a.length:Int)) (.y fun i:Int=>.y fun j:Int=>.y fun k:List Pat=>.y fun l:List RT=>giF bR 9 a b (RT.mk i j k l)<|.y fun m:List Int=>gp 2 103 [(nE i j k l),(nI c)] (iI m)<|.W 8 1 [0] (zW e f g a c d m 0 b))<|gE 8 1 (iI d)
def aS3:=fun a b c d e f g i j k l m n o p q=>aS2 a b c d e f g|>.t n i j k l o p m q tv
def aS4:=fun a b c d e f g i=>aS2 a b c d e f g|>.f i tv
def aS5(d e:Int)(f:List Pat)(g:List RT)(i:Int)(j a:List Int)(b c:Int):=tT 0 (zW d e f g i j a b c)<|gl 5 aY a<|gd 2 45 (b< (a.length:Int)) (gX aY 8 a b<|fun l=>.y fun k:List Int=>gp 1 151 [(iI j),(nI l)] (iI k)<|gw 6 47 (b+1)<|.W 3 1 [0] (zW d e f g i k a (b+1) c))<|gw 6 34 (c+1)<|.W 3 1 [0] (rS d e f g i j (c+1))
def aS6:=fun a b c d e f g i j k l m n o p q=>aS5 a b c d e f g i j|>.t m k n o l p q tv
def aS7:=fun a b c d e f g i j k l=>aS5 a b c d e f g i j|>.f k l tv
def aS8(a b:Int)(d:List Pat)(e:List RT)(c:Int):=tT 0 (aW1 a b d e c)<|.b 12 9 (a==4) (gE 10 1 (bV (b != c)))<|.W 9 1 [0] (rT a b d e c 0)
def aS9:=fun a b c d e f=>aS8 a b c d e|>.t f tv
def aTa:=fun a b c d e f=>aS8 a b c d e|>.f f tv
def uL(d e:Int)(f:List Pat)(b:List RT)(c a:Int):=tT 0 (rT d e f b c a)<|.i [rn 6,aL b] [.q (p:=((RTs.av b).length:Int) = (b.length:Int)) (fM bR _)]<|gd 2 18 (a< (b.length:Int)) (.y fun g:Int=>.y fun j:Int=>.y fun k:List Pat=>.y fun l:List RT=>giF bR 9 b a (RT.mk g j k l)<|.b 11 29 (d==6) (.b 4 33 (a==0) (.b 5 37 (g==4) (gw 5 20 (a+1)<|.W 3 2 [0] (rT d e f b c (a+1)))<|iE 6 152 [(nE g j k l),(nI c)]<|fun i=>.b 2 41 (!i) (gE 6 2 (bV false))<|gw 6 20 (a+1)<|.W 3 2 [0] (rT d e f b c (a+1)))<|iE 11 152 [(nE g j k l),(nI c)]<|fun i=>.b 2 41 (!i) (gE 6 2 (bV false))<|gw 6 20 (a+1)<|.W 3 2 [0] (rT d e f b c (a+1)))<|iE 15 152 [(nE g j k l),(nI c)]<|fun i=>.b 2 41 (!i) (gE 6 2 (bV false))<|gw 6 20 (a+1)<|.W 3 2 [0] (rT d e f b c (a+1)))<|gE 7 1 (bV true)
def aTb:=fun a b c d e f g i j k l m n o p q r=>uL a b c d e f|>.t l g i j k m n|>.t o|>.t p|>.t q r tv
def aTc:=fun a b c d e f g i j k l m n o p q r s t=>uL a b c d e f|>.t m g i j k n o|>.t p|>.t q|>.f r l s|>.t t tv
def aTd:=fun a b c d e f g i j k l m n o p q r s t u=>uL a b c d e f|>.t m g i j k n o|>.t p|>.t q|>.f r l s|>.f t u tv
def aTe:=fun a b c d e f g i j k l m n o p q r s=>uL a b c d e f|>.t m g i j k n o|>.t p|>.f q l r|>.t s tv
def aTf:=fun a b c d e f g i j k l m n o p q r s t=>uL a b c d e f|>.t m g i j k n o|>.t p|>.f q l r|>.f s t tv
def aTg:=fun a b c d e f g i j k l m n o p q r=>uL a b c d e f|>.t m g i j k n o|>.f p l q|>.t r tv
def aTh:=fun a b c d e f g i j k l m n o p q r s=>uL a b c d e f|>.t m g i j k n o|>.f p l q|>.f r s tv
def aTi:=fun a b c d e f g=>uL a b c d e f|>.f g tv
def aTj(a c:Int)(d:List Pat)(e:List RT)(f:Int):=tT 0 (aMA a c d e f)<|.b 11 8 (a==5) (.y fun b:List Int=>gp 2 103 [(nE a c d e),(nI f)] (iI b)<|gl 0 aY b<|gE 5 1 (bV ((b.length:Int) ==0)))<|gE 9 1 (bV false)
def aTk:=fun a b c d e f g i=>aTj a b c d e|>.t g f i tv
def aTl:=fun a b c d e f=>aTj a b c d e|>.f f tv
def aDI(i n:Int)(o:List Pat)(a:List RT)(d:Int):=tT 0 (aMB i n o a d)<|.b 12 9 (i != 7) (gE 14 1 (bV false))<|.y fun b:Int=>.y fun e:Int=>.y fun f:List Pat=>.y fun g:List RT=>giF bR 2 a 0 (RT.mk b e f g)<|.b 5 16 (b != 5) (gE 6 1 (bV false))<|giF bR 6 a 0 (RT.mk b e f g)<|.y fun c:List Int=>gp 2 103 [(nE b e f g),(nI d)] (iI c)<|gl 0 aY c<|gd 7 26 ((c.length:Int) >0) (gd 4 30 ((c.length:Int) ≤2) (.y fun j:Int=>.y fun k:Int=>.y fun l:List Pat=>.y fun m:List RT=>giF bR 2 a 1 (RT.mk j k l m)<|iE 2 152 [(nE j k l m),(nI d)]<|fun p=>gE 4 1 (bV p))<|gE 10 1 (bV false))<|gE 14 1 (bV false)
def aTm:=fun a b c d e f=>aDI a b c d e|>.t f tv
def aTn:=fun a b c d e f g i j k l m n=>aDI a b c d e|>.f k f g i j l m|>.t n tv
def aTo:=fun c d e f g i j k l m n o p q r s a b t u v w x y z=>aDI c d e f g|>.f s i j k l a b|>.f t a b m u|>.t v|>.t w n o p q x y r z tv
def aTp:=fun c d e f g i j k l m n a b o p q r=>aDI c d e f g|>.f n i j k l a b|>.f o a b m p|>.t q|>.f r tv
def aTq:=fun c d e f g i j k l m n a b o p q=>aDI c d e f g|>.f n i j k l a b|>.f o a b m p|>.f q tv
theorem aDJ (n:Int) :∀l:List Int,(vQ l n).length≤l.length+1
 | [] =>by simp [vQ]
 | a::l=>by
  have:=aDJ n l;rw [vQ];split
  ·simp;omega
  ·split<;>simp
theorem uM :∀ (t l:List Int),(eJ l t).length≤l.length+t.length
 | [],l=>by simp [eJ]
 | n::t,l=>by
  have:=uM t (vQ l n);have:=aDJ n l;rw [eJ,rY];omega
mutual
theorem aDK (b:Int) :∀t:XT,(hJ b t).length≤eO t
 | .mk o n a c=>by
  have:=aFn b a (aDz b o n);have: (aDz b o n).length≤1:=by unfold aDz;split<;>simp
  rw [hJ,eO];omega
theorem aFn (b:Int) :∀ (a:List XT) (out:List Int),(nD b out a).length≤out.length+aG a
 | [],out=>by simp [nD,aG]
 | k::a,out=>by
  have:=aFn b a (eJ out (hJ b k));have:=uM (hJ b k) out;have:=aDK b k;rw [nD,aG];omega
end
theorem aFo (l:List Int)(n:Int)(hl:l.length≤100000) :∀ (t:List Int) (k:Nat),l.drop k=t→k≤l.length→Ends PP 0 (aBP l n (k:Int)).as (.ret (.ilst 1 (map aY (l.take k++vQ t n)) false)) (aA [] 0)
 | [],k,h,hk=>by
  have g:=bJ h;have e:=aSX l n (k:Int) sd (by omega) (by omega) (by simp;omega) (by simp;omega) (by simp;omega);rw [xW,h,rZ]at e;exact e
 | a ::t,k,h,hk=>by
  obtain⟨f,i,j⟩ :=bH h;rw [vQ];by_cases b:a<n
  · rw [if_pos b];have d:=aFo l n hl t (k+1) i (by omega);rw [List.take_add_one,f]at d;simp only [Option.toList,zq9,List.singleton_append]at d;exact(aSU l n (k:Int) a sd (by omega) sd (by simpa using b) sd).ends d
  · rw [if_neg b];by_cases c:a=n
    · rw [if_pos c,←h,List.take_append_drop];exact aSV l n (k:Int) a sd (by omega) sd (by simpa using b) (by simpa using c)
    · rw [if_neg c];have e:=aSW l n (k:Int) a sd (by omega) sd (by simpa using b) (by simpa using c) (by omega) (by simp;omega) (by simp;omega) (by simp;omega);rw [xW,h,zq9,List.singleton_append]at e;exact e
theorem aPv (l:List Int)(n:Int)(hl:l.length≤100000) :aK PP 151 [.ilst 1 (map aY l) false,.int .i64 n] (.ilst 1 (map aY (vQ l n)) false) :=by
 refine aH kR0 (by simp [keylessL,keyless]) (by simp [keyless]) ((aST l n).ends ?_);have:=aFo l n hl l 0 rfl (Nat.zero_le _);simpa using this
mutual
theorem zX {B:Int}(b:Int) :∀ (t:XT),FineX B t→eO t≤90000→aK PP 103 [RT.av t,.int .i64 b] (.ilst 1 (map aY (hJ b t)) false)
 | .mk o n a c,g,i=>by
  simp only [FineX]at g;obtain⟨_,j,_,_,_,_,h⟩ :=g;simp only [eO]at i;refine aH kR0 (by simp [keylessL,keyless,aC2]) (by simp [keyless]) ?_;have e:=fun out (ho:out.length≤1) =>aJU b o n c a j a 0 out rfl h (by omega);rw [hJ,aDz];by_cases d:o=4
  · by_cases f:0≤n
    · by_cases hb:n<b
      · rw [if_pos ⟨d,f,hb⟩];exact(aSY o n c a b (by simpa using d) (by simpa using f) (by simpa using hb) (by simp)).ends (e [n] (by simp))
      · rw [if_neg (by omega)];exact(aSZ o n c a b (by simpa using d) (by simpa using f) (by simpa using hb)).ends (e [] (by simp))
    · rw [if_neg (by omega)];exact(aS0 o n c a b (by simpa using d) (by simpa using f)).ends (e [] (by simp))
  · rw [if_neg (by omega)];exact(aS1 o n c a b (by simpa using d)).ends (e [] (by simp))
theorem aNp (b:Int)(o n:Int)(ps:List Pat)(ks:List XT)(y:List Int)(i:Int) :∀ (c:List Int) (k:Nat) (out:List Int),y.drop k=c→k≤y.length→y.length≤100000→out.length+c.length≤100000 →
  LeadsM PP 0 (zW o n ps ks b out y (k:Int) i).as (zW o n ps ks b (eJ out c) y ((y.length:Nat) :Int) i).as
 | [],k,out,h,d,e,hl=>by
  have hk:=bJ h;rw [eJ,show k=y.length by omega];exact LeadsM.refl _
 | a::c,k,out,h,d,e,hl=>by
  obtain⟨j,f,g⟩ :=bH h;have:=aDJ a out;simp only [rY]at hl;rw [eJ];exact(aS6 o n ps ks b out y (k:Int) i a _ sd (by omega) sd (aPv out a (by omega)) sd).trans (aNp b o n ps ks y i c (k+1) (vQ out a) f (by omega) e (by omega))
theorem aJU {B:Int}(b:Int)(o n:Int)(ps:List Pat)(ks:List XT)(hk:ks.length≤1000) :∀ (a:List XT) (i:Nat) (out:List Int),ks.drop i=a→FineXs B a→out.length+aG a≤90000 →
  Ends PP 0 (rS o n ps ks b out (i:Int)).as (.ret (.ilst 1 (map aY (nD b out a)) false)) (aA [] 0)
 | [],i,out,h,_,_=>by
  have:=bJ h;rw [nD];exact aS4 o n ps ks b out (i:Int) sd
 | .mk e d f g::a,i,out,h,j,hl=>by
  obtain⟨q,m,p⟩ :=bH h;simp only [FineXs]at j;simp only [aG]at hl;have c:=zX b (.mk e d f g) j.1 (by omega);have l:=aDK b (.mk e d f g);rw [nD];generalize hJ b (.mk e d f g) =y at c l ⊢;generalize eO (.mk e d f g) =r at hl l;have k:=uM y out
  exact(aS3 o n ps ks b out (i:Int) e d g f y sd (by omega) sd c).ends ((aNp b o n ps ks y (i:Int) y 0 out rfl (Nat.zero_le _) (by omega) (by omega)).ends
   ((aS7 o n ps ks b (eJ out y) y ((y.length:Nat) :Int) (i:Int) (by simp) sd).ends (aJU b o n ps ks hk a (i+1) (eJ out y) m j.2 (by omega))))
end
mutual
theorem aJV {B:Int}(pl:Int) :∀ (t:XT),FineX B t→aK PP 152 [RT.av t,.int .i64 pl] (.bool (aMp pl t))
 | .mk o n a c,d=>by
  simp only [FineX]at d;obtain⟨_,g,_,_,_,_,f⟩ :=d;refine aH kR0 (by simp [keylessL,keyless,aC2]) (by simp [keyless]) ?_;rw [aMp];by_cases b:o=4
  · rw [if_pos b];have e:=aS9 o n c a pl (by simpa using b);rw [show(n != pl) =decide (n≠pl)by by_cases h:n=pl<;>simp [h]]at e;exact e
  · rw [if_neg b];exact(aTa o n c a pl (by simpa using b)).ends (aJW pl o n c a g a 0 rfl f)
theorem aJW {B:Int}(pl:Int)(o n:Int)(ps:List Pat)(ks:List XT)(hk:ks.length≤1000) :∀ (l:List XT) (i:Nat),ks.drop i=l→FineXs B l →
  Ends PP 0 (rT o n ps ks pl (i:Int)).as (.ret (.bool (aFk pl o l i))) (aA [] 0)
 | [],i,h,_=>by
  have:=bJ h;rw [aFk];exact aTi o n ps ks pl (i:Int) sd
 | .mk a d b e::l,i,h,p=>by
  obtain⟨s,q,r⟩ :=bH h;simp only [FineXs]at p;have c:=aJV pl (.mk a d b e) p.1;have m:=aJW pl o n ps ks hk l (i+1) q p.2;rw [aFk];by_cases f:o=6
  · by_cases k:i=0
    · by_cases j:a=4
      · rw [if_pos ⟨f,k,j⟩];exact(aTb o n ps ks pl (i:Int) a d e b sd (by omega) sd (by simpa using f) (by simp [k]) (by simpa using j) sd).ends m
      · rw [if_neg (fun g=>j g.2.2)];cases hc:aMp pl (.mk a d b e)
        case true=>rw [hc]at c;exact(aTd o n ps ks pl (i:Int) a d e b true sd (by omega) sd (by simpa using f) (by simp [k]) (by simpa using j) c rfl sd).ends m
        rw [hc]at c;exact aTc o n ps ks pl (i:Int) a d e b false sd (by omega) sd (by simpa using f) (by simp [k]) (by simpa using j) c rfl
    · rw [if_neg (fun g=>k g.2.1)];cases hc:aMp pl (.mk a d b e)
      case true=>rw [hc]at c;exact(aTf o n ps ks pl (i:Int) a d e b true sd (by omega) sd (by simpa using f) (by simp;omega) c rfl sd).ends m
      rw [hc]at c;exact aTe o n ps ks pl (i:Int) a d e b false sd (by omega) sd (by simpa using f) (by simp;omega) c rfl
  · rw [if_neg (fun g=>f g.1)];cases hc:aMp pl (.mk a d b e)
    case true=>rw [hc]at c;exact(aTh o n ps ks pl (i:Int) a d e b true sd (by omega) sd (by simpa using f) c rfl sd).ends m
    rw [hc]at c;exact aTg o n ps ks pl (i:Int) a d e b false sd (by omega) sd (by simpa using f) c rfl
end
theorem aTr {B:Int}(z:Int) :∀ (t:XT),FineX B t→eO t≤90000→aK PP 104 [RT.av t,.int .i64 z] (.bool (aDG z t))
 | .mk o n a d,j,i=>by
  have c:=zX z (.mk o n a d) j i;have g:∀b,Ends PP 0 (aMA o n d a z).as (.ret (.bool b)) (aA [] 0) →aK PP 104 [RT.av (.mk o n a d),.int .i64 z] (.bool b) :=fun b h=>hX (s:=aMA o n d a z) kR0 kR0 (by simp [keylessL,keyless,aC2]) rfl h;refine g _ ?_;unfold aDG;by_cases f:o=5
  · have e:=aTk o n d a z (hJ z (.mk o n a d)) (by simpa using f) c;have k: (((length (hJ z (.mk o n a d)) :Nat) :Int) == (0:Int)) = (decide ((XT.mk o n a d).op=5) &&decide ((hJ z (.mk o n a d)).length=0)) :=by
     rw [show decide ((XT.mk o n a d).op=5) =true from decide_eq_true f,lE];by_cases h: (hJ z (.mk o n a d)).length=0<;>simp [h]
    rw [k]at e;exact e
  · have e:=aTl o n d a z (by simpa using f);rw [show decide ((XT.mk o n a d).op=5) =false from decide_eq_false f,sA];exact e
theorem aPw {B:Int}(z:Int) :∀ (t:XT),FineX B t→eO t≤90000→aK PP 105 [RT.av t,.int .i64 z] (.bool (aJN z t))
 | .mk o n k f,x,q=>by
  have C:∀b,Ends PP 0 (aMB o n f k z).as (.ret (.bool b)) (aA [] 0) →aK PP 105 [RT.av (.mk o n k f),.int .i64 z] (.bool b) :=fun b h=>hX (s:=aMB o n f k z) kR0 kR0 (by simp [keylessL,keyless,aC2]) rfl h;refine C _ ?_;simp only [FineX]at x;obtain⟨_,_,_,_,A,_,m⟩ :=x;simp only [eO]at q;unfold aJN;by_cases j:o=7
  · have hl :=A j
    match k,hl,m,q with
    | [.mk a e g i,.mk w u r v],_,m,q=>
     simp only [FineXs,aG]at m q;have c:=zX z (.mk a e g i) m.1 (by omega);have d:=aJV z (.mk w u r v) m.2.1;rw [show decide ((XT.mk o n [.mk a e g i,.mk w u r v] f).op=7) =true from decide_eq_true j,lE];simp only [XT.kids];by_cases l:a=5
     · rw [show decide ((XT.mk a e g i).op=5) =true from decide_eq_true l,lE];by_cases p:0< (hJ z (.mk a e g i)).length
       · rw [decide_eq_true p,lE];by_cases y: (hJ z (.mk a e g i)).length≤2
         · rw [decide_eq_true y,lE];exact aTo o n f _ z a e i g _ w u v r _ (by simpa using j) (by decide) rfl (by simpa using l) c (by simpa using p) (by simp;omega) (by decide) rfl d
         · rw [decide_eq_false y,sA];exact aTp o n f _ z a e i g _ (by simpa using j) (by decide) rfl (by simpa using l) c (by simpa using p) (by simp;omega)
       · rw [decide_eq_false p,sA];exact aTq o n f _ z a e i g _ (by simpa using j) (by decide) rfl (by simpa using l) c (by simpa using p)
     · rw [show decide ((XT.mk a e g i).op=5) =false from decide_eq_false l,sA];exact aTn o n f _ z a e i g (by simpa using j) (by decide) rfl (by simpa using l)
  · rw [show decide ((XT.mk o n k f).op=7) =false from decide_eq_false j,sA];exact aTm o n f k z (by simpa using j)
abbrev aDL (a:List RT):AV:=.ilst 4 (RTs.av a) false
abbrev aTs (a b:Int)(c d:List Int)(e f:List LF)(g:Int)(h:List Con)(i j:Int)(k:List Pat)(l m:List RT):=aA [oC 0 [(nI a),(nI b),(.gl 7 1 0 (c++d).length false),(.gl 8 2 0 (e++f).length false),(nI g),(iC h),(nI 0),(nI 0),.nils,.nils,(bV false)],oC 1 [(nI i),(nI j),(iP k),(aDL l)],oC 2 [(nI 0),(nI 0),.nils,.nils],oL 3 4 (RTs.av m),oL 7 1 (jI (c++d)),oL 8 2 (map LF.av (e++f))] 9
abbrev aHg (a:Nat)(b c:Int)(d:List Int)(e:List LF)(f:Int)(g:List Con):=oC a [(nI b),(nI c),(.gl 4 1 0 d.length false),(.gl 5 2 0 e.length false),(nI f),(iC g),(nI 0),(nI 0),.nils,.nils,(bV false)]
abbrev kE (a b:Int)(c:List Pat)(d:List RT):AV:=.agg [(nI a),(nI b),(iP c),(aDL d)]
abbrev aHh (a:Nat)(b c:Int)(d:List Pat)(e:List RT):=oC a [(nI b),(nI c),(iP d),(aDL e)]
abbrev aMC:AV:=.gl 7 4 0 ([] :List RT).length false
abbrev aHi (a:Nat):=oC a [(nI 0),(nI 0),.nils,.nils]
abbrev uN (a:Nat)(b:List LF):=oL a 2 (map LF.av b)
def aTt(c d:Int)(a:List Int)(b:List LF)(e:Int)(f:List Con)(g i:Int)(j:List Pat)(k:List RT)(l:Int):TS:=cJ PP 65 [(.ptr 0 0),(kE g i j k),(nI l)] [oC 0 [(nI c),(nI d),(.gl 1 1 0 a.length false),(.gl 2 2 0 b.length false),(nI e),(iC f),(nI 0),(nI 0),.nils,.nils,(bV false)],oL 1 1 (jI a),uN 2 b] 3
def kR(d e:Int)(q:List Int)(r:List LF)(f:Int)(g:List Con)(i j:Int)(k:List Pat)(l:List RT)(m:Int)(a:List LF)(n:Bool)(b:List Int)(o p:Int)(c:List RT):TS:=⟨(tf 65 96 [kp 0 0,(2,(nI m)),kp 4 1,kp 6 2,(7,(nI d)),(8,(bV n)),(9,(.gl 3 4 0 c.length false)),(10,(nI o))] [kc f65 4084,kl f65 4084,.inBlock 0,kc f65 511]),[],[aHg 0 p e b a f g,aHh 1 i j k l,aHi 2,oL 3 4 (RTs.av c),oL 4 1 (jI b),uN 5 a],6⟩
def aAL(a k:Int)(c:List Int)(b:List LF)(l:Int)(m:List Con)(d e:Int)(f:List Pat)(g:List RT)(i:Int):=tT 1 (aTt a k c b l m d e f g i)<|gw 20 19 (a+1)<|.b 11 24 (d==5) (.y fun j:List Int=>.i [rn 1,.reg (rd 8 (.pure (iI j)::.d::.d::.app (map LF.av (b++ [(LF.mk a j)])) (b++ [(LF.mk a j)]).length::rd 3 []))] [hA (aK PP 103 [(kE d e f g),(nI i)] (iI j)),hb LF.av b,hA (length (b++ [(LF.mk a j)]) ≤1000000),hc LF.av b [(LF.mk a j)],he LF.av b [(LF.mk a j)],hr (AV.gl 2 2 0 b.length false),hr (AV.gl 2 2 0 b.length false)]<|iE 4 104 [(kE d e f g),(nI i)]<|fun n=>.b 1 42 n (ga 20 aY c [a]<|.i [rn 15,.nilL 9 4] []<|gu 0 9 (RTs.av ([] :List RT))<|gs 0 9 (.gl 9 4 0 ([] :List RT).length false)<|.W 0 10 [3,4,9,8,6] (kR a k c b l m d e f g i (b++ [(LF.mk a j)]) true (c++ [a]) 0 (a+1) ([] :List RT)))<|iE 2 105 [(kE d e f g),(nI i)]<|fun o=>.b 8 47 o (ga 9 aY c [a]<|.i [rn 15,.nilL 9 4] []<|gu 0 9 (RTs.av ([] :List RT))<|gs 0 9 (.gl 9 4 0 ([] :List RT).length false)<|.W 0 10 [3,4,9,8,6] (kR a k c b l m d e f g i (b++ [(LF.mk a j)]) o (c++ [a]) 0 (a+1) ([] :List RT)))<|.i [rn 13,.nilL 9 4] []<|gu 0 7 (RTs.av ([] :List RT))<|gs 0 9 aMC<|.W 0 8 [3,4,7,1,6] (kR a k c b l m d e f g i (b++ [(LF.mk a j)]) o c 0 (a+1) ([] :List RT)))<|iE 6 104 [(kE d e f g),(nI i)]<|fun j=>.b 1 42 j (ga 20 aY c [a]<|.i [rn 15,.nilL 9 4] []<|gu 0 7 (RTs.av ([] :List RT))<|gs 0 9 aMC<|.W 0 8 [3,4,7,6,2] (kR a k c b l m d e f g i b true (c++ [a]) 0 (a+1) ([] :List RT)))<|iE 2 105 [(kE d e f g),(nI i)]<|fun n=>.b 8 47 n (ga 9 aY c [a]<|.i [rn 15,.nilL 9 4] []<|gu 0 7 (RTs.av ([] :List RT))<|gs 0 9 aMC<|.W 0 8 [3,4,7,6,2] (kR a k c b l m d e f g i b n (c++ [a]) 0 (a+1) ([] :List RT)))<|.i [rn 13,.nilL 9 4] []<|gu 0 5 (RTs.av ([] :List RT))<|gs 0 9 (.gl 5 4 0 ([] :List RT).length false)<|.W 0 6 [3,4,5,1,2] (kR a k c b l m d e f g i b n c 0 (a+1) ([] :List RT))
def aTu:=fun a b c d e f g i j k l m n o p q r s t u=>aAL a b c d e f g i j k l o|>.t p m q r n s|>.t t u ⟨fY,⟨kk,⟨kk,trivial⟩⟩⟩
def aTv:=fun a b c d e f g i j k l m n o p q r s t u v w x=>aAL a b c d e f g i j k l p|>.t q m r s n t|>.f u o v|>.t w x ⟨fY,⟨kk,⟨kk,trivial⟩⟩⟩
def aTw:=fun a b c d e f g i j k l m n o p q r s t u v w=>aAL a b c d e f g i j k l p|>.t q m r s n t|>.f u o v|>.f w ⟨fY,⟨kk,⟨kk,trivial⟩⟩⟩
def aTx:=fun a b c d e f g i j k l m n o p q r=>aAL a b c d e f g i j k l n|>.f o m p|>.t q r ⟨fY,⟨kk,⟨kk,trivial⟩⟩⟩
def aTy:=fun a b c d e f g i j k l m n o p q r s t u=>aAL a b c d e f g i j k l o|>.f p m q|>.f r n s|>.t t u ⟨fY,⟨kk,⟨kk,trivial⟩⟩⟩
def aTz:=fun a b c d e f g i j k l m n o p q r s t=>aAL a b c d e f g i j k l o|>.f p m q|>.f r n s|>.f t ⟨fY,⟨kk,⟨kk,trivial⟩⟩⟩
def aTA(y e:Int)(C:List Int)(D:List LF)(j:Int)(k:List Con)(f g:Int)(i:List Pat)(d:List RT)(x:Int)(b:List LF)(z:Bool)(c:List Int)(t u:Int)(a:List RT):=tT 1 (kR y e C D j k f g i d x b z c t u a)<|.i [rn 6,aL d] [.q (p:=((RTs.av d).length:Int) = (d.length:Int)) (fM bR _)]<|gd 2 62 (t< (d.length:Int)) (.y fun p:Int=>.y fun q:Int=>.y fun r:List Pat=>.y fun s:List RT=>.y fun A:Int=>.y fun v:List Int=>.y fun w:List LF=>.y fun B:Int=>.y fun l:Int=>.y fun m:Int=>.y fun n:List Pat=>.y fun o:List RT=>.i [rn 4,.reg (rd 5 (.ans (.idx (RT.av (RT.mk p q r s)))::rd 4 [.pure (nI A),.d,.call (kE l m n o) (aTs B e c v b w j k f g i d a),.d,.app (RTs.av (a++ [(RT.mk l m n o)])) (a++ [(RT.mk l m n o)]).length,.d]))] [hA (0≤t),.a (((d)[t.toNat]?) =some (RT.mk p q r s)) (hU bR),hA (aK PP 106 [(kE f g i d),(nI t)] (nI A)),hA (Spec PP (.enter 65 [(.ptr 0 0),(kE p q r s),(nI (IntKind.i64.wrap (x+A)))]) (aA [aHg 0 u e c b j k,aHh 1 f g i d,aHi 2,oL 3 4 (RTs.av a),oL 4 1 (jI c),uN 5 b] 7) (.ret (kE l m n o)) (aTs B e c v b w j k f g i d a)),.q (p:=0+a.length≤length (RTs.av a)) (aBx bR _),hA (length (a++ [(RT.mk l m n o)]) ≤1000000),.q (p:=take a.length (drop 0 (RTs.av a)) ++ (RTs.av [(RT.mk l m n o)]) = (RTs.av (a++ [(RT.mk l m n o)]))) (aBy bR _ _),.q (p:=a.length+length (RTs.av [(RT.mk l m n o)]) =length (a++ [(RT.mk l m n o)])) (aBz bR _ _),hr (agg [(nI p),(nI q),(iP r),(aDL s)]),hr (agg [(nI p),(nI q),(iP r),(aDL s)]),hr (AV.ilst 4 (RTs.av d) false),hr (AV.ilst 4 (RTs.av d) false)]<|gw 4 64 (t+1)<|.W 3 10 [1,2,9,7,8] (kR y e C D j k f g i d x (b++w) z (c++v) (t+1) B (a++ [(RT.mk l m n o)])))<|.b 12 86 (y==e) (.b 3 88 z (.y fun p:Int=>.y fun q:Int=>.y fun r:List Pat=>.y fun s:List RT=>gk 6 (.enter 107 [(.ptr 0 0),(kE f g i d),(nI x)]) [aHg 0 u e c b j k,aHh 1 f g i d,aHi 2,oL 3 4 (RTs.av a),oL 4 1 (jI c),uN 5 b] 6 (kE p q r s) [aHg 0 u e c b j k,aHh 1 f g i d,aHi 2,oL 3 4 (RTs.av a),oL 4 1 (jI c),uN 5 b] 6<|.E 3 6 [4,5] (kE p q r s) [oC 0 [(nI u),(nI e),(.gl 1 1 0 c.length false),(.gl 2 2 0 b.length false),(nI j),(iC k),(nI 0),(nI 0),.nils,.nils,(bV false)],oL 1 1 (jI c),uN 2 b] 3)<|.E 14 6 [3,4,5] (.agg [(nI f),(nI g),(iP i),(.gl 1 4 0 a.length false)]) [oC 0 [(nI u),(nI e),(.gl 2 1 0 c.length false),(.gl 3 2 0 b.length false),(nI j),(iC k),(nI 0),(nI 0),.nils,.nils,(bV false)],oL 1 4 (RTs.av a),oL 2 1 (jI c),uN 3 b] 4)<|.E 17 6 [3,4,5] (.agg [(nI f),(nI g),(iP i),(.gl 1 4 0 a.length false)]) [oC 0 [(nI u),(nI e),(.gl 2 1 0 c.length false),(.gl 3 2 0 b.length false),(nI j),(iC k),(nI 0),(nI 0),.nils,.nils,(bV false)],oL 1 4 (RTs.av a),oL 2 1 (jI c),uN 3 b] 4
def aTB:=fun a b c d e f g i j k l m n o p q r s t u v w x y z A B C D F G H I J K L=>aTA a b c d e f g i j k l m n o p q r|>.t F s t u v w x y z A B C D G H I J K L ⟨fY,⟨kk,⟨kk,trivial⟩⟩⟩
def aTC:=fun a b c d e f g i j k l m n o p q r s t=>aTA a b c d e f g i j k l m n o p q r|>.f s|>.f t ⟨fY,⟨kk,⟨kk,trivial⟩⟩⟩
def aTD (z:Int)(t:XT) :Bool:=aDG z t||aJN z t
mutual
def spT :XT→Int→Int→List Int
 | .mk o n ks ps,a,z=> (if aTD z (.mk o n ks ps) =true then [a]else []) ++aHj o ps ks 0 (a+1) z
def aHj (o:Int)(ps:List Pat) :List XT→Nat→Int→Int→List Int
 | [],_,_,_=>[]
 |t::ts,i,a,z=>spT t a (z+cL o ps (i:Int)) ++aHj o ps ts (i+1) (a+ (eO t:Nat)) z
end
def spF :List XT→Int→List Int
 | [],_=>[]
 |t::ts,a=>spT t a 1++spF ts (a+ (eO t:Nat))
mutual
theorem aHk :∀ (t:XT) (a z:Int),(spT t a z).length≤eO t
 | .mk o n c b,a,z=>by
  have:=aJX o b c 0 (a+1) z;simp only [spT,eO,pU];split<;>simp<;>omega
theorem aJX (o:Int)(ps:List Pat) :∀ (b:List XT) (i:Nat) (a z:Int),(aHj o ps b i a z).length≤aG b
 | [],i,a,z=>by simp [aHj]
 | t::b,i,a,z=>by
  have:=aHk t a (z+cL o ps (i:Int));have:=aJX o ps b (i+1) (a+ (eO t:Nat)) z;simp only [aHj,aG,pU];omega
end
theorem aZQ {P:Program}{f:Nat}{x y:Int}{a b:AV}{h h':Hp}{r:Res}(e:x=y)(s:Spec P (.enter f [a,b,.int .i64 y]) h r h') :Spec P (.enter f [a,b,.int .i64 x]) h r h':=by rw [e];exact s
abbrev W8c (nx tg:Int)(al:List Int)(lf:List LF)(many:Int)(cs:List Con)(ka kf:Nat) :Nat×AObj×Bool:= (0,(.cells (putCells .leaf 0 [(.int .i64 nx),(.int .i64 tg),(.gl ka 1 0 (length al) false),(.gl kf 2 0 (length lf) false),(.int .i64 many),(.ilst 2 (map Con.av cs) false),(.int .i64 0),(.int .i64 0),.nils,.nils,(.bool false)]) 11 [] false),false)
abbrev W8l (nx tg:Int)(al:List Int)(lf:List LF)(many:Int)(cs:List Con) :HL:=[W8c nx tg al lf many cs 1 2,(1,(.lst 1 (map aY al)),true),(2,(.lst 2 (map LF.av lf)),true)]
abbrev W8e (nx tg:Int)(al:List Int)(lf:List LF)(many:Int)(cs:List Con)(l3:List XT) :HL:=[W8c nx tg al lf many cs 2 3,(1,(.lst 4 (RTs.av l3)),true),(2,(.lst 1 (map aY al)),true),(3,(.lst 2 (map LF.av lf)),true)]
theorem aFp (c d:Int)(b:List Int)(e:List LF)(a:Int)(cs:List Con) :eG (W8l c d b e a cs) := ⟨bL _ (fun _=>rfl) _,bL _ LF.kl _,trivial⟩
theorem aVx {s:AS}{o n:Int}{ps:List Pat}{c:List XT}{g i:Int}{d:List Int}{f:List LF}{a:Int}{cs:List Con}(e:Ends PP 1 s (.ret (.agg [(.int .i64 o),(.int .i64 n),(.ilst 4 (Pats.av ps) false),(.gl 1 4 0 (length c) false)])) (aA (W8e g i d f a cs c) 4)) :
  Ends PP 1 s (.ret (RT.av (.mk o n c ps))) (aA (W8l g i d f a cs) 3) :=by
 have z:=pJ (m:=1) (h:=aA (W8e g i d f a cs c) 4)
  (b:=1) (e:=4) (xs:=RTs.av c) (ys:=RTs.av c) (v:=.agg [(.int .i64 o),(.int .i64 n),(.ilst 4 (Pats.av ps) false),(.gl 1 4 0 (length c) false)]) kR0 (aBB _)
  (by
   have hl: (RTs.av c).length=c.length:=by rw [bR];simp
   simp only [AV.frzOk,AV.frzOkL,true_and,and_true];intro _;exact⟨by omega,by rw [drop_zero,aBg (by omega)]⟩) (show 1≤4 by decide)
 have k:=aAH e z;have j:Ends PP 1 s (.ret (RT.av (.mk o n c ps))) (aA [W8c g i d f a cs 2 3,(2,(.lst 1 (map aY d)),true),(3,(.lst 2 (map LF.av f)),true)] 4) :=Eq.mp kR0 k;exact mY (ks:=[2,3]) j kR0 kR0 kR0 (aFp ..)
section
variable (B :Int) (tg many:Int) (cs:List Con)
mutual
theorem aJY :∀ (t:XT),FineX B t→∀ (a z:Int) (d:List Int) (e:List LF),tg<a→0≤a→a+ (eO t:Nat) ≤1000000→d.length+eO t≤90000→e.length+eO t≤90000→0≤z→z+1000* (eO t:Nat) ≤1000000000 →
  kY PP 1 (.enter 65 [.ptr 0 0,RT.av t,.int .i64 z]) (aA (W8l a tg d e many cs) 3) (.ret (RT.av t)) (aA (W8l (a+ (eO t:Nat)) tg (d++spT t a z) (e++lfT t a z) many cs) 3)
 | .mk o n b c,s,a,z,d,e,G,T,I,K,F,Q,j=>by
  have v:eO (.mk o n b c) ≤90000:=by omega
  have x:=zX z (.mk o n b c) s v;have i:=aTr z (.mk o n b c) s v;have m:=aPw z (.mk o n b c) s v;simp only [FineX]at s;obtain⟨_,S,O,D,C,J,L⟩ :=s;simp only [eO]at I K F j;refine⟨(aTt a tg d e many cs o n c b z).as.fr,by kernel_rfl,?_⟩
  have f:∀ (w:Bool) (h:List Int) (g:List LF),h=d++ (if aTD z (.mk o n b c) =true then [a]else []) →g=e++ (if o=5 then [⟨a,hJ z (.mk o n b c)⟩]else []) →
    Ends PP 1 (kR a tg d e many cs o n c b z g w h 0 (a+1) []).as (.ret (RT.av (.mk o n b c))) (aA (W8l (a+ (eO (.mk o n b c) :Nat)) tg (d++spT (.mk o n b c) a z) (e++lfT (.mk o n b c) a z) many cs) 3) :=fun w h g A y=>by
   have R:d++spT (.mk o n b c) a z=h++aHj o c b 0 (a+1) z:=by rw [A,spT,zq9]
   have M:e++lfT (.mk o n b c) a z=g++xO o c b 0 (a+1) z:=by rw [y,lfT,zq9]
   have k:a+ ((eO (.mk o n b c) :Nat) :Int) =a+1+ ((aG b:Nat) :Int) :=by simp only [eO];omega
   have H:h.length+aG b≤90000:=by rw [A,pU];split<;>simp<;>omega
   have N:g.length+aG b≤90000:=by rw [y,pU];split<;>simp<;>omega
   rw [R,M,k];have:=aJZ a d e o n b c z w S O D C J.2.2.2 Q G b [] 0 (a+1) h g rfl (Nat.zero_le _) rfl L (by omega) (by omega) (by omega) H N (by omega);rw [List.nil_append]at this;exact this
  have l: (d++ [a]).length≤1000000:=by simp;omega
  have q: (e++ [LF.mk a (hJ z (.mk o n b c))]).length≤1000000:=by simp;omega
  have r:IntKind.i64.wrap (a+1) =a+1:=wrap64 (by omega) (by omega);unfold aTD at f;by_cases j:o=5
  · have k: (o==5) =true:=by simpa using j
    cases p:aDG z (.mk o n b c)
    case true=>
     rw [p]at i f;exact(aTu a tg d e many cs o n c b z _ true r k x q i rfl l).ends (f true _ _ (by simp) (by rw [if_pos j]))
    cases u:aJN z (.mk o n b c)
    case true=>
     rw [p]at i f;rw [u]at m f;exact(aTv a tg d e many cs o n c b z _ false true r k x q i rfl m rfl l).ends (f true _ _ (by simp) (by rw [if_pos j]))
    rw [p]at i f;rw [u]at m f;exact(aTw a tg d e many cs o n c b z _ false false r k x q i rfl m rfl).ends (f false _ _ (by simp) (by rw [if_pos j]))
  · have k: (o==5) =false:=by simpa using j
    cases p:aDG z (.mk o n b c)
    case true=>
     rw [p]at i f;exact(aTx a tg d e many cs o n c b z true r k i rfl l).ends (f true _ _ (by simp) (by rw [if_neg j,rZ]))
    cases u:aJN z (.mk o n b c)
    case true=>
     rw [p]at i f;rw [u]at m f;exact(aTy a tg d e many cs o n c b z false true r k i rfl m rfl l).ends (f true _ _ (by simp) (by rw [if_neg j,rZ]))
    rw [p]at i f;rw [u]at m f;exact(aTz a tg d e many cs o n c b z false false r k i rfl m rfl).ends (f false _ _ (by simp) (by rw [if_neg j,rZ]))
theorem aJZ (u:Int)(d:List Int)(l:List LF)(o n:Int)(ks:List XT)(ps:List Pat)(z:Int)(is:Bool)(Y:ks.length≤1000)(C:∀q∈ps,bU q≤1000)(N:o=15→ks.length=1+ps.length)(G:o=7→ks.length=2)(J:∀q∈ps,bnm q=rnm q)(U:0≤z)(V:tg<u) :
  ∀ (b t:List XT) (i:Nat) (a:Int) (c:List Int) (g:List LF),ks.drop i=b→i≤ks.length→t.length=i→FineXs B b→u<a→0≤a→a+ (aG b:Nat) ≤1000000→c.length+aG b≤90000→g.length+aG b≤90000→z+1000+1000* (aG b:Nat) ≤1000000000 →
  Ends PP 1 (kR u tg d l many cs o n ps ks z g is c (i:Int) a t).as (.ret (RT.av (.mk o n (t++b) ps))) (aA (W8l (a+ (aG b:Nat)) tg (c++aHj o ps b i a z) (g++xO o ps b i a z) many cs) 3)
 | [],t,i,a,c,g,h,L,H,_,D,I,_,_,_,_=>by
  have:=bJ h;have e:=aTC u tg d l many cs o n ps ks z g is c (i:Int) a t sd (by simp;omega);simp only [aHj,xO,aG,rZ];rw [show a+ ((0:Nat) :Int) =a by omega];exact aVx e
 | .mk k f j p::b,t,i,a,c,g,h,L,H,A,D,I,K,v,w,hz=>by
  obtain⟨g1,S,Z⟩ :=bH h;simp only [FineXs]at A;simp only [aG]at K v w hz ⊢;have ha:=zN (o:=o) C (i:Int);have W:IntKind.i64.wrap (z+cL o ps (i:Int)) =z+cL o ps (i:Int) :=wrap64 (by omega) (by omega)
  have X:o=15→0< (i:Int) →∃q,ps[((i:Int) -1).toNat]?=some q:=fun F L=>by
   have:=N F;exact⟨_,lZ (by omega)⟩
  have T:=aSh o n ks ps C J (i:Int) ⟨by omega,by omega⟩ (fun R=>by have:=G R;omega) X;have y:=aJY (.mk k f j p) A.1 a (z+cL o ps (i:Int)) c g (by omega) I (by omega) (by omega) (by omega) (by omega) (by omega);have r:=aHk (.mk k f j p) a (z+cL o ps (i:Int));have s:=vJ (.mk k f j p) a (z+cL o ps (i:Int));rw [aHj,xO,←zq9,←zq9];generalize eO (.mk k f j p) =x at y K v w hz r s ⊢;generalize spT (.mk k f j p) a (z+cL o ps (i:Int)) =M at y r ⊢;generalize lfT (.mk k f j p) a (z+cL o ps (i:Int)) =O at y s ⊢
  have st:=aTB u tg d l many cs o n ps ks z g is c (i:Int) a t k f p j (cL o ps (i:Int)) M O (a+ (x:Nat)) k f p j sd (by omega) sd T
   (aZQ W (sg3 (m:=1) (ks:=[0,4,5]) y kR0 kR0 (aFp ..) (aFp ..))) (by simp;omega) sd
  have Q:=aJZ u d l o n ks ps z is Y C N G J U V b (t++ [.mk k f j p]) (i+1) (a+ (x:Nat)) (c++M) (g++O) S (by omega) (by simp [H]) A.2 (by omega) (by omega) (by omega) (by rw [pU];omega) (by rw [pU];omega) (by omega);rw [zq9,List.singleton_append]at Q;rw [show a+ ((x+aG b:Nat) :Int) =a+ (x:Nat) + ((aG b:Nat) :Int)by omega];exact st.ends Q
end
end
noncomputable def aW4 (p:Prog) :Int:=if aM p=false then 2 else if(eA p).1=false then 7 else 0
theorem aPx {p:Prog}(d:aE p=true) :aK PP 32 [Prog.av p] (.int .i64 (aW4 p)) :=by
 refine hX (s:=aRS p) kR0 kR0 rfl (by rfl) ?_;have b:=aGm p d;unfold aW4;cases c:aM p
 case false=>
  rw [c]at b;exact aSd p false b rfl
 rw [c]at b;obtain⟨f,_,_⟩ :=gW d c;have a:=aMi f;have e: (eA p).1=fC p (iL p) 0 (iL p) :=by rw [eA,if_pos c]
 rw [←e]at a;cases hc: (eA p).1
 case false=>rw [hc]at a;exact aSe p true false b rfl a rfl
 rw [hc]at a;exact aSf p true true b rfl a rfl
abbrev aTE (a:Nat)(b c:Int)(d:List Int)(e:List LF)(f:Prog):=oC a [(nI b),(nI c),(.gl 4 1 0 d.length false),(.gl 5 2 0 e.length false),(nI (f.funs.length:Int)),(iC f.cons),(nI 0),(nI 0),.nils,.nils,(bV false)]
abbrev aW5 (a:Nat)(b:Int)(c:List Int)(d:List LF)(e:Int)(f:List Con):=oC a [(nI b),(nI (-1)),(.gl 2 1 0 c.length false),(.gl 3 2 0 d.length false),(nI e),(iC f),(nI 0),(nI 0),.nils,.nils,(bV false)]
abbrev aTF (a:Nat)(b:Int)(c:Prog):=oC a [(nI 0),(nI b),.nils,.nils,(nI (c.funs.length:Int)),(iC c.cons),(nI 0),(nI 0),.nils,.nils,(bV false)]
abbrev uO (a:List RT)(b c d:Int)(e:List Pat)(f:List RT):AV:=.gl 3 4 0 (set a b.toNat (RT.mk c d e f)).length false
abbrev xQ (a:Nat)(b:Prog):=oC a [(iN b.nodes),(iI b.funs),(nI b.main),(iC b.cons)]
abbrev aDM (a:Nat):=oC a [.nils,.nils,(nI 0),.nils]
def aTG(a:Prog)(b:Int):TS:=cJ PP 33 [(Prog.av a),(nI b)] [] 0
def zY(a:Prog)(e:Int)(b:List RT)(f g:Int)(c:List Int)(d:List LF):TS:=⟨(tf 33 56 [kp 2 0,kp 4 1,(5,.nilp),kp 6 2,(7,(.gl 3 4 0 b.length false)),(8,(nI f))] [kc f33 244,kl f33 244,.inBlock 0,kc f33 31]),[],[xQ 0 a,aDM 1,aTE 2 g e c d a,oL 3 4 (RTs.av b),oL 4 1 (jI c),oL 5 2 (map LF.av d)],6⟩
def aTH(a:Prog):TS:=cJ PP 11 [(Prog.av a)] [] 0
def aTI (a:Prog)(c:Int):=fun b d=>(tT 0 (aTG a c)<|gl 11 aY a.funs<|.y fun b:List RT=>gk 9 (.enter 64 [(Prog.av a)]) [xQ 0 a,aDM 1,aTF 2 c a] 3 (.gl 3 4 0 b.length false) [xQ 0 a,aDM 1,aTF 2 c a,oL 3 4 (RTs.av b)] 4<|.i [rn 9,.cnil 2 2 1] []<|gu 0 4 (jI ([] :List Int))<|gv 0 2 2 (.gl 4 1 0 ([] :List Int).length false)<|.i [.cnil 2 3 2] []<|gu 0 5 (map LF.av ([] :List LF))<|gv 0 2 3 (.gl 5 2 0 ([] :List LF).length false)<|.W 0 6 [0,1,2,3,4,5] (zY a c b 0 0 ([] :List Int) ([] :List LF))) b d ⟨fY,⟨kk,⟨kk,trivial⟩⟩⟩
def aTJ(c:Prog)(k:Int)(a:List RT)(b p:Int)(i:List Int)(j:List LF):=tT 0 (zY c k a b p i j)<|gd 8 23 (b< (a.length:Int)) (.i [rn 9,.ans (.ix)] [hA (0≤b),hA (b< (a.length:Int))]<|.y fun l:Int=>.y fun m:Int=>.y fun n:List Pat=>.y fun o:List RT=>gjF bR 0 a b.toNat (RT.mk l m n o)<|.y fun q:List Int=>.y fun r:List LF=>.y fun t:Int=>.y fun d:Int=>.y fun e:Int=>.y fun f:List Pat=>.y fun g:List RT=>gk 0 (.enter 65 [(.ptr 2 0),(.agg [(nI l),(nI m),(iP n),(.ilst 4 (RTs.av o) false)]),(nI 1)]) [xQ 0 c,aDM 1,aTE 2 p k i j c,oL 3 4 (RTs.av a),oL 4 1 (jI i),oL 5 2 (map LF.av j)] 6 (.agg [(nI d),(nI e),(iP f),(.ilst 4 (RTs.av g) false)]) [xQ 0 c,aDM 1,oC 2 [(nI t),(nI k),(.gl 6 1 0 (i++q).length false),(.gl 7 2 0 (j++r).length false),(nI (c.funs.length:Int)),(iC c.cons),(nI 0),(nI 0),.nils,.nils,(bV false)],oL 3 4 (RTs.av a),oL 6 1 (jI (i++q)),oL 7 2 (map LF.av (j++r))] 8<|.i [rn 7,.ans (.ix)] [hA (0≤b),hA (b< (a.length:Int))]<|.i [.st (RT.av (RT.mk l m n o)) (RT.av (RT.mk d e f g))] [.a (((a)[b.toNat]?) =some (RT.mk l m n o)) (aEK bR),hr (some (RT.av (RT.mk d e f g)))]<|.i [.lset 3 (RTs.av (set a b.toNat (RT.mk d e f g)))] [.q (p:=(RTs.av a).set (0+b.toNat) (RT.av (RT.mk d e f g)) = (RTs.av (set a b.toNat (RT.mk d e f g)))) (aNI bR _ _ _)]<|.i [.set 7 (uO a b d e f g)] [.q (p:=(AV.gl 3 4 0 a.length false) = (uO a b d e f g)) (cE (jP ..).symm)]<|.i [.set 21 (uO a b d e f g)] [.q (p:=(AV.gl 3 4 0 a.length false) = (uO a b d e f g)) (cE (jP ..).symm)]<|.i [.set 27 (uO a b d e f g)] [.q (p:=(AV.gl 3 4 0 a.length false) = (uO a b d e f g)) (cE (jP ..).symm)]<|.i [.set 32 (uO a b d e f g)] [.q (p:=(AV.gl 3 4 0 a.length false) = (uO a b d e f g)) (cE (jP ..).symm)]<|gw 5 25 (b+1)<|.W 3 9 [0,1,2,3,6,7] (zY c k (set a b.toNat (RT.mk d e f g)) (b+1) t (i++q) (j++r)))<|.i [rn 13,.frz 7 3 (RTs.av a)] [.q (p:=keylessL (RTs.av a) =true) fY,.q (p:=AV.frzOk 3 4 (RTs.av a) (RTs.av a) (.gl 3 4 0 a.length false)) (wY bR _)]<|.y fun s:Prog=>.i [.reg (rd 7 (.pure (Prog.av s)::rd 3 []))] [hA (aK PP 66 [(.ilst 4 (RTs.av a) false),(nI c.main),(iC c.cons)] (Prog.av s))]<|.E 1 6 [2,4,5] (.tup [(Prog.av s),(.ptr 0 0)]) [oC 0 [(nI p),(nI k),(.gl 1 1 0 i.length false),(.gl 2 2 0 j.length false),(nI (c.funs.length:Int)),(iC c.cons),(nI 0),(nI 0),.nils,.nils,(bV false)],oL 1 1 (jI i),oL 2 2 (map LF.av j)] 3
def aTK:=fun d e f g i j k l m n o p q r s t u v w a b c x y=>aTJ d e f g i j k|>.t w a b l m n o c p q r s t u v x a b c y ⟨fY,⟨kk,⟨kk,trivial⟩⟩⟩
def aTL:=fun a b c d e f g i j k=>aTJ a b c d e f g|>.f j i k ⟨kk,⟨kk,trivial⟩⟩
def aTM(a:Prog):=tT 0 (aTH a)<|gpI 9 32 [(Prog.av a)]<|fun c=>.b 8 10 (c != 0) (.i [rn 8,.nilI 2 2] []<|gE 0 1 (.tup [(.ilst 2 (map LF.av ([] :List LF)) true),(nI c)]))<|.y fun d:List Int=>.y fun b:List LF=>.y fun e:Int=>.y fun f:Int=>.y fun g:List Con=>.y fun i:Prog=>gk 5 (.enter 33 [(Prog.av a),(nI (-1))]) [xQ 0 a] 1 (.tup [(Prog.av i),(.ptr 1 0)]) [xQ 0 a,aW5 1 e d b f g,oL 2 1 (jI d),oL 3 2 (map LF.av b)] 4<|gz 17 2 3 2 LF.av b false<|gE 0 5 (.tup [(.ilst 2 (map LF.av b) false),(nI 0)])
def aJ0:=fun a b c d=>aTM a b c|>.t d tv
def aTN:=fun a b c d e f g i j k l=>aTM a b j|>.f k c d e f g i l tv
abbrev aHl (a:List LF):AV:=.ilst 2 (map LF.av a) false
def aW6(a b:List LF):TS:=cJ PP 12 [(aHl a),(aHl b)] [] 0
def aBQ(a b:List LF)(c:Int):TS:=⟨(tf 12 42 [(0,(aHl a)),(1,(aHl b)),(4,(bV false)),(5,(nI c))] [kc f12 116,kl f12 116,.inBlock 0,kc f12 15]),[],[],0⟩
def aW7(a b:List LF):=tT 0 (aW6 a b)<|gl 8 LF.av a<|gl 1 LF.av b<|.b 2 10 ((a.length:Int) != (b.length:Int)) (gE 6 0 (bV false))<|.W 9 0 [] (aBQ a b 0)
def aTO:=fun a b c=>aW7 a b|>.f c tv
def aTP(d e:List LF)(a:Int):=tT 0 (aBQ d e a)<|gl 5 LF.av d<|gd 2 14 (a< (d.length:Int)) (.o (.y fun b:LF=>.y fun c:LF=>.i [rn 5,.reg (.d::.d::.ans (.idx (LF.av b))::rd 4 (.ans (.idx (LF.av c))::rd 4 (.b 28 true::rd 13 [])))] [hA (0≤a),.a (((d)[a.toNat]?) =some b) (bW (f:=LF.av)),hA (0≤a),.a (((e)[a.toNat]?) =some c) (bW (f:=LF.av)),hA ((b.node != c.node) =true)]<|gE 6 0 (bV false))<|.y fun b:LF=>.y fun c:LF=>.y fun f:Bool=>.i [rn 5,.reg (.d::.d::.ans (.idx (LF.av b))::rd 4 (.ans (.idx (LF.av c))::rd 4 (.b 28 false::.d::.d::.ans (.idx (LF.av b))::rd 4 [.ans (.idx (LF.av c)),.d,.d,.pure (bV f),.d,.d])))] [hA (0≤a),.a (((d)[a.toNat]?) =some b) (bW (f:=LF.av)),hA (0≤a),.a (((e)[a.toNat]?) =some c) (bW (f:=LF.av)),hA ((b.node != c.node) =false),hA (0≤a),.a (((d)[a.toNat]?) =some b) (bW (f:=LF.av)),hA (0≤a),.a (((e)[a.toNat]?) =some c) (bW (f:=LF.av)),hA (aK PP 17 [(iI b.places),(iI c.places)] (bV f))]<|.b 0 41 (!f) (gE 6 0 (bV false))<|gw 6 16 (a+1)<|.W 3 0 [] (aBQ d e (a+1)))<|gE 7 0 (bV true)
def aTQ:=fun d e f g i j k a b c l m n o=>aTP d e f|>.t k|>.2 g i j a b a c l a b a c m|>.f n o tv
def aTR:=fun a b c d=>aTP a b c|>.f d tv
theorem aVy {a:Type}{l:List a}{i:Nat}{x:a}(h:l[i]?=some x) :l.set i x=l:=by
 refine List.ext_getElem? fun j=>?_;rw [List.getElem?_set];split
 · rename_i e;subst e;rw [if_pos (zq0.1 h).1,h]
 ·rfl
section
variable (B :Int) (p:Prog) (tg:Int)
theorem aJ1 (z:tg<0){ts:List XT}(hl:ts.length≤1000){v:AV}{y:Hp}:∀ (b:List XT) (i:Nat) (a:Int) (g:List Int) (l:List LF),ts.drop i=b→i≤ts.length→FineXs B b→0≤a→a+ (aG b:Nat) ≤100000→g.length+aG b≤80000→l.length+aG b≤80000 →
  Ends PP 0 (zY p tg ts ((ts.length:Nat) :Int) (a+ (aG b:Nat)) (g++spF b a) (l++lfF b a)).as (.ret v) y →
  Ends PP 0 (zY p tg ts (i:Int) a g l).as (.ret v) y
 | [],i,a,g,l,h,D,_,_,_,_,_,k=>by
  have hd:=bJ h;simp only [spF,lfF,aG,rZ]at k;rw [show a+ ((0:Nat) :Int) =a by omega,show ts.length=i by omega]at k;exact k
 | .mk c d e f::b,i,a,g,l,h,D,r,A,w,x,u,k=>by
  obtain⟨C,F,G⟩ :=bH h;simp only [FineXs]at r;simp only [aG]at w x u k;have o:=aJY B tg ((p.funs.length:Nat) :Int) p.cons (.mk c d e f) r.1 a 1 g l (by omega) A (by omega) (by omega) (by omega) (by omega) (by omega);have j:=aHk (.mk c d e f) a 1;have n:=vJ (.mk c d e f) a 1;rw [spF,lfF,←zq9,←zq9]at k;generalize eO (.mk c d e f) =q at o w x u k j n;generalize spT (.mk c d e f) a 1=s at o k j;generalize lfT (.mk c d e f) a 1=t at o k n;have st:=aTK p tg ts (i:Int) a g l c d f e s t (a+ (q:Nat)) c d f e (by simp;omega) (by omega) (by omega) sd (sg3 (m:=1) (ks:=[2,4,5]) o kR0 kR0 (aFp ..) (aFp ..)) (wrap64 (by omega) (by omega));rw [xW,aVy (show ts[i]?=some (RT.mk c d f e)from C)]at st;rw [show a+ ((q+aG b:Nat) :Int) =a+ (q:Nat) + ((aG b:Nat) :Int)by omega]at k;exact st.ends (aJ1 z hl b (i+1) (a+ (q:Nat)) (g++s) (l++t) F (by omega) r.2 (by omega) (by omega) (by rw [pU];omega) (by rw [pU];omega) k)
theorem aTS (i:tg<0){ts:List XT}(c:aE p=true)(d:aM p=true)(a:aO p ts p.funs) :
  kY PP 0 (.enter 33 [Prog.av p,.int .i64 tg]) (aA [] 0) (.ret (.tup [Prog.av (aNc ts p.main p.cons),.ptr 0 0])) (aA (W8l ((aG ts:Nat) :Int) tg (spF ts 0) (lfF ts 0) ((p.funs.length:Nat) :Int) p.cons) 3) :=by
 have hb:=c;simp only [aE,dC,decide_eq_true_eq]at hb;obtain⟨f,_,_⟩ :=gW c d;have h:=xN c d a;have g:=jO a;have b:=rN f (rX d) ts p.funs a;refine⟨(aTG p tg).as.fr,by kernel_rfl,?_⟩;refine(aTI p tg ts (sg3 (m:=0) (ks:=[]) (aSg (aM7 c) (by omega) a) kR0 kR0 trivial ⟨aBB _,trivial⟩)).ends ?_;refine aJ1 400 p tg i (by omega) ts 0 0 [] [] rfl (Nat.zero_le _) b (by omega) (by omega) (by simp;omega) (by simp;omega) ?_;have e:=aTL p tg ts ((ts.length:Nat) :Int) (0+ (aG ts:Nat)) ([] ++spF ts 0) ([] ++lfF ts 0) (aNc ts p.main p.cons) (by simp) (aSl ts p.main p.cons (by omega) (by omega) b (by omega));simp only [List.nil_append,Int.zero_add]at e ⊢;exact e
end
theorem aPy {p:Prog}(c:aE p=true){ts:List XT}(e:aM p=true→aO p ts p.funs) :aK PP 11 [Prog.av p] (.tup [.ilst 2 (map LF.av (kQ p ts).1) false,.int .i64 (kQ p ts).2]) :=by
 have a:=aPx c;refine hX (s:=aTH p) kR0 kR0 rfl (by simp [keyless,keylessL]) ?_;unfold kQ;unfold aW4 at a;cases b:aM p
 case false=>
  rw [if_pos b]at a;rw [if_pos rfl];exact Ends.val (aJ0 p 2 a rfl) (fun E d h=>nX h)
 rw [if_neg (by rw [b];decide)]at a;rw [if_neg (by decide)];cases hc: (eA p).1
 case false=>
  rw [if_pos hc]at a;rw [if_pos rfl];exact Ends.val (aJ0 p 7 a rfl) (fun E d h=>nX h)
 rw [if_neg (by rw [hc];decide)]at a;rw [if_neg (by decide)];have g:=aTS p (-1) (by decide) c b (e b);exact aTN p 0 (spF ts 0) (lfF ts 0) ((aG ts:Nat) :Int) ((p.funs.length:Nat) :Int) p.cons (aNc ts p.main p.cons) a rfl (sg3 (m:=0) (ks:=[]) g kR0 kR0 trivial (aFp ..))
theorem aJ2 (a:List LF)(d:a.length≤100000)(c:∀x∈a,x.places.length≤1000) :∀ (b:List LF) (i:Nat),a.drop i=b→Ends PP 0 (aBQ a a (i:Int)).as (.ret (.bool true)) (aA [] 0)
 | [],i,h=>by
  have:=bJ h;exact aTR a a (i:Int) sd
 | x::b,i,h=>by
  obtain⟨e,f,g⟩ :=bH h;exact(aTQ a a (i:Int) x x true sd (by omega) sd sd (by simp) (aEc _ (c x (oG e))) rfl sd).ends (aJ2 a d c b (i+1) f)
theorem aTT (a:List LF)(b:a.length≤100000)(c:∀x∈a,x.places.length≤1000) :aK PP 12 [.ilst 2 (map LF.av a) false,.ilst 2 (map LF.av a) false] (.bool true) :=
 aH kR0 (by simp [keylessL,keyless]) rfl ((aTO a a (by simp)).ends (aJ2 a b c a 0 rfl))
section
variable {P :Program}
def aW8 (P:Program)(is:List Ins)(s:TS) :Option (AV×Nat×List Prop) :=
 match wH P is s.as with
 | some (s1,ps) =>match s1.cs,s1.fr.kind,s1.fr.mode,s1.fr.roundOf,s1.fr.defers with
  | [],.normal,.ret,none,[] =>match P.funcs[s1.fr.fn]? with
   | some fd=>match jE P s1.h s1.fr.tm fd.results.toList with
    |some [v] =>some (v,s1.fr.fn,ps)
    |_=>none
   |none=>none
  |_,_,_,_,_=>none
 |none=>none
theorem aHm {f : Nat} {args : List AV} {is : List Ins}{b:Bool}{ps:List Prop}{cargs:List Value}(hb:qZ P f=true)(hk:keylessL args=true)(d:aW8 P is (start P f args) =some (.bool b,f,ps))(s:AllP ps)(w:World)(I:VRs (embOf w) args cargs) :
  Calls P f ⟨cargs⟩ w fun e w'=>e= .returned (.bool b) ∧GrownO w w':=by
 intro j;unfold qZ at hb;split at hb
 · rename_i fn G;split at hb
   · rename_i c hc;have M:cM P f args .normal=some ⟨f,dQ .leaf 0 args,max fn.ntmps args.length,[.code c],[],.run,.normal,none⟩ :=by simp [cM,G,hc]
     have fr':FR (embOf w) _ (Frame.enter P f ⟨cargs⟩ .normal) :=gK M I;have V:FR (embOf w) (start P f args).as.fr (Frame.enter P f ⟨cargs⟩ .normal) :=by
      have R: (start P f args).as.fr= ⟨f,pL ((List.range args.length).zip args),max fn.ntmps args.length,[.code c],[],.run,.normal,none⟩ :=by simp [start,G,hc,TS.as,TF.fr]
      rw [R];refine⟨fr'.fn,⟨fr'.tm.1,fun t a e=>?_⟩,fr'.todo,fr'.defers,fr'.mode,fr'.kind,fr'.round⟩;have m:=aHT (aAp e);have F:= (zq0.1 m).1;have K: (dQ .leaf 0 args).at t=some a:=by
       unfold dQ;rw [aX,if_pos F];exact m
      exact fr'.tm.2 t a K
     have e2 : (start P f args).as.cs = [] := by unfold start;split; · split<;>rfl
                                                 ·rfl
     have e3 : (start P f args).as.h = ⟨.leaf, 0⟩ := by unfold start;split; · split<;>rfl
                                                        ·rfl
     unfold aW8 at d;split at d
     · rename_i s1 qs m;split at d
       · rename_i n r D U z;split at d
         · rename_i W u;split at d
           · rename_i v B;simp only [Option.some.injEq,Prod.mk.injEq]at d;obtain⟨rfl,y,rfl⟩ :=d;have hl:LeadsM P 0 (start P f args).as s1:=kX m (fun p q=>s.mem p q);obtain⟨Y,g,J,w',N,h,l,O,x⟩ :=hl (by rw [e3];exact Nat.le_refl _) (embOf w) _ [] w j V (by rw [e2];rfl) (by rw [e3];exact aNL w);rw [n]at l;have:=l.nil_inv;subst this;obtain⟨X,Q,H⟩ :=tO O h.tm B;simp only [aAb,VR]at H;subst H;have A:=h.mode;rw [D]at A;simp only [MR]at A;have k:=h.defers;rw [z]at k;rw [e3]at x;have C:∀ {b o},¬ (⟨.leaf,0⟩ :Hp).look b=some o:=fun {b o} e=>by simp [Hp.look,T.at_leaf]at e
             refine⟨.returned (.bool b),w',g,⟨rfl,⟨x.os,x.output,fun i S=>?_⟩,x.froz,x.size⟩,N,by rw [h.fn,y],A,k.nil_inv,by rw [h.kind,r],W,by rw [h.fn];exact u,Q⟩;have:=x.keep i S (fun b o L e=>absurd e C);rw [this];cases w.heap[i]? with
             |none=>rfl
             |some ob=>cases ob<;>simp
           ·cases d
         ·cases d
       ·cases d
     ·cases d
   ·cases hb
 ·cases hb
theorem cW {f:Nat}{args:List AV}{b:Bool}{cargs:List Value}(L:List Pf)(is:List Ins)(w:World)(hv:VRs (embOf w) args cargs)(hb:qZ P f=true:=by kernel_rfl)(hk:keylessL args=true:=by kernel_rfl)(h0:aW8 P is (start P f args) =some (.bool b,f,L.map Pf.p) :=by kernel_rfl) :
    Calls P f ⟨cargs⟩ w fun e w'=>e= .returned (.bool b) ∧GrownO w w':=aHm hb hk h0 (aVO L) w hv
end
abbrev aHn (a:List LF)(b:Int):AV:=.tup [(.ilst 2 (map LF.av a) false),(nI b)]
theorem aTU (p:Prog)(c b:Bool)(f:aK PP 8 [(Prog.av p)] (bV c))(g: (!c) =true)(h2:aK PP 9 [] (bV b)) :
  ∀ (w:World) (a:List Value),VRs (embOf w) [(Prog.av p)] a→Calls PP 3 ⟨a⟩ w fun e w'=>e= .returned (.bool b) ∧GrownO w w':=
 fun w a d=>cW [qp f,qp g,qp h2] [rn 9,pB c,rn 2,bt 9,rn 3,pB b,rn 3] w d
theorem aTV (p:Prog)(d:Bool)(b:List LF)(f:Int)(i:List LF)(h:Int)(g c:Bool)(r:aK PP 8 [(Prog.av p)] (bV d))(m: (!d) =false)(h2:aK PP 10 [(Prog.av p)] (aHn b f))(k:aK PP 11 [(Prog.av p)] (aHn i h))(l: (f==h) =true)(j:aK PP 12 [(.ilst 2 (map LF.av b) false),(.ilst 2 (map LF.av i) false)] (bV g))(o:g=true)(q:aK PP 9 [] (bV c)) :
  ∀ (w:World) (a:List Value),VRs (embOf w) [(Prog.av p)] a→Calls PP 3 ⟨a⟩ w fun e w'=>e= .returned (.bool c) ∧GrownO w w':=
 fun w a n=>cW [qp r,qp m,qp h2,qp k,qp l,qp j,qp o,qp q] [rn 9,pB d,rn 2,bf 9,rn 5,.pure (aHn b f),rn 9,.pure (aHn i h),rn 12,bt 24,rn 2,pB g,rn 2,bt 29,pB c,rn 4] w n
mutual
theorem aDN :∀ (t:XT) (a z:Int),∀x∈lfT t a z,x.places.length≤eO t
 | .mk o n c d,a,z,x,b=>by
  rw [lfT]at b;rcases zq28.1 b with b|b
  · split at b
    ·rw [zq32]at b;subst b;exact aDK z _
    ·cases b
  · have:=aBf o d c 0 (a+1) z x b;simp only [eO];omega
theorem aBf (o:Int)(ps:List Pat) :∀ (c:List XT) (i:Nat) (a z:Int),∀x∈xO o ps c i a z,x.places.length≤aG c
 | [],i,a,z,x,b=>by simp [xO]at b
 | t::c,i,a,z,x,b=>by
  rw [xO]at b;simp only [aG];rcases zq28.1 b with b|b
  ·have:=aDN t a _ x b;omega
  ·have:=aBf o ps c (i+1) _ z x b;omega
end
theorem aDO :∀ (c:List XT) (a:Int),∀x∈lfF c a,x.places.length≤aG c
 | [],a,x,b=>by simp [lfF]at b
 | t::c,a,x,b=>by
  rw [lfF]at b;simp only [aG];rcases zq28.1 b with b|b
  ·have:=aDN t a 1 x b;omega
  ·have:=aDO c _ x b;omega
theorem aHo (j:nZ)(p:Prog)(hk:aK PP 9 [] (.bool true)) :
  ∀ (w:World) (a:List Value),VRs (embOf w) [Prog.av p] a→Calls PP 3 ⟨a⟩ w fun e w'=>e= .returned (.bool true) ∧GrownO w w':=by
 have g:=aBl p;cases d:aE p
 case false=>rw [d]at g;exact aTU p false true g rfl hk
 rw [d]at g;obtain⟨b,i⟩ :∃b,aM p=true→aO p b p.funs:=by
  cases f:aM p
  case false=>exact⟨[],fun h=>by cases h⟩
  obtain⟨q,_,_⟩ :=gW d f;obtain⟨b,h⟩ :=aRK q;exact⟨b,fun _=>h⟩
 have m:=aJT j d i;have l:=aPy d i;have hb:=d;simp only [aE,dC,decide_eq_true_eq]at hb;have c: (kQ p b).1.length≤100000∧∀x∈ (kQ p b).1,x.places.length≤1000:=by
  unfold kQ;cases f:aM p
  case false=>simp
  rw [if_neg (by decide)];split
  ·simp
  · have o:=xN d f (i f);have:=aNh b 0;exact⟨by simp only;omega,fun x n=>by have:=aDO b 0 x n;omega⟩
 have k:=aTT _ c.1 c.2;generalize kQ p b=r at m l k;exact aTV p true r.1 r.2 r.1 r.2 true true g rfl m l (by simp) k rfl hk
theorem aVz :nZ:=fun a b c _ d h r e=>aPt a b c d h r e
theorem lCaughts_calls (p:Prog)(hk:aK PP 9 [] (.bool true)) :
  ∀ (w:World) (a:List Value),VRs (embOf w) [Prog.av p] a→Calls PP 3 ⟨a⟩ w fun e w'=>e= .returned (.bool true) ∧GrownO w w':=aHo aVz p hk
end
end Go.Hb
