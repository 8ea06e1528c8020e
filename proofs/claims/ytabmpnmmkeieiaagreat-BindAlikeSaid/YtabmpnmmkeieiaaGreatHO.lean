/- A machine on abstract values, its soundness, ways, plain laws. -/
import Derived.Test.YtabmpnmmkeieiaaGreatHF
import Derived.Test.YtabmpnmmkeieiaaGreatHG
import Derived.Test.YtabmpnmmkeieiaaGreatHH
import Derived.Test.YtabmpnmmkeieiaaGreatHJ
import Derived.Test.YtabmpnmmkeieiaaGreatHK
import Derived.Test.YtabmpnmmkeieiaaGreatHL
import Derived.Test.YtabmpnmmkeieiaaGreatHM
import Derived.Test.YtabmpnmmkeieiaaGreatHN
set_option linter.defProp false
set_option linter.unusedVariables false
set_option linter.unusedSimpArgs false
set_option linter.unusedSectionVars false
set_option maxRecDepth 100000
set_option maxHeartbeats 4000000
namespace Go.Hb
open Bool (and_eq_true)
open List (append_assoc length length_append length_cons map mem_append_left mem_append_right mem_cons_self)
open Pats (av)
open Go.Proofs Tryz
noncomputable section
mutual
def pnP (cs:List Con) :Pat→Pat
 | .mk f n s ps=>.mk f (if f=6 then eB s cs 0 else n) [] (pT cs ps)
def pT (cs:List Con) :List Pat→List Pat
 | [] =>[]
 |p::ps=>pnP cs p::pT cs ps
end
abbrev BHc (fs:List aB)(cs:List Con)(b n:Nat) :AObj:=.cells (putCells .leaf 0 [.ilst 1 (map aA fs) false,.ilst 2 (map Con.av cs) false,.gl b 4 0 n false]) 3 [] false
abbrev BH (fs:List aB)(cs:List Con)(L:List ONode) :List (Nat×AObj×Bool) :=[(0,BHc fs cs 1 (length L),false),(1,OL L,true)]
def yJ (fs:List aB)(cs:List Con)(env:List aB)(o n:Int)(s:aB) :Int:=
 if o=14 then eB s cs 0 else if o=4 then(if aZ env s<0 then IntKind.i64.wrap (-1-aZ fs s)else aZ env s)else n
mutual
def fM (fs:List aB)(cs:List Con) :Term→List aB→Nat→List Node
 | .mk o n s ks ps,env,a=> ⟨o,yJ fs cs env o n s,(dW fs cs o s ps ks 0 env (a+1)).1,pT cs ps⟩ :: (dW fs cs o s ps ks 0 env (a+1)).2
def dW (fs:List aB)(cs:List Con)(o:Int)(s:aB)(ps:List Pat) :List Term→Nat→List aB→Nat→List Int×List Node
 | [],_,_,_=> ([],[])
 |t::ts,i,env,a=> (((a:Nat) :Int) :: (dW fs cs o s ps ts (i+1) env (a+ (fM fs cs t (env++aR o s ps i) a).length)).1,fM fs cs t (env++aR o s ps i) a++ (dW fs cs o s ps ts (i+1) env (a+ (fM fs cs t (env++aR o s ps i) a).length)).2)
end
mutual
theorem aEp (fs:List aB)(cs:List Con) :∀ (t:Term) (env:List aB) (a:Nat),(fM fs cs t env a).length=bD t
 | .mk o n s ks ps,env,a=>by rw [fM,bD,length_cons,aFV fs cs o s ps ks 0 env (a+1)]
theorem aFV (fs:List aB)(cs:List Con)(o:Int)(s:aB)(ps:List Pat) :∀ (ts:List Term) (i:Nat) (env:List aB) (a:Nat),(dW fs cs o s ps ts i env a).2.length=aY ts
 | [],i,env,a=>by rw [dW,aY];rfl
 | t::ts,i,env,a=>by
  rw [dW,aY,length_append,aEp fs cs t _ _,aFV fs cs o s ps ts _ _ _]
end
def PUS (fs:List aB)(cs:List Con)(t:Term)(env:List aB)(L:List ONode)(ns:List Node) :Prop:=
 rW PP 1 (.enter 54 [.ptr 0 0,Term.av t,.ilst 1 (map aA env) false]) (aG (BH fs cs L) 2) (.ret (.int .i64 ((length L:Nat) :Int))) (aG (BH fs cs (L++map Node.o ns)) 2)
section
variable (fs :List aB) (cs:List Con) (L:List ONode) (o n:Int) (s:aB) (ks:List Term) (ps:List Pat) (env:List aB)
variable (hkl :ks.length≤900) (h15:o=15→ks.length≤ps.length+1) (hps:∀p∈ps,aV p≤1000) (he:env.length≤900000)
 (ih:∀t∈ks,∀ (e:List aB) (M:List ONode),e.length≤env.length+1000→M.length+bD t≤1000000→PUS fs cs t e M (fM fs cs t e M.length))
include hkl h15 hps he ih
end
abbrev aJK (q:aB) :AObj:=.cells (putCells .leaf 0 [aA q]) 1 [] false
theorem aOi {l:List ONode}{m:List Node}(h:l=map Node.o m) :map ONode.av l=map Node.av m:=by
 subst h;rw [List.map_map];rfl
def FunD.par :FunD→aB
 | .mk _ p _ _ _=>p
def FunD.bod :FunD→Term
 | .mk _ _ _ _ b=>b
def hJ (fs:List aB)(cs:List Con) :List FunD→Nat→List Int×List Node
 | [],_=> ([],[])
 |f::t,a=> (((a:Nat) :Int) :: (hJ fs cs t (a+ (fM fs cs f.bod [f.par] a).length)).1,fM fs cs f.bod [f.par] a++ (hJ fs cs t (a+ (fM fs cs f.bod [f.par] a).length)).2)
abbrev rF (m:Mod) :List aB:=m.funs.map FunD.nm
def knM (m:Mod)(l:List FunD) :Bool:=l.all fun f=>knT (rF m) (gP m) f.bod [f.par]
def okM (m:Mod) :Bool:=fS (rF m) &&fS ((gP m).map Con.name) &&dA (rF m) nL&&knM m m.funs
def wM (m:Mod) :Prog:= ⟨(hJ (rF m) (gP m) m.funs 0).2,(hJ (rF m) (gP m) m.funs 0).1,aZ (rF m) nL,gP m⟩
def ZPr :Prog:= ⟨[],[],0,[]⟩
def aCw (l:List Node) :Bool:=l.any fun x=>decide (x.op=4) &&decide (30≤x.n)
def wN (m:Mod) :Prog×Int:=
 if pO m=true then(if okM m=true then(if aCw (wM m).nodes=true then(ZPr,3)else(wM m,0))else(ZPr,7))else(ZPr,2)
abbrev ZPA :AV:=.agg [.ilst 4 (map Node.av ([] :List Node)) true,.ilst 1 (map aP ([] :List Int)) true,.int .i64 0,.ilst 2 (map Con.av ([] :List Con)) true]
theorem bHg {E:Emb}{x:AV}{cv:Value}(h:VR E (.tup [ZPA,x]) cv) :VR E (.tup [Prog.av ZPr,x]) cv:=by
 rw [VR]at h;obtain⟨us,rfl,h⟩ :=h;obtain⟨u,us1,rfl,g1,g2⟩ :=h.cons_inv;rw [VR];refine⟨_,rfl,VRs.cons ?_ g2⟩;rw [VR]at g1;obtain⟨bs,rfl,g1⟩ :=g1;obtain⟨a0,bs,rfl,k0,g1⟩ :=g1.cons_inv;obtain⟨a1,bs,rfl,k1,g1⟩ :=g1.cons_inv;obtain⟨a2,bs,rfl,k2,g1⟩ :=g1.cons_inv;obtain⟨a3,bs,rfl,k3,g1⟩ :=g1.cons_inv;show VR E (.agg [.ilst 4 (map Node.av ([] :List Node)) false,.ilst 1 (map aP ([] :List Int)) false,.int .i64 0,.ilst 2 (map Con.av ([] :List Con)) false]) _;rw [VR];exact⟨_,rfl,VRs.cons (zM k0) (VRs.cons (zM k1) (VRs.cons k2 (VRs.cons (zM k3) g1)))⟩
def aTE (s:TS)(r:Prog×Int) :Prop:=Ends PP 0 s.as (.ret (.tup [Prog.av r.1,.int .i64 r.2])) (aG [] 0)
theorem aM8 {s:TS}{e:Int}(h:Ends PP 0 s.as (.ret (.tup [ZPA,.int .i64 e])) (aG [] 0)) :aTE s (ZPr,e) :=Ends.val h (fun _ _=>bHg)
section
variable (m :Mod) (fs:List aB) (cs:List Con)
abbrev aM9 :AObj:=.cells (putCells .leaf 0 [aA m.name,.ilst 2 (map DataD.av m.datas) false,.ilst 15 (FunDs.av m.funs) false]) 3 [] false
abbrev aCx :AObj:=.cells (putCells .leaf 0 [.nils,.nils,.int .i64 0,.nils]) 4 [] false
end
theorem lP :∀ps:List Pat,ps.all nU=true→aM ps≤16*ps.length
 | [],_=>by simp [aM]
 | p::ps,h=>by
  rw [List.all_cons,and_eq_true]at h;have:=lP ps h.2;have h1:=h.1;simp only [nU,and_eq_true,decide_eq_true_eq]at h1;rw [aM,length_cons];omega
mutual
theorem tQ :∀t:Term,tsm t=true→fA t≤200*bD t
 | .mk o n s ks ps,h=>by
  rw [tsm]at h;simp only [and_eq_true,decide_eq_true_eq]at h;obtain⟨⟨⟨_,hpl⟩,hsp⟩,hsk⟩ :=h;have h1:=lP ps hsp;have h2:=aCy ks hsk;rw [fA,bD];omega
theorem aCy :∀ts:List Term,aBL ts=true→cZ ts≤200*aY ts
 | [],_=>by simp [cZ]
 | t::ts,h=>by
  rw [aBL,and_eq_true]at h;have h1:=tQ t h.1;have h2:=aCy ts h.2;rw [cZ,aY];omega
end
theorem zU {t:Typ}(h:pL t=true) :cC t<1000000:=by
 simp only [pL,and_eq_true,decide_eq_true_eq]at h;omega
theorem aLK :∀ {f:FunD},mO f=true→rB f
 | .mk n p f g b,h=>by
  simp only [mO,mL,and_eq_true,decide_eq_true_eq]at h;obtain⟨⟨⟨_,h1⟩,h2⟩,⟨h3,_⟩,h5⟩ :=h;have:=tQ b h5;exact⟨zU h1,zU h2,by omega⟩
theorem aEq {m:Mod}(h:iL m=true) :∀f∈m.funs,rB f:=fun f hf=>by
 simp only [iL,and_eq_true]at h;exact aLK (List.all_eq_true.1 h.2 f hf)
theorem aLL {m:Mod}(h:iL m=true) :∀d∈m.datas,aD7 d:=fun d hd c hc t ht=>by
 simp only [iL,and_eq_true]at h;have h1:=List.all_eq_true.1 h.1.2 d hd;simp only [zK,and_eq_true]at h1;have h2:=List.all_eq_true.1 h1.2 c hc;simp only [xG,and_eq_true]at h2;exact zU (List.all_eq_true.1 h2.2 t ht)
structure Fit (m:Mod) :Prop where
 fl:m.funs.length≤8
 dl:m.datas.length≤6
 cl:∀d∈m.datas,d.cons.length≤8
 sz:∀f∈m.funs,bD f.bod≤80
 dp:∀f∈m.funs,fK f.bod≤16
 sm:∀f∈m.funs,tsm f.bod=true
 tf:∀f∈m.funs,fH f.bod=true
theorem aBT {m:Mod}(h:iL m=true)(ho:pO m=true) :Fit m:=by
 have h0:=h;simp only [iL,and_eq_true,decide_eq_true_eq]at h;obtain⟨⟨⟨⟨_,h2⟩,h3⟩,h4⟩,h5⟩ :=h
 have key:∀f∈m.funs,mL f.bod=true:=fun f hf=>by
  have:=List.all_eq_true.1 h5 f hf;obtain⟨n,p,a,b,c⟩ :=f;simp only [mO,and_eq_true]at this;exact this.2
 simp only [pO,and_eq_true]at ho;refine⟨by omega,by omega,fun d hd=>?_,fun f hf=>?_,fun f hf=>?_,fun f hf=>?_,fun f hf=>?_⟩
 · have:=List.all_eq_true.1 h4 d hd;simp only [zK,and_eq_true,decide_eq_true_eq]at this;omega
 ·have:=key f hf;simp only [mL,and_eq_true,decide_eq_true_eq]at this;exact this.1.1
 ·have:=key f hf;simp only [mL,and_eq_true,decide_eq_true_eq]at this;exact this.1.2
 ·have:=key f hf;simp only [mL,and_eq_true,decide_eq_true_eq]at this;exact this.2
 · have:=List.all_eq_true.1 ho.2 f hf;obtain⟨n,p,a,b,c⟩ :=f;simp only [lV,wC,and_eq_true]at this;exact this.2.2
theorem aFW :∀ds:List DataD,(∀d∈ds,d.cons.length≤8) → ((ds.map fun d=>d.cons.map sE).flatten).length≤8*ds.length
 | [],_=>by simp
 | d::ds,h=>by
  have h1:=h d (mem_cons_self ..);have h2:=aFW ds (fun x hx=>h x (List.mem_cons_of_mem _ hx));simp only [List.map_cons,List.flatten_cons,length_append,List.length_map,length_cons];omega
theorem aJL (fs:List aB)(cs:List Con) :∀ (t:List FunD) (a:Nat),(∀f∈t,bD f.bod≤80) → (hJ fs cs t a).2.length≤80*t.length
 | [],a,_=>by simp [hJ]
 | f::t,a,h=>by
  have h1:=h f (mem_cons_self ..);have h2:=aJL fs cs t (a+ (fM fs cs f.bod [f.par] a).length) (fun x hx=>h x (List.mem_cons_of_mem _ hx));rw [hJ,length_append,aEp,length_cons];rw [aEp]at h2;omega
def bEw(a b:Int)(c:aB)(d:List Pat):TS:=bQ PP 185 [(.agg [(nI a),(nI b),(aA c),(iP d)])] [] 0
def aTF(a b:Int)(c:aB)(d:List Pat):TS:=⟨(tf 271 8 [kp 1 0,kp 3 1] [kc f271 15]),[(tf 185 18 [(2,.nils),(3,(nI 0)),kp 4 2] [.inRF 3,.inBlock 0,kc f185 31] (defers:=[.col 4]))],[oC 0 [(.ptr 5 0)],oC 1 [(.func 272 [] [(.ptr 6 0),(.ptr 1 0)])],oC 2 [(.gl 7 1 0 ([] :List aB).length false)],(3,(.loop .ready none 185 (vQ [kp 4 2]) 18 [10] (kd f185 244) (kd f185 245) 4),false),(4,(.defd false),false),oC 5 [(nI a),(nI b),(aA c),(iP d)],oC 6 [(.yield 3)],oL 7 1 (map aA ([] :List aB))],8⟩
def bEx(b c:Int)(d:aB)(e:List Pat)(a:List aB):TS:=⟨(tf 185 18 [kp 4 2,(10,(.ptr 5 2))] [kc f185 244,.beginRound,kc f185 245] (roundOf:=some 3)),[],[oC 0 [(.ptr 5 0)],oC 1 [(.func 272 [] [(.ptr 6 0),(.ptr 1 0)])],oC 2 [(.gl 7 1 0 a.length false)],(3,(.loop .ready none 185 (vQ [kp 4 2]) 18 [10] (kd f185 244) (kd f185 245) 4),false),(4,(.defd false),false),oC 5 [(nI b),(nI c),(aA d),(iP e)],oC 6 [(.yield 3)],oL 7 1 (map aA a)],8⟩
def bEy(b c:Int)(d:aB)(e:List Pat)(i j:Int)(f:aB)(g:List Pat)(a:List aB):TS:=⟨(tf 185 18 [kp 4 2,(10,(.iptr [(aA f),(iP g)]))] [kc f185 244,.beginRound,kc f185 245] (roundOf:=some 3)),[],[oC 0 [(.ptr 5 0)],oC 1 [(.func 272 [] [(.ptr 6 0),(.ptr 1 0)])],oC 2 [(.gl 7 1 0 a.length false)],(3,(.loop .ready none 185 (vQ [kp 4 2]) 18 [10] (kd f185 244) (kd f185 245) 4),false),(4,(.defd false),false),oC 5 [(nI b),(nI c),(aA d),(iP e)],oC 6 [(.yield 3)],oL 7 1 (map aA a)],8⟩
def aTG(b c:Int)(d:aB)(e:List Pat)(a:List aB):TS:=bQ PP 272 [(.ptr 5 0),(.ptr 6 0),(.ptr 1 0)] [oC 0 [(.ptr 5 0)],oC 1 [(.func 272 [] [(.ptr 6 0),(.ptr 1 0)])],oC 2 [(.gl 7 1 0 a.length false)],(3,(.loop .ready none 185 (vQ [kp 4 2]) 18 [10] (kd f185 244) (kd f185 245) 4),false),(4,(.defd false),false),oC 5 [(nI b),(nI c),(aA d),(iP e)],oC 6 [(.yield 3)],oL 7 1 (map aA a)] 8
def aEr(c d:Int)(e:aB)(a:List Pat)(g b:List aB)(f:Int):TS:=⟨(tf 272 37 [kp 0 5,kp 2 1,(4,(bV false)),(23,(nI (a.length:Int))),(24,(nI f))] [kc f272 116,kl f272 116,.inBlock 0,kc f272 15]),[],[oC 0 [(.ptr 5 0)],oC 1 [(.func 272 [] [(.ptr 6 0),(.ptr 1 0)])],oC 2 [(.gl 7 1 0 b.length false)],(3,(.loop .ready none 185 (vQ [kp 4 2]) 18 [10] (kd f185 244) (kd f185 245) 4),false),(4,(.defd false),false),oC 5 [(nI c),(nI d),(aA e),(iP a)],oC 6 [(.yield 3)],oL 7 1 (map aA b)],8⟩
def aTH(b c:Int)(d:aB)(e:List Pat)(f g:Int)(i:aB)(j:List Pat)(a:List aB):TS:=bQ PP 272 [(.iptr [(nI f),(nI g),(aA i),(iP j)]),(.ptr 6 0),(.ptr 1 0)] [oC 0 [(.ptr 5 0)],oC 1 [(.func 272 [] [(.ptr 6 0),(.ptr 1 0)])],oC 2 [(.gl 7 1 0 a.length false)],(3,(.loop .ready none 185 (vQ [kp 4 2]) 18 [10] (kd f185 244) (kd f185 245) 4),false),(4,(.defd false),false),oC 5 [(nI b),(nI c),(aA d),(iP e)],oC 6 [(.yield 3)],oL 7 1 (map aA a)] 8
def aEs(c d:Int)(e:aB)(f:List Pat)(g i:Int)(j:aB)(a:List Pat)(l b:List aB)(k:Int):TS:=⟨(tf 272 37 [(0,(.iptr [(nI g),(nI i),(aA j),(iP a)])),kp 2 1,(4,(bV false)),(23,(nI (a.length:Int))),(24,(nI k))] [kc f272 116,kl f272 116,.inBlock 0,kc f272 15]),[],[oC 0 [(.ptr 5 0)],oC 1 [(.func 272 [] [(.ptr 6 0),(.ptr 1 0)])],oC 2 [(.gl 7 1 0 b.length false)],(3,(.loop .ready none 185 (vQ [kp 4 2]) 18 [10] (kd f185 244) (kd f185 245) 4),false),(4,(.defd false),false),oC 5 [(nI c),(nI d),(aA e),(iP f)],oC 6 [(.yield 3)],oL 7 1 (map aA b)],8⟩
def bHh(a b:Int)(c:aB)(d:List Pat):=tT 0 (bEw a b c d)<|gpI 10 234 [(.agg [(nI a),(nI b),(aA c),(iP d)])]<|fun e=>.b 2 8 (e != 0) (.i [rn 7,.nilI 2 1] []<|gE 0 1 (.tup [(.ilst 1 (map aA ([] :List aB)) true),(nI 2)]))<|.i [rn 25,.lkeep 4 [4]] []<|.i [rn 13,.cnil 1 0 1] []<|gu 0 7 (map aA ([] :List aB))<|gv 0 1 0 (.gl 7 1 0 ([] :List aB).length false)<|.W 0 8 [2,6,1,4,3,0,5,7] (aTF a b c d)
def bBP:=fun a b c d e f g=>bHh a b c d e f|>.f g ⟨kk,trivial⟩
def bBQ (b c:Int)(d:aB)(e:List Pat):=fun a f=>(tT 0 (aTF b c d e)<|.y fun a:List aB=>gk 3 (.enter 272 [(.ptr 5 0),(.ptr 6 0),(.ptr 1 0)]) [oC 0 [(.ptr 5 0)],oC 1 [(.func 272 [] [(.ptr 6 0),(.ptr 1 0)])],oC 2 [(.gl 7 1 0 ([] :List aB).length false)],(3,(.loop .ready none 185 (vQ [kp 4 2]) 18 [10] (kd f185 244) (kd f185 245) 4),false),(4,(.defd false),false),oC 5 [(nI b),(nI c),(aA d),(iP e)],oC 6 [(.yield 3)],oL 7 1 (map aA ([] :List aB))] 8 (bV true) [oC 0 [(.ptr 5 0)],oC 1 [(.func 272 [] [(.ptr 6 0),(.ptr 1 0)])],oC 2 [(.gl 8 1 0 (([] :List aB) ++a).length false)],(3,(.loop .ready none 185 (vQ [kp 4 2]) 18 [10] (kd f185 244) (kd f185 245) 4),false),(4,(.defd false),false),oC 5 [(nI b),(nI c),(aA d),(iP e)],oC 6 [(.yield 3)],oL 8 1 (map aA (([] :List aB) ++a))] 9<|gz 13 2 8 1 aA (([] :List aB) ++a) false<|gE 0 9 (.tup [(iS (([] :List aB) ++a)),(nI 0)])) a f tv
def bBR (c d:Int)(a:aB)(e:List Pat)(b:List aB):=fun f=>(tT 8 (bEx c d a e b)<|.i [rn 5,.reg (rd 5 [.app (map aA (b++ [a])) (b++ [a]).length,.d])] [hb aA b,hA (length (b++ [a]) ≤1000000),hc aA b [a],he aA b [a]]<|.E 1 10 [9] (bV true) [oC 0 [(.ptr 5 0)],oC 1 [(.func 272 [] [(.ptr 6 0),(.ptr 1 0)])],oC 2 [(.gl 8 1 0 (b++ [a]).length false)],(3,(.loop .ready none 185 (vQ [kp 4 2]) 18 [10] (kd f185 244) (kd f185 245) 4),false),(4,(.defd false),false),oC 5 [(nI c),(nI d),(aA a),(iP e)],oC 6 [(.yield 3)],oL 8 1 (map aA (b++ [a]))] 9) f ⟨kk,trivial⟩
def bBS (c d:Int)(e:aB)(f:List Pat)(g i:Int)(b:aB)(j:List Pat)(a:List aB):=fun k=>(tT 8 (bEy c d e f g i b j a)<|.i [rn 5,.reg (rd 5 [.app (map aA (a++ [b])) (a++ [b]).length,.d])] [hb aA a,hA (length (a++ [b]) ≤1000000),hc aA a [b],he aA a [b]]<|.E 1 10 [9] (bV true) [oC 0 [(.ptr 5 0)],oC 1 [(.func 272 [] [(.ptr 6 0),(.ptr 1 0)])],oC 2 [(.gl 8 1 0 (a++ [b]).length false)],(3,(.loop .ready none 185 (vQ [kp 4 2]) 18 [10] (kd f185 244) (kd f185 245) 4),false),(4,(.defd false),false),oC 5 [(nI c),(nI d),(aA e),(iP f)],oC 6 [(.yield 3)],oL 8 1 (map aA (a++ [b]))] 9) k ⟨kk,trivial⟩
def bEz(c e:Int)(a:aB)(d:List Pat)(b:List aB):=tT 7 (aTG c e a d b)<|.o (.i [rn 6,.reg (rd 6 (.b 11 true::rd 4 [.call (bV true) (aG [oC 0 [(.ptr 5 0)],oC 1 [(.func 272 [] [(.ptr 6 0),(.ptr 1 0)])],oC 2 [(.gl 8 1 0 (b++ [a]).length false)],(3,(.loop .ready none 185 (vQ [kp 4 2]) 18 [10] (kd f185 244) (kd f185 245) 4),false),(4,(.defd false),false),oC 5 [(nI c),(nI e),(aA a),(iP d)],oC 6 [(.yield 3)],oL 8 1 (map aA (b++ [a]))] 9),.d,.d]))] [hA ((c==2) =true),hA (Spec PP (.round 3 [(.ptr 5 2)]) (aG [oC 0 [(.ptr 5 0)],oC 1 [(.func 272 [] [(.ptr 6 0),(.ptr 1 0)])],oC 2 [(.gl 7 1 0 b.length false)],(3,(.loop .ready none 185 (vQ [kp 4 2]) 18 [10] (kd f185 244) (kd f185 245) 4),false),(4,(.defd false),false),oC 5 [(nI c),(nI e),(aA a),(iP d)],oC 6 [(.yield 3)],oL 7 1 (map aA b)] 8) (.ret (bV true)) (aG [oC 0 [(.ptr 5 0)],oC 1 [(.func 272 [] [(.ptr 6 0),(.ptr 1 0)])],oC 2 [(.gl 8 1 0 (b++ [a]).length false)],(3,(.loop .ready none 185 (vQ [kp 4 2]) 18 [10] (kd f185 244) (kd f185 245) 4),false),(4,(.defd false),false),oC 5 [(nI c),(nI e),(aA a),(iP d)],oC 6 [(.yield 3)],oL 8 1 (map aA (b++ [a]))] 9))]<|gm 9 aJ d<|.W 4 9 [8] (aEr c e a d b (b++ [a]) 0))<|.i [rn 6,.reg (rd 6 (.b 11 false::rd 7 []))] [hA ((c==2) =false)]<|gm 9 aJ d<|.W 4 8 [7] (aEr c e a d b b 0)
def bBT:=fun a b c d e f g=>bEz a b c d e|>.1 f g ⟨kk,trivial⟩
def bBU:=fun a b c d e f=>bEz a b c d e|>.2 f ⟨kk,trivial⟩
def bEA(c d:Int)(e:aB)(b:List Pat)(m a:List aB)(f:Int):=tT 7 (aEr c d e b m a f)<|gd 5 25 (f< (b.length:Int)) (.y fun i:Int=>.y fun j:Int=>.y fun k:aB=>.y fun l:List Pat=>.y fun g:List aB=>.i [rn 10,.reg (rd 6 [.ans (.idx (Pat.av (Pat.mk i j k l))),.call (bV true) (aG [oC 0 [(.ptr 5 0)],oC 1 [(.func 272 [] [(.ptr 6 0),(.ptr 1 0)])],oC 2 [(.gl 8 1 0 (a++g).length false)],(3,(.loop .ready none 185 (vQ [kp 4 2]) 18 [10] (kd f185 244) (kd f185 245) 4),false),(4,(.defd false),false),oC 5 [(nI c),(nI d),(aA e),(iP b)],oC 6 [(.yield 3)],oL 8 1 (map aA (a++g))] 9),.d])] [hA (0≤f),.a (((b)[f.toNat]?) =some (Pat.mk i j k l)) (eX aJ),hA (Spec PP (.enter 272 [(.iptr [(nI i),(nI j),(aA k),(iP l)]),(.ptr 6 0),(.ptr 1 0)]) (aG [oC 0 [(.ptr 5 0)],oC 1 [(.func 272 [] [(.ptr 6 0),(.ptr 1 0)])],oC 2 [(.gl 7 1 0 a.length false)],(3,(.loop .ready none 185 (vQ [kp 4 2]) 18 [10] (kd f185 244) (kd f185 245) 4),false),(4,(.defd false),false),oC 5 [(nI c),(nI d),(aA e),(iP b)],oC 6 [(.yield 3)],oL 7 1 (map aA a)] 8) (.ret (bV true)) (aG [oC 0 [(.ptr 5 0)],oC 1 [(.func 272 [] [(.ptr 6 0),(.ptr 1 0)])],oC 2 [(.gl 8 1 0 (a++g).length false)],(3,(.loop .ready none 185 (vQ [kp 4 2]) 18 [10] (kd f185 244) (kd f185 245) 4),false),(4,(.defd false),false),oC 5 [(nI c),(nI d),(aA e),(iP b)],oC 6 [(.yield 3)],oL 8 1 (map aA (a++g))] 9))]<|gw 5 36 (f+1)<|.W 3 9 [8] (aEr c d e b m (a++g) (f+1)))<|.E 7 8 [7] (bV true) [oC 0 [(.ptr 5 0)],oC 1 [(.func 272 [] [(.ptr 6 0),(.ptr 1 0)])],oC 2 [(.gl 7 1 0 a.length false)],(3,(.loop .ready none 185 (vQ [kp 4 2]) 18 [10] (kd f185 244) (kd f185 245) 4),false),(4,(.defd false),false),oC 5 [(nI c),(nI d),(aA e),(iP b)],oC 6 [(.yield 3)],oL 7 1 (map aA a)] 8
def bBV:=fun a b c d e f g i j k l m n o p q r=>bEA a b c d e f g|>.t n i j k l m o p q r ⟨kk,trivial⟩
def bBW:=fun a b c d e f g i=>bEA a b c d e f g|>.f i ⟨kk,trivial⟩
def bEB(c d:Int)(e:aB)(f:List Pat)(i j:Int)(b:aB)(g:List Pat)(a:List aB):=tT 7 (aTH c d e f i j b g a)<|.o (.i [rn 6,.reg (rd 6 (.b 11 true::rd 4 [.call (bV true) (aG [oC 0 [(.ptr 5 0)],oC 1 [(.func 272 [] [(.ptr 6 0),(.ptr 1 0)])],oC 2 [(.gl 8 1 0 (a++ [b]).length false)],(3,(.loop .ready none 185 (vQ [kp 4 2]) 18 [10] (kd f185 244) (kd f185 245) 4),false),(4,(.defd false),false),oC 5 [(nI c),(nI d),(aA e),(iP f)],oC 6 [(.yield 3)],oL 8 1 (map aA (a++ [b]))] 9),.d,.d]))] [hA ((i==2) =true),hA (Spec PP (.round 3 [(.iptr [(aA b),(iP g)])]) (aG [oC 0 [(.ptr 5 0)],oC 1 [(.func 272 [] [(.ptr 6 0),(.ptr 1 0)])],oC 2 [(.gl 7 1 0 a.length false)],(3,(.loop .ready none 185 (vQ [kp 4 2]) 18 [10] (kd f185 244) (kd f185 245) 4),false),(4,(.defd false),false),oC 5 [(nI c),(nI d),(aA e),(iP f)],oC 6 [(.yield 3)],oL 7 1 (map aA a)] 8) (.ret (bV true)) (aG [oC 0 [(.ptr 5 0)],oC 1 [(.func 272 [] [(.ptr 6 0),(.ptr 1 0)])],oC 2 [(.gl 8 1 0 (a++ [b]).length false)],(3,(.loop .ready none 185 (vQ [kp 4 2]) 18 [10] (kd f185 244) (kd f185 245) 4),false),(4,(.defd false),false),oC 5 [(nI c),(nI d),(aA e),(iP f)],oC 6 [(.yield 3)],oL 8 1 (map aA (a++ [b]))] 9))]<|gm 9 aJ g<|.W 4 9 [8] (aEs c d e f i j b g a (a++ [b]) 0))<|.i [rn 6,.reg (rd 6 (.b 11 false::rd 7 []))] [hA ((i==2) =false)]<|gm 9 aJ g<|.W 4 8 [7] (aEs c d e f i j b g a a 0)
def bBX:=fun a b c d e f g i j k l=>bEB a b c d e f g i j|>.1 k l ⟨kk,trivial⟩
def bBY:=fun a b c d e f g i j k=>bEB a b c d e f g i j|>.2 k ⟨kk,trivial⟩
def bEC(b c:Int)(d:aB)(e:List Pat)(n o:Int)(p:aB)(i:List Pat)(q a:List aB)(f:Int):=tT 7 (aEs b c d e n o p i q a f)<|gd 5 25 (f< (i.length:Int)) (.y fun j:Int=>.y fun k:Int=>.y fun l:aB=>.y fun m:List Pat=>.y fun g:List aB=>.i [rn 10,.reg (rd 6 [.ans (.idx (Pat.av (Pat.mk j k l m))),.call (bV true) (aG [oC 0 [(.ptr 5 0)],oC 1 [(.func 272 [] [(.ptr 6 0),(.ptr 1 0)])],oC 2 [(.gl 8 1 0 (a++g).length false)],(3,(.loop .ready none 185 (vQ [kp 4 2]) 18 [10] (kd f185 244) (kd f185 245) 4),false),(4,(.defd false),false),oC 5 [(nI b),(nI c),(aA d),(iP e)],oC 6 [(.yield 3)],oL 8 1 (map aA (a++g))] 9),.d])] [hA (0≤f),.a (((i)[f.toNat]?) =some (Pat.mk j k l m)) (eX aJ),hA (Spec PP (.enter 272 [(.iptr [(nI j),(nI k),(aA l),(iP m)]),(.ptr 6 0),(.ptr 1 0)]) (aG [oC 0 [(.ptr 5 0)],oC 1 [(.func 272 [] [(.ptr 6 0),(.ptr 1 0)])],oC 2 [(.gl 7 1 0 a.length false)],(3,(.loop .ready none 185 (vQ [kp 4 2]) 18 [10] (kd f185 244) (kd f185 245) 4),false),(4,(.defd false),false),oC 5 [(nI b),(nI c),(aA d),(iP e)],oC 6 [(.yield 3)],oL 7 1 (map aA a)] 8) (.ret (bV true)) (aG [oC 0 [(.ptr 5 0)],oC 1 [(.func 272 [] [(.ptr 6 0),(.ptr 1 0)])],oC 2 [(.gl 8 1 0 (a++g).length false)],(3,(.loop .ready none 185 (vQ [kp 4 2]) 18 [10] (kd f185 244) (kd f185 245) 4),false),(4,(.defd false),false),oC 5 [(nI b),(nI c),(aA d),(iP e)],oC 6 [(.yield 3)],oL 8 1 (map aA (a++g))] 9))]<|gw 5 36 (f+1)<|.W 3 9 [8] (aEs b c d e n o p i q (a++g) (f+1)))<|.E 7 8 [7] (bV true) [oC 0 [(.ptr 5 0)],oC 1 [(.func 272 [] [(.ptr 6 0),(.ptr 1 0)])],oC 2 [(.gl 7 1 0 a.length false)],(3,(.loop .ready none 185 (vQ [kp 4 2]) 18 [10] (kd f185 244) (kd f185 245) 4),false),(4,(.defd false),false),oC 5 [(nI b),(nI c),(aA d),(iP e)],oC 6 [(.yield 3)],oL 7 1 (map aA a)] 8
def bBZ:=fun a b c d e f g i j k l m n o p q r s t u v=>bEC a b c d e f g i j k l|>.t r m n o p q s t u v ⟨kk,trivial⟩
def bB0:=fun a b c d e f g i j k l m=>bEC a b c d e f g i j k l|>.f m ⟨kk,trivial⟩
mutual
def nmP :Pat→List aB
 | .mk f _ s ps=> (if f=2 then [s]else []) ++zV ps
def zV :List Pat→List aB
 | [] =>[]
 |p::ps=>nmP p++zV ps
end
abbrev bHi :AObj:=.loop .ready none 185 (vQ [(4,.ptr 2 0)]) 18 [10] (cd Tryz.f185 [1,1,1,0,1,0,0]) (cd Tryz.f185 [1,1,1,0,1,0,1]) 4
abbrev aHO (f n:Int)(s:aB)(ps:List Pat) :AObj:=.cells (putCells .leaf 0 [.int .i64 f,.int .i64 n,aA s,.ilst 4 (av ps) false]) 4 [] false
abbrev HNm (f n:Int)(s:aB)(ps:List Pat)(b:Nat)(l:List aB) :List (Nat×AObj×Bool) :=[(0,.cells (putCells .leaf 0 [.ptr 5 0]) 1 [] false,false),(1,.cells (putCells .leaf 0 [.func 272 [] [.ptr 6 0,.ptr 1 0]]) 1 [] false,false),(2,.cells (putCells .leaf 0 [.gl b 1 0 (length l) false]) 1 [] false,false),(3,bHi,false),(4,.defd false,false),(5,aHO f n s ps,false),(6,.cells (putCells .leaf 0 [.yield 3]) 1 [] false,false),(b,.lst 1 (map aA l),true)]
theorem klS (l:List aB) : (AObj.lst 1 (map aA l)).kl:=bE _ (fun _=>rfl) _
section
variable (f n:Int) (s:aB) (ps:List Pat)
theorem nRr (l:List aB)(h:l.length<1000000) :Spec PP (.round 3 [.ptr 5 2]) (aG (HNm f n s ps 7 l) 8) (.ret (.bool true)) (aG (HNm f n s ps 8 (l++ [s])) 9) :=
 ⟨(bEx f n s ps l).as.fr,by kernel_rfl,Eq.mp (by kernel_rfl) (bBR f n s ps l (by simp;omega))⟩
theorem nRi (f' n':Int)(s':aB)(ps':List Pat)(l:List aB)(h:l.length<1000000) :Spec PP (.round 3 [.iptr [aA s',.ilst 4 (av ps') false]]) (aG (HNm f n s ps 7 l) 8) (.ret (.bool true)) (aG (HNm f n s ps 8 (l++ [s'])) 9) :=
 ⟨(bEy f n s ps f' n' s' ps' l).as.fr,by kernel_rfl,Eq.mp (by kernel_rfl) (bBS f n s ps f' n' s' ps' l (by simp;omega))⟩
def aNa (p:Pat) :Prop:=∀l:List aB,l.length+aV p≤1000000→rW PP 7 (.enter 272 [.iptr (AV.cells (Pat.av p)),.ptr 6 0,.ptr 1 0]) (aG (HNm f n s ps 7 l) 8) (.ret (.bool true)) (aG (HNm f n s ps 7 (l++nmP p)) 8)
mutual
theorem aHP :∀p,(nmP p).length≤aV p
 | .mk f _ s ps=>by
  have:=aJM ps;rw [nmP,aV,length_append];split<;>simp<;>omega
theorem aJM :∀ps,(zV ps).length≤aM ps
 | [] =>by simp [zV]
 | p::ps=>by
  have h1:=aHP p;have h2:=aJM ps;rw [zV,aM,length_append];omega
end
theorem aJN (f' n':Int)(s':aB)(ps':List Pat)(l0:List aB)(hl:ps'.length<1000000)(ih:∀q∈ps',aNa f n s ps q) :∀ (t:List Pat) (i:Nat) (l:List aB),ps'.drop i=t→l.length+aM t≤1000000 →
  Ends PP 7 (aEs f n s ps f' n' s' ps' l0 l (i:Int)).as (.ret (.bool true)) (aG (HNm f n s ps 7 (l++zV t)) 8)
 | [],i,l,h,_=>by
  have:=bL h;rw [zV,List.append_nil];exact bB0 f n s ps f' n' s' ps' l0 l i sd
 | .mk f2 n2 s2 ps2::t,i,l,h,hb=>by
  obtain⟨g1,g2,g3⟩ :=bH h;have hi:= (List.getElem?_eq_some_iff.1 g1).1;simp only [aM]at hb;have hnl:=aHP (.mk f2 n2 s2 ps2);have hs:=ih _ (List.mem_of_getElem? g1) l (by omega)
  have hs':=kS (m:=7) (ks:=[0,1,2,3,4,5,6,7]) (n2:=8) (n3:=9) (v':=.bool true) (args':=[.iptr [.int .i64 f2,.int .i64 n2,aA s2,.ilst 4 (av ps2) false],.ptr 6 0,.ptr 1 0]) (lc:=HNm f n s ps 7 l) (lc':=HNm f n s ps 8 (l++nmP (.mk f2 n2 s2 ps2)))
   hs (by rfl) (by rfl) (by kernel_rfl) (by rfl) (by rfl) (by kernel_rfl) (by kernel_rfl) ⟨klS _,trivial⟩ (by kernel_rfl) ⟨klS _,trivial⟩
  have h1:=bBZ f n s ps f' n' s' ps' l0 l i f2 n2 s2 ps2 _ sd sd sd hs' sd;rw [zV,←append_assoc];exact h1.ends (aJN f' n' s' ps' l0 hl ih t (i+1) _ g2 (by rw [length_append];omega))
mutual
theorem aOk :∀p:Pat,aV p<1000000→aNa f n s ps p
 | .mk f' n' s' ps',hp=>fun l hl=>by
  simp only [aV]at hp hl;have:=cP ps';refine⟨(aTH f n s ps f' n' s' ps' l).as.fr,by kernel_rfl,?_⟩;have E:Ends PP 7 (aTH f n s ps f' n' s' ps' l).as (.ret (.bool true)) (aG (HNm f n s ps 7 (l++nmP (.mk f' n' s' ps'))) 8) :=by
   have L:=fun l2 h2=>aJN f n s ps f' n' s' ps' l (by omega) (zW ps' (by omega)) ps' 0 l2 rfl h2;rw [nmP];by_cases h2:f'=2
   · rw [if_pos h2,←append_assoc];exact(bBX f n s ps f' n' s' ps' l (by simp [h2]) (nRi f n s ps f' n' s' ps' l (by omega))).ends (L _ (by simp;omega))
   · rw [if_neg h2,List.nil_append];exact(bBY f n s ps f' n' s' ps' l (by simp [h2])).ends (L l (by omega))
  exact Eq.mp (by kernel_rfl) E
theorem zW :∀qs:List Pat,aM qs<1000000→∀q∈qs,aNa f n s ps q
 | [],_,q,hq=>by cases hq
 | p::qs,h,q,hq=>by
  simp only [aM]at h;rcases List.mem_cons.1 hq with e|hq
  ·rw [e];exact aOk p (by omega)
  ·exact zW qs (by omega) q hq
end
theorem aJO (l0:List aB)(hl:ps.length<1000000)(ih:∀q∈ps,aNa f n s ps q) :∀ (t:List Pat) (i:Nat) (l:List aB),ps.drop i=t→l.length+aM t≤1000000 →
  Ends PP 7 (aEr f n s ps l0 l (i:Int)).as (.ret (.bool true)) (aG (HNm f n s ps 7 (l++zV t)) 8)
 | [],i,l,h,_=>by
  have:=bL h;rw [zV,List.append_nil];exact bBW f n s ps l0 l i sd
 | .mk f2 n2 s2 ps2::t,i,l,h,hb=>by
  obtain⟨g1,g2,g3⟩ :=bH h;have hi:= (List.getElem?_eq_some_iff.1 g1).1;simp only [aM]at hb;have hnl:=aHP (.mk f2 n2 s2 ps2);have hs:=ih _ (List.mem_of_getElem? g1) l (by omega)
  have hs':=kS (m:=7) (ks:=[0,1,2,3,4,5,6,7]) (n2:=8) (n3:=9) (v':=.bool true) (args':=[.iptr [.int .i64 f2,.int .i64 n2,aA s2,.ilst 4 (av ps2) false],.ptr 6 0,.ptr 1 0]) (lc:=HNm f n s ps 7 l) (lc':=HNm f n s ps 8 (l++nmP (.mk f2 n2 s2 ps2)))
   hs (by rfl) (by rfl) (by kernel_rfl) (by rfl) (by rfl) (by kernel_rfl) (by kernel_rfl) ⟨klS _,trivial⟩ (by kernel_rfl) ⟨klS _,trivial⟩
  have h1:=bBV f n s ps l0 l i f2 n2 s2 ps2 _ sd sd sd hs' sd;rw [zV,←append_assoc];exact h1.ends (aJO l0 hl ih t (i+1) _ g2 (by rw [length_append];omega))
end
theorem bHj (f n:Int)(s:aB)(ps:List Pat)(hp:aV (.mk f n s ps) <1000000) :rW PP 7 (.enter 272 [.ptr 5 0,.ptr 6 0,.ptr 1 0]) (aG (HNm f n s ps 7 []) 8) (.ret (.bool true)) (aG (HNm f n s ps 7 (nmP (.mk f n s ps))) 8) :=by
 simp only [aV]at hp;have:=cP ps;refine⟨(aTG f n s ps []).as.fr,by kernel_rfl,?_⟩;have E:Ends PP 7 (aTG f n s ps []).as (.ret (.bool true)) (aG (HNm f n s ps 7 (nmP (.mk f n s ps))) 8) :=by
  have L:=fun l2 h2=>aJO f n s ps [] (by omega) (zW f n s ps ps (by omega)) ps 0 l2 rfl h2;rw [nmP];by_cases h2:f=2
  · rw [if_pos h2];exact(bBT f n s ps [] (by simp [h2]) (nRr f n s ps [] (by simp))).ends (L _ (by simp;omega))
  · rw [if_neg h2];exact(bBU f n s ps [] (by simp [h2])).ends (L [] (by simp;omega))
 exact Eq.mp (by kernel_rfl) E
theorem aTI (p:Pat)(hp:aV p<1000000)(hg:sB p=true) :Pure PP 185 [Pat.av p] (.tup [.ilst 1 (map aA (nmP p)) false,.int .i64 0]) :=by
 have h0:=aI7 p hp;obtain⟨f,n,s,ps⟩ :=p;rw [if_pos hg]at h0;refine cB (s:=bEw f n s ps) (by kernel_rfl) (by kernel_rfl) (by simp [AV.keylessL,kB]) (by simp [AV.keyless,AV.keylessL]) ?_;have h1:=bBP f n s ps 0 h0 (by simp)
 have hs':=kS (m:=7) (ks:=[0,1,2,3,4,5,6,7]) (n2:=8) (n3:=9) (v':=.bool true) (args':=[.ptr 5 0,.ptr 6 0,.ptr 1 0]) (lc:=HNm f n s ps 7 []) (lc':=HNm f n s ps 8 (nmP (.mk f n s ps)))
  (bHj f n s ps hp) (by rfl) (by rfl) (by kernel_rfl) (by rfl) (by rfl) (by kernel_rfl) (by kernel_rfl) ⟨klS _,trivial⟩ (by kernel_rfl) ⟨klS _,trivial⟩
 exact h1.ends (bBQ f n s ps (nmP (.mk f n s ps)) hs')
section
variable {P :Program}
theorem Spec.pan0 {c:AIn}{h h':Hp}{ch:List (AV×Bool)}(s:Spec P c h (.pan ch) h') :bDw P c h ch h':=by
 obtain⟨g,hg,he⟩ :=s;refine⟨g,hg,fun E w G r f _ cl base=>?_⟩;obtain⟨cl',w',E',s1,⟨ps,rfl,g2⟩,r2,x2⟩ :=he (Nat.le_refl _) E G [] w f rfl r cl base;exact⟨ps,w',E',s1,g2,r2,x2.toExt r⟩
theorem aTJ {rs:List Rec}{k:Nat}(h0:∀r∈rs,r.1=k→Spec P r.2.1 r.2.2.1 (.ret r.2.2.2.1) r.2.2.2.2) :aAw P (uA rs) k:=fun c h v h' e=>by
 unfold uA at e;split at e
 · rename_i r hr;split at e
   · rename_i hc;obtain⟨rfl,rfl⟩ :=hc;have h1:=List.find?_some hr;have:=h0 r (List.mem_of_find?_eq_some hr) (Nat.eq_of_beq_eq_true h1);simp only [Option.some.injEq]at e;rw [e]at this;exact this.sound
   ·cases e
 ·cases e
theorem yK {call:bP}{nt:Nat}{l:List Oper}:∀ {p1 p2:List Plan} {r r1 r2:RS},eE P call nt l p1 r=some r1→eE P call nt l p2 r1=some r2→eE P call nt l (p1++p2) r=some r2
 | [],_,r,r1,r2,h1,h2=>by simp only [eE,Option.some.injEq]at h1;subst h1;exact h2
 | p ::p1,p2,r,r1,r2,h1,h2=>by
  simp only [eE]at h1;split at h1
  · rename_i r' hr;simp only [List.cons_append,eE,hr];exact yK h1 h2
  ·cases h1
def aEt (P:Program)(nt:Nat)(ops:Array Oper)(tm:T AV)(h:Hp)(e:Nat)(is1:List RIns)(v:AV)(h2:Hp)(is2:List RIns)(os:List (Option Ans))(ch:List (AV×Bool))(h':Hp) :Option (List Prop) :=
 let pl:=dJ ops
 bif pl.ok then
  match fR P nt pl.ops is1 (pl.plans.take e) {tm,h:={h with nb:=h.nb+pl.fresh},stages:=[],s:=0,pend:=[],next:=h.nb,again:=[]},pl.plans.drop e with
  | some (r1,ps1,rs1),p::pl2=>match bX r1.tm pl.ops p.o,p.kd with
   | some true,.eff=>match jY P (aN r1.h r1.s r1.pend) r1.tm p.o with
    | some (.call c) =>match iD r1.tm nt p.o.dst v with
     | some tm2=>match fR P nt pl.ops is2 pl2 {r1 with tm:=tm2,h:=h2,stages:=r1.h::r1.stages,s:=Nat.succ r1.s} with
      | some (r3,ps3,rs3) =>bif yX (keysOf (rs1++ (r1.s,c,aN r1.h r1.s r1.pend,v,h2) ::rs3))then
        some (ps1++ (ps3++ (qI P (r3.h::r3.stages) r3.s r3.again os++ [Spec P c (aN r1.h r1.s r1.pend) (.pan ch) h'])))else none
      |none=>none
     |none=>none
    |_=>none
   |_,_=>none
  |_,_=>none
 else none
theorem aHQ {m:Nat}{s:AS}{id:Nat}{ops:Array Oper}{k:List AItem}(hm:s.fr.mode= .run)(hcs:s.cs= [])(hd:s.fr.defers= []){fd:Func}(hfd:P.funcs[s.fr.fn]?=some fd)(htd:s.fr.todo= .code (.region id ops true) ::k){e:Nat}{is1:List RIns}{v:AV}{h2:Hp}{is2:List RIns}{os:List (Option Ans)}{ch:List (AV×Bool)}{h':Hp}{ps:List Prop}
  (h0:aEt P s.fr.nt ops s.fr.tm s.h e is1 v h2 is2 os ch h'=some ps) (hp:∀p∈ps,p) :Ends P m s (.pan ch) h':=by
 unfold aEt at h0;simp only at h0;cases hok: (dJ ops).ok with
 |false=>rw [hok]at h0;cases h0
 | true =>
  rw [hok]at h0;simp only [cond]at h0;split at h0
  · rename_i r1 ps1 rs1 p pl2 hx1 hdr;split at h0
    · rename_i hw hk;split at h0
      · rename_i c ha;split at h0
        · rename_i tm2 htm2;split at h0
          · rename_i r3 ps3 rs3 hx3;cases hn:yX (keysOf (rs1++ (r1.s,c,aN r1.h r1.s r1.pend,v,h2) ::rs3))with
            |false=>rw [hn]at h0;cases h0
            | true=>
             rw [hn]at h0;simp only at h0;cases h0;have q1:∀q∈ps1,q:=fun q hq=>hp q (mem_append_left _ hq);have q3:∀q∈ps3,q:=fun q hq=>hp q (mem_append_right _ (mem_append_left _ hq));have q4:∀q∈qI P (r3.h::r3.stages) r3.s r3.again os,q:=fun q hq=>hp q (mem_append_right _ (mem_append_right _ (mem_append_left _ hq)));have q5:Spec P c (aN r1.h r1.s r1.pend) (.pan ch) h':=hp _ (mem_append_right _ (mem_append_right _ (mem_append_right _ (List.mem_singleton_self _))));have hor:=aBB hn;have hst1:=jQ (call:=uA (rs1++ (r1.s,c,aN r1.h r1.s r1.pend,v,h2) ::rs3)) hx1 q1 (fun x hx=>hor x (mem_append_left _ hx));have hst3:=jQ (call:=uA (rs1++ (r1.s,c,aN r1.h r1.s r1.pend,v,h2) ::rs3)) hx3 q3 (fun x hx=>hor x (mem_append_right _ (List.mem_cons_of_mem _ hx)));have hrec:=hor _ (mem_append_right _ (mem_cons_self ..));simp only at hrec;have hst2:jP P (uA (rs1++ (r1.s,c,aN r1.h r1.s r1.pend,v,h2) ::rs3)) s.fr.nt (dJ ops).ops p r1=some {r1 with tm:=tm2,h:=h2,stages:=r1.h::r1.stages,s:=Nat.succ r1.s}:=by
              simp only [jP,hw,hk,ha,hrec,htm2]
             have hrr:eE P (uA (rs1++ (r1.s,c,aN r1.h r1.s r1.pend,v,h2) ::rs3)) s.fr.nt (dJ ops).ops (dJ ops).plans {tm:=s.fr.tm,h:={s.h with nb:=s.h.nb+ (dJ ops).fresh},stages:=[],s:=0,pend:=[],next:=s.h.nb,again:=[]}=some r3:=by
              rw [←List.take_append_drop e (dJ ops).plans,hdr];exact yK hst1 (by simp only [eE,hst2];exact hst3)
             have hck:qE P (r3.h::r3.stages) r3.s r3.again:=oH q4;have hpe: (dJ ops).plans[e]?=some p:=by
              have:=List.getElem?_drop (xs:= (dJ ops).plans) (i:=e) (j:=0);rw [hdr,Nat.add_zero]at this;simpa using this.symm
             have hel:e<ops.toList.length:=by
              have hlen: (dJ ops).plans.length=ops.toList.length:=lD _ _ _ _;have:= (List.getElem?_eq_some_iff.1 hpe).1;omega
             have hpo:p=pD ops.toList e ops.toList[e] :=by
              have h9:=vC (jU ops.toList []) (fF ops.toList 0) ops.toList 0 e;rw [List.getElem?_eq_getElem hel,Option.map_some,Nat.zero_add]at h9;have h8: (dJ ops).plans[e]?=some (pD ops.toList e ops.toList[e]) :=h9;rw [hpe]at h8;cases h8;rfl
             have hspec:∀k,k≠r1.s→aAw P (uA (rs1++ (r1.s,c,aN r1.h r1.s r1.pend,v,h2) ::rs3)) k:=fun k hk=>aTJ fun x hx ex=>by
              rcases List.mem_append.1 hx with g|g
              ·exact lE hx1 q1 x g
              · rcases List.mem_cons.1 g with rfl|g
                ·exact absurd ex.symm hk
                ·exact lE hx3 q3 x g
             intro hm0 E fr ccs w f fs rl cl base;rw [hcs]at fs;obtain rfl:=fs.nil_inv;obtain⟨afr,cs,h⟩ :=s;simp only at hm hd hfd htd hrr hst1 f rl hcs ⊢;have e0:=f.run hm;have ed:fr.defers= [] :=by
              have:=f.defers;rw [hd]at this;simpa only [DRs]using this
             have ef:fr.fn=afr.fn:=f.fn;generalize fr.fn=fn at e0 ef;generalize fr.tmps=tmps at e0;generalize fr.todo=todo at e0;generalize fr.defers=ds at e0 ed;generalize fr.kind=kd at e0;generalize fr.roundOf=ro at e0;subst e0 ed;have ft:=f.todo;simp only [htd]at ft;obtain⟨i,ck,e1,i1,i2⟩ :=ft.cons_inv;subst e1;simp only [IR]at i1;subst i1;obtain⟨E',w',tmps',is',pp,s1,c1,r1',x1⟩ :=aCH (o:=ops.toList[e]) hok hrr hck hst1 (List.getElem?_eq_getElem hel) (by rw [hpo]at hk;exact hk) hspec (by rw [hpo]at hw;exact hw) (by rw [hpo]at ha;exact ha) q5.pan0 rl f.tm id fn [] kd ro ck (cl::base);refine⟨cl.raise pp,w',E',s1.trans (.one (pC (chain:=pp) rfl rfl (fd:=fd) (by show P.funcs[fn]?=_;rw [ef];exact hfd))),⟨pp,rfl,c1⟩,r1',x1.toM hm0⟩
          ·cases h0
        ·cases h0
      ·cases h0
    ·cases h0
  ·cases h0
def bHk (P:Program)(m:Nat)(is:List Ins)(s:TS)(e:Nat)(is1:List RIns)(v:AV)(h2:Hp)(is2:List RIns)(os:List (Option Ans))(ch:List (AV×Bool))(h':Hp)(hp:List (Nat×AObj×Bool))(nb:Nat)(ks:List Nat) :Option (Nat×List (AV×Bool) ×List (Option AObj) ×List Prop) :=
 match vP P is s.as with
 | some (s1,ps) =>match s1.cs,s1.fr.defers,s1.fr.mode,s1.fr.todo,P.funcs[s1.fr.fn]? with
  | [],[],.run,.code (.region _ ops true) ::_,some _=>match aEt P s1.fr.nt ops s1.fr.tm s1.h e is1 v h2 is2 os ch h' with
   |some qs=>some (h'.nb,ch,oI h' (dV m nb h'.nb ks) hp,ps++qs)
   |none=>none
  |_,_,_,_,_=>none
 |none=>none
theorem tR {m:Nat}{is:List Ins}{s:TS}{e:Nat}{is1:List RIns}{v:AV}{h2:Hp}{is2:List RIns}{os:List (Option Ans)}{ch:List (AV×Bool)}{h':Hp}{hp:List (Nat×AObj×Bool)}{nb:Nat}{ks:List Nat}{n1:Nat}{ps:List Prop}
  (h0:bHk P m is s e is1 v h2 is2 os ch h' hp nb ks=some (n1,aMe (dV m nb n1 ks) ch,gI (dV m nb n1 ks) hp,ps))
  (hok:cS m ⟨⟨0,0,[],[],[],.run,.normal,none⟩,[],hp,nb⟩ ks=true) (hkl:fG hp) (hps:AllP ps) :Ends P m s.as (.pan ch) (aG hp nb) :=by
 unfold bHk at h0;split at h0
 · rename_i s1 qs h1;split at h0
   · rename_i id ops k fd hcs hd hm htd hfd;split at h0
     · rename_i qs2 hx;simp only [Option.some.injEq,Prod.mk.injEq]at h0;obtain⟨rfl,h3,h4,rfl⟩ :=h0;refine(iZ h1 (fun p hpp=>hps.mem p (mem_append_left _ hpp))).ends ?_;intro hm0 E fr ccs w f fs r cl base;obtain⟨cl',w',E',g1,⟨ps',rfl,g2⟩,g3,g4⟩ :=aHQ (m:=m) hm hcs hd hfd htd hx (fun p hpp=>hps.mem p (mem_append_right _ hpp)) hm0 E fr ccs w f fs r cl base;obtain⟨q1,q2⟩ :=lF hok h4 hkl g3;rw [h3]at g2;exact⟨_,w',_,g1,⟨ps',rfl,aGW g2⟩,q1,g4.trans q2⟩
     ·cases h0
   ·cases h0
 ·cases h0
end
def aNb(a b:List (aB×Int))(c:List Int)(d e:Int)(f:aB)(g:List Pat):TS:=bQ PP 107 [(.agg [(.map 0),(.map 1),(iI c)]),(.agg [(nI d),(nI e),(aA f),(iP g)])] [(0,(.map (aC aA aP 0 a) a.length),true),(1,(.map (aC aA aP 0 b) b.length),true)] 2
theorem bB1 (mf: (List (aB×Int)))(mc: (List (aB×Int)))(ar:List Int)(q_form q_n:Int)(q_text:aB)(q_parts:List Pat)(h0:Spec PP (.enter 106 [(iP q_parts),(.func 107 [(.agg [(.map 0),(.map 1),(iI ar)])] [])]) (aG [(0,(.map (aC aA aP 0 mf) mf.length),true),(1,(.map (aC aA aP 0 mc) mc.length),true),oC 2 [(.map 0),(.map 1),(iI ar)],oC 3 [(nI q_form),(nI q_n),(aA q_text),(iP q_parts)],oC 4 [(nI 0),(nI 0),(.str 0 0),.nils]] 6) (.pan [((.iface 82 (.agg [])),false)]) (aG [(0,(.map (aC aA aP 0 mf) mf.length),true),(1,(.map (aC aA aP 0 mc) mc.length),true),oC 2 [(.map 0),(.map 1),(iI ar)],oC 3 [(nI q_form),(nI q_n),(aA q_text),(iP q_parts)],oC 4 [(nI 0),(nI 0),(.str 0 0),.nils]] 6)) :
  Ends PP 2 (aNb mf mc ar q_form q_n q_text q_parts).as (.pan [((.iface 82 (.agg [])),false)]) (aG [(0,(.map (aC aA aP 0 mf) mf.length),true),(1,(.map (aC aA aP 0 mc) mc.length),true)] 2) :=
 tR (n1:=6) (ks:=[]) (e:=8) (is1:=[.d,.d,.d,.d,.d,.d,.d,.d]) (v:= (iP ([] :List Pat))) (h2:=aG [(0,(.map (aC aA aP 0 mf) mf.length),true),(1,(.map (aC aA aP 0 mc) mc.length),true),oC 2 [(.map 0),(.map 1),(iI ar)],oC 3 [(nI q_form),(nI q_n),(aA q_text),(iP q_parts)],oC 4 [(nI 0),(nI 0),(.str 0 0),.nils]] 6) (is2:=[.d,.d,.d]) (os:=[]) (h':=aG [(0,(.map (aC aA aP 0 mf) mf.length),true),(1,(.map (aC aA aP 0 mc) mc.length),true),oC 2 [(.map 0),(.map 1),(iI ar)],oC 3 [(nI q_form),(nI q_n),(aA q_text),(iP q_parts)],oC 4 [(nI 0),(nI 0),(.str 0 0),.nils]] 6) (hp:=[(0,(.map (aC aA aP 0 mf) mf.length),true),(1,(.map (aC aA aP 0 mc) mc.length),true)]) (ch:=[((.iface 82 (.agg [])),false)]) (ps:=[(nI q_n) = (nI q_n),(nI q_n) = (nI q_n),(nI q_form) = (nI q_form),(nI q_form) = (nI q_form),Spec PP (.enter 106 [(iP q_parts),(.func 107 [(.agg [(.map 0),(.map 1),(iI ar)])] [])]) (aG [(0,(.map (aC aA aP 0 mf) mf.length),true),(1,(.map (aC aA aP 0 mc) mc.length),true),oC 2 [(.map 0),(.map 1),(iI ar)],oC 3 [(nI q_form),(nI q_n),(aA q_text),(iP q_parts)],oC 4 [(nI 0),(nI 0),(.str 0 0),.nils]] 6) (.pan [((.iface 82 (.agg [])),false)]) (aG [(0,(.map (aC aA aP 0 mf) mf.length),true),(1,(.map (aC aA aP 0 mc) mc.length),true),oC 2 [(.map 0),(.map 1),(iI ar)],oC 3 [(nI q_form),(nI q_n),(aA q_text),(iP q_parts)],oC 4 [(nI 0),(nI 0),(.str 0 0),.nils]] 6)]) (is:=[.run 7]) (by kernel_rfl) (by kernel_rfl) ⟨aI (fun _=>rfl) (fun _=>rfl) _ _ _,⟨aI (fun _=>rfl) (fun _=>rfl) _ _ _,trivial⟩⟩ ⟨rfl,rfl,rfl,rfl,h0⟩
def bED(a b:List (aB×Int))(c:List Int)(d:List Pat):TS:=bQ PP 106 [(iP d),(.func 107 [(.agg [(.map 0),(.map 1),(iI c)])] [])] [(0,(.map (aC aA aP 0 a) a.length),true),(1,(.map (aC aA aP 0 b) b.length),true)] 2
def aHR(a b:List (aB×Int))(e:List Int)(c:List Pat)(f:Int)(d:List Pat):TS:=⟨(tf 106 22 [(1,(.func 107 [(.agg [(.map 0),(.map 1),(iI e)])] [])),(4,.nils),(5,(.gl 2 4 0 d.length false)),(8,(iP c)),(9,(nI (c.length:Int))),(10,(nI f))] [kc f106 116,kl f106 116,.inBlock 0,kc f106 15]),[],[(0,(.map (aC aA aP 0 a) a.length),true),(1,(.map (aC aA aP 0 b) b.length),true),oL 2 4 (av d)],3⟩
def aTK(a b:List (aB×Int))(f:List Int)(c d:Int)(g:aB)(e:List Pat):=tT 2 (aNb a b f c d g e)<|.y fun i:List Pat=>.i [rn 7,.reg (rd 8 (.call (iP i) (aG [(0,(.map (aC aA aP 0 a) a.length),true),(1,(.map (aC aA aP 0 b) b.length),true),oC 2 [(.map 0),(.map 1),(iI f)],oC 3 [(nI c),(nI d),(aA g),(iP e)],oC 4 [(nI 0),(nI 0),(.str 0 0),.nils]] 6)::rd 3 []))] [hA (Spec PP (.enter 106 [(iP e),(.func 107 [(.agg [(.map 0),(.map 1),(iI f)])] [])]) (aG [(0,(.map (aC aA aP 0 a) a.length),true),(1,(.map (aC aA aP 0 b) b.length),true),oC 2 [(.map 0),(.map 1),(iI f)],oC 3 [(nI c),(nI d),(aA g),(iP e)],oC 4 [(nI 0),(nI 0),(.str 0 0),.nils]] 6) (.ret (iP i)) (aG [(0,(.map (aC aA aP 0 a) a.length),true),(1,(.map (aC aA aP 0 b) b.length),true),oC 2 [(.map 0),(.map 1),(iI f)],oC 3 [(nI c),(nI d),(aA g),(iP e)],oC 4 [(nI 0),(nI 0),(.str 0 0),.nils]] 6)),hr (nI d),hr (nI d),hr (nI c),hr (nI c)]<|.b 7 18 (c==6) (gm 7 aJ e<|.o (gK 0 (.enter 109 [(.agg [(.map 0),(.map 1),(iI f)]),(aA g),(nI (e.length:Int))]) [(0,(.map (aC aA aP 0 a) a.length),true),(1,(.map (aC aA aP 0 b) b.length),true),oC 2 [(.map 0),(.map 1),(iI f)],oC 3 [(nI c),(nI d),(aA g),(iP e)],oC 4 [(nI 0),(nI 0),(.str 0 0),.nils],oC 5 [(nI c),(nI d),(.str 0 0),(iP i)]] 6 [((.iface 82 (.agg [])),false)] [(0,(.map (aC aA aP 0 a) a.length),true),(1,(.map (aC aA aP 0 b) b.length),true),oC 2 [(.map 0),(.map 1),(iI f)],oC 3 [(nI c),(nI d),(aA g),(iP e)],oC 4 [(nI 0),(nI 0),(.str 0 0),.nils],oC 5 [(nI c),(nI d),(.str 0 0),(iP i)]] 6<|.P 0 6 [] [((.iface 82 (.agg [])),false)] [(0,(.map (aC aA aP 0 a) a.length),true),(1,(.map (aC aA aP 0 b) b.length),true)] 2)<|.y fun j:Int=>gk 0 (.enter 109 [(.agg [(.map 0),(.map 1),(iI f)]),(aA g),(nI (e.length:Int))]) [(0,(.map (aC aA aP 0 a) a.length),true),(1,(.map (aC aA aP 0 b) b.length),true),oC 2 [(.map 0),(.map 1),(iI f)],oC 3 [(nI c),(nI d),(aA g),(iP e)],oC 4 [(nI 0),(nI 0),(.str 0 0),.nils],oC 5 [(nI c),(nI d),(.str 0 0),(iP i)]] 6 (nI j) [(0,(.map (aC aA aP 0 a) a.length),true),(1,(.map (aC aA aP 0 b) b.length),true),oC 2 [(.map 0),(.map 1),(iI f)],oC 3 [(nI c),(nI d),(aA g),(iP e)],oC 4 [(nI 0),(nI 0),(.str 0 0),.nils],oC 5 [(nI c),(nI d),(.str 0 0),(iP i)]] 6<|.E 9 6 [] (.agg [(nI c),(nI j),(.str 0 0),(iP i)]) [(0,(.map (aC aA aP 0 a) a.length),true),(1,(.map (aC aA aP 0 b) b.length),true)] 2)<|.E 8 6 [] (.agg [(nI c),(nI d),(.str 0 0),(iP i)]) [(0,(.map (aC aA aP 0 a) a.length),true),(1,(.map (aC aA aP 0 b) b.length),true)] 2
def bB2:=fun a b c d e f g i j k l=>aTK a b c d e f g i j|>.t k|>.1 l ⟨aI (fun _=>rfl) (fun _=>rfl) _ _ _,⟨aI (fun _=>rfl) (fun _=>rfl) _ _ _,trivial⟩⟩
def bB3:=fun a b c d e f g i j k l m=>aTK a b c d e f g i k|>.t l|>.2 j m ⟨aI (fun _=>rfl) (fun _=>rfl) _ _ _,⟨aI (fun _=>rfl) (fun _=>rfl) _ _ _,trivial⟩⟩
def bB4:=fun a b c d e f g i j k=>aTK a b c d e f g i j|>.f k ⟨aI (fun _=>rfl) (fun _=>rfl) _ _ _,⟨aI (fun _=>rfl) (fun _=>rfl) _ _ _,trivial⟩⟩
def bB5 (b c:List (aB×Int))(d:List Int)(a:List Pat):=(tT 2 (bED b c d a)<|gm 12 aJ a<|.i [rn 4,.nilL 5 4] []<|gu 0 2 (av ([] :List Pat))<|gs 0 5 (.gl 2 4 0 ([] :List Pat).length false)<|.W 0 3 [2] (aHR b c d a 0 ([] :List Pat))) ⟨aI (fun _=>rfl) (fun _=>rfl) _ _ _,⟨aI (fun _=>rfl) (fun _=>rfl) _ _ _,⟨hY,trivial⟩⟩⟩
def aTL(a b:List (aB×Int))(j:List Int)(k:List Pat)(i:Int)(c:List Pat):=tT 2 (aHR a b j k i c)<|gd 5 11 (i< (k.length:Int)) (xM 6 k i<|fun d e f g=>.o (gK 8 (.enter 107 [(.agg [(.map 0),(.map 1),(iI j)]),(.agg [(nI d),(nI e),(aA f),(iP g)])]) [(0,(.map (aC aA aP 0 a) a.length),true),(1,(.map (aC aA aP 0 b) b.length),true),oL 2 4 (av c),oC 3 [(nI d),(nI e),(aA f),(iP g)]] 4 [((.iface 82 (.agg [])),false)] [(0,(.map (aC aA aP 0 a) a.length),true),(1,(.map (aC aA aP 0 b) b.length),true),oL 2 4 (av c),oC 3 [(nI d),(nI e),(aA f),(iP g)]] 4<|.P 0 4 [] [((.iface 82 (.agg [])),false)] [(0,(.map (aC aA aP 0 a) a.length),true),(1,(.map (aC aA aP 0 b) b.length),true)] 2)<|.y fun l:Int=>.y fun m:Int=>.y fun n:aB=>.y fun o:List Pat=>gk 8 (.enter 107 [(.agg [(.map 0),(.map 1),(iI j)]),(.agg [(nI d),(nI e),(aA f),(iP g)])]) [(0,(.map (aC aA aP 0 a) a.length),true),(1,(.map (aC aA aP 0 b) b.length),true),oL 2 4 (av c),oC 3 [(nI d),(nI e),(aA f),(iP g)]] 4 (.agg [(nI l),(nI m),(aA n),(iP o)]) [(0,(.map (aC aA aP 0 a) a.length),true),(1,(.map (aC aA aP 0 b) b.length),true),oL 2 4 (av c),oC 3 [(nI d),(nI e),(aA f),(iP g)]] 4<|gA 1 aJ c [(Pat.mk l m n o)]<|gw 5 20 (i+1)<|.W 3 6 [5] (aHR a b j k (i+1) (c++ [(Pat.mk l m n o)])))<|gZ 8 4 2 4 aJ hY c false<|.E 0 3 [] (iP c) [(0,(.map (aC aA aP 0 a) a.length),true),(1,(.map (aC aA aP 0 b) b.length),true)] 2
def bB6:=fun a b c d e f g i j k l m n o=>aTL a b c d e f|>.t l g i j k m n|>.1 o ⟨aI (fun _=>rfl) (fun _=>rfl) _ _ _,⟨aI (fun _=>rfl) (fun _=>rfl) _ _ _,trivial⟩⟩
def bB7:=fun a b c d e f g i j k l m n o p q r s t u=>aTL a b c d e f|>.t p g i j k q r|>.2 l m n o s t u ⟨aI (fun _=>rfl) (fun _=>rfl) _ _ _,⟨aI (fun _=>rfl) (fun _=>rfl) _ _ _,⟨hY,trivial⟩⟩⟩
def bB8:=fun a b c d e f g=>aTL a b c d e f|>.f g ⟨aI (fun _=>rfl) (fun _=>rfl) _ _ _,⟨aI (fun _=>rfl) (fun _=>rfl) _ _ _,trivial⟩⟩
end
end Go.Hb
