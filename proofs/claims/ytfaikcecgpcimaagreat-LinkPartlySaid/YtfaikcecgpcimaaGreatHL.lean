/- A machine on abstract values, its soundness, ways, plain laws. -/
import Derived.Test.YtfaikcecgpcimaaGreatHF
import Derived.Test.YtfaikcecgpcimaaGreatHG
import Derived.Test.YtfaikcecgpcimaaGreatHH
import Derived.Test.YtfaikcecgpcimaaGreatHI
import Derived.Test.YtfaikcecgpcimaaGreatHJ
import Derived.Test.YtfaikcecgpcimaaGreatHK
set_option linter.defProp false
set_option linter.unusedVariables false
set_option linter.unusedSimpArgs false
set_option linter.unusedSectionVars false
set_option maxRecDepth 100000
set_option maxHeartbeats 4000000
namespace Go.Hb
open AV (keyless keylessL)
open Bool (and_eq_true)
open List (append_nil length length_map length_set map mem_cons_self mem_of_getElem? set)
open Go.Proofs Tryz
noncomputable section
theorem pD {s x:aC}{l:List aC}:bW (x::l) s= (decide (x=s) ||bW l s) :=rfl
theorem aYm (l:List LUnit)(s:aC)(own:List aC)(i:Int)(k:Nat)(hk:k<1000)(acc:List aC)(ha:acc.length<100000) :∀ (t:List aC) (j:Nat),acc.drop j=t→LeadsM PP 0 (aG7 l s own (j:Int) (k:Int) acc i).as (yK l own ((k:Int) +1) (if bW t s=true then acc else acc++ [s]) i).as
 | [],j,h=>by
  have:=aT h;exact aVB l s own j k acc i sd (by simp;omega) sd
 | x ::t,j,h=>by
  obtain⟨q1,q2,q3⟩ :=aR h;rw [pD];by_cases e:x=s
  · rw [decide_eq_true e,Bool.true_or,if_pos rfl];exact aVz l s own j k acc i x sd sd sd sd (by rw [bT];simp [e]) sd
  · rw [decide_eq_false e,Bool.false_or];exact(aVA l s own j k acc i x sd sd sd sd (by rw [bT];simp [e]) sd).trans (aYm l s own i k hk acc ha t (j+1) q2)
theorem aRG (l:List LUnit)(own:List aC)(ho:own.length<1000000)(u:LUnit)(i:Nat)(hi:l[i]?=some u)(hi2:i<1000)(hn:u.needs.length≤25) :∀ (t:List aC) (k:Nat) (acc:List aC),u.needs.drop k=t→acc.length≤25*i+k →
  LeadsM PP 0 (yK l own (k:Int) acc (i:Int)).as (aDz l own ((i:Int) +1) (xA own acc t)).as
 | [],k,acc,h,ha=>by
  have:=aT h;exact aVy l own k acc i u sd sd sd sd
 | s::t,k,acc,h,ha=>by
  obtain⟨q1,q2,q3⟩ :=aR h;have hh:=vB own s ho;rw [xA];cases e:bW own s with
  | true=>
   rw [e]at hh;rw [if_pos (.inl rfl)];exact(aVx l own k acc i u s true sd sd sd sd sd hh rfl sd).trans (aRG l own ho u i hi hi2 hn t (k+1) acc q2 (by omega))
  | false=>
   rw [e]at hh;have h1:=aVw l own k acc i u s false sd sd sd sd sd hh rfl;have h2:=aYm l s own i k (by omega) acc (by omega) acc 0 rfl;refine h1.trans (h2.trans ?_);have e2: (if false=true∨bW acc s=true then acc else acc++ [s]) = (if bW acc s=true then acc else acc++ [s]) :=by simp
   rw [e2];exact aRG l own ho u i hi hi2 hn t (k+1) _ q2 (by split<;>first|omega| (simp;omega))
theorem aYn (l:List LUnit)(own:List aC)(ho:own.length<1000000)(hl:l.length≤11)(hu:∀u∈l,FewU u) :∀ (t:List LUnit) (i:Nat) (acc:List aC),l.drop i=t→acc.length≤25*i →
  Ends PP 0 (aDz l own (i:Int) acc).as (.ret (.ilst 1 (map aB (aAm own acc t)) false)) (aE [] 0)
 | [],i,acc,h,ha=>by
  have:=aT h;exact aVv l own i acc sd
 | u::t,i,acc,h,ha=>by
  obtain⟨q1,q2,q3⟩ :=aR h;have hf:=hu u (mem_of_getElem? q1);have hn:=hf.n;have hlen:=vH own u.needs acc;exact(aVu l own i acc sd).ends ((aRG l own ho u i q1 (by omega) hn u.needs 0 acc rfl (by omega)).ends (aYn l own ho hl hu t (i+1) _ q2 (by omega)))
theorem uI (l:List LUnit)(hu:∀u∈l,FewU u) : (dU l).length≤30*l.length:=by
 induction l with
 |nil=>simp [dU]
 | cons u l ih=>
  have:=ih (fun x hx=>hu x (List.mem_cons_of_mem _ hx));have h1:= (hu u (mem_cons_self ..)).f;rw [aON,List.length_append,List.length_cons];simp [aH];omega
theorem aRH (l:List LUnit)(hl:l.length≤11)(hu:∀u∈l,FewU u) :Pure PP 74 [.ilst 5 (map LUnit.av l) false] (.ilst 1 (map aB (dO l)) false) :=by
 have:=uI l hu;exact dF (s:=aYi l) (by kernel_rfl) (by kernel_rfl) (by simp [keylessL,keyless]) (by simp [keyless]) ((aVt l (dU l) (aA7 l hl (fun u h=> (hu u h).f))).ends (aYn l (dU l) (by omega) hl hu l 0 [] rfl (by simp)))
def aFd (out:List Con)(c:Con) :Option (List Con) :=match out.find? (fun d=>decide (d.name=c.name))with
 |none=>some (out++ [c])
 |some d=>if d.args=c.args then some out else none
def aAn :List Con→List Con→Option (List Con)
 |out,[] =>some out
 | out,c::t=>match aFd out c with
  |some o=>aAn o t
  |none=>none
def uJ :List Con→List LUnit→Option (List Con)
 |out,[] =>some out
 | out,u::t=>match aAn out u.cons with
  |some o=>uJ o t
  |none=>none
def aFe (l:List LUnit) :Option (List Con) :=uJ [] l
theorem aBa {out o:List Con}{c:Con}(h:aFd out c=some o) :o.length≤out.length+1:=by
 unfold aFd at h;split at h
 ·cases h;simp
 · split at h
   ·cases h;omega
   ·cases h
theorem vI :∀ {t out o:List Con},aAn out t=some o→o.length≤out.length+t.length
 | [],out,o,h=>by cases h;simp
 | c ::t,out,o,h=>by
  rw [aAn]at h;split at h
  · rename_i o1 h1;have:=aBa h1;have:=vI h;simp;omega
  ·cases h
abbrev aCd :AV:=.tup [.ilst 2 (map Con.av ([] :List Con)) true,.bool false]
abbrev aG9 (o:Option (List Con)) :AV:=match o with
 |some o=>.tup [.ilst 2 (map Con.av o) false,.bool true]
 |none=>aCd
theorem aYo (l:List LUnit)(nm:aC)(args:Int)(i:Int)(k:Nat)(hk:k<1000)(acc:List Con)(ha:acc.length<100000) :∀ (t:List Con) (j:Nat),acc.drop j=t →
  (match(match t.find? (fun d=>decide (d.name=nm))with|none=>some (acc++ [⟨nm,args⟩]) |some d=>if d.args=args then some acc else none)with
  |some o=>LeadsM PP 0 (aDx l nm nm nm args (j:Int) i (k:Int) acc).as (uH l ((k:Int) +1) o i).as
  |none=>Ends PP 0 (aDx l nm nm nm args (j:Int) i (k:Int) acc).as (.ret aCd) (aE [] 0))
 | [],j,h=>by
  have:=aT h;exact aU5 l nm nm nm args j i k acc sd (by simp;omega) sd
 | d ::t,j,h=>by
  obtain⟨q1,q2,q3⟩ :=aR h;by_cases e:d.name=nm
  · rw [List.find?_cons_of_pos (by simpa using e)];by_cases e2:d.args=args
    · dsimp only;rw [if_pos e2];exact aU3 l nm nm nm args j i k acc d sd sd sd sd (by rw [bT];simp [e]) sd (by simp [e2]) sd
    · dsimp only;rw [if_neg e2];exact aU2 l nm nm nm args j i k acc d sd sd sd sd (by rw [bT];simp [e]) sd (by simp [e2])
  · rw [List.find?_cons_of_neg (by simpa using e)];have ih:=aYo l nm args i k hk acc ha t (j+1) q2;have h1:=aU4 l nm nm nm args j i k acc d sd sd sd sd (by rw [bT];simp [e]) sd;split at ih
    ·rename_i o ho;rw [ho];exact h1.trans ih
    ·rename_i ho;rw [ho];exact h1.ends ih
theorem aYp (l:List LUnit)(u:LUnit)(i:Nat)(hi:l[i]?=some u)(hi2:i<1000)(hn:u.cons.length≤25) :∀ (t:List Con) (k:Nat) (acc:List Con),u.cons.drop k=t→acc.length≤25*i+k →
  (match aAn acc t with
  |some o=>LeadsM PP 0 (uH l (k:Int) acc (i:Int)).as (aDw l ((i:Int) +1) o).as
  |none=>Ends PP 0 (uH l (k:Int) acc (i:Int)).as (.ret aCd) (aE [] 0))
 | [],k,acc,h,ha=>by
  have:=aT h;exact aU1 l k acc i u sd sd sd sd
 | c ::t,k,acc,h,ha=>by
  obtain⟨q1,q2,q3⟩ :=aR h;have h1:=aU0 l k acc i u c sd sd sd sd sd;have h2:=aYo l c.name c.args i k (by omega) acc (by omega) acc 0 rfl;rw [aAn,aFd];split at h2
  · rename_i o ho;rw [show(⟨c.name,c.args⟩ :Con) =c from rfl]at ho;rw [ho];have hl:=aBa (out:=acc) (c:=c) (o:=o) (by unfold aFd;exact ho);have h3:=aYp l u i hi hi2 hn t (k+1) o q2 (by omega);dsimp only;split at h3
    ·rename_i o2 ho2;first|exact h1.trans (h2.trans h3) | (rw [ho2];exact h1.trans (h2.trans h3))
    ·rename_i ho2;first|exact h1.ends (h2.ends h3) | (rw [ho2];exact h1.ends (h2.ends h3))
  · rename_i ho;rw [show(⟨c.name,c.args⟩ :Con) =c from rfl]at ho;rw [ho];exact h1.ends h2
theorem aYq (l:List LUnit)(hl:l.length≤11)(hu:∀u∈l,FewU u) :∀ (t:List LUnit) (i:Nat) (acc:List Con),l.drop i=t→acc.length≤25*i →
  Ends PP 0 (aDw l (i:Int) acc).as (.ret (aG9 (uJ acc t))) (aE [] 0)
 | [],i,acc,h,ha=>by
  have:=aT h;exact aUZ l i acc sd
 | u ::t,i,acc,h,ha=>by
  obtain⟨q1,q2,q3⟩ :=aR h;have hf:=hu u (mem_of_getElem? q1);have hn:u.cons.length≤25:=by have:=hf.p;simp only [aL,and_eq_true,decide_eq_true_eq]at this;exact this.1.1.2
  have h1:=aUY l i acc sd;have h2:=aYp l u i q1 (by omega) hn u.cons 0 acc rfl (by omega);rw [uJ];split at h2
  · rename_i o ho
    try rw [ho]
    have:=vI ho;exact h1.ends (h2.ends (aYq l hl hu t (i+1) o q2 (by omega)))
  · rename_i ho
    try rw [ho]
    exact h1.ends h2
theorem aRI (l:List LUnit)(hl:l.length≤11)(hu:∀u∈l,FewU u) :Pure PP 80 [.ilst 5 (map LUnit.av l) false] (aG9 (aFe l)) :=
 dF (s:=aYd l) (by kernel_rfl) (by kernel_rfl) (by simp [keylessL,keyless]) (by unfold aG9;split<;>simp [keyless,keylessL]) ((aUX l).ends (aYq l hl hu l 0 [] rfl (by simp)))
def aYr(a b:Int)(c:aC)(d:List Pat)(e:List Int):TS:=cK PP 208 [(.agg [(nI a),(nI b),(aB c),(iP d)]),(iI e)] [] 0
def aDE(a c:Int)(d:aC)(e:List Pat)(f:List Int)(g i:Int)(b:List Pat):TS:=⟨(tf 208 41 [(1,(iI f)),kp 2 0,kp 4 1,kp 5 2,(6,(nI i))] [kc f208 244,kl f208 244,.inBlock 0,kc f208 31]),[],[oC 0 [(nI a),(nI c),(aB d),(iP e)],oC 1 [(nI 0),(nI 0),(.str 0 0),.nils],oC 2 [(nI a),(nI g),(.str 0 0),(.gl 3 4 0 b.length false)],oL 3 4 (Pats.av b)],4⟩
def aRJ(a c:Int)(d:aC)(e:List Pat)(f:List Int)(g i:Int)(b:List Pat):TS:=⟨(tf 208 41 [(1,(iI f)),kp 2 0,kp 4 1,kp 5 2,(6,(nI i))] [kc f208 1956,.inBlock 1,kc f208 979,kl f208 244,.inBlock 0,kc f208 31]),[],[oC 0 [(nI a),(nI c),(aB d),(iP e)],oC 1 [(nI 0),(nI 0),(.str 0 0),.nils],oC 2 [(nI a),(nI g),(.str 0 0),(.gl 3 4 0 b.length false)],oL 3 4 (Pats.av b)],4⟩
def aRK(b:List ONode)(a:LUnit)(c:Int)(d e:List Int):TS:=cK PP 147 [(.gl 0 4 0 b.length false),(.agg [(aB a.name),(iC a.cons),(.ilst 2 (map LFun.av a.funs) false),(iS a.needs),(iN a.nodes)]),(nI c),(iI d),(iI e)] [oL 0 4 (map ONode.av b)] 1
def rE(b:List ONode)(a:LUnit)(n:Int)(d e:List Int)(f g:Int)(i:List Int)(j:List Pat)(k l m:Int)(c:List Pat):TS:=⟨(tf 147 107 [(0,(.gl 0 4 0 b.length false)),(3,(iI d)),(4,(iI e)),kp 6 1,(10,.nils),kp 11 2,kp 12 3,(13,(nI m))] [kc f147 1012,kl f147 1012,.inBlock 0,kc f147 127]),[],[oL 0 4 (map ONode.av b),oC 1 [(aB a.name),(iC a.cons),(.ilst 2 (map LFun.av a.funs) false),(iS a.needs),(iN a.nodes)],oC 2 [(nI f),(nI g),(iI i),(iP j)],oC 3 [(nI k),(nI l),.nils,(.gl 4 4 0 c.length false)],oL 4 4 (Pats.av c)],5⟩
def aHa(c:List ONode)(a:LUnit)(k:Int)(d e:List Int)(b:List ONode)(f g:Int)(i:List Int)(j:List Pat):TS:=⟨(tf 147 107 [(0,(.gl 0 4 0 b.length false)),(3,(iI d)),(4,(iI e)),kp 6 1,(10,.nils),kp 11 2,(14,(nI (c.length:Int))),(15,(nI 0))] [kc f147 8180,kl f147 8180,.inBlock 2,kc f147 1023]),[],[oL 0 4 (map ONode.av b),oC 1 [(aB a.name),(iC a.cons),(.ilst 2 (map LFun.av a.funs) false),(iS a.needs),(iN a.nodes)],oC 2 [(nI f),(nI g),(iI i),(iP j)]],3⟩
def uK(b:List ONode)(a:LUnit)(m:Int)(e f:List Int)(c:List ONode)(g i:Int)(j:List Int)(k:List Pat)(d:List Int)(l:Int):TS:=⟨(tf 147 107 [(0,(.gl 0 4 0 c.length false)),(3,(iI e)),(4,(iI f)),kp 6 1,(10,.nils),kp 11 2,(14,(nI (b.length:Int))),(15,(nI l)),(93,(.gl 3 1 0 d.length false)),(95,(.ep 0 4 (0+ (b.length:Int).toNat) 2))] [ko f147 130888 13,kc f147 130889,.inBlock 3,kc f147 32723,kl f147 8180,.inBlock 2,kc f147 1023]),[],[oL 0 4 (map ONode.av c),oC 1 [(aB a.name),(iC a.cons),(.ilst 2 (map LFun.av a.funs) false),(iS a.needs),(iN a.nodes)],oC 2 [(nI g),(nI i),(iI j),(iP k)],oL 3 1 (jI d)],4⟩
def aHb(b:List ONode)(a:LUnit)(p:Int)(g i:List Int)(c:List ONode)(j k:Int)(l:List Int)(m:List Pat)(n:List Int)(o:Int)(d:Option Addr)(e f:Nat):TS:=⟨(tf 147 107 [(0,(.gl 0 4 0 c.length false)),(3,(iI g)),(4,(iI i)),kp 6 1,(10,.nils),kp 11 2,(14,(nI (b.length:Int))),(15,(nI o)),(93,(.val (Value.slice d e f))),(95,(.ep 0 4 (0+ (b.length:Int).toNat) 2))] [ko f147 130888 13,kc f147 130889,.inBlock 3,kc f147 32723,kl f147 8180,.inBlock 2,kc f147 1023]),[],[oL 0 4 (map ONode.av c),oC 1 [(aB a.name),(iC a.cons),(.ilst 2 (map LFun.av a.funs) false),(iS a.needs),(iN a.nodes)],oC 2 [(nI j),(nI k),(iI l),(iP m)],(3,(.lstv (Value.slice d e f) 1 (jI n)),true)],4⟩
def aHc(c:List ONode)(a:LUnit)(n:Int)(d e:List Int)(b:List ONode)(f g:Int)(i:List Int)(j:List Pat)(k:List Int)(l:Value)(m:Int):TS:=⟨(tf 147 107 [(0,(.gl 0 4 0 b.length false)),(3,(iI d)),(4,(iI e)),kp 6 1,(10,.nils),kp 11 2,(14,(nI (c.length:Int))),(15,(nI m))] [kc f147 8180,kl f147 8180,.inBlock 2,kc f147 1023]),[],[oL 0 4 (map ONode.av b),oC 1 [(aB a.name),(iC a.cons),(.ilst 2 (map LFun.av a.funs) false),(iS a.needs),(iN a.nodes)],oC 2 [(nI f),(nI g),(iI i),(iP j)],(3,(.lstv l 1 (jI k)),true)],4⟩
def aRL(b a:Int)(d:aC)(e:List Pat)(c:List Int):=tT 0 (aYr b a d e c)<|.b 22 14 (b==6) (gX aQ 5 c a<|fun f=>.i [rn 11,.cnil 2 3 4] []<|gu 0 3 (Pats.av ([] :List Pat))<|gv 0 2 3 (.gl 3 4 0 ([] :List Pat).length false)<|.W 0 4 [0,1,2,3] (aDE b a d e c f 0 ([] :List Pat)))<|.i [rn 9,.cnil 2 3 4] []<|gu 0 3 (Pats.av ([] :List Pat))<|gv 0 2 3 (.gl 3 4 0 ([] :List Pat).length false)<|.W 0 4 [0,1,2,3] (aDE b a d e c a 0 ([] :List Pat))
def aVC:=fun a b c d e f g i j=>aRL a b c d e|>.t g f i j ⟨dJ,trivial⟩
def aVD:=fun a b c d e f=>aRL a b c d e|>.f f ⟨dJ,trivial⟩
def aRM(c f:Int)(g:aC)(a:List Pat)(i:List Int)(d e:Int)(b:List Pat):=tT 0 (aDE c f g a i d e b)<|gm 6 aI a<|gd 2 25 (e< (a.length:Int)) (.W 4 4 [0,1,2,3] (aRJ c f g a i d e b))<|gY 8 1 3 3 4 aI dJ b false<|gE 0 4 (.agg [(nI c),(nI d),(.str 0 0),(iP b)])
def aVE:=fun a b c d e f g i j=>aRM a b c d e f g i|>.t j ⟨dJ,trivial⟩
def aVF:=fun a b c d e f g i j=>aRM a b c d e f g i|>.f j tv
def aVG (n o:Int)(p:aC)(l:List Pat)(m:List Int)(q f:Int)(a:List Pat):=fun g i j k b c d e r s t u v=>(tT 0 (aRJ n o p l m q f a)<|.y fun g:Int=>.y fun i:Int=>.y fun j:aC=>.y fun k:List Pat=>.y fun b:Int=>.y fun c:Int=>.y fun d:aC=>.y fun e:List Pat=>.i [.reg (rd 5 [.ans (.idx (Pat.av (Pat.mk g i j k))),.d,.d,.pure (.agg [(nI b),(nI c),(aB d),(iP e)]),.d,.app (Pats.av (a++ [(Pat.mk b c d e)])) (a++ [(Pat.mk b c d e)]).length,.d,.d])] [hA (0≤f),.a (((l)[f.toNat]?) =some (Pat.mk g i j k)) (hJ aI),hA (Pure PP 208 [(.agg [(nI g),(nI i),(aB j),(iP k)]),(iI m)] (.agg [(nI b),(nI c),(aB d),(iP e)])),hB aI a,hA (length (a++ [(Pat.mk b c d e)]) ≤1000000),hC aI a [(Pat.mk b c d e)],hE aI a [(Pat.mk b c d e)],hr (AV.gl 3 4 0 a.length false),hr (AV.gl 3 4 0 a.length false)]<|gw 4 27 (f+1)<|.W 3 6 [0,1,2,5] (aDE n o p l m q (f+1) (a++ [(Pat.mk b c d e)]))) g i j k b c d e r s t u v ⟨dJ,trivial⟩
def aHd(f:List ONode)(c:LUnit)(d:Int)(e b:List Int):=tT 0 (aRK f c d e b)<|gX Node.av 10 c.nodes d<|fun a=>.b 21 29 (a.op==4) (gd 5 33 (a.n<0) (gw 6 37 ((-1:Int) -a.n)<|gX aQ 0 e ((-1:Int) -a.n)<|fun g=>gw 2 40 ((-1:Int) -g)<|.b 10 44 (a.op==14) (gX aQ 5 b a.n<|fun i=>.i [rn 11,.cnil 3 3 4] []<|gu 0 4 (Pats.av ([] :List Pat))<|gv 0 3 3 (.gl 4 4 0 ([] :List Pat).length false)<|.W 0 5 [0,1,2,3,4] (rE f c d e b a.op a.n a.kids a.pats a.op i 0 ([] :List Pat)))<|.i [rn 9,.cnil 3 3 4] []<|gu 0 4 (Pats.av ([] :List Pat))<|gv 0 3 3 (.gl 4 4 0 ([] :List Pat).length false)<|.W 0 5 [0,1,2,3,4] (rE f c d e b a.op a.n a.kids a.pats a.op ((-1:Int) -g) 0 ([] :List Pat)))<|.b 9 44 (a.op==14) (gX aQ 5 b a.n<|fun g=>.i [rn 11,.cnil 3 3 4] []<|gu 0 4 (Pats.av ([] :List Pat))<|gv 0 3 3 (.gl 4 4 0 ([] :List Pat).length false)<|.W 0 5 [0,1,2,3,4] (rE f c d e b a.op a.n a.kids a.pats a.op g 0 ([] :List Pat)))<|.i [rn 9,.cnil 3 3 4] []<|gu 0 4 (Pats.av ([] :List Pat))<|gv 0 3 3 (.gl 4 4 0 ([] :List Pat).length false)<|.W 0 5 [0,1,2,3,4] (rE f c d e b a.op a.n a.kids a.pats a.op a.n 0 ([] :List Pat)))<|.b 14 44 (a.op==14) (gX aQ 5 b a.n<|fun g=>.i [rn 11,.cnil 3 3 4] []<|gu 0 4 (Pats.av ([] :List Pat))<|gv 0 3 3 (.gl 4 4 0 ([] :List Pat).length false)<|.W 0 5 [0,1,2,3,4] (rE f c d e b a.op a.n a.kids a.pats a.op g 0 ([] :List Pat)))<|.i [rn 9,.cnil 3 3 4] []<|gu 0 4 (Pats.av ([] :List Pat))<|gv 0 3 3 (.gl 4 4 0 ([] :List Pat).length false)<|.W 0 5 [0,1,2,3,4] (rE f c d e b a.op a.n a.kids a.pats a.op a.n 0 ([] :List Pat))
def aVH:=fun a b c d e f g i j k l m n o p q=>aHd a b c d e f i j|>.t k|>.t l m g n o p|>.f q ⟨(aD _ (fun _=>aN _) _),⟨dJ,trivial⟩⟩
def aVI:=fun a b c d e f g i j k l=>aHd a b c d e f g i|>.t j|>.f k|>.f l ⟨(aD _ (fun _=>aN _) _),⟨dJ,trivial⟩⟩
def aVJ:=fun a b c d e f g i j k l m n=>aHd a b c d e f i j|>.f k|>.t l g m n ⟨(aD _ (fun _=>aN _) _),⟨dJ,trivial⟩⟩
def aVK:=fun a b c d e f g i j k=>aHd a b c d e f g i|>.f j|>.f k ⟨(aD _ (fun _=>aN _) _),⟨dJ,trivial⟩⟩
def aRN(i:List ONode)(m:LUnit)(n:Int)(o j:List Int)(p q:Int)(r:List Int)(f:List Pat)(k l g:Int)(a:List Pat):=tT 0 (rE i m n o j p q r f k l g a)<|gm 6 aI f<|gd 2 55 (g< (f.length:Int)) (.y fun s:Int=>.y fun t:Int=>.y fun u:aC=>.y fun v:List Pat=>.y fun b:Int=>.y fun c:Int=>.y fun d:aC=>.y fun e:List Pat=>.i [rn 4,.reg (rd 5 [.ans (.idx (Pat.av (Pat.mk s t u v))),.d,.d,.pure (.agg [(nI b),(nI c),(aB d),(iP e)]),.d,.app (Pats.av (a++ [(Pat.mk b c d e)])) (a++ [(Pat.mk b c d e)]).length,.d,.d])] [hA (0≤g),.a (((f)[g.toNat]?) =some (Pat.mk s t u v)) (hJ aI),hA (Pure PP 208 [(.agg [(nI s),(nI t),(aB u),(iP v)]),(iI j)] (.agg [(nI b),(nI c),(aB d),(iP e)])),hB aI a,hA (length (a++ [(Pat.mk b c d e)]) ≤1000000),hC aI a [(Pat.mk b c d e)],hE aI a [(Pat.mk b c d e)],hr (AV.gl 4 4 0 a.length false),hr (AV.gl 4 4 0 a.length false)]<|gw 4 57 (g+1)<|.W 3 7 [0,1,2,3,6] (rE i m n o j p q r f k l (g+1) (a++ [(Pat.mk b c d e)])))<|gY 9 3 3 4 4 aI dJ a false<|ga 4 ONode.av i [(ONode.mk k l KV.nil a)]<|.W 9 7 [6,1,2] (aHa i m n o j (i++ [(ONode.mk k l KV.nil a)]) p q r f)
def aVL:=fun a b c d e f g i j k l m n o p q r s t u v w x y z A B=>aRN a b c d e f g i j k l m n|>.t w o p q r s t u v x y z A B ⟨(aD _ (fun _=>aN _) _),⟨dJ,trivial⟩⟩
def aVM:=fun a b c d e f g i j k l m n o p=>aRN a b c d e f g i j k l m n|>.f o p ⟨(aD _ (fun _=>aN _) _),trivial⟩
def aRO(c:List ONode)(e:LUnit)(f:Int)(g i:List Int)(b:List ONode)(j k:Int)(d:List Int)(l:List Pat):=tT 0 (aHa c e f g i b j k d l)<|gl 6 aQ d<|gd 2 80 (0< (d.length:Int)) (.i [rn 10,.ans (.ix)] [hA (0≤ (c.length:Int)),hA ((c.length:Int) < (b.length:Int))]<|.y fun a:ONode=>gj ONode.av 1 b ((c.length:Int).toNat) a<|.i [.set 89 .nils] [.a (a.kv=KV.nil) (congrArg KV.av)]<|.i [rn 3,.nilL 89 1] []<|gu 0 4 (jI ([] :List Int))<|gs 0 89 (.gl 4 1 0 ([] :List Int).length false)<|ga 0 aQ ([] :List Int) [(b.length:Int)]<|.i [.ans (.ix)] [hA (0≤ (c.length:Int)),hA ((c.length:Int) < (b.length:Int))]<|.W 1 6 [0,1,2,5] (uK c e f g i b j k d l (([] :List Int) ++ [(b.length:Int)]) 0))<|.y fun a:ONode=>.i [rn 8,.lw 0 (map ONode.av (set b c.length (ONode.mk a.op a.n (KV.row []) a.pats)))] [.a (b[c.length]?=some a) (p':=(map ONode.av b) ≠ []) aGi,.a (b[c.length]?=some a∧a.kv=KV.nil) (p':=VW (map ONode.av b) (map ONode.av (set b c.length (ONode.mk a.op a.n (KV.row []) a.pats)))) fun⟨ha,hb⟩=>(aP0 ha hb)]<|.i [.set 0 (.gl 0 4 0 (set b c.length (ONode.mk a.op a.n (KV.row []) a.pats)).length false)] [.q (p:=(AV.gl 0 4 0 b.length false) = (.gl 0 4 0 (set b c.length (ONode.mk a.op a.n (KV.row []) a.pats)).length false)) (bQ (length_set ..).symm)]<|.i [.set 10 (.gl 0 4 0 (set b c.length (ONode.mk a.op a.n (KV.row []) a.pats)).length false)] [.q (p:=(AV.gl 0 4 0 b.length false) = (.gl 0 4 0 (set b c.length (ONode.mk a.op a.n (KV.row []) a.pats)).length false)) (bQ (length_set ..).symm)]<|.i [.set 106 (.gl 0 4 0 (set b c.length (ONode.mk a.op a.n (KV.row []) a.pats)).length false)] [.q (p:=(AV.gl 0 4 0 b.length false) = (.gl 0 4 0 (set b c.length (ONode.mk a.op a.n (KV.row []) a.pats)).length false)) (bQ (length_set ..).symm)]<|.E 0 3 [0] (.gl 0 4 0 (set b c.length (ONode.mk a.op a.n (KV.row []) a.pats)).length false) [oL 0 4 (map ONode.av (set b c.length (ONode.mk a.op a.n (KV.row []) a.pats)))] 1
def aVN:=fun c d e f g i j k l m n o a b p q r=>aRO c d e f g i j k l m|>.t o a b n p q r a b ⟨(aD _ (fun _=>aN _) _),⟨kk,trivial⟩⟩
def aVO:=fun b c d e f g i j k l m n a o=>aRO b c d e f g i j k l|>.f n m a ⟨a,o⟩ ⟨(aD _ (fun _=>aN _) _),trivial⟩
def aVP (f:List ONode)(b:LUnit)(s:Int)(q r:List Int)(g:List ONode)(k l:Int)(j:List Int)(m:List Pat)(n:List Int)(o:Int)(c:Option Addr)(d e:Nat):=fun a p i t u v w x=>(tT 0 (aHb f b s q r g k l j m n o c d e)<|.y fun a:ONode=>.i [.st (ONode.av a) (ONode.av (ONode.mk a.op a.n (KV.val (Value.slice c d e)) a.pats))] [.a (((g)[(f.length:Int).toNat]?) =some a) (eZ (f:=ONode.av)),hr (some (ONode.av (ONode.mk a.op a.n (KV.val (Value.slice c d e)) a.pats)))]<|.i [.lset 0 (map ONode.av (set g ((f.length:Int).toNat) (ONode.mk a.op a.n (KV.val (Value.slice c d e)) a.pats)))] [.q (p:=(map ONode.av g).set (0+ (f.length:Int).toNat) (ONode.av (ONode.mk a.op a.n (KV.val (Value.slice c d e)) a.pats)) = (map ONode.av (set g ((f.length:Int).toNat) (ONode.mk a.op a.n (KV.val (Value.slice c d e)) a.pats)))) (mI _ _ _ _)]<|.i [.set 0 (.gl 0 4 0 (set g ((f.length:Int).toNat) (ONode.mk a.op a.n (KV.val (Value.slice c d e)) a.pats)).length false)] [.q (p:=(AV.gl 0 4 0 g.length false) = (.gl 0 4 0 (set g ((f.length:Int).toNat) (ONode.mk a.op a.n (KV.val (Value.slice c d e)) a.pats)).length false)) (bQ (length_set ..).symm)]<|.y fun p:Int=>.y fun i:List Node=>.i [rn 1,.reg (rd 5 (.ans (.idx (aQ p))::rd 3 [.call (.gl 4 4 0 ((set g ((f.length:Int).toNat) (ONode.mk a.op a.n (KV.val (Value.slice c d e)) a.pats)) ++map Node.o i).length false) (aE [oC 1 [(aB b.name),(iC b.cons),(.ilst 2 (map LFun.av b.funs) false),(iS b.needs),(iN b.nodes)],oC 2 [(nI k),(nI l),(iI j),(iP m)],(3,(.lstv (Value.slice c d e) 1 (jI n)),true),oL 4 4 (map ONode.av ((set g ((f.length:Int).toNat) (ONode.mk a.op a.n (KV.val (Value.slice c d e)) a.pats)) ++map Node.o i))] 5),.d]))] [hA (0≤o),.a (((j)[o.toNat]?) =some p) (cH (f:=aQ)),hA (Spec PP (.enter 147 [(.gl 0 4 0 (set g ((f.length:Int).toNat) (ONode.mk a.op a.n (KV.val (Value.slice c d e)) a.pats)).length false),(.agg [(aB b.name),(iC b.cons),(.ilst 2 (map LFun.av b.funs) false),(iS b.needs),(iN b.nodes)]),(nI p),(iI q),(iI r)]) (aE [oL 0 4 (map ONode.av (set g ((f.length:Int).toNat) (ONode.mk a.op a.n (KV.val (Value.slice c d e)) a.pats))),oC 1 [(aB b.name),(iC b.cons),(.ilst 2 (map LFun.av b.funs) false),(iS b.needs),(iN b.nodes)],oC 2 [(nI k),(nI l),(iI j),(iP m)],(3,(.lstv (Value.slice c d e) 1 (jI n)),true)] 4) (.ret (.gl 4 4 0 ((set g ((f.length:Int).toNat) (ONode.mk a.op a.n (KV.val (Value.slice c d e)) a.pats)) ++map Node.o i).length false)) (aE [oC 1 [(aB b.name),(iC b.cons),(.ilst 2 (map LFun.av b.funs) false),(iS b.needs),(iN b.nodes)],oC 2 [(nI k),(nI l),(iI j),(iP m)],(3,(.lstv (Value.slice c d e) 1 (jI n)),true),oL 4 4 (map ONode.av ((set g ((f.length:Int).toNat) (ONode.mk a.op a.n (KV.val (Value.slice c d e)) a.pats)) ++map Node.o i))] 5))]<|gw 4 82 (o+1)<|.W 3 5 [4,1,2,3] (aHc f b s q r ((set g ((f.length:Int).toNat) (ONode.mk a.op a.n (KV.val (Value.slice c d e)) a.pats)) ++map Node.o i) k l j m n (Value.slice c d e) (o+1))) a t p i u v w x ⟨(aD _ (fun _=>aN _) _),⟨kk,trivial⟩⟩
def aRP(c:List ONode)(i:LUnit)(j:Int)(k l:List Int)(b:List ONode)(m n:Int)(f:List Int)(o:List Pat)(d:List Int)(e:Value)(g:Int):=tT 0 (aHc c i j k l b m n f o d e g)<|gl 6 aQ f<|gd 2 80 (g< (f.length:Int)) (.i [rn 10,.ans (.ix)] [hA (0≤ (c.length:Int)),hA ((c.length:Int) < (b.length:Int))]<|.y fun a:ONode=>gj ONode.av 1 b ((c.length:Int).toNat) a<|.i [.set 89 (.val e)] [.a (a.kv=KV.val e) (congrArg KV.av)]<|.i [.unname 89 3] [hr e]<|.i [.set 89 (.gl 3 1 0 d.length false)] [.q (p:=(AV.gl 3 1 0 (jI d).length false) = (.gl 3 1 0 d.length false)) (bQ (length_map ..))]<|ga 3 aQ d [(b.length:Int)]<|.i [.ans (.ix)] [hA (0≤ (c.length:Int)),hA ((c.length:Int) < (b.length:Int))]<|.W 1 6 [0,1,2,5] (uK c i j k l b m n f o (d++ [(b.length:Int)]) g))<|.y fun a:ONode=>.i [rn 8,.vfrz 3 0 (map ONode.av (set b c.length (ONode.mk a.op a.n (KV.row d) a.pats)))] [.a (b[c.length]?=some a) (p':=(map ONode.av b) ≠ []) aGi,hk aQ d,.a (b[c.length]?=some a∧a.kv=KV.val e) (p':=VQ e 1 (jI d) (map ONode.av b) (map ONode.av (set b c.length (ONode.mk a.op a.n (KV.row d) a.pats)))) fun⟨ha,hb⟩=>(aP1 ha hb)]<|.i [.set 0 (.gl 0 4 0 (set b c.length (ONode.mk a.op a.n (KV.row d) a.pats)).length false)] [.q (p:=(AV.gl 0 4 0 b.length false) = (.gl 0 4 0 (set b c.length (ONode.mk a.op a.n (KV.row d) a.pats)).length false)) (bQ (length_set ..).symm)]<|.i [.set 10 (.gl 0 4 0 (set b c.length (ONode.mk a.op a.n (KV.row d) a.pats)).length false)] [.q (p:=(AV.gl 0 4 0 b.length false) = (.gl 0 4 0 (set b c.length (ONode.mk a.op a.n (KV.row d) a.pats)).length false)) (bQ (length_set ..).symm)]<|.i [.set 106 (.gl 0 4 0 (set b c.length (ONode.mk a.op a.n (KV.row d) a.pats)).length false)] [.q (p:=(AV.gl 0 4 0 b.length false) = (.gl 0 4 0 (set b c.length (ONode.mk a.op a.n (KV.row d) a.pats)).length false)) (bQ (length_set ..).symm)]<|.E 0 4 [0] (.gl 0 4 0 (set b c.length (ONode.mk a.op a.n (KV.row d) a.pats)).length false) [oL 0 4 (map ONode.av (set b c.length (ONode.mk a.op a.n (KV.row d) a.pats)))] 1
def aVQ:=fun c d e f g i j k l m n o p q r a b s t u=>aRP c d e f g i j k l m n o p|>.t r a b q s t u a b ⟨(aD _ (fun _=>aN _) _),⟨kk,trivial⟩⟩
def aVR:=fun b c d e f g i j k l m n o p q a r=>aRP b c d e f g i j k l m n o|>.f q p a ⟨a,r⟩ ⟨(aD _ (fun _=>aN _) _),trivial⟩
mutual
def aLU :Pat→Bool
 | .mk _ _ s ps=>decide (s= []) &&gR ps
def gR :List Pat→Bool
 | [] =>true
 |p::ps=>aLU p&&gR ps
end
mutual
theorem aVS {cons:List Con}:∀ (p:Pat),cT cons p=true→aLU p=true
 | .mk f n s ps,h=>by
  rw [cT,and_eq_true]at h;have h1:=h.1;rw [cZ,and_eq_true]at h1;rw [aLU,h1.2,aDF ps h.2];rfl
theorem aDF {cons:List Con}:∀ (ps:List Pat),bS cons ps=true→gR ps=true
 | [],_=>rfl
 | p::ps,h=>by
  rw [bS,and_eq_true]at h;rw [gR,aVS p h.1,aDF ps h.2];rfl
end
abbrev RMp (to:List Int)(p:Pat) :Prop:=∀p',aLU p=true→aGG to p=some p'→Pure PP 208 [Pat.av p,.ilst 1 (map aQ to) false] (Pat.av p')
theorem aJH (f n:Int)(s:aC)(ps:List Pat)(to:List Int)(n':Int)(hl:ps.length<1000000)(ih:∀p∈ps,RMp to p) :
  ∀ (t:List Pat) (i:Nat) (acc t':List Pat),ps.drop i=t→acc.length=i→gR t=true→jS to t=some t'→Ends PP 0 (aDE f n s ps to n' (i:Int) acc).as (.ret (Pat.av (.mk f n' [] (acc++t')))) (aE [] 0)
 | [],i,acc,t',h,ha,hn,ht=>by
  have:=aT h;cases ht;rw [append_nil];exact aVF f n s ps to n' i acc sd
 | .mk f1 n1 s1 ps1::t,i,acc,t',h,ha,hn,ht=>by
  obtain⟨g1,g2,g3⟩ :=aR h;have hi:= (List.getElem?_eq_some_iff.1 g1).1;rw [gR,and_eq_true]at hn;simp only [jS]at ht;split at ht
  · rename_i p' hp';split at ht
    · rename_i t1 ht1;cases ht;obtain⟨f2,n2,s2,ps2⟩ :=p';refine((aVE f n s ps to n' i acc sd).trans (aVG f n s ps to n' i acc f1 n1 s1 ps1 f2 n2 s2 ps2 sd sd (ih (.mk f1 n1 s1 ps1) (mem_of_getElem? g1) _ hn.1 hp') (by simp;omega) sd)).ends ?_;have:=aJH f n s ps to n' hl ih t (i+1) (acc++ [.mk f2 n2 s2 ps2]) t1 g2 (by simp [ha]) hn.2 ht1;rw [List.append_assoc]at this;exact this
    ·cases ht
  ·cases ht
mutual
theorem aRQ (to:List Int) :∀ (p:Pat),cL p<1000000→RMp to p
 | .mk f n s ps,h,p',hn,hp'=>by
  simp only [cL]at h;have:=eP ps;refine dF (s:=aYr f n s ps to) (by kernel_rfl) (by kernel_rfl) (by simp [keylessL,mJ,keyless]) (mJ _) ?_;rw [aLU,and_eq_true,decide_eq_true_eq]at hn;simp only [aGG]at hp';split at hp'
  · rename_i n' hn';split at hp'
    · rename_i ps' hps';cases hp';have hloop:=aJH f n s ps to n' (by omega) (aHe to ps (by omega)) ps 0 [] ps' rfl rfl hn.2 hps';rw [List.nil_append]at hloop;rw [hn.1]at hloop ⊢;unfold aDk at hn';split at hn'
      · rename_i hf;split at hn'
        · rename_i h0;exact(aVC f n [] ps to n' (by simp [hf]) h0 hn').ends hloop
        ·cases hn'
      · rename_i hf;cases hn';exact(aVD f n [] ps to (by simp [hf])).ends hloop
    ·cases hp'
  ·cases hp'
theorem aHe (to:List Int) :∀ (ps:List Pat),bC ps<1000000→∀p∈ps,RMp to p
 | [],_,p,hp=>by cases hp
 | q::ps,h,p,hp=>by
  simp only [bC]at h;rcases List.mem_cons.1 hp with e|hp
  ·rw [e];exact aRQ to q (by omega)
  ·exact aHe to ps (by omega) p hp
end
abbrev UAV (u:LUnit) :AV:=.agg [aB u.name,.ilst 2 (map Con.av u.cons) false,.ilst 2 (map LFun.av u.funs) false,.ilst 1 (map aB u.needs) false,.ilst 4 (map Node.av u.nodes) false]
abbrev nP (u:LUnit) :AObj:=.cells (putCells .leaf 0 [aB u.name,.ilst 2 (map Con.av u.cons) false,.ilst 2 (map LFun.av u.funs) false,.ilst 1 (map aB u.needs) false,.ilst 4 (map Node.av u.nodes) false]) 5 [] false
abbrev aFf (x:Node) :AObj:=.cells (putCells .leaf 0 [.int .i64 x.op,.int .i64 x.n,.ilst 1 (map aQ x.kids) false,.ilst 4 (Pats.av x.pats) false]) 4 [] false
def aHf (u:LUnit)(funs cons:List Int)(c:Int)(L:List ONode)(ns:List Node) :Prop:=
 aCR PP (.enter 147 [.gl 0 4 0 (length L) false,UAV u,.int .i64 c,.ilst 1 (map aQ funs) false,.ilst 1 (map aQ cons) false]) (aE [(0,OL L,true)] 1)
  (.ret (.gl 0 4 0 (length (L++map Node.o ns)) false)) (aE [(0,OL (L++map Node.o ns),true)] 1)
theorem aRR {u:LUnit}{funs cons:List Int}{c:Int}{L:List ONode}{ns:List Node}(h:aHf u funs cons c L ns)(x:Node)(w:Value)(l2:List Int) :
  Spec PP (.enter 147 [.gl 0 4 0 (length L) false,UAV u,.int .i64 c,.ilst 1 (map aQ funs) false,.ilst 1 (map aQ cons) false])
   (aE [(0,OL L,true),(1,nP u,false),(2,aFf x,false),(3,.lstv w 1 (map aQ l2),true)] 4)
   (.ret (.gl 4 4 0 (length (L++map Node.o ns)) false))
   (aE [(1,nP u,false),(2,aFf x,false),(3,.lstv w 1 (map aQ l2),true),(4,OL (L++map Node.o ns),true)] 5) :=
 Eq.mp (by kernel_rfl) (zT (ks:=[0]) (n2:=4) (lc:=[(0,OL L,true),(1,nP u,false),(2,aFf x,false),(3,.lstv w 1 (map aQ l2),true)])
  (x:=[(1,nP u,false),(2,aFf x,false),(3,.lstv w 1 (map aQ l2),true)])
  (args':=[.gl 0 4 0 (length L) false,UAV u,.int .i64 c,.ilst 1 (map aQ funs) false,.ilst 1 (map aQ cons) false])
  h (by kernel_rfl) (by kernel_rfl) (by kernel_rfl) ⟨nK L,trivial⟩ (by kernel_rfl) (by kernel_rfl) (by kernel_rfl) (by kernel_rfl) ⟨nK _,trivial⟩ (by kernel_rfl))
section
variable (l :List ONode) (u:LUnit) (at0:Int) (funs cons:List Int)
theorem aOR (vl0:List ONode)(x:Node)(l2:List Int)(i:Int)(ua:Option Addr)(un uc:Nat) :
  (⟨{(uK l u at0 funs cons vl0 x.op x.n x.kids x.pats l2 i).as.fr with tm:= (uK l u at0 funs cons vl0 x.op x.n x.kids x.pats l2 i).as.fr.tm.put 93 (.val (.slice ua un uc))},(uK l u at0 funs cons vl0 x.op x.n x.kids x.pats l2 i).as.cs,(uK l u at0 funs cons vl0 x.op x.n x.kids x.pats l2 i).as.h.set 3 (.lstv (.slice ua un uc) 1 (map aQ l2))⟩ :AS) = (aHb l u at0 funs cons vl0 x.op x.n x.kids x.pats l2 i ua un uc).as:=by kernel_rfl
theorem aRS {vl0:List ONode}{x:Node}{l2:List Int}{i:Int}{L:List ONode}(h0:0<l2.length)
  (hk:∀ua un uc,EndsL (aHb l u at0 funs cons vl0 x.op x.n x.kids x.pats l2 i ua un uc) L) :EndsL (uK l u at0 funs cons vl0 x.op x.n x.kids x.pats l2 i) L:=by
 refine aNi (j:=93) (b:=3) (e:=1) (n:=length l2) (ex:=false) (xs:=map aQ l2) (by kernel_rfl) (by kernel_rfl) (length_map ..) h0 (fun ua un uc=>?_);have:=hk ua un uc;unfold EndsL at this;rw [←aOR]at this;exact this
variable (k :Nat) (ih:∀ (L:List ONode) (c:Int) (ns:List Node),eQ (eV u) funs cons k L.length c=some ns→aHf u funs cons c L ns) (x:Node) (n':Int) (ps':List Pat) (hkids:x.kids.length<1000000)
include ih hkids
theorem aMU (c:Int)(i:Nat)(kv:KV)(r0:List Node)(l2:List Int)(ns:List Node)(L:List ONode)(hc:x.kids[i]?=some c)(h0:0<l2.length)(hns:eQ (eV u) funs cons k (l++ ⟨x.op,n',kv,ps'⟩ ::map Node.o r0).length c=some ns)
  (hk:∀w,EndsL (aHc l u at0 funs cons (l++ ⟨x.op,n',.val w,ps'⟩ ::map Node.o (r0++ns)) x.op x.n x.kids x.pats l2 w ((i+1:Nat) :Int)) L) :
  EndsL (uK l u at0 funs cons (l++ ⟨x.op,n',kv,ps'⟩ ::map Node.o r0) x.op x.n x.kids x.pats l2 (i:Int)) L:=by
 have hi:= (List.getElem?_eq_some_iff.1 hc).1;refine aRS l u at0 funs cons h0 (fun ua un uc=>?_);have hs:=ih (l++ ⟨x.op,n',.val (.slice ua un uc),ps'⟩ ::map Node.o r0) c ns (by rw [←hns];simp);have hcall:=aRR hs x (.slice ua un uc) l2;have h1:=aVP l u at0 funs cons (l++ ⟨x.op,n',kv,ps'⟩ ::map Node.o r0) x.op x.n x.kids x.pats l2 i ua un uc ⟨x.op,n',kv,ps'⟩ c ns (aGH ..) sd (by simpa using hc) (by rw [aMF];exact hcall) sd;rw [aMF]at h1;refine h1.ends ?_;have:=hk (.slice ua un uc);rw [List.map_append]at this;rw [show(l++ ⟨x.op,n',.val (.slice ua un uc),ps'⟩ ::map Node.o r0) ++map Node.o ns=l++ ⟨x.op,n',.val (.slice ua un uc),ps'⟩ :: (map Node.o r0++map Node.o ns)by simp];exact this
theorem aJI :∀ (cs:List Int) (i:Nat) (w:Value) (r0:List Node) (ks0 ks:List Int) (r:List Node),x.kids.drop i=cs→ks0.length=i→0<i →
  iR (eQ (eV u) funs cons k) (l.length+1+r0.length) cs=some (ks,r) →
  EndsL (aHc l u at0 funs cons (l++ ⟨x.op,n',.val w,ps'⟩ ::map Node.o r0) x.op x.n x.kids x.pats ks0 w (i:Int)) (l++map Node.o (⟨x.op,n',ks0++ks,ps'⟩ :: (r0++r)))
 | [],i,w,r0,ks0,ks,r,h,hl,hi,hm=>by
  have:=aT h;cases hm;have h1:=aVR l u at0 funs cons (l++ ⟨x.op,n',.val w,ps'⟩ ::map Node.o r0) x.op x.n x.kids x.pats ks0 w i ⟨x.op,n',.val w,ps'⟩ sd (oW ..) rfl;rw [oY]at h1;rw [append_nil,append_nil];exact h1
 | c ::cs,i,w,r0,ks0,ks,r,h,hl,hi,hm=>by
  obtain⟨g1,g2,g3⟩ :=aR h;simp only [iR]at hm;split at hm
  · rename_i ns hns;split at hm
    · rename_i ks1 r1 hm1;cases hm;have hlen: (l++ (⟨x.op,n',.val w,ps'⟩ :ONode) ::map Node.o r0).length=l.length+1+r0.length:=by simp;omega
      refine(aVQ l u at0 funs cons (l++ ⟨x.op,n',.val w,ps'⟩ ::map Node.o r0) x.op x.n x.kids x.pats ks0 w i ⟨x.op,n',.val w,ps'⟩ sd (by omega) (by rw [hlen];omega) (aGH ..) rfl (by simp;omega)).ends ?_;refine aMU l u at0 funs cons k ih x n' ps' hkids c i (.val w) r0 _ ns _ g1 (by simp) (by rw [hlen];exact hns) (fun w'=>?_);have:=aJI cs (i+1) w' (r0++ns) (ks0++ [((l.length+1+r0.length:Nat) :Int)]) ks1 r1 g2 (by simp [hl]) (by omega) (by rw [List.length_append,←Nat.add_assoc];exact hm1);rw [hlen];exact this.of (by simp)
    ·cases hm
  ·cases hm
theorem aRT (ks:List Int)(r:List Node)(hm:iR (eQ (eV u) funs cons k) (l.length+1) x.kids=some (ks,r)) :
  EndsL (aHa l u at0 funs cons (l++ [⟨x.op,n',.nil,ps'⟩]) x.op x.n x.kids x.pats) (l++map Node.o (⟨x.op,n',ks,ps'⟩ ::r)) :=by
 cases hx:x.kids with
 | nil=>
  rw [hx]at hm;cases hm;have h1:=aVO l u at0 funs cons (l++ [⟨x.op,n',.nil,ps'⟩]) x.op x.n [] x.pats ⟨x.op,n',.nil,ps'⟩ sd (oW ..) rfl;rw [oY]at h1;exact h1
 | cons c cs=>
  rw [hx]at hm;simp only [iR]at hm;split at hm
  · rename_i ns hns;split at hm
    · rename_i ks1 r1 hm1;cases hm;have hlen: (l++ [(⟨x.op,n',.nil,ps'⟩ :ONode)]).length=l.length+1:=by simp
      have h0:=aVN l u at0 funs cons (l++ [⟨x.op,n',.nil,ps'⟩]) x.op x.n x.kids x.pats ⟨x.op,n',.nil,ps'⟩ (by rw [hx];simp<;>omega) (by omega) (by rw [hlen];omega) (aGH ..) rfl (by simp);rw [hx]at h0;refine h0.ends ?_
      have h2:=aMU l u at0 funs cons k ih x n' ps' hkids c 0 .nil [] ([] ++ [(((length (l++ [(⟨x.op,n',.nil,ps'⟩ :ONode)])) :Nat) :Int)]) ns (l++map Node.o (⟨x.op,n',((l.length+1:Nat) :Int) ::ks1,ps'⟩ :: (ns++r1))) (by rw [hx];rfl) (by simp) (by simpa using hns) (fun w'=>by
       have:=aJI l u at0 funs cons k ih x n' ps' hkids cs 1 w' ns [((l.length+1:Nat) :Int)] ks1 r1 (by rw [hx];rfl) rfl (by omega) hm1;rw [hlen];exact this.of (by simp))
      rw [hx]at h2;exact h2
    ·cases hm
  ·cases hm
end
theorem aJJ (l:List ONode)(u:LUnit)(at0:Int)(funs cons:List Int)(x:Node)(n':Int)(hps:bC x.pats<1000000)(hl:l.length<1000000)(L:List ONode) :∀ (t:List Pat) (i:Nat) (acc t':List Pat),x.pats.drop i=t→acc.length=i→gR t=true→jS cons t=some t' →
  EndsL (aHa l u at0 funs cons (l++ [⟨x.op,n',.nil,acc++t'⟩]) x.op x.n x.kids x.pats) L→EndsL (rE l u at0 funs cons x.op x.n x.kids x.pats x.op n' (i:Int) acc) L
 | [],i,acc,t',h,ha,hn,ht,hk=>by
  have:=aT h;cases ht;rw [append_nil]at hk;exact(aVM l u at0 funs cons x.op x.n x.kids x.pats x.op n' i acc sd (by simp;omega)).ends hk
 | .mk f1 n1 s1 ps1::t,i,acc,t',h,ha,hn,ht,hk=>by
  obtain⟨g1,g2,g3⟩ :=aR h;have:=eP x.pats;rw [gR,and_eq_true]at hn;simp only [jS]at ht;split at ht
  · rename_i p' hp';split at ht
    · rename_i t1 ht1;cases ht;obtain⟨f2,n2,s2,ps2⟩ :=p';rw [show acc++ .mk f2 n2 s2 ps2::t1= (acc++ [.mk f2 n2 s2 ps2]) ++t1 by simp]at hk;have h2:=aJJ l u at0 funs cons x n' hps hl L t (i+1) (acc++ [.mk f2 n2 s2 ps2]) t1 g2 (by simp [ha]) hn.2 ht1 hk;have h1:=aVL l u at0 funs cons x.op x.n x.kids x.pats x.op n' i acc f1 n1 s1 ps1 f2 n2 s2 ps2 sd sd sd (aHe cons x.pats hps (.mk f1 n1 s1 ps1) (mem_of_getElem? g1) _ hn.1 hp') (by simp;omega) sd;exact h1.ends h2
    ·cases ht
  ·cases ht
theorem aOS (u:LUnit)(l:List ONode)(at0:Int)(funs cons:List Int){L:List ONode}{ns:List Node}(e:L=l++map Node.o ns)(h:EndsL (aRK l u at0 funs cons) L) :aHf u funs cons at0 l ns:=by
 subst e;exact⟨(aRK l u at0 funs cons).as.fr,by kernel_rfl,Eq.mp (by kernel_rfl) h⟩
theorem rMv_spec (u :LUnit)(funs cons:List Int)(hT:∀x∈u.nodes,gR x.pats=true) :∀ (k:Nat) (l:List ONode) (at0:Int) (ns:List Node),eQ (eV u) funs cons k l.length at0=some ns→aHf u funs cons at0 l ns
 |0,l,at0,ns,h=>by cases h
 | k+1, l, at0, ns, h=>by
  simp only [eQ]at h;split at h
  · rename_i hh;obtain⟨hat,hlen⟩ :=hh;split at h
    · rename_i y hy;split at h
      · rename_i hb;split at h
        · rename_i n' hn';split at h
          · rename_i ps' hps';split at h
            · rename_i ks r hks;cases h;have hy:u.nodes[at0.toNat]?=some y:=hy;have hC:=aJJ l u at0 funs cons y n' hb.2 hlen _ y.pats 0 [] ps' rfl rfl (hT y (mem_of_getElem? hy)) hps' (aRT l u at0 funs cons k (rMv_spec u funs cons hT k) y n' ps' hb.1 ks r hks);refine aOS u l at0 funs cons rfl ?_;unfold mN at hn';split at hn'
              · rename_i h4;have ho: (y.op== (14:Int)) =false:=by rw [h4.1];rfl
                split at hn'
                · rename_i g hg;split at hn'
                  · rename_i hr;cases hn';exact(aVH l u at0 funs cons y g hat hy (by simp [h4.1]) (by simp [h4.2]) (aGI (by omega) (by omega)) (by omega) hg (aGI (by omega) (by omega)) ho).ends hC
                  ·cases hn'
                ·cases hn'
              · rename_i h4;split at hn'
                · rename_i h14;split at hn'
                  · rename_i h0;exact(aVJ l u at0 funs cons y n' hat hy (by simp [h14]) (by simp [h14]) h0 hn').ends hC
                  ·cases hn'
                · rename_i h14;cases hn';by_cases ho:y.op=4
                  ·exact(aVI l u at0 funs cons y hat hy (by simp [ho]) (by simp;omega) (by simp [ho])).ends hC
                  ·exact(aVK l u at0 funs cons y hat hy (by simp [ho]) (by simp [h14])).ends hC
            ·cases h
          ·cases h
        ·cases h
      ·cases h
    ·cases h
  ·cases h
structure WS where
 l:List Con
 mc:List (aC×Int)
 ar:List Int
structure TB (p:Prog) (fl pl:List aC) (A:Nat) :Prop where
 fl:fl.length≤1000000000
 pl:pl.length≤1000000000
 ks:∀x∈p.nodes,x.kids.length<1000000∧x.pats.length<1000000∧∀q∈x.pats,cL q<1000000
 ad:∀x∈p.nodes,∀i:Nat,i<x.kids.length→Pure PP A [Node.av x,.int .i64 (i:Int)] (.int .i64 (aJl x i))
 kl:keyless (PA p) =true
structure Spk where
 prog:Prog
 funs:List aC
 places:List aC
def Spk.av (x:Spk) :AV:=.agg [.ilst 4 (map Node.av x.prog.nodes) false,.ilst 1 (map aQ x.prog.funs) false,.int .i64 x.prog.main,.ilst 2 (map Con.av x.prog.cons) false,.ilst 1 (map aB x.funs) false,.ilst 1 (map aB x.places) false]
section
variable (p q:Prog) (mn:Int) (zn:List Node) (zu:List Int)
end
theorem hasS_mem {l:List aC}{s:aC}:bW l s=true↔s∈l:=by
 simp [bW]
theorem rF :∀ (l pre:List aC),cB pre l=true→l.Nodup∧∀x∈l,x∉pre
 | [],pre,_=> ⟨List.nodup_nil,fun x hx=>by cases hx⟩
 | x::t,pre,h=>by
  simp only [cB,and_eq_true,Bool.not_eq_true']at h;obtain⟨h1,h2⟩ :=rF t (pre++ [x]) h.2
  have hx:x∉pre:=fun hm=>by
   have:=hasS_mem.2 hm;rw [h.1]at this;cases this
  refine⟨List.nodup_cons.2 ⟨fun hm=>h2 x hm (by simp),h1⟩,fun y hy=>?_⟩;rcases List.mem_cons.1 hy with rfl|hy
  ·exact hx
  ·exact fun hm=>h2 y hy (List.mem_append_left _ hm)
structure Fm (p:Prog) :Prop where
 fine:FineP p
 cons:p.cons.length≤25
 dup: ((p.funs.map (pre p p.nodes.length)).flatten).Nodup
 len: ((p.funs.map (pre p p.nodes.length)).flatten).length=p.nodes.length
 into:∀x∈ (p.funs.map (pre p p.nodes.length)).flatten,0≤x∧x<p.nodes.length
 node:∀ (i:Nat) (x:Node),p.nodes[i]?=some x→bR p x=true∧x.pats.length≤10
 names: (p.cons.map Con.name).Nodup
theorem aLV {p:Prog}(hs:aL p=true)(hf:aZ p=true) :Fm p:=by
 have hss:=hs;simp only [aL,and_eq_true,decide_eq_true_eq]at hss;obtain⟨⟨⟨⟨s1,s2⟩,s3⟩,_⟩,s5⟩ :=hss;obtain⟨a,b,c,d⟩ :=yJ hs hf;refine⟨nM hs hf,s3,a,b,c,fun i x hx=> ⟨d i x hx,?_⟩,?_⟩
 · have h10:=List.all_eq_true.1 s5 x (mem_of_getElem? hx);simp only [bG,and_eq_true,decide_eq_true_eq]at h10;omega
 · simp only [aZ,and_eq_true,yD]at hf;exact(rF _ _ hf.1.2.2).1
theorem Fm.fit {p:Prog}(h:Fm p)(i:Nat)(x:Node)(hx:p.nodes[i]?=some x) :aUx x:=by
 obtain⟨h1,h2⟩ :=h.node i x hx;have:= (h.fine.node i x hx).2.1;exact⟨by omega,(aOB h.fine.fsmall h1 h2).1.1⟩
def nodeAt (p:Prog)(k:Int) :Node:= (p.nodes[k.toNat]?).getD ⟨0,0,[],[]⟩
theorem aBb {p:Prog}{k:Int}{x:Node}(h:p.nodes[k.toNat]?=some x) :nodeAt p k=x:=by unfold nodeAt;rw [h];rfl
def yM (p:Prog) :List Int:= (p.funs.map (pre p p.nodes.length)).flatten
def KidsAfter (p:Prog)(l:List Int) :Prop:=∀ (i:Nat) (k c:Int),l[i]?=some k→c∈eE p k→∃j,i<j∧l[j]?=some c
theorem KidsAfter.append {p:Prog}{l m:List Int}(h1:KidsAfter p l)(h2:KidsAfter p m) :KidsAfter p (l++m) :=fun i k c hi hc=>by
 by_cases h:i<l.length
 · rw [List.getElem?_append_left h]at hi;obtain⟨j,hj,e⟩ :=h1 i k c hi hc;exact⟨j,hj,by rw [List.getElem?_append_left (List.getElem?_eq_some_iff.1 e).1];exact e⟩
 · rw [List.getElem?_append_right (by omega)]at hi;obtain⟨j,hj,e⟩ :=h2 _ k c hi hc;exact⟨l.length+j,by omega,by rw [List.getElem?_append_right (by omega),show l.length+j-l.length=j by omega];exact e⟩
theorem KidsAfter.flatten {p:Prog}:∀ {L:List (List Int)},(∀l∈L,KidsAfter p l) →KidsAfter p L.flatten
 | [],_=>fun i k c hi _=>by simp at hi
 | l::L,h=>by
  rw [List.flatten_cons];exact(h l (mem_cons_self ..)).append (KidsAfter.flatten fun m hm=>h m (List.mem_cons_of_mem _ hm))
theorem aJK {p:Prog}(h:Fm p){k:Int}(h0:0≤k)(h1:k<p.nodes.length) :∃i:Nat,(yM p)[i]?=some k:=by
 refine List.mem_iff_getElem?.1 ?_;have hd: ((yM p).map Int.toNat).Nodup:=by
  have hd:=h.dup;rw [List.nodup_iff_pairwise_ne]at hd ⊢;refine List.pairwise_map.2 (hd.imp_of_mem (fun {a b} ha hb hne e=>?_));have:=h.into a ha;have:=h.into b hb;exact hne (by omega)
 by_cases hm:k∈yM p
 ·exact hm
 · have h2:=vF (p.nodes.length) (k.toNat:: (yM p).map Int.toNat) (List.nodup_cons.2 ⟨fun hm2=>by
    obtain⟨y,hy,e⟩ :=List.mem_map.1 hm2;have:=h.into y hy;exact hm ((show y=k by omega) ▸ hy),hd⟩) (fun x hx=>by
    rcases List.mem_cons.1 hx with rfl|hx
    ·omega
    · obtain⟨y,hy,rfl⟩ :=List.mem_map.1 hx;have:=h.into y hy;omega)
   rw [List.length_cons,length_map]at h2;have:=h.len;unfold yM at h2;omega
structure Laid (a:Prog) (off:Nat) (p:Prog) (mf mc:List (Int×Int)) (to:List Int) :Prop where
 node:∀ (i:Nat) (k:Int),(yM p)[i]?=some k→a.nodes[off+i]?=some (aBJ mf mc to (nodeAt p k))
 to:∀ (i:Nat) (k:Int),(yM p)[i]?=some k→aGL to k= ((off+i:Nat) :Int)
section
variable {a p:Prog} {off:Nat} {mf mc:List (Int×Int)} {to:List Int}
theorem Laid.at (h:Laid a off p mf mc to)(hp:Fm p){k:Int}(h0:0≤k)(h1:k<p.nodes.length) :0≤aGL to k∧a.nodes[(aGL to k).toNat]?=some (aBJ mf mc to (nodeAt p k)) :=by
 obtain⟨i,hi⟩ :=aJK hp h0 h1;have e:=h.to i k hi;rw [e,Int.toNat_natCast];exact⟨by omega,h.node i k hi⟩
theorem Laid.pre (h:Laid a off p mf mc to)(hp:Fm p) :∀ (f:Nat) (k:Int),0≤k→k<p.nodes.length→p.nodes.length-k.toNat≤f→pre a f (aGL to k) = (pre p f k).map (aGL to)
 |0,k,h0,h1,h2=>by omega
 | f+1,k,h0,h1,h2=>by
  obtain⟨x,hx⟩ :∃x,p.nodes[k.toNat]?=some x:= ⟨_,List.getElem?_eq_getElem (by omega)⟩;obtain⟨g0,g1⟩ :=h.at hp h0 h1;rw [aBb hx]at g1;rw [Go.Hb.pre,Go.Hb.pre,hx,g1];simp only [List.map_cons,List.map_flatten,List.map_map,aBJ];congr 2
  exact List.map_congr_left (fun c hc=>by
   have:= (hp.fine.node _ _ hx).2.2 c hc;exact h.pre hp f c (by omega) (by omega) (by omega))
end
structure MapsOk (p a:Prog) (mf mc:List (Int×Int)) :Prop where
 funs:∀i:Int,0≤i→i<p.funs.length→0≤wY mf i∧wY mf i<a.funs.length
 cons:∀ (i:Nat) (d:Con),p.cons[i]?=some d→0≤wY mc (i:Int) ∧a.cons[(wY mc (i:Int)).toNat]?=some d
section
variable {p a:Prog} {mf mc:List (Int×Int)}
theorem MapsOk.at (h:MapsOk p a mf mc){n:Int}(h0:0≤n)(h1:n<p.cons.length) :0≤wY mc n∧wY mc n<a.cons.length∧eA a.cons (wY mc n) =eA p.cons n∧a.cons[(wY mc n).toNat]?=p.cons[n.toNat]?:=by
 have e:p.cons[n.toNat]?=some p.cons[n.toNat] :=List.getElem?_eq_getElem (by omega);obtain⟨g0,g1⟩ :=h.cons n.toNat _ e;rw [show((n.toNat:Nat) :Int) =n by omega]at g0 g1;have:= (List.getElem?_eq_some_iff.1 g1).1;refine⟨g0,by omega,?_,by rw [g1,e]⟩;unfold eA;rw [g1,e]
end
def toL (p:Prog)(off:Nat) :List Int:=aRf (List.replicate p.nodes.length 0) off (yM p)
section
variable {p :Prog}
end
theorem aAo :∀ (l pre:List aC),l.Nodup→ (∀x∈l,x∉pre) →cB pre l=true
 | [],_,_,_=>rfl
 | x ::t,pre,hd,h=>by
  have hd:=List.nodup_cons.1 hd;simp only [cB,and_eq_true,Bool.not_eq_true'];refine⟨?_,aAo t (pre++ [x]) hd.2 (fun y hy=>?_)⟩
  · cases e:bW pre x with
    |false=>rfl
    |true=>exact absurd (hasS_mem.1 e) (h x (mem_cons_self ..))
  · rw [List.mem_append,not_or,List.mem_singleton];exact⟨h y (List.mem_cons_of_mem _ hy),fun e=>hd.1 (e ▸ hy)⟩
structure Fs (p:Prog) :Prop extends Fm p where
 sm:aL p=true
 fo:aZ p=true
theorem Fs.of {p:Prog}(hs:aL p=true)(hf:aZ p=true) :Fs p:={aLV hs hf with sm:=hs,fo:=hf}
theorem Fs.head {p:Prog}(h:Fs p) :p.nodes.length≤300∧1≤p.funs.length∧p.funs.length≤p.nodes.length∧0≤p.main∧p.main<p.funs.length∧p.cons.length≤20∧ (∀c∈p.cons,fJ c=true) :=by
 have:=h.fo;simp only [aZ,and_eq_true,dS,yD,decide_eq_true_eq]at this;obtain⟨⟨⟨⟨a1,a2⟩,a3⟩,⟨a4,a5⟩,_⟩,_⟩ :=this;simp [dB]at a2 a3;exact⟨a1,by omega,by omega,by omega,by omega,a5,fun c hc=>List.all_eq_true.1 a4 c hc⟩
section
variable {a :Prog} {N:Nat}
end
section
variable {p a:Prog} {off:Nat} {mf mc:List (Int×Int)} {to:List Int}
end
section
variable {p q:Prog}
end
end
end Go.Hb
