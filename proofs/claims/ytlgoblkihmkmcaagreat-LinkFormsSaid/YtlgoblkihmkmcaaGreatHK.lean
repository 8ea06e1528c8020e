/- A machine on abstract values, its soundness, ways, plain laws. -/
import Derived.Test.YtlgoblkihmkmcaaGreatHF
import Derived.Test.YtlgoblkihmkmcaaGreatHG
import Derived.Test.YtlgoblkihmkmcaaGreatHH
import Derived.Test.YtlgoblkihmkmcaaGreatHI
import Derived.Test.YtlgoblkihmkmcaaGreatHJ
set_option linter.defProp false
set_option linter.unusedVariables false
set_option linter.unusedSimpArgs false
set_option linter.unusedSectionVars false
set_option maxRecDepth 100000
set_option maxHeartbeats 4000000
namespace Go.Hb
open AV (frzOk keyless keylessL)
open Bool (and_eq_true)
open Int (toNat toNat_natCast)
open List (all_cons all_nil length length_set map map_cons map_nil replicate set)
open Go.Proofs Tryz
noncomputable section
abbrev bA6 (a:List Term):AV:=.ilst 5 (Terms.av a) false
abbrev bA7 (a b:Int)(c:aA)(d:List Term)(e:List Pat):AV:=.agg [nI a,nI b,aD c,bA6 d,iP e]
abbrev aUq:AV:=.ilst 1 (map aD ([] :List aA)) true
def aUr(a b:Int)(c:aA)(d:List Term)(e:List Pat)(f:Int):TS:=bH PP 128 [bA7 a b c d e,nI f] [] 0
def aGV(b f:Int)(a:aA)(g:List Term)(d:List Pat)(c:Int):=tT 0 (aUr b f a g d c)<|.b 18 7 (b==5) (.i [rn 11,.toL 4 false [aD a]] [hr (some [aD a]),hr true]<|gu 0 1 (map aD [a])<|gs 0 4 (.gl 1 1 0 [a].length true)<|.i [.weak 4] []<|gz 0 4 1 1 aD [a] false<|gE 0 2 (iS [a]))<|.b 5 7 (b==27) (.i [rn 9,.toL 4 false [aD a]] [hr (some [aD a]),hr true]<|gu 0 1 (map aD [a])<|gs 0 4 (.gl 1 1 0 [a].length true)<|.i [.weak 4] []<|gz 0 4 1 1 aD [a] false<|gE 0 2 (iS [a]))<|.b 6 13 (b==7) (.b 6 16 (c==1) (.i [rn 9,.toL 4 false [aD a]] [hr (some [aD a]),hr true]<|gu 0 1 (map aD [a])<|gs 0 4 (.gl 1 1 0 [a].length true)<|.i [.weak 4] []<|gz 0 4 1 1 aD [a] false<|gE 0 2 (iS [a]))<|.i [rn 8,.nilI 4 1] []<|gE 0 1 aUq)<|.b 6 20 (b==15) (gd 6 23 (c>0) (gw 7 27 (c-1)<|wY 0 d (c-1)<|fun i j k l=>.y fun e:List aA=>gp 1 179 [.agg [nI i,nI j,aD k,iP l]] (iS e)<|gE 3 1 (iS e))<|.i [rn 8,.nilI 4 1] []<|gE 0 1 aUq)<|.i [rn 8,.nilI 4 1] []<|gE 0 1 aUq
def FunD.nm :FunD→aA
 | .mk n _ _ _ _=>n
def vB (c:ConD) :Con:= ⟨c.name,(length c.args:Int)⟩
def dK (m:Mod) :List Con:= (m.datas.map fun d=>d.cons.map vB).flatten
def nU (l:List aA)(s:aA) :Nat→Int
 |0=> -1
 |i+1=>if l[i]?=some s then(i:Int)else nU l s i
def rU (l:List aA)(s:aA) :Int:=nU l s l.length
def cX (op:Int)(s:aA)(ps:List Pat)(k:Nat) :List aA:=
 if op=5∨op=27 then [s]else if op=7 then(if k=1 then [s]else [])else if op=15 then(match k with|0=>[] |j+1=>match ps[j]? with|some p=>jL p|none=>[])else []
theorem aUs (o n:Int)(s:aA)(ks:List Term)(ps:List Pat)(k:Nat)(hk:k≤1000)(h15:o=15→k≤ps.length)(hp:∀p∈ps,bA p≤1000) :Pure PP 128 [Term.av (.mk o n s ks ps),.int .i64 (k:Int)] (.ilst 1 (map aD (cX o s ps k)) false) :=by
 have W:∀ {l:List aA} {x:Bool},Ends PP 0 (aUr o n s ks ps (k:Int)).as (.ret (.ilst 1 (map aD l) x)) (aG [] 0) →Pure PP 128 [Term.av (.mk o n s ks ps),.int .i64 (k:Int)] (.ilst 1 (map aD l) false) :=fun {l x} he=>by
  have h0:Pure PP 128 [Term.av (.mk o n s ks ps),.int .i64 (k:Int)] (.ilst 1 (map aD l) x) :=bU (s:=aUr o n s ks ps (k:Int)) (by kernel_rfl) (by kernel_rfl) (by simp [keylessL,jX,keyless]) (by simp [keyless]) he;cases x
  case false=>exact h0
  exact aRN h0 (fun E cv h=>aKf h)
 unfold cX;by_cases h5:o=5
 ·rw [if_pos (.inl h5)];exact W (aGV o n s ks ps k|>.t (by simp [h5]) tv)
 · by_cases h27:o=27
   ·rw [if_pos (.inr h27)];exact W (aGV o n s ks ps k|>.f (by simp [h5])|>.t (by simp [h27]) tv)
   · rw [if_neg (by simp [h5,h27])];by_cases h7:o=7
     · rw [if_pos h7];by_cases hk1:k=1
       ·rw [if_pos hk1];exact W (aGV o n s ks ps k|>.f (by simp [h5])|>.f (by simp [h27])|>.t (by simp [h7])|>.t (by simp [hk1]) tv)
       ·rw [if_neg hk1];exact W (aGV o n s ks ps k|>.f (by simp [h5])|>.f (by simp [h27])|>.t (by simp [h7])|>.f (by simp;omega) tv)
     · rw [if_neg h7];by_cases h15':o=15
       · rw [if_pos h15'];cases k with
         |zero=>exact W (aGV o n s ks ps ((0:Nat) :Int)|>.f (by simp [h5])|>.f (by simp [h27])|>.f (by simp [h7])|>.t (by simp [h15'])|>.f (by simp) tv)
         | succ j=>
          have hj:=h15 h15';obtain⟨p,hpj⟩ :∃p,ps[j]?=some p:= ⟨_,List.getElem?_eq_getElem (by omega)⟩;have hpp:=aGC p (hp p (List.mem_of_getElem? hpj));simp only [hpj];obtain⟨pf,pn,pt,pq⟩ :=p;have e: ((j+1:Nat) :Int) -1= (j:Int) :=by omega
          exact W (aGV o n s ks ps ((j+1:Nat) :Int)|>.f (by simp [h5])|>.f (by simp [h27])|>.f (by simp [h7])|>.t (by simp [h15'])|>.t (by simp) (by apply wrap64<;>omega) pf pn pt pq (by omega) (by rw [e,toNat_natCast];exact hpj) _ hpp tv)
       ·rw [if_neg h15'];exact W (aGV o n s ks ps k|>.f (by simp [h5])|>.f (by simp [h27])|>.f (by simp [h7])|>.f (by simp [h15']) tv)
structure LFun where
 name:aA
 body:Int
def LFun.av (f:LFun) :AV:=.agg [aD f.name,.int .i64 f.body]
structure LUnit where
 name:aA
 cons:List Con
 funs:List LFun
 needs:List aA
 nodes:List Node
def LUnit.av (u:LUnit) :AV:=.agg [aD u.name,.ilst 2 (map Con.av u.cons) false,.ilst 2 (map LFun.av u.funs) false,.ilst 1 (map aD u.needs) false,.ilst 4 (map Node.av u.nodes) false]
structure LPlace where
 nodes:Int
 funs:Int
def LPlace.av (p:LPlace) :AV:=.agg [.int .i64 p.nodes,.int .i64 p.funs]
theorem rV {E:Emb}{e:Nat}{ex:Bool}:∀v,VR E .nils v→VR E (.ilst e [] ex) v:=fun v h=>by
 simp only [VR]at h;simp only [VR];exact⟨[],VRs.nil _,fun _ hu=>by(cases hu),.inl ⟨rfl,none,0,h,fun _=>rfl,fun _=>rfl⟩⟩
theorem aQx (o n:Int) :VW [.agg [.int .i64 o,.int .i64 n,.nils,.nils]] (map Node.av [Node.mk o n [] []]) :=fun E vs h=>by
 simp only [map_cons,map_nil,Node.av];obtain⟨v,vs',rfl,h1,h2⟩ :=h.cons_inv;refine VRs.cons ?_ h2;simp only [VR]at h1 ⊢;obtain⟨cs,rfl,h3⟩ :=h1;obtain⟨a1,w1,rfl,c1,h3⟩ :=h3.cons_inv;obtain⟨a2,w2,rfl,c2,h3⟩ :=h3.cons_inv;obtain⟨a3,w3,rfl,c3,h3⟩ :=h3.cons_inv;obtain⟨a4,w4,rfl,c4,h3⟩ :=h3.cons_inv;exact⟨_,rfl,VRs.cons c1 (VRs.cons c2 (VRs.cons (rV _ c3) (VRs.cons (by simp only [Pats.av];exact rV _ c4) h3)))⟩
theorem aOF {l:List ONode}{nn:List Node}(h:l=map Node.o nn) :map ONode.av l=map Node.av nn:=by rw [h,aJZ]
theorem aMY :∀n:Nat,kR [AV.str 0 0] n=map aD (replicate n ([] :aA))
 |0=>rfl
 |n+1=>by rw [kR,aMY n];rfl
theorem aAv :∀l:List aA,cQ (map aD l) =true
 | [] =>rfl
 |s::l=>by rw [map_cons,cQ,aAv l];rfl
theorem aIM :∀l:List AV,pS false 1 l.length l=l
 | [] =>rfl
 | a::l=>by
  rw [List.length_cons,pS];simp only [cond,List.headD_cons,List.drop_succ_cons,List.drop_zero];rw [aIM l]
theorem aRO (l:List AV) :getCells (putCells .leaf 0 l) 0 l.length=some l:=wR l _ 0 (fun j hj=>by
 rw [dG,if_pos (by omega),Nat.zero_add])
theorem aUt (n:Nat) : (map aD (replicate n ([] :aA))).length=n:=by simp
theorem aUu (n:Nat) :getCells (putCells .leaf 0 (map aD (replicate n ([] :aA)))) 0 (n*1) =some (map aD (replicate n ([] :aA))) :=by
 have:=aRO (map aD (replicate n ([] :aA)));rw [aUt]at this;rw [Nat.mul_one];exact this
theorem aUv (n:Nat) :pS false 1 n (map aD (replicate n ([] :aA))) =map aD (replicate n ([] :aA)) :=by
 have:=aIM (map aD (replicate n ([] :aA)));rwa [aUt]at this
theorem aIN {f:Nat}{args args':List AV}{v:AV}(h:Pure PP f args v)(hl:args'.length=args.length)(ha:∀ (E:Emb) (i:Nat) (a a':AV) (c:Value),args[i]?=some a→args'[i]?=some a'→VR E a' c→VR E a c) :Pure PP f args' v:=fun hh=>by
 obtain⟨g,hg,he⟩ :=h hh;simp only [fE,eI]at hg;split at hg
 · rename_i fn hfn;split at hg
   · rename_i c hc;cases hg;refine⟨_,by simp only [fE,eI,hfn,hc];rfl,?_⟩;intro hm E fr ccs w hfr fs r cl base;refine he hm E fr ccs w ?_ fs r cl base;refine⟨hfr.fn,⟨by have:=hfr.tm.1;rw [hl]at this;exact this,fun t a e=>?_⟩,hfr.todo,hfr.defers,hfr.mode,hfr.kind,hfr.round⟩;have ht:t<args.length∧args[t]?=some a:=by
      have e': (fU .leaf 0 args).at t=some a:=e;unfold fU at e';rw [dG]at e';split at e'
      ·rename_i hlt;exact⟨hlt,e'⟩
      ·cases e'
     have ht':args'[t]?=some args'[t] :=List.getElem?_eq_getElem (by omega)
     obtain⟨cv,g1,g2⟩ :=hfr.tm.2 t args'[t] (by
      show(fU .leaf 0 args').at t=_;unfold fU;rw [dG,if_pos (by omega)];exact ht')
     exact⟨cv,g1,ha E t _ _ cv ht.2 ht' g2⟩
   ·cases hg
 ·cases hg
abbrev aKE (a:LUnit):AV:=.agg [aD a.name,iC a.cons,.ilst 2 (map LFun.av a.funs) false,iS a.needs,iN a.nodes]
abbrev aGW (a:Nat)(b:LUnit):=oC a [aD b.name,iC b.cons,.ilst 2 (map LFun.av b.funs) false,iS b.needs,iN b.nodes]
abbrev aOG (a:LUnit):AV:=.agg [iN a.nodes,.nils,nI 0,iC a.cons]
def aKF(a:List aA)(b:aA)(c:Int):TS:=⟨tf 150 19 [(0,iS a),(1,aD b),(4,nI 0),(5,nI c)] [kc f150 52,kl f150 52,.inBlock 0,kc f150 7],[],[],0⟩
def aYH(a:LUnit):TS:=bH PP 78 [aKE a] [] 0
def aKG(a:LUnit)(c:Int)(b:List aA):TS:=⟨tf 78 22 [kp 1 0,(2,.nils),(3,.gl 1 1 0 b.length false),(4,nI c)] [kc f78 116,kl f78 116,.inBlock 0,kc f78 15],[],[aGW 0 a,oL 1 1 (map aD b)],2⟩
def aDs(a:List aA)(b:Int):TS:=⟨tf 79 18 [(0,iS a),(2,bV false),(3,nI b)] [kc f79 52,kl f79 52,.inBlock 0,kc f79 7],[],[],0⟩
def aDt(a:List Con)(b:aA)(c:Int):TS:=⟨tf 147 20 [(0,iC a),(1,aD b),(4,nI 0),(5,nI c)] [kc f147 52,kl f147 52,.inBlock 0,kc f147 7],[],[],0⟩
def aYI(a:LUnit):TS:=bH PP 14 [aKE a] [] 0
def aKH(a:LUnit)(b:Int):TS:=⟨tf 14 56 [kp 1 0,(2,bV false),(3,nI b)] [kc f14 116,kl f14 116,.inBlock 0,kc f14 15],[],[aGW 0 a],1⟩
def aKI(a:LUnit)(b:Int):TS:=⟨tf 14 56 [kp 1 0,(2,bV false),(4,nI b)] [kc f14 244,kl f14 244,.inBlock 2,kc f14 31],[],[aGW 0 a],1⟩
def aYJ(a b:LUnit):TS:=bH PP 19 [aKE a,aKE b] [] 0
def aKJ(a b:LUnit)(c:Int):TS:=⟨tf 19 57 [kp 2 0,kp 3 1,(4,bV false),(5,nI c)] [kc f19 116,kl f19 116,.inBlock 0,kc f19 15],[],[aGW 0 a,aGW 1 b],2⟩
def aWX (a:List aA)(b:aA):=(tT 0 (start PP 150 [iS a,aD b])<|.W 11 0 [] (aKF a b 0)) tv
def aOH(b:List aA)(c:aA)(a:Int):=tT 0 (aKF b c a)<|gl 5 aD b<|gd 2 9 (a< (b.length:Int)) (gX aD 8 b a<|fun d=>.b 4 17 (bB d.length (aC d) c.length (aC c)) (gE 7 0 (nI a))<|gw 6 11 (a+1)<|.W 3 0 [] (aKF b c (a+1)))<|gE 7 0 (nI (-1))
def aWY (a:LUnit):=(tT 0 (aYH a)<|.i [rn 16,.nilL 3 1] []<|gu 0 1 (map aD ([] :List aA))<|gs 0 3 (.gl 1 1 0 ([] :List aA).length false)<|.W 0 2 [0,1] (aKG a 0 ([] :List aA))) ⟨kk,trivial⟩
def aUw(a:LUnit)(b:Int)(c:List aA):=tT 0 (aKG a b c)<|gl 6 LFun.av a.funs<|gd 2 9 (b< (a.funs.length:Int)) (gX LFun.av 9 a.funs b<|fun d=>ga 3 aD c [d.name]<|gw 6 11 (b+1)<|.W 3 4 [0,3] (aKG a (b+1) (c++ [d.name])))<|gz 8 2 1 1 aD c false<|gE 0 2 (iS c)
def aRP (a:List aA):=(tT 0 (start PP 79 [iS a])<|.W 11 0 [] (aDs a 0)) tv
def aOI(a:List aA)(b:Int):=tT 0 (aDs a b)<|gl 5 aD a<|gd 2 7 (b< (a.length:Int)) (gX aD 8 a b<|fun c=>cD 1 39 [aD c]<|fun d=>.b 2 15 (!d) (gE 6 0 (bV false))<|gw 6 9 (b+1)<|.W 3 0 [] (aDs a (b+1)))<|cD 5 62 [iS a]<|fun c=>gE 3 0 (bV c)
def aRQ (a:List Con)(b:aA):=(tT 0 (start PP 147 [iC a,aD b])<|.W 11 0 [] (aDt a b 0)) tv
def aOJ(b:List Con)(c:aA)(a:Int):=tT 0 (aDt b c a)<|gl 5 Con.av b<|gd 2 9 (a< (b.length:Int)) (gX Con.av 8 b a<|fun d=>.b 5 18 (bB d.name.length (aC d.name) c.length (aC c)) (gE 7 0 (nI a))<|gw 6 11 (a+1)<|.W 3 0 [] (aDt b c (a+1)))<|gE 7 0 (nI (-1))
def aUx(a b c:Int):=tT 0 (start PP 80 [nI a,nI b,nI c])<|gd 10 10 (a≥b) (gE 7 0 (bV (decide (a≤c))))<|gE 7 0 (bV false)
def aKK(a:LUnit):=tT 0 (aYI a)<|gl 10 LFun.av a.funs<|gd 2 9 ((a.funs.length:Int) >30) (gE 18 1 (bV false))<|gl 2 aD a.needs<|gd 3 15 ((a.needs.length:Int) >25) (gE 12 1 (bV false))<|gd 6 20 ((a.name.length:Int) >30) (gE 6 1 (bV false))<|.W 9 1 [0] (aKH a 0)
def aOK(a:LUnit)(b:Int):=tT 0 (aKH a b)<|gl 6 LFun.av a.funs<|gd 2 25 (b< (a.funs.length:Int)) (gX LFun.av 9 a.funs b<|fun c=>gd 5 35 ((c.name.length:Int) >30) (gE 6 1 (bV false))<|gw 6 27 (b+1)<|.W 3 1 [0] (aKH a (b+1)))<|.W 9 1 [0] (aKI a 0)
def aOL(a:LUnit)(b:Int):=tT 0 (aKI a b)<|gl 6 aD a.needs<|gd 2 40 (b< (a.needs.length:Int)) (gX aD 9 a.needs b<|fun c=>gd 4 49 ((c.length:Int) >30) (gE 6 1 (bV false))<|gw 6 42 (b+1)<|.W 3 1 [0] (aKI a (b+1)))<|cD 9 76 [aOG a]<|fun c=>gE 3 1 (bV c)
def aWZ(a b:LUnit):=tT 0 (aYJ a b)<|.b 15 11 (!(bB a.name.length (aC a.name) b.name.length (aC b.name))) (gE 23 2 (bV false))<|cD 4 34 [iS a.needs,iS b.needs]<|fun c=>.b 3 19 (!c) (gE 15 2 (bV false))<|gl 2 LFun.av a.funs<|gl 2 LFun.av b.funs<|.b 3 27 ((a.funs.length:Int) != (b.funs.length:Int)) (gE 6 2 (bV false))<|.W 9 2 [0,1] (aKJ a b 0)
def aQy(b d:LUnit)(a:Int):=tT 0 (aKJ b d a)<|gl 6 LFun.av b.funs<|gd 2 32 (a< (b.funs.length:Int)) (.y fun c:LFun=>.y fun e:LFun=>.i [rn 5,.reg (rd 3 (.ans (.idx (LFun.av c))::rd 4 [.ans (.idx (LFun.av e)),.d,.d]))] [hA (0≤a),.a (((b.funs)[a.toNat]?) =some c) (fF (f:=LFun.av)),hA (0≤a),.a (((d.funs)[a.toNat]?) =some e) (fF (f:=LFun.av))]<|.b 0 45 (!((bB c.name.length (aC c.name) e.name.length (aC e.name)) && ((c.body==e.body) &&true))) (gE 6 2 (bV false))<|gw 6 34 (a+1)<|.W 3 2 [0,1] (aKJ b d (a+1)))<|cD 14 13 [aOG b,aOG d]<|fun c=>gE 3 2 (bV c)
theorem lB (u:LUnit) :keyless u.av=true:=by simp [LUnit.av,keyless,keylessL,aD]
def dB (s:aA) :List aA→Nat→Int
 | [],_=> -1
 |x::l,i=>if x=s then(i:Int)else dB s l (i+1)
theorem aMZ (l:List aA)(s:aA)(hl:l.length<1000000) :∀ (t:List aA) (i:Nat),l.drop i=t→Ends PP 0 (aKF l s (i:Int)).as (.ret (.int .i64 (dB s t i))) (aG [] 0)
 | [],i,h=>by
  have:=aZ h;exact aOH l s i|>.f sd tv
 | c ::t,i,h=>by
  obtain⟨q1,q2,q3⟩ :=aY h;rw [dB];by_cases e:c=s
  · rw [if_pos e];exact aOH l s i|>.t sd c sd sd|>.t (by rw [fR];simp [e]) tv
  · rw [if_neg e];exact(aOH l s i|>.t sd c sd sd|>.f (by rw [fR];simp [e]) sd tv).ends (aMZ l s hl t (i+1) q2)
theorem aGX (l:List aA)(s:aA)(hl:l.length<1000000) :Pure PP 150 [.ilst 1 (map aD l) false,aD s] (.int .i64 (dB s l 0)) :=
 aP (by kernel_rfl) rfl rfl ((aWX l s).ends (aMZ l s hl l 0 rfl))
theorem aM0 (l:List Con)(s:aA)(hl:l.length<1000000) :∀ (t:List Con) (i:Nat),l.drop i=t→Ends PP 0 (aDt l s (i:Int)).as (.ret (.int .i64 (dX s t i))) (aG [] 0)
 | [],i,h=>by
  have:=aZ h;exact aOJ l s i|>.f sd tv
 | c ::t,i,h=>by
  obtain⟨q1,q2,q3⟩ :=aY h;rw [dX];by_cases e:c.name=s
  · rw [if_pos e];exact aOJ l s i|>.t sd c sd sd|>.t (by rw [fR];simp [e]) tv
  · rw [if_neg e];exact(aOJ l s i|>.t sd c sd sd|>.f (by rw [fR];simp [e]) sd tv).ends (aM0 l s hl t (i+1) q2)
theorem pD (l:List Con)(s:aA)(hl:l.length<1000000) :Pure PP 147 [.ilst 2 (map Con.av l) false,aD s] (.int .i64 (dX s l 0)) :=
 aP (by kernel_rfl) rfl rfl ((aRQ l s).ends (aM0 l s hl l 0 rfl))
theorem aOM (n lo hi:Int) :Pure PP 80 [.int .i64 n,.int .i64 lo,.int .i64 hi] (.bool (bG n lo hi)) :=by
 refine aP (by kernel_rfl) rfl rfl ?_;unfold bG;by_cases h:lo≤n
 · have e: (decide (lo≤n) &&decide (n≤hi)) =decide (n≤hi) :=by simp [h]
   rw [e];exact aUx n lo hi|>.t (by simpa using h) tv
 · have e: (decide (lo≤n) &&decide (n≤hi)) =false:=by simp [h]
   rw [e];exact aUx n lo hi|>.f (by simpa using h) tv
def aR (u:LUnit) :List aA:=u.funs.map LFun.name
theorem aM1 (u:LUnit)(hl:u.funs.length≤1000) :∀ (t:List LFun) (i:Nat) (acc:List aA),u.funs.drop i=t→acc.length=i→Ends PP 0 (aKG u (i:Int) acc).as (.ret (.ilst 1 (map aD (acc++t.map LFun.name)) false)) (aG [] 0)
 | [],i,acc,h,ha=>by
  have:=aZ h;rw [map_nil,List.append_nil];exact aUw u i acc|>.f sd tv
 | c::t,i,acc,h,ha=>by
  obtain⟨q1,q2,q3⟩ :=aY h;have hi:= (List.getElem?_eq_some_iff.1 q1).1;refine(aUw u i acc|>.t sd c sd sd (by simp;omega) sd ⟨kk,trivial⟩).ends ?_;have:=aM1 u hl t (i+1) (acc++ [c.name]) q2 (by simp [ha]);rw [List.append_assoc]at this;exact this
theorem aUy (u:LUnit)(hl:u.funs.length≤1000) :Pure PP 78 [LUnit.av u] (.ilst 1 (map aD (aR u)) false) :=
 bU (s:=aYH u) (by kernel_rfl) (by kernel_rfl) (by simp [keylessL,lB]) (by simp [keyless]) ((aWY u).ends (aM1 u hl u.funs 0 [] rfl rfl))
def kL (l:List aA) :Bool:=l.all eH&&cU l
theorem aM2 (l:List aA)(hl:l.length<1000000) :∀ (t:List aA) (i:Nat),l.drop i=t→Ends PP 0 (aDs l (i:Int)).as (.ret (.bool (t.all eH&&cU l))) (aG [] 0)
 | [],i,h=>by
  have:=aZ h;rw [all_nil,Bool.true_and];exact aOI l i|>.f sd _ (mQ l hl) tv
 | c::t,i,h=>by
  obtain⟨q1,q2,q3⟩ :=aY h;have hn:=kY c;rw [all_cons];cases e:eH c
  case false=>rw [e]at hn;exact aOI l i|>.t sd c sd sd false hn|>.t rfl tv
  rw [e]at hn;rw [Bool.true_and];exact(aOI l i|>.t sd c sd sd true hn|>.f rfl sd tv).ends (aM2 l hl t (i+1) q2)
theorem aE7 (l:List aA)(hl:l.length<1000000) :Pure PP 79 [.ilst 1 (map aD l) false] (.bool (kL l)) :=
 aP (by kernel_rfl) rfl rfl ((aRP l).ends (aM2 l hl l 0 rfl))
def bA8 (l:List LUnit) :List aA:= (l.map aR).flatten
structure FewU (u:LUnit) :Prop where
 f:u.funs.length≤30
 n:u.needs.length≤25
 p:aW ⟨u.nodes,[],0,u.cons⟩ =true
 nm:∀f∈u.funs,f.name.length≤30
 nd:∀s∈u.needs,s.length≤30
theorem aRR {f:Nat}{a a' v:AV}(h:Pure PP f [a] v)(ha:∀ (E:Emb) (c:Value),VR E a' c→VR E a c) :Pure PP f [a'] v:=
 aIN h rfl (fun E i x x' c h1 h2 hv=>by
  cases i with
  |zero=>simp only [List.getElem?_cons_zero,Option.some.injEq]at h1 h2;subst h1 h2;exact ha E c hv
  |succ i=>simp at h1)
theorem aRS {f:Nat}{a a' b b' v:AV}(h:Pure PP f [a,b] v)(ha:∀ (E:Emb) (c:Value),VR E a' c→VR E a c)(hb:∀ (E:Emb) (c:Value),VR E b' c→VR E b c) :Pure PP f [a',b'] v:=
 aIN h rfl (fun E i x x' c h1 h2 hv=>by
  match i with
  |0=>simp only [List.getElem?_cons_zero,Option.some.injEq]at h1 h2;subst h1 h2;exact ha E c hv
  |1=>simp only [List.getElem?_cons_succ,List.getElem?_cons_zero,Option.some.injEq]at h1 h2;subst h1 h2;exact hb E c hv
  |i+2=>simp at h1)
theorem aEl {E:Emb}{ns:List Node}{cs:List Con}{c:Value}(h:VR E (.agg [.ilst 4 (map Node.av ns) false,.nils,.int .i64 0,.ilst 2 (map Con.av cs) false]) c) :VR E (Prog.av ⟨ns,[],0,cs⟩) c:=by
 simp only [Prog.av,VR]at h ⊢;obtain⟨ws,rfl,h5⟩ :=h;obtain⟨a1,w1,rfl,c1,h5⟩ :=h5.cons_inv;obtain⟨a2,w2,rfl,c2,h5⟩ :=h5.cons_inv;exact⟨_,rfl,VRs.cons c1 (VRs.cons (rV _ c2) h5)⟩
def vC (u:LUnit) :Prog:= ⟨u.nodes,[],0,u.cons⟩
def aGY (u:LUnit) :Bool:=decide (u.funs.length≤30) &&decide (u.needs.length≤25) &&decide (u.name.length≤30) &&u.funs.all (fun f=>decide (f.name.length≤30)) &&u.needs.all (fun s=>decide (s.length≤30)) &&aW (vC u)
theorem aON {u:LUnit}(h:aGY u=true) :FewU u:=by
 simp only [aGY,and_eq_true,decide_eq_true_eq]at h;obtain⟨⟨⟨⟨⟨h1,h2⟩,h3⟩,h4⟩,h5⟩,h6⟩ :=h;exact⟨h1,h2,h6,fun f hf=>by simpa using List.all_eq_true.1 h4 f hf,fun s hs=>by simpa using List.all_eq_true.1 h5 s hs⟩
theorem aYK (u:LUnit)(hn:u.needs.length≤25) :∀ (t:List aA) (i:Nat),u.needs.drop i=t→Ends PP 0 (aKI u (i:Int)).as (.ret (.bool (t.all (fun s=>decide (s.length≤30)) &&aW (vC u)))) (aG [] 0)
 | [],i,h=>by
  have:=aZ h;rw [all_nil,Bool.true_and];exact aOL u i|>.f sd _ (aRR (aFh (vC u)) (fun E c h=>aEl h)) tv
 | s ::t,i,h=>by
  obtain⟨q1,q2,q3⟩ :=aY h;by_cases hs:s.length≤30
  · rw [all_cons,decide_eq_true hs,Bool.true_and];exact(aOL u i|>.t sd s sd sd|>.f (by simp;omega) sd tv).ends (aYK u hn t (i+1) q2)
  · rw [all_cons,decide_eq_false hs,Bool.false_and,Bool.false_and];exact aOL u i|>.t sd s sd sd|>.t (by simp;omega) tv
theorem aYL (u:LUnit)(hf:u.funs.length≤30)(hn:u.needs.length≤25) :∀ (t:List LFun) (i:Nat),u.funs.drop i=t→Ends PP 0 (aKH u (i:Int)).as (.ret (.bool (t.all (fun f=>decide (f.name.length≤30)) &&u.needs.all (fun s=>decide (s.length≤30)) &&aW (vC u)))) (aG [] 0)
 | [],i,h=>by
  have:=aZ h;rw [all_nil,Bool.true_and];exact(aOK u i|>.f sd tv).ends (aYK u hn u.needs 0 rfl)
 | f ::t,i,h=>by
  obtain⟨q1,q2,q3⟩ :=aY h;by_cases hs:f.name.length≤30
  · rw [all_cons,decide_eq_true hs,Bool.true_and];exact(aOK u i|>.t sd f sd sd|>.f (by simp;omega) sd tv).ends (aYL u hf hn t (i+1) q2)
  · rw [all_cons,decide_eq_false hs,Bool.false_and,Bool.false_and,Bool.false_and];exact aOK u i|>.t sd f sd sd|>.t (by simp;omega) tv
theorem aUz (u:LUnit) :Pure PP 14 [LUnit.av u] (.bool (aGY u)) :=by
 refine bU (s:=aYI u) (by kernel_rfl) (by kernel_rfl) (by simp [keylessL,lB]) (by simp [keyless]) ?_;unfold aGY;by_cases h1:u.funs.length≤30
 · by_cases h2:u.needs.length≤25
   · by_cases h3:u.name.length≤30
     · rw [decide_eq_true h1,decide_eq_true h2,decide_eq_true h3,Bool.true_and,Bool.true_and,Bool.true_and];exact(aKK u|>.f (by simp;omega)|>.f (by simp;omega)|>.f (by simp;omega) tv).ends (aYL u h1 h2 u.funs 0 rfl)
     · rw [decide_eq_false h3];simp only [Bool.and_false,Bool.false_and];exact aKK u|>.f (by simp;omega)|>.f (by simp;omega)|>.t (by simp;omega) tv
   · rw [decide_eq_false h2];simp only [Bool.and_false,Bool.false_and];exact aKK u|>.f (by simp;omega)|>.t (by simp;omega) tv
 · rw [decide_eq_false h1];simp only [Bool.false_and];exact aKK u|>.t (by simp;omega) tv
theorem aKL {α:Type}{l:List α}{i:Nat}{y:α}(h:l[i]?=some y) :l.take (i+1) =l.take i++ [y] :=by rw [List.take_add_one,h];rfl
structure FitU (u:LUnit) :Prop where
 p:FitP (vC u)
 f:u.funs.length<1000000
 n:u.needs.length<1000000
abbrev aUA (a:LUnit):AV:=.agg [aD a.name,iC a.cons,.ilst 2 (map LFun.av a.funs) false,iS a.needs,iN a.nodes]
abbrev aOO (a:Nat)(b:LUnit):=oC a [aD b.name,iC b.cons,.ilst 2 (map LFun.av b.funs) false,iS b.needs,iN b.nodes]
abbrev aAw (a:List Node)(b:Int)(c:Node):AV:=.gl 2 4 0 (set a b.toNat (Node.mk c.op (-1) c.kids c.pats)).length false
def aYM(a:LUnit):TS:=bH PP 16 [aUA a] [] 0
def aKM(a:LUnit)(b:List aA)(c:Int):TS:=⟨tf 16 126 [kp 1 0,(2,bV false),(3,iS b),(4,nI c)] [kc f16 244,kl f16 244,.inBlock 0,kc f16 31],[],[aOO 0 a],1⟩
def aKN(a:LUnit)(c:List aA)(d:Int)(b:List Int):TS:=⟨tf 16 126 [kp 1 0,(2,bV false),(3,iS c),kp 6 1,(7,nI d)] [kc f16 2036,kl f16 2036,.inBlock 2,kc f16 255],[],[aOO 0 a,oC 1 [.gl 2 4 0 a.nodes.length false,.gl 3 1 0 b.length false,nI 0,iC a.cons],oL 2 4 (jN a.nodes),oL 3 1 (jI b)],4⟩
def aEm(a:LUnit)(d:List aA)(b:List Int)(e:Int)(c:List Node):TS:=⟨tf 16 126 [kp 1 0,(2,bV false),(3,iS d),kp 6 1,(8,nI e)] [kc f16 4084,kl f16 4084,.inBlock 4,kc f16 511],[],[aOO 0 a,oC 1 [.gl 2 4 0 c.length false,.gl 3 1 0 b.length false,nI 0,iC a.cons],oL 2 4 (jN c),oL 3 1 (jI b)],4⟩
def aGZ(a:LUnit):=tT 0 (aYM a)<|.y fun b:List aA=>gp 8 78 [aUA a] (iS b)<|cD 7 39 [aD a.name]<|fun c=>.b 2 16 (!c) (gE 23 1 (bV false))<|gl 2 aD a.needs<|gd 3 22 ((a.needs.length:Int) >20) (gE 17 1 (bV false))<|cD 1 79 [iS b]<|fun d=>.b 3 27 (!d) (gE 12 1 (bV false))<|cD 2 79 [iS a.needs]<|fun e=>.b 3 32 (!e) (gE 6 1 (bV false))<|.W 9 1 [0] (aKM a b 0)
def aG0(a:LUnit)(b:List aA)(c:Int):=tT 0 (aKM a b c)<|gl 6 aD a.needs<|gd 2 37 (c< (a.needs.length:Int)) (gX aD 10 a.needs c<|fun d=>cD 1 64 [iS b,aD d]<|fun e=>.b 1 46 e (gE 6 1 (bV false))<|gw 6 39 (c+1)<|.W 3 1 [0] (aKM a b (c+1)))<|gl 6 aD b<|.b 2 49 ((b.length:Int) ==0) (.i [rn 13,.ctoL 3 0 true [nI 3,nI 0,.nils,.nils]] [hr (some [nI 3,nI 0,.nils,.nils]),hr true]<|.i [.lw 1 (jN [Node.mk 3 0 [] []])] [.q (p:=([.agg [nI 3,nI 0,.nils,.nils]] :List AV) ≠ []) (by simp),.q (p:=VW [.agg [nI 3,nI 0,.nils,.nils]] (jN [Node.mk 3 0 [] []])) (aQx _ _)]<|gv 0 3 0 (.gl 1 4 0 [Node.mk 3 0 [] []].length true)<|.i [.cweak 3 0] []<|gy 0 3 0 1 4 Node.av [Node.mk 3 0 [] []] false<|.i [.ctoL 3 1 false [nI 0]] [hr (some [nI 0]),hr true]<|gu 0 2 (jI [0])<|gv 0 3 1 (.gl 2 1 0 [0].length true)<|.i [.cweak 3 1] []<|gy 0 3 1 2 1 bM [0] false<|gl 3 Node.av a.nodes<|.b 2 60 ((a.nodes.length:Int) ==0) (cD 1 22 [.agg [iN [Node.mk 3 0 [] []],iI [0],nI 0,iC a.cons]]<|fun d=>gE 4 4 (bV d))<|gE 6 4 (bV false))<|.i [rn 3,.reg (rd 4 (.app (jN a.nodes) a.nodes.length::rd 3 []))] [hA (length a.nodes≤1000000),hr (jN a.nodes),.q (p:=length (jN a.nodes) =length a.nodes) (List.length_map ..),hr (AV.ilst 2 (jC a.cons) false),hr (AV.ilst 2 (jC a.cons) false)]<|.i [rn 7,.cnil 1 1 1] []<|gu 0 3 (jI ([] :List Int))<|gv 0 1 1 (.gl 3 1 0 ([] :List Int).length false)<|.W 0 4 [0,1,2,3] (aKN a b 0 ([] :List Int))
def aUB(c:LUnit)(e:List aA)(d:Int)(a:List Int):=tT 0 (aKN c e d a)<|gl 6 LFun.av c.funs<|gd 2 74 (d< (c.funs.length:Int)) (.y fun b:LFun=>.i [rn 4,.reg (rd 5 (.ans (.idx (LFun.av b))::rd 3 [.app (jI (a++ [b.body])) (a++ [b.body]).length,.d,.d]))] [hA (0≤d),.a (((c.funs)[d.toNat]?) =some b) (fF (f:=LFun.av)),hb bM a,hA (length (a++ [b.body]) ≤1000000),hc bM a [b.body],he bM a [b.body]]<|gw 4 76 (d+1)<|.W 3 6 [0,1,2,5] (aKN c e (d+1) (a++ [b.body])))<|.W 9 4 [0,1,2,3] (aEm c e a 0 c.nodes)
def aKO(f:LUnit)(d:List aA)(e:List Int)(c:Int)(b:List Node):=tT 0 (aEm f d e c b)<|gd 9 92 (c< (b.length:Int)) (.i [rn 9,.ans (.ix)] [hA (0≤c),hA (c< (b.length:Int))]<|.y fun a:Node=>gj Node.av 0 b c.toNat a<|.b 9 103 (a.op==4) (gl 3 aD d<|gw 1 108 (0- (d.length:Int))<|gl 2 aD f.needs<|gw 1 112 ((0- (d.length:Int)) - (f.needs.length:Int))<|gl 1 aD d<|gw 1 115 (0- (d.length:Int))<|gw 1 116 ((0- (d.length:Int)) -1)<|cD 0 80 [nI a.n,nI ((0- (d.length:Int)) - (f.needs.length:Int)),nI ((0- (d.length:Int)) -1)]<|fun g=>.b 2 118 g (.i [rn 5,.ans (.ix)] [hA (0≤c),hA (c< (b.length:Int))]<|.i [rn 1,.st (Node.av a) (Node.av (Node.mk a.op (-1) a.kids a.pats))] [.a (((b)[c.toNat]?) =some a) (jQ (f:=Node.av)),hr (some (Node.av (Node.mk a.op (-1) a.kids a.pats)))]<|.i [.lset 2 (jN (set b c.toNat (Node.mk a.op (-1) a.kids a.pats)))] [.q (p:=(jN b).set (0+c.toNat) (Node.av (Node.mk a.op (-1) a.kids a.pats)) = (jN (set b c.toNat (Node.mk a.op (-1) a.kids a.pats)))) (pA _ _ _ _)]<|.i [.set 90 (aAw b c a)] [.q (p:=(AV.gl 2 4 0 b.length false) = (aAw b c a)) (dH (length_set ..).symm)]<|.i [.set 96 (aAw b c a)] [.q (p:=(AV.gl 2 4 0 b.length false) = (aAw b c a)) (dH (length_set ..).symm)]<|.i [.set 120 (aAw b c a)] [.q (p:=(AV.gl 2 4 0 b.length false) = (aAw b c a)) (dH (length_set ..).symm)]<|.i [.cset 1 0 (aAw b c a)] [.q (p:=(AV.gl 2 4 0 b.length false) = (aAw b c a)) (dH (length_set ..).symm)]<|gw 5 94 (c+1)<|.W 3 5 [0,1,2,3] (aEm f d e (c+1) (set b c.toNat (Node.mk a.op (-1) a.kids a.pats))))<|gw 6 94 (c+1)<|.W 3 5 [0,1,2,3] (aEm f d e (c+1) b))<|gw 22 94 (c+1)<|.W 3 5 [0,1,2,3] (aEm f d e (c+1) b))<|.i [rn 5,.frz 124 2 (jN b)] [hk Node.av b,.q (p:=frzOk 2 4 (jN b) (jN b) (.agg [.gl 2 4 0 b.length false,.gl 3 1 0 e.length false,nI 0,iC f.cons])) (by simp [frzOk,AV.frzOkL,List.take_of_length_le])]<|.i [.frz 124 3 (jI e)] [hk bM e,.q (p:=frzOk 3 1 (jI e) (jI e) (.agg [iN b,.gl 3 1 0 e.length false,nI 0,iC f.cons])) (by simp [frzOk,AV.frzOkL,List.take_of_length_le])]<|cD 0 22 [.agg [iN b,iI e,nI 0,iC f.cons]]<|fun a=>gE 3 4 (bV a)
def vD {α:Type}(f:α→α)(l:List α)(i:Nat) :List α:= (l.take i).map f++l.drop i
section
variable {α :Type} {f:α→α} {l:List α} {i:Nat}
theorem aIO :vD f l 0=l:=by simp [vD]
theorem aG1 : (vD f l i).length=l.length:=by simp [vD];omega
theorem aM3 (h:l.length≤i) :vD f l i=l.map f:=by simp [vD,List.take_of_length_le h,List.drop_eq_nil_of_le h]
theorem aCp {x:α}(h:l[i]?=some x) :vD f l i= (l.take i).map f++x::l.drop (i+1) ∧ ((l.take i).map f).length=i:=by
 have hi:= (List.getElem?_eq_some_iff.1 h).1;refine⟨?_,by simp;omega⟩;unfold vD;rw [List.drop_eq_getElem_cons hi];rw [(List.getElem?_eq_some_iff.1 h).2]
theorem aM4 {x:α}(h:l[i]?=some x) : (vD f l i)[i]?=some x:=by
 obtain⟨e,hl⟩ :=aCp (f:=f) h;rw [e,List.getElem?_append_right (by omega),hl];simp
theorem aIP {x:α}(h:l[i]?=some x) :vD f l (i+1) = (l.take i).map f++f x::l.drop (i+1) :=by
 unfold vD;rw [aKL h];simp
theorem aM5 {x:α}(h:l[i]?=some x) : (vD f l i).set i (f x) =vD f l (i+1) :=by
 obtain⟨e,hl⟩ :=aCp (f:=f) h;rw [e,aIP h,List.set_append_right _ _ (by omega),hl];simp
theorem vE {x:α}(h:l[i]?=some x)(e:f x=x) :vD f l i=vD f l (i+1) :=by
 rw [(aCp (f:=f) h).1,aIP h,e]
end
def rW (a b:Nat)(x:Node) :Node:=if x.op=4∧ -(a:Int) -b≤x.n∧x.n≤ -(a:Int) -1 then⟨x.op,-1,x.kids,x.pats⟩else x
def lH (u:LUnit) :List Int:=u.funs.map LFun.body
def aDu (u:LUnit) :Prog:= ⟨u.nodes.map (rW u.funs.length u.needs.length),lH u,0,u.cons⟩
def aBP (u:LUnit) :Prog:= ⟨[⟨3,0,[],[]⟩],[0],0,u.cons⟩
def xP (u:LUnit) :Bool:=eH u.name&&decide (u.needs.length≤20) &&kL (aR u) &&kL u.needs&&u.needs.all (fun s=> !cA (aR u) s) &&
 (if u.funs.length=0 then decide (u.nodes.length=0) &&bP (aBP u)else bP (aDu u))
theorem aIQ {u:LUnit}(h:FewU u) :aW (aDu u) =true:=by
 have h0:=h.p;have hf:=h.f;simp only [aW,and_eq_true,decide_eq_true_eq]at h0 ⊢;obtain⟨⟨⟨⟨h1,h2⟩,h3⟩,h4⟩,h5⟩ :=h0;refine⟨⟨⟨⟨by simp [aDu];exact h1,by simp [aDu,lH];omega⟩,h3⟩,h4⟩,List.all_eq_true.2 (fun x hx=>?_)⟩;simp only [aDu,List.mem_map]at hx;obtain⟨y,hy,rfl⟩ :=hx;have:=List.all_eq_true.1 h5 y hy;unfold rW;split<;>exact this
theorem aG2 {u:LUnit}(h:FewU u) :aW (aBP u) =true:=by
 have h0:=h.p;simp only [aW,and_eq_true,decide_eq_true_eq]at h0 ⊢;obtain⟨⟨⟨⟨h1,h2⟩,h3⟩,h4⟩,h5⟩ :=h0;exact⟨⟨⟨⟨by simp [aBP],by simp [aBP]⟩,h3⟩,h4⟩,by rfl⟩
section
variable (u :LUnit) (hu:FewU u)
include hu
theorem aYN :∀ (t:List Node) (i:Nat),u.nodes.drop i=t→i≤u.nodes.length→Ends PP 0 (aEm u (aR u) (lH u) (i:Int) (vD (rW u.funs.length u.needs.length) u.nodes i)).as (.ret (.bool (bP (aDu u)))) (aG [] 0)
 | [],i,h,hi=>by
  have hd:=aZ h;have hn:i=u.nodes.length:=by omega
  have hl: (vD (rW u.funs.length u.needs.length) u.nodes i).length=u.nodes.length:=aG1;rw [aM3 (by omega)]at hl ⊢;exact aKO u (aR u) (lH u) i _|>.f (by rw [hl];exact sd) _ (aDg (aDu u) (aIQ hu)) tv
 | x ::t,i,h,hi=>by
  obtain⟨q1,q2,q3⟩ :=aY h;have hi:= (List.getElem?_eq_some_iff.1 q1).1;have hn:u.nodes.length≤320:=by have:=hu.p;simp only [aW,and_eq_true,decide_eq_true_eq]at this;exact this.1.1.1.1
  have hf:=hu.f;have hd:=hu.n;have hl: (vD (rW u.funs.length u.needs.length) u.nodes i).length=u.nodes.length:=aG1;have ho: (aR u).length=u.funs.length:=by simp [aR]
  have hg:=aM4 (f:=rW u.funs.length u.needs.length) q1;have w1:IntKind.i64.wrap (0- ((length (aR u) :Nat) :Int)) =0- ((length (aR u) :Nat) :Int) :=by apply wrap64<;>omega
  have w2:IntKind.i64.wrap (0- ((length (aR u) :Nat) :Int) - ((length u.needs:Nat) :Int)) =0- ((length (aR u) :Nat) :Int) - ((length u.needs:Nat) :Int) :=by apply wrap64<;>omega
  have w3:IntKind.i64.wrap (0- ((length (aR u) :Nat) :Int) - (1:Int)) =0- ((length (aR u) :Nat) :Int) - (1:Int) :=by apply wrap64<;>omega
  have ih:=aYN t (i+1) q2 (by omega);by_cases h4:x.op=4
  · have hp:=aOM x.n (0- ((length (aR u) :Nat) :Int) - ((length u.needs:Nat) :Int)) (0- ((length (aR u) :Nat) :Int) - (1:Int));by_cases hb: -(u.funs.length:Int) -u.needs.length≤x.n∧x.n≤ -(u.funs.length:Int) -1
    · have eb:bG x.n (0- ((length (aR u) :Nat) :Int) - ((length u.needs:Nat) :Int)) (0- ((length (aR u) :Nat) :Int) - (1:Int)) =true:=by rw [inB_iff,ho];omega
      rw [eb]at hp;have ef:rW u.funs.length u.needs.length x= ⟨x.op,-1,x.kids,x.pats⟩ :=by unfold rW;rw [if_pos ⟨h4,hb⟩]
      have h1:=aKO u (aR u) (lH u) i _|>.t (by rw [hl];exact sd) sd (by rw [hl];omega) x (by rw [toNat_natCast];exact hg)|>.t (by simp [h4]) w1 w2 w1 w3 true hp|>.t rfl sd (by rw [hl];omega) (by rw [toNat_natCast];exact hg) sd ⟨kk,⟨kk,trivial⟩⟩;rw [toNat_natCast,←ef,aM5 q1]at h1;exact h1.ends ih
    · have eb:bG x.n (0- ((length (aR u) :Nat) :Int) - ((length u.needs:Nat) :Int)) (0- ((length (aR u) :Nat) :Int) - (1:Int)) =false:=by rw [Bool.eq_false_iff,Ne,inB_iff,ho];omega
      rw [eb]at hp;have ef:rW u.funs.length u.needs.length x=x:=by unfold rW;rw [if_neg (fun g=>hb g.2)]
      have h1:=aKO u (aR u) (lH u) i _|>.t (by rw [hl];exact sd) sd (by rw [hl];omega) x (by rw [toNat_natCast];exact hg)|>.t (by simp [h4]) w1 w2 w1 w3 false hp|>.f rfl sd ⟨kk,⟨kk,trivial⟩⟩;rw [vE q1 ef]at h1 hl ⊢;exact h1.ends ih
  · have ef:rW u.funs.length u.needs.length x=x:=by unfold rW;rw [if_neg (fun g=>h4 g.1)]
    have h1:=aKO u (aR u) (lH u) i _|>.t (by rw [hl];exact sd) sd (by rw [hl];omega) x (by rw [toNat_natCast];exact hg)|>.f (by simp [h4]) sd ⟨kk,⟨kk,trivial⟩⟩;rw [vE q1 ef]at h1 hl ⊢;exact h1.ends ih
theorem aYO :∀ (t:List LFun) (i:Nat) (acc:List Int),u.funs.drop i=t→acc.length=i→Ends PP 0 (aKN u (aR u) (i:Int) acc).as (.ret (.bool (bP (aDu u)))) (aG [] 0) ∨acc++t.map LFun.body≠lH u
 | [],i,acc,h,ha=>by
  have:=aZ h;by_cases e:acc=lH u
  · subst e;have:=aYN u hu u.nodes 0 rfl (Nat.zero_le _);rw [aIO]at this;exact .inl ((aUB u (aR u) i _|>.f sd ⟨kk,⟨kk,trivial⟩⟩).ends this)
  ·exact .inr (by simpa using e)
 | f::t,i,acc,h,ha=>by
  obtain⟨q1,q2,q3⟩ :=aY h;have hi:= (List.getElem?_eq_some_iff.1 q1).1;have hf:=hu.f;rcases aYO t (i+1) (acc++ [f.body]) q2 (by simp [ha])with g|g
  ·exact .inl ((aUB u (aR u) i acc|>.t sd f sd sd (by simp;omega) sd ⟨kk,⟨kk,trivial⟩⟩).ends g)
  ·exact .inr (by simpa using g)
theorem aYP :∀ (t:List aA) (i:Nat),u.needs.drop i=t→Ends PP 0 (aKM u (aR u) (i:Int)).as (.ret (.bool (t.all (fun s=> !cA (aR u) s) && (if u.funs.length=0 then decide (u.nodes.length=0) &&bP (aBP u)else bP (aDu u))))) (aG [] 0)
 | [], i,h=>by
  have:=aZ h;have ho: (aR u).length=u.funs.length:=by simp [aR]
  have hn:u.nodes.length≤320:=by have:=hu.p;simp only [aW,and_eq_true,decide_eq_true_eq]at this;exact this.1.1.1.1
  rw [all_nil,Bool.true_and];by_cases h0:u.funs.length=0
  · rw [if_pos h0];by_cases h1:u.nodes.length=0
    · rw [decide_eq_true h1,Bool.true_and];exact aG0 u (aR u) i|>.f sd|>.t (by rw [ho,h0];rfl)|>.t (by rw [h1];rfl) _ (aDg (aBP u) (aG2 hu)) tv
    · rw [decide_eq_false h1,Bool.false_and];exact aG0 u (aR u) i|>.f sd|>.t (by rw [ho,h0];rfl)|>.f (beq_eq_false_iff_ne.2 (by omega)) tv
  · rw [if_neg h0];refine(aG0 u (aR u) i|>.f sd|>.f (beq_eq_false_iff_ne.2 (by rw [ho];omega)) (by omega) ⟨kk,⟨kk,trivial⟩⟩).ends ?_;rcases aYO u hu u.funs 0 [] rfl rfl with g|g
    ·exact g
    ·exact absurd rfl g
 | s::t,i,h=>by
  obtain⟨q1,q2,q3⟩ :=aY h;have hf:=hu.f;have hd:=hu.n;have hh:=uN (aR u) s (by simp [aR];omega);rw [all_cons];cases e:cA (aR u) s
  case true=>
   rw [e]at hh;rw [Bool.not_true,Bool.false_and,Bool.false_and];exact aG0 u (aR u) i|>.t sd s sd sd true hh|>.t rfl tv
  rw [e]at hh;rw [Bool.not_false,Bool.true_and];exact(aG0 u (aR u) i|>.t sd s sd sd false hh|>.f rfl sd tv).ends (aYP t (i+1) q2)
theorem aUC :Pure PP 16 [LUnit.av u] (.bool (xP u)) :=by
 have hf:=hu.f;have hd:=hu.n;refine bU (s:=aYM u) (by kernel_rfl) (by kernel_rfl) (by simp [keylessL,lB]) (by simp [keyless]) ?_;have a0:=aUy u (by omega);have a1:=kY u.name;have a2:=aE7 (aR u) (by simp [aR];omega);have a3:=aE7 u.needs (by omega);unfold xP;cases e1:eH u.name
 case false=>rw [e1]at a1;simp only [Bool.false_and];exact aGZ u (aR u) a0 false a1|>.t rfl tv
 rw [e1]at a1;by_cases e2:u.needs.length≤20
 · rw [decide_eq_true e2];cases e3:kL (aR u)
   case false=>rw [e3]at a2;simp only [Bool.true_and,Bool.false_and,Bool.and_false];exact aGZ u (aR u) a0 true a1|>.f rfl|>.f (by simp;omega) false a2|>.t rfl tv
   rw [e3]at a2;cases e4:kL u.needs
   case false=>rw [e4]at a3;simp only [Bool.true_and,Bool.false_and,Bool.and_false];exact aGZ u (aR u) a0 true a1|>.f rfl|>.f (by simp;omega) true a2|>.f rfl false a3|>.t rfl tv
   rw [e4]at a3;simp only [Bool.true_and];exact(aGZ u (aR u) a0 true a1|>.f rfl|>.f (by simp;omega) true a2|>.f rfl true a3|>.f rfl tv).ends (aYP u hu u.needs 0 rfl)
 · rw [decide_eq_false e2];simp only [Bool.and_false,Bool.false_and];exact aGZ u (aR u) a0 true a1|>.f rfl|>.t (by simp;omega) tv
end
def ckn (cs:List Con)(s:aA)(k:Int) :Bool:=decide (0≤dX s cs 0) && (match cs[(dX s cs 0).toNat]? with|some c=>decide (c.args=k) |none=>false)
mutual
def knP (cs:List Con) :Pat→Bool
 | .mk f _ s ps=> (if f=6 then ckn cs s (length ps)else true) &&aHP cs ps
def aHP (cs:List Con) :List Pat→Bool
 | [] =>true
 |p::ps=>knP cs p&&aHP cs ps
end
theorem aG3 {cs:List Con}{s:aA}(h:0≤dX s cs 0) :∃c,cs[(dX s cs 0).toNat]?=some c:=by
 rcases aE6 s cs 0 (by omega)with e| ⟨_,_,d,hd,_⟩
 ·omega
 ·rw [Int.sub_zero]at hd;exact⟨d,hd⟩
abbrev kD (o n:Int)(s:aA)(ks:List Term)(ps:List Pat) :AObj:=.cells (putCells .leaf 0 [.int .i64 o,.int .i64 n,aD s,.ilst 5 (Terms.av ks) false,.ilst 4 (Pats.av ps) false]) 5 [] false
theorem aEn {ps:List Pat}(h:∀p∈ps,bA p≤1000)(o:Int)(s:aA)(k:Nat) : (cX o s ps k).length≤1000:=by
 unfold cX;split
 ·simp
 · split
   ·split<;>simp
   · split
     · cases k with
       |zero=>simp
       | succ j=>
        simp only;cases hp:ps[j]? with
        |none=>simp
        | some p=>
         have:=aCg p;have:=h p (List.mem_of_getElem? hp);simp only;omega
     ·simp
theorem aQz {o n:Int}{s:aA}{k m:Int}(h:aL o n s k m=true)(h15:o=15) :k=1+m:=by
 subst h15;simp [aL]at h;exact h.1.2
structure WS where
 l:List Con
 mc:List (aA×Int)
 ar:List Int
structure TB (p:Prog) (fl pl:List aA) (A:Nat) :Prop where
 fl:fl.length≤1000000000
 pl:pl.length≤1000000000
 ks:∀x∈p.nodes,x.kids.length<1000000∧x.pats.length<1000000∧∀q∈x.pats,bA q<1000000
 ad:∀x∈p.nodes,∀i:Nat,i<x.kids.length→Pure PP A [Node.av x,.int .i64 (i:Int)] (.int .i64 (aMB x i))
 kl:keyless (PA p) =true
structure Spk where
 prog:Prog
 funs:List aA
 places:List aA
def Spk.av (x:Spk) :AV:=.agg [.ilst 4 (map Node.av x.prog.nodes) false,.ilst 1 (map bM x.prog.funs) false,.int .i64 x.prog.main,.ilst 2 (map Con.av x.prog.cons) false,.ilst 1 (map aD x.funs) false,.ilst 1 (map aD x.places) false]
section
variable (p q:Prog) (mn:Int) (zn:List Node) (zu:List Int)
end
theorem hasS_mem {l:List aA}{s:aA}:cA l s=true↔s∈l:=by
 simp [cA]
theorem xQ :∀ (l pre:List aA),cM pre l=true→l.Nodup∧∀x∈l,x∉pre
 | [],pre,_=> ⟨List.nodup_nil,fun x hx=>by cases hx⟩
 | x::t,pre,h=>by
  simp only [cM,and_eq_true,Bool.not_eq_true']at h;obtain⟨h1,h2⟩ :=xQ t (pre++ [x]) h.2
  have hx:x∉pre:=fun hm=>by
   have:=hasS_mem.2 hm;rw [h.1]at this;cases this
  refine⟨List.nodup_cons.2 ⟨fun hm=>h2 x hm (by simp),h1⟩,fun y hy=>?_⟩;rcases List.mem_cons.1 hy with rfl|hy
  ·exact hx
  ·exact fun hm=>h2 y hy (List.mem_append_left _ hm)
structure Fm (p:Prog) :Prop where
 fine:FineP p
 cons:p.cons.length≤25
 dup: ((p.funs.map (pre p p.nodes.length)).flatten).Nodup
 len: ((p.funs.map (pre p p.nodes.length)).flatten).length=p.nodes.length
 into:∀x∈ (p.funs.map (pre p p.nodes.length)).flatten,0≤x∧x<p.nodes.length
 node:∀ (i:Nat) (x:Node),p.nodes[i]?=some x→cY p x=true∧x.pats.length≤10
 names: (p.cons.map Con.name).Nodup
theorem aOP {p:Prog}(hs:aW p=true)(hf:bP p=true) :Fm p:=by
 have hss:=hs;simp only [aW,and_eq_true,decide_eq_true_eq]at hss;obtain⟨⟨⟨⟨s1,s2⟩,s3⟩,_⟩,s5⟩ :=hss;obtain⟨a,b,c,d⟩ :=aOD hs hf;refine⟨aE5 hs hf,s3,a,b,c,fun i x hx=> ⟨d i x hx,?_⟩,?_⟩
 · have h10:=List.all_eq_true.1 s5 x (List.mem_of_getElem? hx);simp only [cE,and_eq_true,decide_eq_true_eq]at h10;omega
 · simp only [bP,and_eq_true,aCe]at hf;exact(xQ _ _ hf.1.2.2).1
theorem Fm.fit {p:Prog}(h:Fm p)(i:Nat)(x:Node)(hx:p.nodes[i]?=some x) :aRM x:=by
 obtain⟨h1,h2⟩ :=h.node i x hx;have:= (h.fine.node i x hx).2.1;exact⟨by omega,(aRL h.fine.fsmall h1 h2).1.1⟩
def nodeAt (p:Prog)(k:Int) :Node:= (p.nodes[k.toNat]?).getD ⟨0,0,[],[]⟩
theorem aEo {p:Prog}{k:Int}{x:Node}(h:p.nodes[k.toNat]?=some x) :nodeAt p k=x:=by unfold nodeAt;rw [h];rfl
def aCq (p:Prog) :List Int:= (p.funs.map (pre p p.nodes.length)).flatten
def KidsAfter (p:Prog)(l:List Int) :Prop:=∀ (i:Nat) (k c:Int),l[i]?=some k→c∈hM p k→∃j,i<j∧l[j]?=some c
theorem KidsAfter.append {p:Prog}{l m:List Int}(h1:KidsAfter p l)(h2:KidsAfter p m) :KidsAfter p (l++m) :=fun i k c hi hc=>by
 by_cases h:i<l.length
 · rw [List.getElem?_append_left h]at hi;obtain⟨j,hj,e⟩ :=h1 i k c hi hc;exact⟨j,hj,by rw [List.getElem?_append_left (List.getElem?_eq_some_iff.1 e).1];exact e⟩
 · rw [List.getElem?_append_right (by omega)]at hi;obtain⟨j,hj,e⟩ :=h2 _ k c hi hc;exact⟨l.length+j,by omega,by rw [List.getElem?_append_right (by omega),show l.length+j-l.length=j by omega];exact e⟩
theorem KidsAfter.flatten {p:Prog}:∀ {L:List (List Int)},(∀l∈L,KidsAfter p l) →KidsAfter p L.flatten
 | [],_=>fun i k c hi _=>by simp at hi
 | l::L,h=>by
  rw [List.flatten_cons];exact(h l (List.mem_cons_self ..)).append (KidsAfter.flatten fun m hm=>h m (List.mem_cons_of_mem _ hm))
theorem aM6 {p:Prog}(h:Fm p){k:Int}(h0:0≤k)(h1:k<p.nodes.length) :∃i:Nat,(aCq p)[i]?=some k:=by
 refine List.mem_iff_getElem?.1 ?_;have hd: ((aCq p).map toNat).Nodup:=by
  have hd:=h.dup;rw [List.nodup_iff_pairwise_ne]at hd ⊢;refine List.pairwise_map.2 (hd.imp_of_mem (fun {a b} ha hb hne e=>?_));have:=h.into a ha;have:=h.into b hb;exact hne (by omega)
 by_cases hm:k∈aCq p
 ·exact hm
 · have h2:=aA0 (p.nodes.length) (k.toNat:: (aCq p).map toNat) (List.nodup_cons.2 ⟨fun hm2=>by
    obtain⟨y,hy,e⟩ :=List.mem_map.1 hm2;have:=h.into y hy;exact hm ((show y=k by omega) ▸ hy),hd⟩) (fun x hx=>by
    rcases List.mem_cons.1 hx with rfl|hx
    ·omega
    · obtain⟨y,hy,rfl⟩ :=List.mem_map.1 hx;have:=h.into y hy;omega)
   rw [List.length_cons,List.length_map]at h2;have:=h.len;unfold aCq at h2;omega
structure Laid (a:Prog) (off:Nat) (p:Prog) (mf mc:List (Int×Int)) (to:List Int) :Prop where
 node:∀ (i:Nat) (k:Int),(aCq p)[i]?=some k→a.nodes[off+i]?=some (aEZ mf mc to (nodeAt p k))
 to:∀ (i:Nat) (k:Int),(aCq p)[i]?=some k→aKc to k= ((off+i:Nat) :Int)
section
variable {a p:Prog} {off:Nat} {mf mc:List (Int×Int)} {to:List Int}
theorem Laid.at (h:Laid a off p mf mc to)(hp:Fm p){k:Int}(h0:0≤k)(h1:k<p.nodes.length) :0≤aKc to k∧a.nodes[(aKc to k).toNat]?=some (aEZ mf mc to (nodeAt p k)) :=by
 obtain⟨i,hi⟩ :=aM6 hp h0 h1;have e:=h.to i k hi;rw [e,toNat_natCast];exact⟨by omega,h.node i k hi⟩
theorem Laid.pre (h:Laid a off p mf mc to)(hp:Fm p) :∀ (f:Nat) (k:Int),0≤k→k<p.nodes.length→p.nodes.length-k.toNat≤f→pre a f (aKc to k) = (pre p f k).map (aKc to)
 |0,k,h0,h1,h2=>by omega
 | f+1,k,h0,h1,h2=>by
  obtain⟨x,hx⟩ :∃x,p.nodes[k.toNat]?=some x:= ⟨_,List.getElem?_eq_getElem (by omega)⟩;obtain⟨g0,g1⟩ :=h.at hp h0 h1;rw [aEo hx]at g1;rw [Go.Hb.pre,Go.Hb.pre,hx,g1];simp only [map_cons,List.map_flatten,List.map_map,aEZ];congr 2
  exact List.map_congr_left (fun c hc=>by
   have:= (hp.fine.node _ _ hx).2.2 c hc;exact h.pre hp f c (by omega) (by omega) (by omega))
end
structure MapsOk (p a:Prog) (mf mc:List (Int×Int)) :Prop where
 funs:∀i:Int,0≤i→i<p.funs.length→0≤mAt mf i∧mAt mf i<a.funs.length
 cons:∀ (i:Nat) (d:Con),p.cons[i]?=some d→0≤mAt mc (i:Int) ∧a.cons[(mAt mc (i:Int)).toNat]?=some d
section
variable {p a:Prog} {mf mc:List (Int×Int)}
theorem MapsOk.at (h:MapsOk p a mf mc){n:Int}(h0:0≤n)(h1:n<p.cons.length) :0≤mAt mc n∧mAt mc n<a.cons.length∧gI a.cons (mAt mc n) =gI p.cons n∧a.cons[(mAt mc n).toNat]?=p.cons[n.toNat]?:=by
 have e:p.cons[n.toNat]?=some p.cons[n.toNat] :=List.getElem?_eq_getElem (by omega);obtain⟨g0,g1⟩ :=h.cons n.toNat _ e;rw [show((n.toNat:Nat) :Int) =n by omega]at g0 g1;have:= (List.getElem?_eq_some_iff.1 g1).1;refine⟨g0,by omega,?_,by rw [g1,e]⟩;unfold gI;rw [g1,e]
end
end
end Go.Hb
