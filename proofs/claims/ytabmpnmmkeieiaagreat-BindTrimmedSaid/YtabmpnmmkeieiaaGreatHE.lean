/-
  OWN WORK (V3, V4): a machine on abstract values, its soundness, ways through the text (the ways WRITTEN BY A PROGRAM), plain laws.
-/
import Derived.Test.YtabmpnmmkeieiaaGreatHD
set_option linter.unusedVariables false
set_option linter.unusedSimpArgs false
set_option linter.unusedSectionVars false
set_option maxRecDepth 100000
namespace Go.Hb
section
variable (P :Program)
inductive Ins where
 |run (n:Nat)
 |b (j:Nat) (v:Bool)
 |set (j:Nat) (v:AV)
 |call (v:AV) (h':Hp)
 |callP (ch:List (AV×Bool)) (h':Hp)
 |ans (a:Ans)
 |st (y y':AV)
 |app (zs:List AV) (n:Nat)
 |nilL (j e:Nat)
 |nilI (j e:Nat)
 |frz (j b:Nat) (ys:List AV)
 |cnil (k o e:Nat)
 |cnilI (k o e:Nat)
 |cfrz (k o b:Nat) (ys:List AV)
 |toL (j:Nat) (g:Bool) (cs:List AV)
 |cset (k o:Nat) (v:AV)
 |ctoL (k o:Nat) (g:Bool) (cs:List AV)
 |lset (b:Nat) (xs:List AV)
 |pure (v:AV)
 |throws (ch:List (AV×Bool))
 |mk (n:Nat)
 |reg (is:List RIns)
 |regA (is:List RIns) (os:List (Option Ans))
 |nxt (c d:Nat)
 |nxtE
 |mput (es:List (AV×AV×Nat)) (clock:Nat)
 |mset (b:Nat) (es:List (AV×AV×Nat)) (clock:Nat)
 |lkeep (b:Nat) (js:List Nat)
 |unname (j b:Nat)
 |weak (j:Nat)
 |vfrz (b o:Nat) (ys:List AV)
 |lw (b:Nat) (ys:List AV)
 |mopen (b:Nat)
 |mclose (b:Nat) (es:List (AV×AV×Nat)) (c:Nat) (k v:AV)
 |mfrz (b n:Nat) (ys:List AV)
 |mtoL (b:Nat) (g:Bool) (cs:List AV)
 |call2 (v:AV) (h':Hp)
 |callC (v:AV) (h':Hp)
 |appN (zs:List AV) (n:Nat)
noncomputable section
def aVY (P:Program)(f:Nat)(args:List AV)(h:Hp)(v:AV)(h':Hp) :Prop:=∀ (E:Emb) (w:World) (cargs:List Value),Rel E h w.heap→VRs E args cargs →
 Calls P f ⟨cargs⟩ w fun e w'=>∃cv E',e= .returned cv∧VR E' v cv∧Rel E' h' w'.heap∧Ext E h w E' h' w'
def aBu (P:Program)(f1:Nat)(args:List AV)(f2:Nat)(h:Hp)(v:AV)(h':Hp) :Prop:=∀ (E:Emb) (w:World) (cargs:List Value),Rel E h w.heap→VRs E args cargs →
 Calls P f1 ⟨cargs⟩ w fun e w1=>∃v1,e= .returned v1∧Rel E h w1.heap∧Calls P f2 #[v1] w1 fun e w'=>∃cv E',e= .returned cv∧VR E' v cv∧Rel E' h' w'.heap∧Ext E h w E' h' w'
def aDx (P:Program)(s:AS)(v:AV) :Option (Nat×List AV×Nat×AFrame) :=
 match s.fr.mode,s.fr.todo with
 | .run,.ops all i (o1::o2::rest) ::k=>match bY s.fr.tm all.toList o1,lD P s.h s.fr.tm o1,o1.dst,o2.guard,o2.dst,o2.op with
  | some true,some (.call (.enter f1 args)),some d1,none,some d2,.call c=>match c.callee,c.args.toList with
   | .value (.func f2),[.tmp d] =>bif Nat.beq d d1&&Nat.blt d1 s.fr.nt&&Nat.blt d2 s.fr.nt&&eF P f2 then
     some (f1,args,f2,{s.fr with tm:= (s.fr.tm.del d1).put d2 v,todo:=.ops all (Nat.succ (Nat.succ i)) rest::k})else none
   |_,_=>none
  |_,_,_,_,_,_=>none
 |_,_=>none
def VQ (u:Value)(e:Nat)(xs zs ys:List AV) :Prop:=∀ (E:Emb) (vs:List Value),VR E (.ilst e xs false) u→VRs E zs vs→VRs E ys vs
def VW (xs ys:List AV) :Prop:=∀ (E:Emb) (vs:List Value),VRs E xs vs→VRs E ys vs
def kM (s:AS) :Option Oper:=
 match s.fr.mode,s.fr.todo with
 | .run,.ops all _ (o::_) ::_=>match bY s.fr.tm all.toList o with
  |some true=>some o
  |_=>none
 |_,_=>none
def aBv (s:AS)(v:AV)(h':Hp)(obl:List Prop) :Option (AS×List Prop) :=
 match s.fr.finish v with
 |some fr=>some (⟨fr,s.cs,h'⟩,obl)
 |none=>none
def aDy {α:Type}(t:T α) :List Nat→List (Nat×α)
 | [] =>[]
 | j::js=>match t.at j with
  |some v=> (j,v) ::aDy t js
  |none=>aDy t js
def aCD {α:Type}:List (Nat×α) →T α
 | [] =>.leaf
 |p::r=> (aCD r).put p.1 p.2
def xstep (P:Program)(i:Ins)(s:AS) :Option (AS×List Prop) :=
 match i with
 | .run n=>match aAk P aBs n s with
  |some s'=>some (s',[])
  |none=>none
 | .b j v=>match s.fr.tm.at j with
  |some (.bool b) =>some (⟨{s.fr with tm:=s.fr.tm.put j (.bool v)},s.cs,s.h⟩,[b=v])
  |_=>none
 | .set j v=>match s.fr.tm.at j with
  |some u=>some (⟨{s.fr with tm:=s.fr.tm.put j v},s.cs,s.h⟩,[u=v])
  |none=>none
 | .cset k o v=>match s.h.look k with
  | some (.cells t n ol sup) =>match t.at o with
   |some u=>some (⟨s.fr,s.cs,s.h.set k (.cells (t.put o v) n ol sup)⟩,[u=v])
   |none=>none
  |_=>none
 | .lset b xs=>match s.h.look b with
  |some (.lst e ys) =>some (⟨s.fr,s.cs,s.h.set b (.lst e xs)⟩,[ys=xs])
  |_=>none
 | .call v h'=>match kM s with
  | some o=>match lD P s.h s.fr.tm o with
   |some (.call c) =>aBv s v h' [Spec P c s.h (.ret v) h']
   |_=>none
  |none=>none
 | .callC v h'=>match kM s with
  | some o=>match lD P s.h s.fr.tm o with
   |some (.call (.enter f args)) =>aBv s v h' [aVY P f args s.h v h']
   |_=>none
  |none=>none
 | .call2 v h'=>match aDx P s v with
  |some (f1,args,f2,fr) =>some (⟨fr,s.cs,h'⟩,[aBu P f1 args f2 s.h v h'])
  |none=>none
 | .callP ch h'=>match kM s with
  | some o=>match lD P s.h s.fr.tm o with
   |some (.call c) =>some (⟨s.fr.raise ch,s.cs,h'⟩,[Spec P c s.h (.pan ch) h'])
   |_=>none
  |none=>none
 | .ans a=>match kM s with
  | some o=>match qT P s.h s.fr.tm o a with
   |some (v,ps) =>aBv s v s.h ps
   |none=>none
  |none=>none
 | .pure v=>match kM s with
  | some o=>match lD P s.h s.fr.tm o with
   |some (.call (.enter f args)) =>aBv s v s.h [aE P f args v]
   |_=>none
  |none=>none
 | .throws ch=>match kM s with
  | some o=>match lD P s.h s.fr.tm o with
   |some (.call (.enter f args)) =>some (⟨s.fr.raise ch,s.cs,s.h⟩,[aWv P f args ch])
   |_=>none
  |none=>none
 | .mk n =>match kM s with
  | some o=>match o.op,o.dst with
   | .makeSlice t l c,some d=>match cF s.fr.tm l,cF s.fr.tm c with
    | some (.int _ l),some (.int _ c) =>match P.underlying t with
     | some (.slice el) =>match bG P el,zeroOf P el,P.info? el,P.underlying el with
      | some e,some z,some inf,some ed=>bif Nat.ble e 40&&Nat.ble 1 e&&Nat.beq z.cells.length e&&Nat.ble inf.bytes 1000&&cV z.cells&& (isAggD ed||Nat.beq e 1)then
        match s.fr.finish (.gl s.h.nb e 0 n true)with
        |some fr=>some (⟨fr,s.cs,s.h.new (.lst e (List.replicate n (bif isAggD ed then .agg z.cells else z.cells.headD .undef)))⟩,[l= (n:Int),c= (n:Int),n<100000])
        |none=>none else none
      |_,_,_,_=>none
     |_=>none
    |_,_=>none
   |_,_=>none
  |none=>none
 | .reg is=>match s.fr.mode,s.fr.todo with
  | .run,.code (.region _ ops true) ::k=>match aCO P s.fr.nt ops s.fr.tm s.h is []with
   |some (tm,h',ps) =>some (⟨{s.fr with tm,todo:=k},s.cs,h'⟩,ps)
   |none=>none
  |_,_=>none
 | .regA is os=>match s.fr.mode,s.fr.todo with
  | .run,.code (.region _ ops true) ::k=>match aCO P s.fr.nt ops s.fr.tm s.h is os with
   |some (tm,h',ps) =>some (⟨{s.fr with tm,todo:=k},s.cs,h'⟩,ps)
   |none=>none
  |_,_=>none
 | .nxt c d=>match kM s with
  | some o=>match o.op with
   | .next it true=>match cF s.fr.tm it with
    | some (.ptr r 0) =>match s.h.look r with
     |some (.siter l n pos) =>aBv s (.tup [.bool true,.int .i64 pos,.int .i32 c]) (s.h.set r (.siter l n (Nat.add pos d))) [pos<l,aGM l n pos=some (c,d)]
     |_=>none
    |_=>none
   |_=>none
  |none=>none
 | .nxtE=>match kM s with
  | some o=>match o.op with
   | .next it true=>match cF s.fr.tm it with
    | some (.ptr r 0) =>match s.h.look r with
     |some (.siter l n pos) =>aBv s (.tup [.bool false]) s.h [l≤pos]
     |_=>none
    |_=>none
   |_=>none
  |none=>none
 | .mput es' clock'=>match kM s with
  | some o=>match o.op with
   | .mapUpdate t m k x=>match cF s.fr.tm m,cF s.fr.tm k,cF s.fr.tm x with
    | some (.map r),some k,some v=>match P.underlying t,s.h.look r with
     | some (.map kt _),some (.map es clock) =>match P.underlying kt with
      |some kd=>bif plainKey kd k then aBv s .undef (s.h.set r (.map es' clock')) [jD es clock k v=some (es',clock')]else none
      |none=>none
     |_,_=>none
    |_,_,_=>none
   |_=>none
  |none=>none
 | .mset b es' clock'=>match s.h.look b with
  |some (.map es clock) =>some (⟨s.fr,s.cs,s.h.set b (.map es' clock')⟩,[es=es',clock=clock'])
  |_=>none
 | .st y y'=>match kM s with
  | some o=>match o.op with
   | .store t a x=>match cF s.fr.tm a,cF s.fr.tm x with
    | some (.ep b e i k),some v=>match s.h.look b,bG P t with
     | some (.lst e' xs),some n=>bif Nat.beq e' e&&Nat.beq v.cells.length n&&Nat.ble (k+n) e&&cV v.cells then
       match s.fr.finish .undef with
       |some fr=>some (⟨fr,s.cs,s.h.set b (.lst e (xs.set i y'))⟩,[xs[i]?=some y,jS y k v.cells=some y'])
       |none=>none else none
     |_,_=>none
    |_,_=>none
   |_=>none
  |none=>none
 | .app zs n=>match kM s with
  | some o =>match o.op with
   | .call c=>match c.callee,jA s.fr.tm c.args.toList,c.argTypes[0]?,c.argTypes[1]? with
    | .builtin .append,some [d,x],some st,some xt=>match P.underlying st,P.underlying xt with
     | some (.slice el),some (.slice _) =>match bG P el,P.info? el,zeroOf P el with
      | some e,some inf,some z=>bif Nat.beq z.cells.length e&&Nat.ble e 40&&Nat.ble inf.bytes 1000&&Nat.ble 1 inf.bytes&&Nat.ble 1 e then
       match d with
       | .gl b e' off len _=>match s.h.look b with
        | some (.lst e2 xs) =>bif Nat.beq e' e&&Nat.beq e2 e then
          match uF P s.h el e x with
          |some ys=>aBv s (.gl s.h.nb e 0 n false) ((s.h.del b).new (.lst e zs)) [off+len≤xs.length,n≤1000000,(xs.drop off).take len++ys=zs,len+ys.length=n]
          |none=>none
          else none
        |_=>none
       | .ilst e' [] true=>bif Nat.beq e' e then match uF P s.h el e x with
        |some ys=>aBv s (.gl s.h.nb e 0 n false) (s.h.new (.lst e zs)) [n≤1000000,ys=zs,ys.length=n]
        |none=>none
        else none
       |_=>none
       else none
      |_,_,_=>none
     |_,_=>none
    |_,_,_,_=>none
   |_=>none
  |none=>none
 | .nilL j e=>match s.fr.tm.at j with
  |some .nils=>some (⟨{s.fr with tm:=s.fr.tm.put j (.gl s.h.nb e 0 0 false)},s.cs,s.h.new (.lst e [])⟩,[])
  |_=>none
 | .nilI j e=>match s.fr.tm.at j with
  |some .nils=>some (⟨{s.fr with tm:=s.fr.tm.put j (.ilst e [] true)},s.cs,s.h⟩,[])
  |_=>none
 | .frz j b ys=>match s.fr.tm.at j,s.h.look b with
  |some v,some (.lst e xs) =>some (⟨{s.fr with tm:=s.fr.tm.put j (AV.frz b ys v)},s.cs,s.h.del b⟩,[AV.keylessL xs=true,AV.frzOk b e xs ys v])
  |_,_=>none
 | .cnil k o e=>match s.h.look k with
  | some (.cells t n ol sup) =>match t.at o with
   |some .nils=>bif Nat.blt k s.h.nb then some (⟨s.fr,s.cs,(s.h.new (.lst e [])).set k (.cells (t.put o (.gl s.h.nb e 0 0 false)) n ol sup)⟩,[])else none
   |_=>none
  |_=>none
 | .cnilI k o e=>match s.h.look k with
  | some (.cells t n ol sup) =>match t.at o with
   |some .nils=>some (⟨s.fr,s.cs,s.h.set k (.cells (t.put o (.ilst e [] true)) n ol sup)⟩,[])
   |_=>none
  |_=>none
 | .cfrz k o b ys=>bif Nat.beq k b then none else match s.h.look k,s.h.look b with
  | some (.cells t n ol sup),some (.lst e xs) =>match t.at o with
   |some v=>some (⟨s.fr,s.cs,(s.h.del b).set k (.cells (t.put o (AV.frz b ys v)) n ol sup)⟩,[AV.keylessL xs=true,AV.frzOk b e xs ys v])
   |none=>none
  |_,_=>none
 | .lkeep b js=>match s.h.look b with
  |some (.loop st pe fn tm nt ps aS bd df) =>some (⟨s.fr,s.cs,s.h.set b (.loop st pe fn (aCD (aDy tm js)) nt ps aS bd df)⟩,[])
  |_=>none
 | .weak j=>match s.fr.tm.at j with
  |some (.gl b e o l true) =>some (⟨{s.fr with tm:=s.fr.tm.put j (.gl b e o l false)},s.cs,s.h⟩,[])
  |_=>none
 | .unname j b=>match s.fr.tm.at j,s.h.look b with
  |some (.val u),some (.lstv u' e xs) =>some (⟨{s.fr with tm:=s.fr.tm.put j (.gl b e 0 xs.length false)},s.cs,s.h.set b (.lst e xs)⟩,[u=u'])
  |_,_=>none
 | .vfrz b o ys=>match s.h.look b,s.h.look o with
  |some (.lstv u e xs),some (.lst eo zs) =>bif Nat.beq o b then none else some (⟨s.fr,s.cs,(s.h.del b).set o (.lst eo ys)⟩,[zs≠ [],AV.keylessL xs=true,VQ u e xs zs ys])
  |_,_=>none
 | .mopen b=>match s.h.look b with
  |some (.mapx es c k v) =>some (⟨s.fr,s.cs,s.h.set b (.map (es++ [(k,v,c)]) (Nat.succ c))⟩,[])
  |_=>none
 | .mclose b es c k v=>match s.h.look b with
  |some (.map es' c') =>some (⟨s.fr,s.cs,s.h.set b (.mapx es c k v)⟩,[es'=es++ [(k,v,c)],c'=Nat.succ c,KL es])
  |_=>none
 | .mtoL b g cs=>match s.h.look b with
  | some (.mapx es c k (.slice n 0 n2 c2 e x)) =>bif Nat.beq b n then none else match s.h.look n with
   | some (.cells t2 _ [] false) =>bif g||Nat.beq e 1 then
     some (⟨s.fr,s.cs,(s.h.set n (.lst e (rF g e n2 cs))).set b (.mapx es c k (.gl n e 0 n2 (x&&Nat.beq c2 n2)))⟩,[getCells t2 0 (n2*e) =some cs,cV cs=true])else none
   |_=>none
  |_=>none
 | .mfrz b n ys=>bif Nat.beq b n then none else match s.h.look b,s.h.look n with
  |some (.mapx es c k v),some (.lst e xs) =>some (⟨s.fr,s.cs,(s.h.del n).set b (.map (es++ [(k,AV.frz n ys v,c)]) (Nat.succ c))⟩,[AV.keyless k=true,AV.keylessL xs=true,AV.frzOk n e xs ys v])
  |_,_=>none
 | .appN zs n=>match kM s with
  | some o=>match aHj P s.h s.fr.tm o zs n with
   |some (v,h',ps) =>aBv s v h' ps
   |none=>none
  |none=>none
 | .lw b ys=>match s.h.look b with
  |some (.lst e xs) =>some (⟨s.fr,s.cs,s.h.set b (.lst e ys)⟩,[xs≠ [],VW xs ys])
  |_=>none
 | .toL j g cs=>match s.fr.tm.at j with
  | some (.slice b 0 n c e x) =>match s.h.look b with
   | some (.cells t _ [] false) =>bif g||Nat.beq e 1 then
     some (⟨{s.fr with tm:=s.fr.tm.put j (.gl b e 0 n (x&&Nat.beq c n))},s.cs,s.h.set b (.lst e (rF g e n cs))⟩,[getCells t 0 (n*e) =some cs,cV cs=true])else none
   |_=>none
  |_=>none
 | .ctoL k o g cs=>match s.h.look k with
  | some (.cells t n ol sup) =>match t.at o with
   | some (.slice b 0 n2 c e x) =>bif Nat.beq k b then none else match s.h.look b with
    | some (.cells t2 _ [] false) =>bif g||Nat.beq e 1 then
      some (⟨s.fr,s.cs,(s.h.set b (.lst e (rF g e n2 cs))).set k (.cells (t.put o (.gl b e 0 n2 (x&&Nat.beq c n2))) n ol sup)⟩,[getCells t2 0 (n2*e) =some cs,cV cs=true])else none
    |_=>none
   |_=>none
  |_=>none
def aDz (P:Program) :List Ins→AS→Option (AS×List Prop)
 | [],s=>some (s,[])
 | i::is,s=>match xstep P i s with
  |none=>none
  | some (s',ps) =>match aDz P is s' with
   |none=>none
   |some (s'',qs) =>some (s'',ps++qs)
end
end
def AllP :List Prop→Prop
 | [] =>True
 | [p] =>p
 |p::ps=>p∧AllP ps
theorem AllP.mem :∀ {ps:List Prop},AllP ps→∀p∈ps,p
 | [p],h,q,hq=>by rw [List.mem_singleton]at hq;rw [hq];exact h
 | p::p'::ps,h,q,hq=>by
  rcases List.mem_cons.1 hq with rfl|hq
  ·exact h.1
  ·exact AllP.mem h.2 q hq
variable {P :Program}
theorem jX {call:bZ}{s:AS}{o:Oper}(ho:kM s=some o){v:AV}{h':Hp}(hv:lD P s.h s.fr.tm o=some (.val v h')){fr:AFrame}(hf:s.fr.finish v=some fr) :lW P call s=some ⟨fr,s.cs,h'⟩ :=by
 obtain⟨afr,cs,h⟩ :=s
 obtain⟨fn,tm,nt,todo,defers,mode,kind,ro⟩ :=afr
 simp only at hv hf ⊢
 unfold kM at ho
 simp only at ho
 split at ho
 · rename_i all i o' rest k
   split at ho
   · rename_i hw
     cases ho
     simp only [AFrame.finish]at hf
     split at hf
     · rename_i tm' htm
       cases hf
       simp only [lW,hw,hv,htm]
     ·cases hf
   ·cases ho
 ·cases ho
theorem sW {call:bZ}{s:AS}{o:Oper}(ho:kM s=some o){c:AIn}(hv:lD P s.h s.fr.tm o=some (.call c)){g:AFrame}(hg:gC P s.h c=some g) :lW P call s=some ⟨g,s.fr::s.cs,s.h⟩ :=by
 obtain⟨afr,cs,h⟩ :=s
 obtain⟨fn,tm,nt,todo,defers,mode,kind,ro⟩ :=afr
 simp only at hv hg ⊢
 unfold kM at ho
 simp only at ho
 split at ho
 · rename_i all i o' rest k
   split at ho
   · rename_i hw
     cases ho
     simp only [lW,hw,hv,qN,hg]
   ·cases ho
 ·cases ho
theorem aDA {E:Emb}{h:Hp}{w:World}{fn:FuncId}{tmps:Array Value}{ds:List Deferred}{kd:CallKind}{ro:Option Nat}{todo:List Item}(r:Rel E h w.heap){fr:AFrame}{all:Array Oper}{i:Nat}{o:Oper}{rest:List Oper}{ak:List AItem}(htd:fr.todo= .ops all i (o::rest) ::ak)
  (f:FR E fr (rf fn tmps todo ds kd ro)) (hw:bY fr.tm all.toList o=some true) {g:Nat} {args:List AV} (hop:lD P h fr.tm o=some (.call (.enter g args))) (cs:List Frame) :
  ∃cargs,VRs E args cargs∧step P (lone (rf fn tmps todo ds kd ro) cs w) = .next (lone (Frame.enter P g ⟨cargs⟩ .normal) (rf fn tmps todo ds kd ro::cs) w) :=by
 have ft:=f.todo
 rw [htd]at ft
 obtain⟨it,k,e,i1,i2⟩ :=ft.cons_inv
 simp only at e
 subst e
 obtain⟨rfl,ho,i3⟩ :=aAB i1
 have hwant:∀ {b},bY fr.tm all.toList o=some b→Region.wanted o (yielded all tmps) =b:=fun h=>qQ f.tm h
 have hρ:=TR.reads (E:=E) f.tm fn (.inRegion all (i::List.range' (i+1) rest.length) ::k) ds kd ro (· ∈o.op.operands)
 have hnd:=yV hop
 obtain⟨cargs,h1,h2⟩ :=lH r hρ hop
 exact⟨cargs,h2,yR ho (hwant hw) (.inr hnd) h1⟩
theorem aIV {m:Nat}{s:AS}{o:Oper}(ho:kM s=some o){g:Nat}{args:List AV}(hv:lD P s.h s.fr.tm o=some (.call (.enter g args))){v:AV}{h':Hp}(hc:aVY P g args s.h v h'){fr:AFrame}(hf:s.fr.finish v=some fr) :LeadsM P m s ⟨fr,s.cs,h'⟩ :=fun hm E cf ccs w base ff fs r=>by
 obtain⟨afr,cs,h⟩ :=s
 simp only at hv hc hf ff fs r hm ⊢
 unfold kM at ho
 simp only at ho
 split at ho
 · rename_i all i o' rest k hmd htd
   split at ho
   · rename_i hw
     cases ho
     have e:=ff.run hmd
     have ff0:=ff
     rw [e]at ff
     obtain⟨cargs,h1,h2⟩ :=aDA r htd ff hw hv (ccs++base)
     rw [←e]at h2
     obtain⟨en,w',fr',⟨cv,E',rfl,h3,h4,h5⟩,h6,h7,h8⟩ :=hc E w cargs r h1 (cf:: (ccs++base))
     have h9:=step_leave_returned (cs:=ccs++base) (c:=cf) h8
     have hle:=h5.le
     exact⟨E',_,ccs,w',(Steps.one h2).trans (Steps.trans h6 (.one h9)),lZ hf (ff0.mono hle) h3,fs.mono hle,h4,h5.toM hm⟩
   ·cases ho
 ·cases ho
theorem aIW {m:Nat}{s:AS}{v:AV}{h':Hp}{f1 f2:Nat}{args:List AV}{fr:AFrame}(h2:aDx P s v=some (f1,args,f2,fr))(hc:aBu P f1 args f2 s.h v h') :LeadsM P m s ⟨fr,s.cs,h'⟩ :=fun hm E cf ccs w base ff fs r=>by
 obtain⟨afr,cs,h⟩ :=s
 obtain⟨fn,tm,nt,todo,defers,mode,kind,ro⟩ :=afr
 simp only at hc ff fs r hm ⊢
 unfold aDx at h2
 simp only at h2
 split at h2
 · rename_i all i o1 o2 rest k
   split at h2
   · rename_i f1' args' d1 d2 c hw hop hd1 hg2 hd2 hc2
     split at h2
     · rename_i f2' d hcal hca
       cases hb: (Nat.beq d d1&&Nat.blt d1 nt&&Nat.blt d2 nt&&eF P f2')with
       |false=>rw [hb]at h2;cases h2
       | true=>
        rw [hb]at h2;simp only [cond]at h2
        cases h2
        simp only [Bool.and_eq_true]at hb
        obtain⟨⟨⟨b1,b2⟩,b3⟩,b4⟩ :=hb
        have b1:=Nat.eq_of_beq_eq_true b1
        subst b1
        have e:=ff.run rfl
        have ff0:=ff
        rw [e]at ff
        obtain⟨cargs,h1,s1⟩ :=aDA r rfl ff hw hop (ccs++base)
        rw [←e]at s1
        obtain⟨en,w1,fr1,⟨v1,rfl,r1,hc'⟩,s2,_,g2⟩ :=hc E w cargs r h1 (cf:: (ccs++base))
        have s3:=step_leave_returned (cs:=ccs++base) (c:=cf) g2
        have hf1:AFrame.finish ⟨fn,tm,nt,.ops all i (o1::o2::rest) ::k,defers,.run,kind,ro⟩ (.val v1) =some ⟨fn,tm.put d (.val v1),nt,.ops all (Nat.succ i) (o2::rest) ::k,defers,.run,kind,ro⟩ :=by
         simp only [AFrame.finish,jB,hd1,b2,cond]
        have ff1:=lZ hf1 ff0 (show VR E (.val v1) v1 by simp only [VR])
        have hv1: (tm.put d (.val v1)).at d=some (.val v1) :=by rw [T.at_put,if_pos rfl]
        have hw2:bY (tm.put d (.val v1)) all.toList o2=some true:=by simp only [bY,hg2]
        have hop2:lD P h (tm.put d (.val v1)) o2=some (.call (.enter f2 [.val v1])) :=by
         unfold lD
         simp only [kL,hc2,uD,hca,jA,cF,hv1,hcal,sA,uC,b4,cond,List.nil_append,List.append_nil]
        have e1:=ff1.run rfl
        have ff2:=ff1
        rw [e1]at ff1
        obtain⟨cargs2,h3,s4⟩ :=aDA r1 rfl ff1 hw2 hop2 (ccs++base)
        rw [←e1]at s4
        obtain⟨u,us,rfl,q1,q2⟩ :=h3.cons_inv
        simp only [VR]at q1
        subst q1
        have:=q2.nil_inv
        subst this
        obtain⟨en,w',fr',⟨cv,E',rfl,k3,k4,k5⟩,s5,_,g5⟩ :=hc' (cf.finish u:: (ccs++base))
        have s6:=step_leave_returned (cs:=ccs++base) (c:=cf.finish u) g5
        have hle:=k5.le
        have hf2:AFrame.finish ⟨fn,tm.put d (.val u),nt,.ops all (Nat.succ i) (o2::rest) ::k,defers,.run,kind,ro⟩ v=some ⟨fn,(tm.put d (.val u)).put d2 v,nt,.ops all (Nat.succ (Nat.succ i)) rest::k,defers,.run,kind,ro⟩ :=by
         simp only [AFrame.finish,jB,hd2,b3,cond]
        have ff3:=lZ hf2 (ff2.mono hle) k3
        refine⟨E',_,ccs,w',(Steps.one s1).trans (Steps.trans s2 ((Steps.one s3).trans ((Steps.one s4).trans (Steps.trans s5 (.one s6))))),⟨ff3.fn,⟨ff3.tm.1,fun t a ea=>ff3.tm.2 t a ?_⟩,ff3.todo,ff3.defers,ff3.mode,ff3.kind,ff3.round⟩,fs.mono hle,k4,k5.toM hm⟩
        simp only at ea ⊢
        rw [T.at_put]at ea ⊢
        split
        ·rename_i ht;rw [if_pos ht]at ea;exact ea
        · rename_i ht
          rw [if_neg ht,T.at_del]at ea
          rw [T.at_put]
          split at ea
          ·cases ea
          ·rename_i hd;rw [if_neg hd];exact ea
     ·cases h2
   ·cases h2
 ·cases h2
theorem jY {s s':AS}{v:AV}{h':Hp}{obl ps:List Prop}(hg:aBv s v h' obl=some (s',ps)) :∃fr,s.fr.finish v=some fr∧s'= ⟨fr,s.cs,h'⟩ ∧ps=obl:=by
 unfold aBv at hg
 split at hg
 ·rename_i fr hf;cases hg;exact⟨fr,hf,rfl,rfl⟩
 ·cases hg
theorem put_same {α:Type}{t:T α}{k:Nat}{v:α}(h:t.at k=some v) :∀j,(t.put k v).at j=t.at j:=fun j=>by
 rw [T.at_put];split
 ·rename_i e;rw [e,h]
 ·rfl
theorem aTR {E:Emb}{fr:AFrame}{c:Frame}(f:FR E fr c){j:Nat}{v:AV}(h:fr.tm.at j=some v) :FR E {fr with tm:=fr.tm.put j v} c:=
 ⟨f.fn,⟨f.tm.1,fun t a e=>f.tm.2 t a (by rw [←put_same h t];exact e)⟩,f.todo,f.defers,f.mode,f.kind,f.round⟩
theorem aDB {m:Nat}{fr:AFrame}{cs:List AFrame}{h:Hp}{j:Nat}{v:AV}(hj:fr.tm.at j=some v) :LeadsM P m ⟨fr,cs,h⟩ ⟨{fr with tm:=fr.tm.put j v},cs,h⟩ :=
 fun hm E cf ccs w _ f fs r=> ⟨E,cf,ccs,w,Steps.refl _ _,aTR f hj,fs,r,ExtM.refl hm⟩
theorem yG {h:Hp}{b:Nat}{o:AObj}(hb:h.look b=some o) :∀x,(h.set b o).look x=h.look x:=fun x=>by
 rw [bL];split
 ·rename_i e;rw [e,hb]
 ·rfl
theorem yX {m:Nat}{fr:AFrame}{cs:List AFrame}{h h':Hp}(hl:∀x o,h'.look x=some o→h.look x=some o)(hn:h'.nb=h.nb) :LeadsM P m ⟨fr,cs,h⟩ ⟨fr,cs,h'⟩ :=
 fun hm E cf ccs w _ f fs r=> ⟨E,cf,ccs,w,Steps.refl _ _,f,fs,r.sub hl (Nat.le_of_eq hn.symm),⟨fun _ _=>rfl,fun _ _ e=>e,Nat.le_refl _,fun _ _ _=>rfl,fun b o L e k _=> ⟨b,o,L,hl b o e,k,rfl⟩,by rw [hn];exact hm,rfl,rfl,rfl,fun _ _=>rfl,fun _ _ e _=>.inl e,fun b o e _=> ⟨o,hl b o e⟩⟩⟩
theorem aQR {m:Nat}{fr:AFrame}{cs:List AFrame}{h:Hp}{tm':T AV}(ht:∀t a,tm'.at t=some a→fr.tm.at t=some a) :LeadsM P m ⟨fr,cs,h⟩ ⟨{fr with tm:=tm'},cs,h⟩ :=
 fun hm E cf ccs w _ f fs r=> ⟨E,cf,ccs,w,Steps.refl _ _,⟨f.fn,⟨f.tm.1,fun t a e=>f.tm.2 t a (ht t a e)⟩,f.todo,f.defers,f.mode,f.kind,f.round⟩,fs,r,ExtM.refl hm⟩
theorem aQS {m n:Nat}{s:AS}{o:Oper}(ho:kM s=some o){t:TypeId}{l c:Operand}{d:Nat}(hop:o.op= .makeSlice t l c)(hdst:o.dst=some d){k1 k2:IntKind}(hl:cF s.fr.tm l=some (.int k1 n))(hc:cF s.fr.tm c=some (.int k2 n)){el:TypeId}(hu:P.underlying t=some (.slice el))
  {e:Nat} (hsz:bG P el=some e) {z:AV} (hz:zeroOf P el=some z) {inf:TypeInfo} (hinf:P.info? el=some inf) {ed:TypeDesc} (_hed:P.underlying el=some ed) (hcd: (Nat.ble e 40&&Nat.ble 1 e&&Nat.beq z.cells.length e&&Nat.ble inf.bytes 1000) =true) (h1:cV z.cells=true) (hg:isAggD ed=true∨Nat.beq e 1=true) (hn:n<100000)
  {fr:AFrame} (hf:s.fr.finish (.gl s.h.nb e 0 n true) =some fr) :LeadsM P m s ⟨fr,s.cs,s.h.new (.lst e (List.replicate n (bif isAggD ed then .agg z.cells else z.cells.headD .undef)))⟩ :=by
 have hzl:z.cells.length=e:=by simp only [Bool.and_eq_true]at hcd;exact Nat.eq_of_beq_eq_true hcd.1.2
 have hv:lD P s.h s.fr.tm o=some (.val (.slice s.h.nb 0 n n e true) (s.h.newCells (mJ z.cells n))) :=by
  unfold lD
  have hcd': (Nat.ble e 40&&Nat.ble 1 e&&Nat.beq z.cells.length e&&Nat.ble inf.bytes 1000) =true:=hcd
  simp only [kL,hop,ev2,hl,hc,hu,hsz,hz,hinf,hcd',cond]
  rw [if_pos ⟨by omega,Int.le_refl _,by omega⟩]
  rfl
 obtain ⟨fr0,hf0,hfr⟩ :∃fr0,s.fr.finish (.slice s.h.nb 0 n n e true) =some fr0∧∃tm0,d<s.fr.nt∧tm0=s.fr.tm∧fr0.tm=tm0.put d (.slice s.h.nb 0 n n e true) ∧fr= {fr0 with tm:=tm0.put d (.gl s.h.nb e 0 n true)}:=by
  unfold kM at ho
  split at ho
  · rename_i all i o' rest k hm htd
    split at ho
    · cases ho
      unfold AFrame.finish at hf ⊢
      rw [htd]at hf ⊢
      simp only [hdst,jB]at hf ⊢
      cases hb:Nat.blt d s.fr.nt with
      |false=>rw [hb]at hf;cases hf
      | true=>
       rw [hb]at hf
       simp only [cond]at hf ⊢
       cases hf
       exact⟨_,rfl,s.fr.tm,by rw [dH]at hb;exact of_decide_eq_true hb,rfl,rfl,rfl⟩
    ·cases ho
  ·cases ho
 obtain⟨tm0,hd,_,e1,e2⟩ :=hfr
 have hrl: (mJ z.cells n).length=n*e:=by rw [nN,hzl]
 have hlook: (s.h.newCells (mJ z.cells n)).look s.h.nb=some (.cells (putCells .leaf 0 (mJ z.cells n)) (mJ z.cells n).length [] false) :=by
  unfold Hp.newCells;rw [dD,if_pos rfl]
 have hget:getCells (putCells .leaf 0 (mJ z.cells n)) 0 (n*e) =some (mJ z.cells n) :=by
  rw [←hrl]
  exact aAG _ _ _ (fun j hj=>by rw [Nat.zero_add,dX,if_pos hj])
 have step1:=dZ (P:=P) (m:=m) cX (jX (call:=aBs) ho hv hf0)
 have step2:=kS (P:=P) (m:=m) (fr:=fr0) (cs:=s.cs) (h:=s.h.newCells (mJ z.cells n)) (j:=d) (by rw [e1,T.at_put,if_pos rfl]) (wV (m:=m) (c:=n) (x:=true) (g:=isAggD ed) hlook hget (aB9 h1 n) (fun hgf=>by
  rcases hg with g|g
  ·rw [hgf]at g;cases g
  ·exact Nat.eq_of_beq_eq_true g))
 refine(step1.trans step2).trans ?_
 rw [aDw (isAggD ed) hzl n]
 have hbeq: (true&&Nat.beq n n) =true:=by simp
 rw [hbeq]
 have a:=yX (P:=P) (m:=m) (fr:={fr0 with tm:=fr0.tm.put d (.gl s.h.nb e 0 n true)}) (cs:=s.cs) (h:= (s.h.newCells (mJ z.cells n)).set s.h.nb (.lst e (List.replicate n (bif isAggD ed then .agg z.cells else z.cells.headD .undef)))) (h':=s.h.new (.lst e (List.replicate n (bif isAggD ed then .agg z.cells else z.cells.headD .undef)))) (fun x ox ex=>by
  rw [dD]at ex
  rw [bL]
  unfold Hp.newCells
  rw [dD]
  by_cases hx:x=s.h.nb
  ·rw [if_pos hx]at ex ⊢;exact ex
  ·rw [if_neg hx]at ex ⊢;rw [if_neg hx];exact ex) rfl
 refine a.trans ?_
 rw [e2]
 exact aQR (P:=P) (fr:={fr0 with tm:=fr0.tm.put d (.gl s.h.nb e 0 n true)}) (tm':=tm0.put d (.gl s.h.nb e 0 n true)) (fun t a ha=>by
  show(fr0.tm.put d (.gl s.h.nb e 0 n true)).at t=some a
  rw [e1,T.at_put]
  rw [T.at_put]at ha
  split at ha
  ·rename_i ht;rw [if_pos ht];exact ha
  ·rename_i ht;rw [if_neg ht,T.at_put,if_neg ht];exact ha)
theorem aLN {h:Hp}{ats:Array TypeId}{b e off len:Nat}{ex:Bool}{x:AV}:aappend P h ats (.gl b e off len ex) x=none:=by
 unfold aappend
 simp only [cond_eq_ite]
 repeat' split
 all_goals first|rfl| (split<;>rfl)
theorem aHr {h:Hp}{ats:Array TypeId}{e:Nat}{xs:List AV}{ex:Bool}{x:AV}:aappend P h ats (.ilst e xs ex) x=none:=by
 unfold aappend
 simp only [cond_eq_ite]
 repeat' split
 all_goals first|rfl| (split<;>rfl)
set_option maxHeartbeats 2000000 in
theorem aCP {α:Type}:∀ {l:List (Nat×α)} {k:Nat} {v:α},(aCD l).at k=some v→ (k,v) ∈l
 | [],k,v,h=>by rw [aCD,T.at_leaf]at h;cases h
 | (j,u) ::r,k,v,h=>by
  rw [aCD,T.at_put]at h
  split at h
  ·rename_i hk;cases h;subst hk;exact List.mem_cons_self ..
  ·exact List.mem_cons_of_mem _ (aCP h)
theorem rO {α:Type}{t:T α}:∀ {js:List Nat} {k:Nat} {v:α},(k,v) ∈aDy t js→t.at k=some v
 | [],_,_,h=>by cases h
 | j ::js,k,v,h=>by
  simp only [aDy]at h
  split at h
  · rename_i u hu
    rcases List.mem_cons.1 h with e|h
    ·cases e;exact hu
    ·exact rO h
  ·exact rO h
theorem aIX {i:Ins}{s s':AS}{ps:List Prop}{m:Nat}(h0:xstep P i s=some (s',ps))(hp:∀p∈ps,p) :LeadsM P m s s':=by
 cases i with
 | run n=>
  simp only [xstep]at h0
  split at h0
  · rename_i s1 h1
    cases h0
    rw [yW]at h1
    exact(vH cX h1).toM
  ·cases h0
 | weak j=>
  simp only [xstep]at h0
  split at h0
  · rename_i b e o l hj
    cases h0
    exact kS hj aLK
  ·cases h0
 | unname j b=>
  simp only [xstep]at h0
  split at h0
  · rename_i u u' e xs hj hb
    cases h0
    have q0:=mem1 hp
    subst q0
    exact kS hj (aHp hb)
  ·cases h0
 | vfrz b o ys=>
  simp only [xstep]at h0
  split at h0
  · rename_i u e xs eo zs hb ho
    cases hne:Nat.beq o b with
    |true=>rw [hne]at h0;cases h0
    | false=>
     rw [hne]at h0;simp only [cond]at h0
     cases h0
     have q0:=hp _ (List.mem_cons_self ..)
     have q1:=hp _ (List.mem_cons_of_mem _ (List.mem_cons_self ..))
     have q2:=hp _ (List.mem_cons_of_mem _ (List.mem_cons_of_mem _ (List.mem_cons_self ..)))
     refine aLL hb ho (fun e=>?_) q0 q1 q2
     rw [e,Nat.beq_refl]at hne;cases hne
  ·cases h0
 | appN zs n=>
  simp only [xstep]at h0
  split at h0
  · rename_i o ho
    split at h0
    · rename_i v h' qs hv
      obtain⟨fr,hf,rfl,rfl⟩ :=jY h0
      exact dZ cX (jX ho (aAE hv hp) hf)
    ·cases h0
  ·cases h0
 | mopen b=>
  simp only [xstep]at h0
  split at h0
  · rename_i es c k v hb
    cases h0
    exact aIT hb
  ·cases h0
 | mclose b es c k v=>
  simp only [xstep]at h0
  split at h0
  · rename_i es' c' hb
    cases h0
    exact aHq hb (hp _ (List.mem_cons_self ..)) (hp _ (List.mem_cons_of_mem _ (List.mem_cons_self ..))) (hp _ (List.mem_cons_of_mem _ (List.mem_cons_of_mem _ (List.mem_cons_self ..))))
  ·cases h0
 | mtoL b g cs=>
  simp only [xstep]at h0
  split at h0
  · rename_i es c k n n2 c2 e x hb
    cases hkb:Nat.beq b n with
    |true=>rw [hkb]at h0;cases h0
    | false=>
     rw [hkb]at h0;simp only [cond]at h0
     have hne:b≠n:=fun e=>by subst e;simp at hkb
     split at h0
     · rename_i t2 k2 hn
       cases hc: (g||Nat.beq e 1)with
       |false=>rw [hc]at h0;cases h0
       | true=>
        rw [hc]at h0;simp only at h0;cases h0
        exact aIU hb (by rw [bL,if_neg hne];exact hb) (wV hn (hp _ (List.mem_cons_self ..)) (hp _ (List.mem_cons_of_mem _ (List.mem_cons_self ..))) (fun hg=>by subst hg;simp only [Bool.false_or]at hc;exact Nat.eq_of_beq_eq_true hc))
     ·cases h0
  ·cases h0
 | mfrz b n ys=>
  simp only [xstep]at h0
  cases hc:Nat.beq b n with
  |true=>rw [hc]at h0;cases h0
  | false=>
   rw [hc]at h0;simp only [cond]at h0
   have hne:b≠n:=fun e=>by subst e;simp at hc
   split at h0
   · rename_i es c k v e xs hb hn
     cases h0
     exact aLM hb (by rw [nM,if_neg hne];exact hb) (wU hn (hp _ (List.mem_cons_of_mem _ (List.mem_cons_self ..))) (hp _ (List.mem_cons_of_mem _ (List.mem_cons_of_mem _ (List.mem_cons_self ..))))) (hp _ (List.mem_cons_self ..))
   ·cases h0
 | lw b ys=>
  simp only [xstep]at h0
  split at h0
  · rename_i e xs hb
    cases h0
    have q0:=hp _ (List.mem_cons_self ..)
    have q1:=hp _ (List.mem_cons_of_mem _ (List.mem_cons_self ..))
    exact aQO hb q0 q1
  ·cases h0
 | lkeep b js=>
  simp only [xstep]at h0
  split at h0
  · rename_i st pe fn tm nt ps aS bd df hb
    cases h0
    intro hm E cf ccs w base f fs r
    refine⟨E,cf,ccs,w,Steps.refl _ _,f,fs,r.reobj hb rfl (fun L hL=>?_) rfl rfl rfl,mA (ExtM.refl hm) hb⟩
    obtain⟨tmps,Ld,h1,h2,h3⟩ :=r.objL hb hL
    exact⟨tmps,Ld,h1,h2,h3.1,fun t a e=>h3.2 t a (rO (aCP e))⟩
  ·cases h0
 | b j v=>
  simp only [xstep]at h0
  split at h0
  · rename_i b hb
    cases h0
    have:=mem1 hp
    subst this
    exact aDB hb
  ·cases h0
 | set j v=>
  simp only [xstep]at h0
  split at h0
  · rename_i u hu
    cases h0
    have:=mem1 hp
    subst this
    exact aDB hu
  ·cases h0
 | cset k o v=>
  simp only [xstep]at h0
  split at h0
  · rename_i t n ol sup hk
    split at h0
    · rename_i u hu
      cases h0
      have:=mem1 hp
      subst this
      exact pE hk hk hu (aFI fun _ _ h=>h)
    ·cases h0
  ·cases h0
 | lset b xs=>
  simp only [xstep]at h0
  split at h0
  · rename_i e ys hb
    cases h0
    have:=mem1 hp
    subst this
    exact yX (fun x o e=>by rw [yG hb]at e;exact e) rfl
  ·cases h0
 | call v h'=>
  simp only [xstep]at h0
  split at h0
  · rename_i o ho
    split at h0
    · rename_i c hc
      unfold aBv at h0
      split at h0
      · rename_i fr hf
        cases h0
        obtain⟨g,hg,he⟩ :=mem1 hp
        exact yF (dZ cX (sW ho hc hg)) he hf
      ·cases h0
    ·cases h0
  ·cases h0
 | callC v h'=>
  simp only [xstep]at h0
  split at h0
  · rename_i o ho
    split at h0
    · rename_i f args hc
      obtain⟨fr,hf,rfl,rfl⟩ :=jY h0
      exact aIV ho hc (mem1 hp) hf
    ·cases h0
  ·cases h0
 | call2 v h'=>
  simp only [xstep]at h0
  split at h0
  · rename_i f1 args f2 fr h2
    cases h0
    exact aIW h2 (mem1 hp)
  ·cases h0
 | callP ch h'=>
  simp only [xstep]at h0
  split at h0
  · rename_i o ho
    split at h0
    · rename_i c hc
      cases h0
      obtain⟨g,hg,he⟩ :=mem1 hp
      exact vI (dZ cX (sW ho hc hg)) he
    ·cases h0
  ·cases h0
 | ans a=>
  simp only [xstep]at h0
  split at h0
  · rename_i o ho
    split at h0
    · rename_i v qs hv
      obtain⟨fr,hf,rfl,rfl⟩ :=jY h0
      exact dZ cX (jX ho (oL hv hp) hf)
    ·cases h0
  ·cases h0
 | pure v=>
  simp only [xstep]at h0
  split at h0
  · rename_i o ho
    split at h0
    · rename_i f args hc
      obtain⟨fr,hf,rfl,rfl⟩ :=jY h0
      obtain⟨g,hg,he⟩ :=mem1 hp s.h
      exact yF (dZ cX (sW ho hc hg)) he hf
    ·cases h0
  ·cases h0
 | throws ch=>
  simp only [xstep]at h0
  split at h0
  · rename_i o ho
    split at h0
    · rename_i f args hc
      cases h0
      obtain⟨g,hg,he⟩ :=mem1 hp s.h
      exact vI (dZ cX (sW ho hc hg)) he
    ·cases h0
  ·cases h0
 | mk n =>
  simp only [xstep]at h0
  split at h0
  · rename_i o ho
    split at h0
    · rename_i t l c d hop hdst
      split at h0
      · rename_i k1 l' k2 c' hl hc
        split at h0
        · rename_i el hu
          split at h0
          · rename_i e z inf ed hsz hz hinf hed
            cases hcd: (Nat.ble e 40&&Nat.ble 1 e&&Nat.beq z.cells.length e&&Nat.ble inf.bytes 1000&&cV z.cells&& (isAggD ed||Nat.beq e 1))with
            |false=>rw [hcd]at h0;cases h0
            | true=>
             rw [hcd]at h0;simp only [cond]at h0
             split at h0
             · rename_i fr hf
               cases h0
               have q1:=hp _ (List.mem_cons_self ..)
               have q2:=hp _ (List.mem_cons_of_mem _ (List.mem_cons_self ..))
               have q3:=hp _ (List.mem_cons_of_mem _ (List.mem_cons_of_mem _ (List.mem_cons_self ..)))
               subst q1 q2
               simp only [Bool.and_eq_true,Bool.or_eq_true]at hcd
               obtain⟨⟨⟨⟨⟨c1,c2⟩,c3⟩,c4⟩,c5⟩,c6⟩ :=hcd
               exact aQS ho hop hdst hl hc hu hsz hz hinf hed (by simp [c1,c2,c3,c4]) c5 c6 q3 hf
             ·cases h0
          ·cases h0
        ·cases h0
      ·cases h0
    ·cases h0
  ·cases h0
 | reg is=>
  simp only [xstep]at h0
  split at h0
  · rename_i id ops k hm htd
    split at h0
    · rename_i tm h' qs hr
      cases h0
      exact aAF hm htd hr hp
    ·cases h0
  ·cases h0
 | regA is os=>
  simp only [xstep]at h0
  split at h0
  · rename_i id ops k hm htd
    split at h0
    · rename_i tm h' qs hr
      cases h0
      exact aAF hm htd hr hp
    ·cases h0
  ·cases h0
 | nxt c d =>
  simp only [xstep]at h0
  split at h0
  · rename_i o ho
    split at h0
    · rename_i it hop
      split at h0
      · rename_i r hr
        split at h0
        · rename_i l n pos hb
          obtain⟨fr,hf,rfl,rfl⟩ :=jY h0
          have q0:=hp _ (List.mem_cons_self ..)
          have q1:=hp _ (List.mem_cons_of_mem _ (List.mem_cons_self ..))
          refine dZ cX (jX ho ?_ hf)
          have hbl:Nat.blt pos l=true:=by rw [dH];exact decide_eq_true q0
          unfold lD
          simp only [kL,hop,wM,hr,hb,hbl,cond,q1]
        ·cases h0
      ·cases h0
    ·cases h0
  ·cases h0
 | nxtE =>
  simp only [xstep]at h0
  split at h0
  · rename_i o ho
    split at h0
    · rename_i it hop
      split at h0
      · rename_i r hr
        split at h0
        · rename_i l n pos hb
          obtain⟨fr,hf,rfl,rfl⟩ :=jY h0
          have q0:=mem1 hp
          refine dZ cX (jX ho ?_ hf)
          have hbl:Nat.blt pos l=false:=by rw [dH];exact decide_eq_false (by omega)
          unfold lD
          simp only [kL,hop,wM,hr,hb,hbl,cond]
        ·cases h0
      ·cases h0
    ·cases h0
  ·cases h0
 | mput es' clock'=>
  simp only [xstep]at h0
  split at h0
  · rename_i o ho
    split at h0
    · rename_i t m k x hop
      split at h0
      · rename_i r kv v hm hk hx
        split at h0
        · rename_i kt et es clock hu hb
          split at h0
          · rename_i kd hkd
            cases hc:plainKey kd kv with
            |false=>rw [hc]at h0;cases h0
            | true=>
             rw [hc]at h0;simp only [cond]at h0
             obtain⟨fr,hf,rfl,rfl⟩ :=jY h0
             have q:=mem1 hp
             refine dZ cX (jX ho ?_ hf)
             unfold jD at q
             unfold lD
             simp only [kL,hop,ev2,wM,hm,hk,hx,oV,hu,hkd,hb,hc,cond]
             split at q
             · rename_i i w hfk
               cases q
               simp only [hfk,aAi]
             · rename_i hfk
               cases q
               simp only [hfk,aAi]
             ·cases q
          ·cases h0
        ·cases h0
      ·cases h0
    ·cases h0
  ·cases h0
 | mset b es' clock'=>
  simp only [xstep]at h0
  split at h0
  · rename_i es clock hb
    cases h0
    have q0:=hp _ (List.mem_cons_self ..)
    have q1:=hp _ (List.mem_cons_of_mem _ (List.mem_cons_self ..))
    subst q0 q1
    exact yX (fun x o e=>by rw [yG hb]at e;exact e) rfl
  ·cases h0
 | st y y' =>
  simp only [xstep]at h0
  split at h0
  · rename_i o ho
    split at h0
    · rename_i t a x hop
      split at h0
      · rename_i b e i k v ha hx
        split at h0
        · rename_i e' xs n hb hn
          cases hc: (Nat.beq e' e&&Nat.beq v.cells.length n&&Nat.ble (k+n) e&&cV v.cells)with
          |false=>rw [hc]at h0;cases h0
          | true=>
           rw [hc]at h0;simp only [cond]at h0
           split at h0
           · rename_i fr hf
             cases h0
             have q0:=hp _ (List.mem_cons_self ..)
             have q1:=hp _ (List.mem_cons_of_mem _ (List.mem_cons_self ..))
             refine dZ cX (jX ho (eT ?_ ?_) hf)
             ·simp only [kL,hop,ev2,ha,hx]
             ·simp only [vop,hop,ev2,ha,hx,hb,hn,hc,cond,q0,q1]
           ·cases h0
        ·cases h0
      ·cases h0
    ·cases h0
  ·cases h0
 | app zs n =>
  simp only [xstep]at h0
  split at h0
  · rename_i o ho
    split at h0
    · rename_i c hop
      split at h0
      · rename_i d x st xt hcal hargs hst hxt
        split at h0
        · rename_i el el' hu hu'
          split at h0
          · rename_i e inf z hsz hinf hz
            cases hc: (Nat.beq z.cells.length e&&Nat.ble e 40&&Nat.ble inf.bytes 1000&&Nat.ble 1 inf.bytes&&Nat.ble 1 e)with
            |false=>rw [hc]at h0;cases h0
            | true =>
             rw [hc]at h0;simp only [cond]at h0
             split at h0
             · rename_i b e' off len ex
               split at h0
               · rename_i e2 xs hb
                 cases hc2: (Nat.beq e' e&&Nat.beq e2 e)with
                 |false=>rw [hc2]at h0;cases h0
                 | true=>
                  rw [hc2]at h0;simp only at h0
                  simp only [Bool.and_eq_true]at hc2
                  have ee1:=Nat.eq_of_beq_eq_true hc2.1
                  have ee2:=Nat.eq_of_beq_eq_true hc2.2
                  split at h0
                  · rename_i ys y1
                    obtain⟨fr,hf,rfl,rfl⟩ :=jY h0
                    have y2:=hp _ (List.mem_cons_self ..)
                    have y3:=hp _ (List.mem_cons_of_mem _ (List.mem_cons_self ..))
                    have y4:=hp _ (List.mem_cons_of_mem _ (List.mem_cons_of_mem _ (List.mem_cons_self ..)))
                    have y5:=hp _ (List.mem_cons_of_mem _ (List.mem_cons_of_mem _ (List.mem_cons_of_mem _ (List.mem_cons_self ..))))
                    subst y4 y5
                    refine dZ cX (jX ho (eT ?_ ?_) hf)
                    ·simp only [kL,hop,uD,hargs,hcal,kK,aLN]
                    · simp only [vop,hop,hcal,hargs,pT,hst,hxt,hu,hu',hsz,hinf,hz,y1,hc,cond,hb,aGL]
                      rw [if_pos ⟨ee1,ee2,y2,y3⟩]
                  ·cases h0
               ·cases h0
             · rename_i e'
               cases hc2:Nat.beq e' e with
               |false=>rw [hc2]at h0;cases h0
               | true=>
                rw [hc2]at h0;simp only at h0
                have ee1:=Nat.eq_of_beq_eq_true hc2
                split at h0
                · rename_i ys y1
                  obtain⟨fr,hf,rfl,rfl⟩ :=jY h0
                  have y2:=hp _ (List.mem_cons_self ..)
                  have y3:=hp _ (List.mem_cons_of_mem _ (List.mem_cons_self ..))
                  have y4:=hp _ (List.mem_cons_of_mem _ (List.mem_cons_of_mem _ (List.mem_cons_self ..)))
                  subst y3 y4
                  refine dZ cX (jX ho (eT ?_ ?_) hf)
                  ·simp only [kL,hop,uD,hargs,hcal,kK,aHr]
                  · simp only [vop,hop,hcal,hargs,pT,hst,hxt,hu,hu',hsz,hinf,hz,y1,hc,cond,aGL]
                    rw [if_pos ⟨ee1,y2⟩]
                ·cases h0
             ·cases h0
          ·cases h0
        ·cases h0
      ·cases h0
    ·cases h0
  ·cases h0
 | nilL j e=>
  simp only [xstep]at h0
  split at h0
  ·rename_i hj;cases h0;exact kS hj (aFJ e)
  ·cases h0
 | nilI j e=>
  simp only [xstep]at h0
  split at h0
  ·rename_i hj;cases h0;exact kS hj (aDu e)
  ·cases h0
 | frz j b ys=>
  simp only [xstep]at h0
  split at h0
  · rename_i v e xs hj hb
    cases h0
    exact kS hj (wU hb (hp _ (List.mem_cons_self ..)) (hp _ (List.mem_cons_of_mem _ (List.mem_cons_self ..))))
  ·cases h0
 | cnil k o e=>
  simp only [xstep]at h0
  split at h0
  · rename_i t n ol sup hk
    split at h0
    · rename_i hv
      cases hc:Nat.blt k s.h.nb with
      |false=>rw [hc]at h0;cases h0
      | true=>
       rw [hc]at h0;simp only [cond]at h0;cases h0
       rw [dH]at hc
       have:=of_decide_eq_true hc
       exact pE hk (by rw [dD,if_neg (by omega)];exact hk) hv (aFJ e)
    ·cases h0
  ·cases h0
 | cnilI k o e=>
  simp only [xstep]at h0
  split at h0
  · rename_i t n ol sup hk
    split at h0
    ·rename_i hv;cases h0;exact pE hk hk hv (aDu e)
    ·cases h0
  ·cases h0
 | cfrz k o b ys=>
  simp only [xstep]at h0
  cases hc:Nat.beq k b with
  |true=>rw [hc]at h0;cases h0
  | false=>
   rw [hc]at h0;simp only [cond]at h0
   have hne:k≠b:=fun e=>by subst e;simp at hc
   split at h0
   · rename_i t n ol sup e xs hk hb
     split at h0
     · rename_i v hv
       cases h0
       exact pE hk (by rw [nM,if_neg hne];exact hk) hv (wU hb (hp _ (List.mem_cons_self ..)) (hp _ (List.mem_cons_of_mem _ (List.mem_cons_self ..))))
     ·cases h0
   ·cases h0
 | ctoL k o g cs=>
  simp only [xstep]at h0
  split at h0
  · rename_i t n ol sup hk
    split at h0
    · rename_i b n2 c e x hv
      cases hkb:Nat.beq k b with
      |true=>rw [hkb]at h0;cases h0
      | false=>
       rw [hkb]at h0;simp only [cond]at h0
       have hne:k≠b:=fun e=>by subst e;simp at hkb
       split at h0
       · rename_i t2 k2 hb
         cases hc: (g||Nat.beq e 1)with
         |false=>rw [hc]at h0;cases h0
         | true=>
          rw [hc]at h0;simp only at h0;cases h0
          exact pE hk (by rw [bL,if_neg hne];exact hk) hv (wV hb (hp _ (List.mem_cons_self ..)) (hp _ (List.mem_cons_of_mem _ (List.mem_cons_self ..))) (fun hg=>by subst hg;simp only [Bool.false_or]at hc;exact Nat.eq_of_beq_eq_true hc))
       ·cases h0
    ·cases h0
  ·cases h0
 | toL j g cs=>
  simp only [xstep]at h0
  split at h0
  · rename_i b n c e x hj
    split at h0
    · rename_i t k hb
      cases hc: (g||Nat.beq e 1)with
      |false=>rw [hc]at h0;cases h0
      | true=>
       rw [hc]at h0;simp only [cond]at h0;cases h0
       exact kS hj (wV hb (hp _ (List.mem_cons_self ..)) (hp _ (List.mem_cons_of_mem _ (List.mem_cons_self ..))) (fun hg=>by subst hg;simp only [Bool.false_or]at hc;exact Nat.eq_of_beq_eq_true hc))
    ·cases h0
  ·cases h0
theorem qC {m:Nat}:∀ {is:List Ins} {s s':AS} {ps:List Prop},aDz P is s=some (s',ps) → (∀p∈ps,p) →LeadsM P m s s'
 | [],s,s',ps,h0,_=>by simp only [aDz]at h0;cases h0;exact LeadsM.refl s
 | i ::is,s,s',ps,h0,hp=>by
  simp only [aDz]at h0
  split at h0
  ·cases h0
  · rename_i s1 p1 h1
    split at h0
    ·cases h0
    · rename_i s2 p2 h2
      cases h0
      exact(aIX h1 (fun p hpp=>hp p (List.mem_append_left _ hpp))).trans (qC h2 (fun p hpp=>hp p (List.mem_append_right _ hpp)))
end Go.Hb
namespace Go.Hb
variable {P :Program}
noncomputable section
def mkT {α:Type}:List (Nat×α) →T α
 | [] =>.leaf
 | (k,v) ::r=> (mkT r).put k v
theorem aBw {α:Type}:∀ {l:List (Nat×α)} {k:Nat} {v:α},(mkT l).at k=some v→ (k,v) ∈l
 | [],k,v,h=>by rw [mkT,T.at_leaf]at h;cases h
 | (j,u) ::r,k,v,h=>by
  rw [mkT,T.at_put]at h
  split at h
  ·rename_i hk;cases h;subst hk;exact List.mem_cons_self ..
  ·exact List.mem_cons_of_mem _ (aBw h)
structure TF where
 fn:Nat
 nt:Nat
 sl:List (Nat×AV)
 todo:List AItem
 defers:List ADef:=[]
 mode:AMode:=.run
 kind:CallKind:=.normal
 roundOf:Option Nat:=none
def TF.fr (f:TF) :AFrame:= ⟨f.fn,mkT f.sl,f.nt,f.todo,f.defers,f.mode,f.kind,f.roundOf⟩
structure TS where
 fr:TF
 cs:List TF
 hp:List (Nat×AObj×Bool)
 nb:Nat
def aA (l:List (Nat×AObj×Bool))(nb:Nat) :Hp:= ⟨mkT (l.map fun p=> (p.1,p.2.1)),nb⟩
def TS.as (s:TS) :AS:= ⟨s.fr.fr,s.cs.map TF.fr,aA s.hp s.nb⟩
def T.mapT {α β:Type}(f:α→β) :T α→T β
 | .leaf=>.leaf
 | .node l v r=>.node (T.mapT f l) (v.map f) (T.mapT f r)
theorem aDC {α β:Type}(f:α→β) :∀ (t:T α) (k:Nat),(t.mapT f).get k= (t.get k).map f
 | .leaf,k=>rfl
 | .node l v r,k=>by
  rw [T.mapT,T.get_node,T.get_node,aDC f l,aDC f r]
  split
  ·rfl
  ·split<;>rfl
theorem aCQ {α β:Type}(f:α→β)(t:T α)(k:Nat) : (t.mapT f).at k= (t.at k).map f:=aDC f t _
def AObj.ren (τ:Nat→Nat) :AObj→AObj
 | .cells t n ol sup=>.cells (t.mapT (AV.ren τ)) n (ol.map τ) sup
 | .map es c=>.map (es.map fun p=> (AV.ren τ p.1,AV.ren τ p.2.1,p.2.2)) c
 | .siter l n p=>.siter l n p
 | .mapx es c k v=>.mapx es c (AV.ren τ k) (AV.ren τ v)
 | .loop st pe fn tm nt ps aS bd df=>.loop st pe fn (tm.mapT (AV.ren τ)) nt ps aS bd (τ df)
 | .defd t=>.defd t
 | .lst e xs=>.lst e (AV.renL τ xs)
 | .lstv u e xs=>.lstv u e (AV.renL τ xs)
 | .miter m s l n=>.miter (τ m) s l n
def AItem.ren (τ:Nat→Nat) :AItem→AItem
 | .inRF l=>.inRF (τ l)
 | .endRF l=>.endRF (τ l)
 |i=>i
def ADef.ren (τ:Nat→Nat) :ADef→ADef
 | .fn f args=>.fn f (AV.renL τ args)
 | .col r=>.col (τ r)
def AMode.ren (τ:Nat→Nat) :AMode→AMode
 | .pan ch=>.pan (ch.map fun p=> (AV.ren τ p.1,p.2))
 |m=>m
theorem aWw {τ:Nat→Nat}{E:Emb}{tm:T AV}{nt:Nat}{tmps:Array Value}(r:TR E (tm.mapT (AV.ren τ)) nt tmps) :TR (E.ren τ) tm nt tmps:=
 ⟨r.1,fun t a e=>by
  obtain⟨v,g1,g2⟩ :=r.2 t (AV.ren τ a) (by rw [aCQ,e];rfl)
  exact⟨v,g1,(eZ τ E a v).1 g2⟩⟩
theorem aNN {τ:Nat→Nat}{E:Emb}:∀ {es:List (AV×AV×Nat)} {us:List MapEntry},ERs E (es.map fun p=> (AV.ren τ p.1,AV.ren τ p.2.1,p.2.2)) us→ERs (E.ren τ) es us
 | [],_,r=>by simpa [ERs]using r
 | p::es,_,r=>by
  simp only [List.map_cons,ERs]at r ⊢
  obtain⟨u,us',h1,h2,h3,h4,h5⟩ :=r
  exact⟨u,us',h1,(eZ τ E _ _).1 h2,(eZ τ E _ _).1 h3,h4,aNN h5⟩
theorem aWx {τ:Nat→Nat}{E:Emb}{H:Array Obj}{L:Loc}{o:AObj}(r:OR E H L (o.ren τ)) :OR (E.ren τ) H L o:=by
 cases o with
 | cells t n ol sup=>
  obtain⟨C,el,h1,h2,h3⟩ :=r
  refine⟨C,el,h1,h2,fun i a e=>?_⟩
  obtain⟨g1,v,g2,g3⟩ :=h3 i (AV.ren τ a) (by rw [aCQ,e];rfl)
  exact⟨g1,v,g2,(eZ τ E a v).1 g3⟩
 |map es c=>obtain⟨ES,h1,h2⟩ :=r;exact⟨ES,h1,aNN h2⟩
 |siter l n p=>exact r
 | mapx es c k v=>
  obtain⟨ES,h1,h2,h3⟩ :=r
  refine⟨ES,h1,?_,h3⟩
  obtain⟨us,vs,e1,e2,e3⟩ :=ERs.split h2
  rw [e1]
  refine ERs.join (h3 E _ us rfl e2) ?_
  simp only [ERs]at e3 ⊢
  obtain⟨u,us',q1,q2,q3,q4,q5⟩ :=e3
  exact⟨u,us',q1,(eZ τ E _ _).1 q2,(eZ τ E _ _).1 q3,q4,q5⟩
 |loop st pe fn tm nt ps aS bd df=>obtain⟨tmps,Ld,h1,h2,h3⟩ :=r;exact⟨tmps,Ld,h1,h2,aWw h3⟩
 |defd t=>exact r
 |lst e xs=>obtain⟨C,el,vs,h1,h2,h3,h4⟩ :=r;exact⟨C,el,vs,h1,h2,(nH τ E xs vs).1 h3,h4⟩
 |miter m s l n=>obtain⟨Lm,h1,h2,h3⟩ :=r;exact⟨Lm,h1,h2,h3⟩
 | lstv u e xs=>
  obtain⟨C,el,vs,h1,h2,h3,h4,h5,h6⟩ :=r
  have hl: (AV.renL τ xs).length=xs.length:=by rw [←h3.length,((nH τ E xs vs).1 h3).length]
  exact⟨C,el,vs,h1,h2,(nH τ E xs vs).1 h3,h4,h5,by rw [hl]at h6;exact h6⟩
def AObj.kl :AObj→Prop
 | .lst _ xs=>AV.keylessL xs=true
 | .lstv _ _ xs=>AV.keylessL xs=true
 | .map es _=>∀e∈es,AV.keyless e.1=true∧AV.keyless e.2.1=true
 |_=>False
theorem aQT {E E':Emb}(he:E.imm=E'.imm) :∀ {es:List (AV×AV×Nat)} {us:List MapEntry},(∀e∈es,AV.keyless e.1=true∧AV.keyless e.2.1=true) →ERs E es us→ERs E' es us
 | [],_,_,r=>by simpa [ERs]using r
 | e::es,_,hk,r=>by
  simp only [ERs]at r ⊢
  obtain⟨u,us',h1,h2,h3,h4,h5⟩ :=r
  have e2:E.p=E'.p:=by simp [Emb.p,he]
  have k:=hk e (List.mem_cons_self ..)
  have q1:=eS k.1 h2
  have q2:=eS k.2 h3
  rw [e2]at q1 q2
  exact⟨u,us',h1,VR.of_p q1,VR.of_p q2,h4,aQT he (fun x hx=>hk x (List.mem_cons_of_mem _ hx)) h5⟩
theorem aNO {E E':Emb}(he:E.imm=E'.imm){H:Array Obj}{L:Loc}{o:AObj}(hk:o.kl)(r:OR E H L o) :OR E' H L o:=by
 cases o with
 | lst e xs=>
  obtain⟨C,el,vs,h1,h2,h3,h4⟩ :=r
  refine⟨C,el,vs,h1,h2,?_,h4⟩
  have:=fR hk h3
  have e2:E.p=E'.p:=by simp [Emb.p,he]
  rw [e2]at this;exact this.of_p
 | lstv u e xs=>
  obtain⟨C,el,vs,h1,h2,h3,h4⟩ :=r
  refine⟨C,el,vs,h1,h2,?_,h4⟩
  have:=fR hk h3
  have e2:E.p=E'.p:=by simp [Emb.p,he]
  rw [e2]at this;exact this.of_p
 |map es c=>obtain⟨ES,h1,h2⟩ :=r;exact⟨ES,h1,aQT he hk h2⟩
 |_=>exact hk.elim
theorem aWy {τ:Nat→Nat}{E:Emb}{a:AItem}{i:Item}(r:IR E (a.ren τ) i) :IR (E.ren τ) a i:=by cases a<;>exact r
theorem aNP {τ:Nat→Nat}{E:Emb}:∀ {aS:List AItem} {is:List Item},IRs E (aS.map (AItem.ren τ)) is→IRs (E.ren τ) aS is
 | [],_,r=>by simpa [IRs]using r
 |_::_,_,r=>by simp only [List.map_cons,IRs]at r ⊢;obtain⟨i,is',h1,h2,h3⟩ :=r;exact⟨i,is',h1,aWy h2,aNP h3⟩
theorem aWz {τ:Nat→Nat}{E:Emb}{a:ADef}{d:Deferred}(r:DR E (a.ren τ) d) :DR (E.ren τ) a d:=by
 cases a with
 |fn f args=>obtain⟨cap,a,h1,h2⟩ :=r;exact⟨cap,a,h1,(nH τ E _ _).1 h2⟩
 |col r'=>exact r
theorem aQU {τ:Nat→Nat}{E:Emb}:∀ {aS:List (AV×Bool)} {is:List PanicEntry},CR E (aS.map fun p=> (AV.ren τ p.1,p.2)) is→CR (E.ren τ) aS is
 | [],_,r=>by simpa [CR]using r
 |_::_,_,r=>by simp only [List.map_cons,CR]at r ⊢;obtain⟨i,is',h1,h2,h3⟩ :=r;exact⟨i,is',h1,(eZ τ E _ _).1 h2,aQU h3⟩
theorem aWA {τ:Nat→Nat}{E:Emb}{a:AMode}{m:FrameMode}(r:MR E (a.ren τ) m) :MR (E.ren τ) a m:=by
 cases a with
 |pan ch=>simp only [AMode.ren,MR]at r ⊢;obtain⟨ps,h1,h2⟩ :=r;exact⟨ps,h1,aQU h2⟩
 |_=>exact r
theorem aWB {τ:Nat→Nat}{E:Emb}{a b:Option Nat}(r:RR E (a.map τ) b) :RR (E.ren τ) a b:=by cases a<;>exact r
structure SumF where
 fn:Nat
 nt:Nat
 kind:CallKind
 ro:Option Nat
 mode:AMode
 todo:List AItem
 defers:List ADef
 sl:List (Option AV)
def slotsOf (tm:T AV) :List (Nat×AV) →List (Option AV)
 | [] =>[]
 |p::r=>tm.at p.1::slotsOf tm r
def aNQ (τ:Nat→Nat) :List (Nat×AV) →List (Option AV)
 | [] =>[]
 |p::r=>some (AV.ren τ p.2) ::aNQ τ r
def sumF (a:AFrame)(f:TF) :SumF:= ⟨a.fn,a.nt,a.kind,a.roundOf,a.mode,a.todo,a.defers,slotsOf a.tm f.sl⟩
def aIY (τ:Nat→Nat)(f:TF) :SumF:= ⟨f.fn,f.nt,f.kind,f.roundOf.map τ,f.mode.ren τ,f.todo.map (AItem.ren τ),f.defers.map (ADef.ren τ),aNQ τ f.sl⟩
def aNR :List AFrame→List TF→List SumF
 |a::aS,f::fs=>sumF a f::aNR aS fs
 |_,_=>[]
def aAH (h:Hp)(τ:Nat→Nat) :List (Nat×AObj×Bool) →List (Option AObj)
 | [] =>[]
 |p::r=>h.look (τ p.1) ::aAH h τ r
def pF (τ:Nat→Nat) :List (Nat×AObj×Bool) →List (Option AObj)
 | [] =>[]
 |p::r=>some (bif p.2.2 then p.2.1 else p.2.1.ren τ) ::pF τ r
structure Sum where
 fr:SumF
 n:Nat
 cs:List SumF
 hp:List (Option AObj)
def AS.sum (s:AS)(τ:Nat→Nat)(t:TS) :Sum:= ⟨sumF s.fr t.fr,s.cs.length,aNR s.cs t.cs,aAH s.h τ t.hp⟩
def TS.want (t:TS)(τ:Nat→Nat) :Sum:= ⟨aIY τ t.fr,t.cs.length,t.cs.map (aIY τ),pF τ t.hp⟩
def iD (m nb n1:Nat)(ks:List Nat)(b:Nat) :Nat:=bif Nat.blt b m then b else bif Nat.blt b nb then ks.getD (b-m) 0 else n1+b
def aIZ :List Nat→Bool
 | [] =>true
 |k::ks=> !(uG k ks) &&aIZ ks
def aI0 (m:Nat) :List Nat→Bool
 | [] =>true
 |k::ks=>Nat.ble m k&&aI0 m ks
def aNS :AObj→Bool
 | .cells _ _ [] _=>true
 | .cells .. =>false
 |_=>true
theorem aHs {o:AObj}(h:aNS o=true) :dA o= [] :=by
 cases o with
 | cells t n ol sup=>cases ol with
  |nil=>rfl
  |cons x xs=>cases h
 |_=>rfl
def kD (nb:Nat) :List (Nat×AObj×Bool) →Bool
 | [] =>true
 |p::r=>Nat.blt p.1 nb&&aNS p.2.1&&kD nb r
def eI (m:Nat)(t:TS)(ks:List Nat) :Bool:=Nat.ble m t.nb&&Nat.beq (m+ks.length) t.nb&&aIZ ks&&aI0 m ks&&kD t.nb t.hp
def nP :List (Nat×AObj×Bool) →Prop
 | [] =>True
 | (_,o,true) ::r=>o.kl∧nP r
 | (_,_,false) ::r=>nP r
theorem vK (t:Nat) :∀l:List Nat,uG t l=true↔t∈l
 | [] =>by simp [uG]
 | x ::xs=>by
  rw [uG,Bool.or_eq_true,vK t xs,bW,decide_eq_true_eq,List.mem_cons]
  constructor
  · rintro(h|h)
    ·exact .inl h.symm
    ·exact .inr h
  · rintro(h|h)
    ·exact .inl h.symm
    ·exact .inr h
theorem aBx :∀ {l:List Nat},aIZ l=true→∀i j,i<l.length→j<l.length→l.getD i 0=l.getD j 0→i=j
 | [],_,i,j,hi,_,_=>by simp at hi
 | x ::xs,h,i,j,hi,hj,e=>by
  simp only [aIZ,Bool.and_eq_true,Bool.not_eq_true']at h
  have hn:x∉xs:=fun hm=>by rw [(vK x xs).2 hm]at h;cases h.1
  cases i with
  | zero=>
   cases j with
   |zero=>rfl
   | succ j=>
    simp only [List.length_cons]at hj
    simp only [List.getD_cons_zero,List.getD_cons_succ]at e
    exact absurd (e ▸ (by rw [List.getD_eq_getElem?_getD,List.getElem?_eq_getElem (by omega)];exact List.getElem_mem ..)) hn
  | succ i=>
   cases j with
   | zero=>
    simp only [List.length_cons]at hi
    simp only [List.getD_cons_zero,List.getD_cons_succ]at e
    exact absurd (e ▸ (by rw [List.getD_eq_getElem?_getD,List.getElem?_eq_getElem (by omega)];exact List.getElem_mem ..)) hn
   | succ j=>
    simp only [List.length_cons]at hi hj
    simp only [List.getD_cons_succ]at e
    rw [aBx h.2 i j (by omega) (by omega) e]
theorem aBy {m:Nat}:∀ {l:List Nat},aI0 m l=true→∀i,i<l.length→m≤l.getD i 0
 | [],_,i,hi=>by simp at hi
 | x::xs,h,i,hi=>by
  simp only [aI0,Bool.and_eq_true]at h
  cases i with
  |zero=>simpa using Nat.le_of_ble_eq_true h.1
  |succ i=>simp only [List.length_cons]at hi;simpa using aBy h.2 i (by omega)
theorem cO {nb:Nat}:∀ {l:List (Nat×AObj×Bool)},kD nb l=true→∀p∈l,p.1<nb∧dA p.2.1= []
 | p::r,h,q,hq=>by
  simp only [kD,Bool.and_eq_true,dH,decide_eq_true_eq]at h
  rcases List.mem_cons.1 hq with rfl|hq
  ·exact⟨h.1.1,aHs h.1.2⟩
  ·exact cO h.2 q hq
theorem lM :∀ {l:List (Nat×AObj×Bool)},nP l→∀k o,(k,o,true) ∈l→o.kl
 | (k',o',true) ::r,h,k,o,hq=>by
  rcases List.mem_cons.1 hq with e|hq
  ·cases e;exact h.1
  ·exact lM h.2 k o hq
 | (k',o',false) ::r,h,k,o,hq=>by
  rcases List.mem_cons.1 hq with e|hq
  ·cases e
  ·exact lM (l:=r) h k o hq
theorem aFL {τ:Nat→Nat}{tm:T AV}:∀ {l:List (Nat×AV)},slotsOf tm l=aNQ τ l→∀p∈l,tm.at p.1=some (AV.ren τ p.2)
 | p::r,h,q,hq=>by
  simp only [slotsOf,aNQ,List.cons.injEq]at h
  rcases List.mem_cons.1 hq with rfl|hq
  ·exact h.1
  ·exact aFL h.2 q hq
theorem lN {τ:Nat→Nat}{h0:Hp}:∀ {l:List (Nat×AObj×Bool)},aAH h0 τ l=pF τ l→∀p∈l,h0.look (τ p.1) =some (bif p.2.2 then p.2.1 else p.2.1.ren τ)
 | p::r,h,q,hq=>by
  simp only [aAH,pF,List.cons.injEq]at h
  rcases List.mem_cons.1 hq with rfl|hq
  ·exact h.1
  ·exact lN h.2 q hq
theorem aNT {τ:Nat→Nat}{E:Emb}{a:AFrame}{f:TF}(h:sumF a f=aIY τ f){c:Frame}(r:FR E a c) :FR (E.ren τ) f.fr c:=by
 simp only [sumF,aIY,SumF.mk.injEq]at h
 obtain⟨h1,h2,h3,h4,h5,h6,h7,h8⟩ :=h
 refine⟨r.fn.trans h1,⟨r.tm.1.trans h2,fun t v e=>?_⟩,aNP (show IRs E (f.todo.map (AItem.ren τ)) c.todo by rw [←h6];exact r.todo),?_,aWA (show MR E (f.mode.ren τ) c.mode by rw [←h5];exact r.mode),r.kind.trans h3,aWB (show RR E (f.roundOf.map τ) c.roundOf by rw [←h4];exact r.round)⟩
 · obtain⟨cv,g1,g2⟩ :=r.tm.2 t (AV.ren τ v) (aFL h8 (t,v) (aBw e))
   exact⟨cv,g1,(eZ τ E v cv).1 g2⟩
 · have hd:=r.defers
   rw [h7]at hd
   have:∀ {aS:List ADef} {ds:List Deferred},DRs E (aS.map (ADef.ren τ)) ds→DRs (E.ren τ) aS ds:=by
    intro aS
    induction aS with
    |nil=>intro ds h;simpa [DRs]using h
    | cons a aS ih=>
     intro ds h
     obtain⟨d,ds',rfl,k1,k2⟩ :=h.cons_inv
     exact DRs.cons (aWz k1) (ih k2)
   exact this hd
theorem aFM {τ:Nat→Nat}{E:Emb}:∀ {aS:List AFrame} {fs:List TF},aS.length=fs.length→aNR aS fs=fs.map (aIY τ) →∀ {cs:List Frame},FRs E aS cs→FRs (E.ren τ) (fs.map TF.fr) cs
 | [],[],_,_,cs,r=>by rw [r.nil_inv];rfl
 | a::aS,f::fs,hl,h,cs,r=>by
  simp only [aNR,List.map_cons,List.cons.injEq]at h
  obtain⟨c,cs',rfl,k1,k2⟩ :=r.cons_inv
  exact FRs.cons (aNT h.1 k1) (aFM (by simpa using hl) h.2 k2)
 | [],_::_,hl,_,_,_=>by simp at hl
 |_::_,[],hl,_,_,_=>by simp at hl
theorem sX {m nb n1:Nat}{ks:List Nat}{b:Nat}(h:b<m) :iD m nb n1 ks b=b:=by simp [iD,dH,h]
theorem qD {m nb n1:Nat}{ks:List Nat}{b:Nat}(h1:m≤b)(h2:b<nb) :iD m nb n1 ks b=ks.getD (b-m) 0:=by simp [iD,dH,h2,show ¬b<m by omega]
theorem aQV {m nb n1:Nat}{ks:List Nat}{b:Nat}(h1:m≤b)(h2:nb≤b) :iD m nb n1 ks b=n1+b:=by simp [iD,dH,show ¬b<m by omega,show ¬b<nb by omega]
theorem rP {m:Nat}{l:List (Nat×AObj×Bool)}{nb:Nat}{ks:List Nat}{h:Hp}(hok:eI m ⟨⟨0,0,[],[],[],.run,.normal,none⟩,[],l,nb⟩ ks=true)(hh:aAH h (iD m nb h.nb ks) l=pF (iD m nb h.nb ks) l)(hkl:nP l){E:Emb}{w:World}(r:Rel E h w.heap) :
  Rel (E.ren (iD m nb h.nb ks)) (aA l nb) w.heap∧ExtM m E h w (E.ren (iD m nb h.nb ks)) (aA l nb) w:=by
 simp only [eI,Bool.and_eq_true]at hok
 obtain⟨⟨⟨⟨o1,o2⟩,o3⟩,o4⟩,o5⟩ :=hok
 have hm:=Nat.le_of_ble_eq_true o1
 have hlen:=Nat.eq_of_beq_eq_true o2
 have hlook:∀ {b o},(aA l nb).look b=some o→b<nb∧dA o= [] ∧∃f,(b,o,f) ∈l∧h.look (iD m nb h.nb ks b) =some (bif f then o else o.ren (iD m nb h.nb ks)) :=fun {b o} e=>by
  have: (b,o) ∈l.map fun p=> (p.1,p.2.1) :=aBw e
  obtain⟨p,hp,hpe⟩ :=List.mem_map.1 this
  obtain⟨pb,po,pf⟩ :=p
  cases hpe
  exact⟨(cO o5 _ hp).1,(cO o5 _ hp).2,pf,hp,lN hh _ hp⟩
 have inj:∀ {b b'},b<nb→b'<nb→iD m nb h.nb ks b=iD m nb h.nb ks b'→b=b':=fun {b b'} h1 h2 e=>by
  rcases Nat.lt_or_ge b m with g1|g1
  · rw [sX g1]at e
    rcases Nat.lt_or_ge b' m with g2|g2
    ·rw [sX g2]at e;exact e
    · rw [qD g2 h2]at e
      have:=aBy o4 (b'-m) (by omega)
      omega
  · rw [qD g1 h1]at e
    rcases Nat.lt_or_ge b' m with g2|g2
    · rw [sX g2]at e
      have:=aBy o4 (b-m) (by omega)
      omega
    · rw [qD g2 h2]at e
      have:=aBx o3 _ _ (by omega) (by omega) e
      omega
 refine⟨⟨fun b o e=>?_,fun b b' o o' L L' e e' k k' hbl hne=>?_,fun b hb=>?_,r.imm,fun b o L e k=>?_,fun b o e=> (hlook e).1⟩,
  ⟨fun b hb=>by show E.loc (iD m nb h.nb ks b) =E.loc b;rw [sX hb],fun _ _ e=>e,Nat.le_refl _,fun _ _ _=>rfl,fun b' o' L' e k _=>?_,hm,rfl,rfl,rfl,fun _ _=>rfl,fun _ _ e _=>.inl e,fun b o e hb=>?_⟩⟩
 · obtain⟨hb,hol,f,hf,hlk⟩ :=hlook e
   cases f with
   | true=>
    simp only [cond]at hlk
    rcases r.obj0 _ _ hlk with u| ⟨L,g1,g2⟩
    ·exact .inl u
    ·exact .inr ⟨L,g1,aNO (E:=E) (E':=E.ren (iD m nb h.nb ks)) rfl (lM hkl b o hf) g2⟩
   | false=>
    simp only [cond]at hlk
    rcases r.obj0 _ _ hlk with⟨u1,u2⟩ | ⟨L,g1,g2⟩
    · refine .inl ⟨?_,u2⟩
      cases o with
      | lst e xs=>cases xs with
       |nil=>rfl
       |cons x xs=>simp [AObj.ren,AV.renL,uI]at u1
      |_=>cases u1
    ·exact .inr ⟨L,g1,aWx g2⟩
 · obtain⟨hb,hol,f,hf,hlk⟩ :=hlook e
   obtain⟨hb',hol',f',hf',hlk'⟩ :=hlook e'
   have hne':iD m nb h.nb ks b≠iD m nb h.nb ks b':=fun ee=>hne (inj hb hb' ee)
   have hkin:=r.kin _ _ _ _ L L' hlk hlk' k k' hbl hne'
   have q:∀ (o:AObj) (f:Bool),(f=true→o.kl) →dA (bif f then o else o.ren (iD m nb h.nb ks)) = (dA o).map (iD m nb h.nb ks) ∧oG (bif f then o else o.ren (iD m nb h.nb ks)) =oG o∧nOf (bif f then o else o.ren (iD m nb h.nb ks)) =nOf o:=fun o f hf=>by
    cases f with
    |true=>cases o<;>first|exact⟨rfl,rfl,rfl⟩ |exact(hf rfl).elim
    |false=>cases o<;>exact⟨rfl,rfl,rfl⟩
   obtain⟨a1,a2,a3⟩ :=q o f (fun ff=>by subst ff;exact lM hkl b o hf)
   obtain⟨b1,b2,b3⟩ :=q o' f' (fun ff=>by subst ff;exact lM hkl b' o' hf')
   unfold Kin at hkin
   rw [a1,a2,a3,b1,b2,b3,hol,hol']at hkin
   rcases hkin with⟨g,_⟩ | ⟨g,_⟩ <;>simp at g
 · show E.loc (iD m nb h.nb ks b) =none
   have hb:nb≤b:=hb
   rw [aQV (by omega) hb]
   exact r.fresh _ (by omega)
 · obtain⟨hb,hol,f,hf,hlk⟩ :=hlook e
   exact r.apart _ _ L hlk k
 · obtain⟨hb,hol,f,hf,hlk⟩ :=hlook e
   exact⟨_,_,L',hlk,k,rfl⟩
 · obtain⟨hb',hol,f,hf,hlk⟩ :=hlook e
   rw [sX hb]at hlk
   exact⟨_,hlk⟩
end
end Go.Hb
