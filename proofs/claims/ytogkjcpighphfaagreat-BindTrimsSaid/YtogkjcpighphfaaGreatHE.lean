/-
  OWN WORK (V3, V4): a machine on abstract values, its soundness, ways through the text (the ways WRITTEN BY A PROGRAM), plain laws.
-/
import Derived.Test.YtogkjcpighphfaaGreatHD
set_option linter.unusedVariables false
set_option linter.unusedSimpArgs false
set_option linter.unusedSectionVars false
set_option maxRecDepth 100000
namespace Go.Hb
section
variable (P :Program)
inductive Ins where
 |run (n:Nat)
 |b (j:Nat) (v:Bool)
 |set (j:Nat) (v:AV)
 |call (v:AV) (h':Hp)
 |callP (ch:List (AV×Bool)) (h':Hp)
 |ans (a:Ans)
 |st (y y':AV)
 |app (zs:List AV) (n:Nat)
 |nilL (j e:Nat)
 |nilI (j e:Nat)
 |frz (j b:Nat) (ys:List AV)
 |cnil (k o e:Nat)
 |cnilI (k o e:Nat)
 |cfrz (k o b:Nat) (ys:List AV)
 |toL (j:Nat) (g:Bool) (cs:List AV)
 |cset (k o:Nat) (v:AV)
 |ctoL (k o:Nat) (g:Bool) (cs:List AV)
 |lset (b:Nat) (xs:List AV)
 |pure (v:AV)
 |throws (ch:List (AV×Bool))
 |mk (n:Nat)
 |reg (is:List RIns)
 |regA (is:List RIns) (os:List (Option Ans))
 |nxt (c d:Nat)
 |nxtE
 |mput (es:List (AV×AV×Nat)) (clock:Nat)
 |mset (b:Nat) (es:List (AV×AV×Nat)) (clock:Nat)
 |lkeep (b:Nat) (js:List Nat)
 |unname (j b:Nat)
 |vfrz (b o:Nat) (ys:List AV)
 |lw (b:Nat) (ys:List AV)
 |mopen (b:Nat)
 |mclose (b:Nat) (es:List (AV×AV×Nat)) (c:Nat) (k v:AV)
 |mfrz (b n:Nat) (ys:List AV)
 |mtoL (b:Nat) (g:Bool) (cs:List AV)
 |call2 (v:AV) (h':Hp)
 |callC (v:AV) (h':Hp)
 |appN (zs:List AV) (n:Nat)
noncomputable section
def SpecC (P:Program)(f:Nat)(args:List AV)(h:Hp)(v:AV)(h':Hp) :Prop:=∀ (E:Emb) (w:World) (cargs:List Value),Rel E h w.heap→VRs E args cargs →
 Calls P f ⟨cargs⟩ w fun e w'=>∃cv E',e= .returned cv∧VR E' v cv∧Rel E' h' w'.heap∧Ext E h w E' h' w'
def SpecCC (P:Program)(f1:Nat)(args:List AV)(f2:Nat)(h:Hp)(v:AV)(h':Hp) :Prop:=∀ (E:Emb) (w:World) (cargs:List Value),Rel E h w.heap→VRs E args cargs →
 Calls P f1 ⟨cargs⟩ w fun e w1=>∃v1,e= .returned v1∧Rel E h w1.heap∧Calls P f2 #[v1] w1 fun e w'=>∃cv E',e= .returned cv∧VR E' v cv∧Rel E' h' w'.heap∧Ext E h w E' h' w'
def twoCalls (P:Program)(s:AS)(v:AV) :Option (Nat×List AV×Nat×AFrame) :=
 match s.fr.mode,s.fr.todo with
 | .run,.ops all i (o1::o2::rest) ::k=>match awanted s.fr.tm all.toList o1,aop P s.h s.fr.tm o1,o1.dst,o2.guard,o2.dst,o2.op with
  | some true,some (.call (.enter f1 args)),some d1,none,some d2,.call c=>match c.callee,c.args.toList with
   | .value (.func f2),[.tmp d] =>bif Nat.beq d d1&&Nat.blt d1 s.fr.nt&&Nat.blt d2 s.fr.nt&&callable P f2 then
     some (f1,args,f2,{s.fr with tm:= (s.fr.tm.del d1).put d2 v,todo:=.ops all (Nat.succ (Nat.succ i)) rest::k})else none
   |_,_=>none
  |_,_,_,_,_,_=>none
 |_,_=>none
def VQ (u:Value)(e:Nat)(xs zs ys:List AV) :Prop:=∀ (E:Emb) (vs:List Value),VR E (.ilst e xs false) u→VRs E zs vs→VRs E ys vs
def VW (xs ys:List AV) :Prop:=∀ (E:Emb) (vs:List Value),VRs E xs vs→VRs E ys vs
def topOp (s:AS) :Option Oper:=
 match s.fr.mode,s.fr.todo with
 | .run,.ops all _ (o::_) ::_=>match awanted s.fr.tm all.toList o with
  |some true=>some o
  |_=>none
 |_,_=>none
def goOn (s:AS)(v:AV)(h':Hp)(obl:List Prop) :Option (AS×List Prop) :=
 match s.fr.finish v with
 |some fr=>some (⟨fr,s.cs,h'⟩,obl)
 |none=>none
def keepT {α:Type}(t:T α) :List Nat→List (Nat×α)
 | [] =>[]
 | j::js=>match t.at j with
  |some v=> (j,v) ::keepT t js
  |none=>keepT t js
def mkT' {α:Type}:List (Nat×α) →T α
 | [] =>.leaf
 |p::r=> (mkT' r).put p.1 p.2
def xstep (P:Program)(i:Ins)(s:AS) :Option (AS×List Prop) :=
 match i with
 | .run n=>match fstepsN P nocall n s with
  |some s'=>some (s',[])
  |none=>none
 | .b j v=>match s.fr.tm.at j with
  |some (.bool b) =>some (⟨{s.fr with tm:=s.fr.tm.put j (.bool v)},s.cs,s.h⟩,[b=v])
  |_=>none
 | .set j v=>match s.fr.tm.at j with
  |some u=>some (⟨{s.fr with tm:=s.fr.tm.put j v},s.cs,s.h⟩,[u=v])
  |none=>none
 | .cset k o v=>match s.h.look k with
  | some (.cells t n ol sup) =>match t.at o with
   |some u=>some (⟨s.fr,s.cs,s.h.set k (.cells (t.put o v) n ol sup)⟩,[u=v])
   |none=>none
  |_=>none
 | .lset b xs=>match s.h.look b with
  |some (.lst e ys) =>some (⟨s.fr,s.cs,s.h.set b (.lst e xs)⟩,[ys=xs])
  |_=>none
 | .call v h'=>match topOp s with
  | some o=>match aop P s.h s.fr.tm o with
   |some (.call c) =>goOn s v h' [Spec P c s.h (.ret v) h']
   |_=>none
  |none=>none
 | .callC v h'=>match topOp s with
  | some o=>match aop P s.h s.fr.tm o with
   |some (.call (.enter f args)) =>goOn s v h' [SpecC P f args s.h v h']
   |_=>none
  |none=>none
 | .call2 v h'=>match twoCalls P s v with
  |some (f1,args,f2,fr) =>some (⟨fr,s.cs,h'⟩,[SpecCC P f1 args f2 s.h v h'])
  |none=>none
 | .callP ch h'=>match topOp s with
  | some o=>match aop P s.h s.fr.tm o with
   |some (.call c) =>some (⟨s.fr.raise ch,s.cs,h'⟩,[Spec P c s.h (.pan ch) h'])
   |_=>none
  |none=>none
 | .ans a=>match topOp s with
  | some o=>match ansVal P s.h s.fr.tm o a with
   |some (v,ps) =>goOn s v s.h ps
   |none=>none
  |none=>none
 | .pure v=>match topOp s with
  | some o=>match aop P s.h s.fr.tm o with
   |some (.call (.enter f args)) =>goOn s v s.h [Pure P f args v]
   |_=>none
  |none=>none
 | .throws ch=>match topOp s with
  | some o=>match aop P s.h s.fr.tm o with
   |some (.call (.enter f args)) =>some (⟨s.fr.raise ch,s.cs,s.h⟩,[Throws P f args ch])
   |_=>none
  |none=>none
 | .mk n =>match topOp s with
  | some o=>match o.op,o.dst with
   | .makeSlice t l c,some d=>match aeval s.fr.tm l,aeval s.fr.tm c with
    | some (.int _ l),some (.int _ c) =>match P.underlying t with
     | some (.slice el) =>match sizeOfT P el,zeroOf P el,P.info? el,P.underlying el with
      | some e,some z,some inf,some ed=>bif Nat.ble e 40&&Nat.ble 1 e&&Nat.beq z.cells.length e&&Nat.ble inf.bytes 1000&&allOne z.cells&& (isAggD ed||Nat.beq e 1)then
        match s.fr.finish (.gl s.h.nb e 0 n true)with
        |some fr=>some (⟨fr,s.cs,s.h.new (.lst e (List.replicate n (bif isAggD ed then .agg z.cells else z.cells.headD .undef)))⟩,[l= (n:Int),c= (n:Int),n<100000])
        |none=>none else none
      |_,_,_,_=>none
     |_=>none
    |_,_=>none
   |_,_=>none
  |none=>none
 | .reg is=>match s.fr.mode,s.fr.todo with
  | .run,.code (.region _ ops true) ::k=>match xregion P s.fr.nt ops s.fr.tm s.h is []with
   |some (tm,h',ps) =>some (⟨{s.fr with tm,todo:=k},s.cs,h'⟩,ps)
   |none=>none
  |_,_=>none
 | .regA is os=>match s.fr.mode,s.fr.todo with
  | .run,.code (.region _ ops true) ::k=>match xregion P s.fr.nt ops s.fr.tm s.h is os with
   |some (tm,h',ps) =>some (⟨{s.fr with tm,todo:=k},s.cs,h'⟩,ps)
   |none=>none
  |_,_=>none
 | .nxt c d=>match topOp s with
  | some o=>match o.op with
   | .next it true=>match aeval s.fr.tm it with
    | some (.ptr r 0) =>match s.h.look r with
     |some (.siter l n pos) =>goOn s (.tup [.bool true,.int .i64 pos,.int .i32 c]) (s.h.set r (.siter l n (Nat.add pos d))) [pos<l,adec l n pos=some (c,d)]
     |_=>none
    |_=>none
   |_=>none
  |none=>none
 | .nxtE=>match topOp s with
  | some o=>match o.op with
   | .next it true=>match aeval s.fr.tm it with
    | some (.ptr r 0) =>match s.h.look r with
     |some (.siter l n pos) =>goOn s (.tup [.bool false]) s.h [l≤pos]
     |_=>none
    |_=>none
   |_=>none
  |none=>none
 | .mput es' clock'=>match topOp s with
  | some o=>match o.op with
   | .mapUpdate t m k x=>match aeval s.fr.tm m,aeval s.fr.tm k,aeval s.fr.tm x with
    | some (.map r),some k,some v=>match P.underlying t,s.h.look r with
     | some (.map kt _),some (.map es clock) =>match P.underlying kt with
      |some kd=>bif plainKey kd k then goOn s .undef (s.h.set r (.map es' clock')) [mapPut es clock k v=some (es',clock')]else none
      |none=>none
     |_,_=>none
    |_,_,_=>none
   |_=>none
  |none=>none
 | .mset b es' clock'=>match s.h.look b with
  |some (.map es clock) =>some (⟨s.fr,s.cs,s.h.set b (.map es' clock')⟩,[es=es',clock=clock'])
  |_=>none
 | .st y y'=>match topOp s with
  | some o=>match o.op with
   | .store t a x=>match aeval s.fr.tm a,aeval s.fr.tm x with
    | some (.ep b e i k),some v=>match s.h.look b,sizeOfT P t with
     | some (.lst e' xs),some n=>bif Nat.beq e' e&&Nat.beq v.cells.length n&&Nat.ble (k+n) e&&allOne v.cells then
       match s.fr.finish .undef with
       |some fr=>some (⟨fr,s.cs,s.h.set b (.lst e (xs.set i y'))⟩,[xs[i]?=some y,setElem y k v.cells=some y'])
       |none=>none else none
     |_,_=>none
    |_,_=>none
   |_=>none
  |none=>none
 | .app zs n=>match topOp s with
  | some o =>match o.op with
   | .call c=>match c.callee,aevals s.fr.tm c.args.toList,c.argTypes[0]?,c.argTypes[1]? with
    | .builtin .append,some [d,x],some st,some xt=>match P.underlying st,P.underlying xt with
     | some (.slice el),some (.slice _) =>match sizeOfT P el,P.info? el,zeroOf P el with
      | some e,some inf,some z=>bif Nat.beq z.cells.length e&&Nat.ble e 40&&Nat.ble inf.bytes 1000&&Nat.ble 1 inf.bytes&&Nat.ble 1 e then
       match d with
       | .gl b e' off len _=>match s.h.look b with
        | some (.lst e2 xs) =>bif Nat.beq e' e&&Nat.beq e2 e then
          match addedE P s.h el e x with
          |some ys=>goOn s (.gl s.h.nb e 0 n false) ((s.h.del b).new (.lst e zs)) [off+len≤xs.length,n≤1000000,(xs.drop off).take len++ys=zs,len+ys.length=n]
          |none=>none
          else none
        |_=>none
       | .ilst e' [] true=>bif Nat.beq e' e then match addedE P s.h el e x with
        |some ys=>goOn s (.gl s.h.nb e 0 n false) (s.h.new (.lst e zs)) [n≤1000000,ys=zs,ys.length=n]
        |none=>none
        else none
       |_=>none
       else none
      |_,_,_=>none
     |_,_=>none
    |_,_,_,_=>none
   |_=>none
  |none=>none
 | .nilL j e=>match s.fr.tm.at j with
  |some .nils=>some (⟨{s.fr with tm:=s.fr.tm.put j (.gl s.h.nb e 0 0 false)},s.cs,s.h.new (.lst e [])⟩,[])
  |_=>none
 | .nilI j e=>match s.fr.tm.at j with
  |some .nils=>some (⟨{s.fr with tm:=s.fr.tm.put j (.ilst e [] true)},s.cs,s.h⟩,[])
  |_=>none
 | .frz j b ys=>match s.fr.tm.at j,s.h.look b with
  |some v,some (.lst e xs) =>some (⟨{s.fr with tm:=s.fr.tm.put j (AV.frz b ys v)},s.cs,s.h.del b⟩,[AV.keylessL xs=true,AV.frzOk b e xs ys v])
  |_,_=>none
 | .cnil k o e=>match s.h.look k with
  | some (.cells t n ol sup) =>match t.at o with
   |some .nils=>bif Nat.blt k s.h.nb then some (⟨s.fr,s.cs,(s.h.new (.lst e [])).set k (.cells (t.put o (.gl s.h.nb e 0 0 false)) n ol sup)⟩,[])else none
   |_=>none
  |_=>none
 | .cnilI k o e=>match s.h.look k with
  | some (.cells t n ol sup) =>match t.at o with
   |some .nils=>some (⟨s.fr,s.cs,s.h.set k (.cells (t.put o (.ilst e [] true)) n ol sup)⟩,[])
   |_=>none
  |_=>none
 | .cfrz k o b ys=>bif Nat.beq k b then none else match s.h.look k,s.h.look b with
  | some (.cells t n ol sup),some (.lst e xs) =>match t.at o with
   |some v=>some (⟨s.fr,s.cs,(s.h.del b).set k (.cells (t.put o (AV.frz b ys v)) n ol sup)⟩,[AV.keylessL xs=true,AV.frzOk b e xs ys v])
   |none=>none
  |_,_=>none
 | .lkeep b js=>match s.h.look b with
  |some (.loop st pe fn tm nt ps aS bd df) =>some (⟨s.fr,s.cs,s.h.set b (.loop st pe fn (mkT' (keepT tm js)) nt ps aS bd df)⟩,[])
  |_=>none
 | .unname j b=>match s.fr.tm.at j,s.h.look b with
  |some (.val u),some (.lstv u' e xs) =>some (⟨{s.fr with tm:=s.fr.tm.put j (.gl b e 0 xs.length false)},s.cs,s.h.set b (.lst e xs)⟩,[u=u'])
  |_,_=>none
 | .vfrz b o ys=>match s.h.look b,s.h.look o with
  |some (.lstv u e xs),some (.lst eo zs) =>bif Nat.beq o b then none else some (⟨s.fr,s.cs,(s.h.del b).set o (.lst eo ys)⟩,[zs≠ [],AV.keylessL xs=true,VQ u e xs zs ys])
  |_,_=>none
 | .mopen b=>match s.h.look b with
  |some (.mapx es c k v) =>some (⟨s.fr,s.cs,s.h.set b (.map (es++ [(k,v,c)]) (Nat.succ c))⟩,[])
  |_=>none
 | .mclose b es c k v=>match s.h.look b with
  |some (.map es' c') =>some (⟨s.fr,s.cs,s.h.set b (.mapx es c k v)⟩,[es'=es++ [(k,v,c)],c'=Nat.succ c,KL es])
  |_=>none
 | .mtoL b g cs=>match s.h.look b with
  | some (.mapx es c k (.slice n 0 n2 c2 e x)) =>bif Nat.beq b n then none else match s.h.look n with
   | some (.cells t2 _ [] false) =>bif g||Nat.beq e 1 then
     some (⟨s.fr,s.cs,(s.h.set n (.lst e (chunk g e n2 cs))).set b (.mapx es c k (.gl n e 0 n2 (x&&Nat.beq c2 n2)))⟩,[getCells t2 0 (n2*e) =some cs,allOne cs=true])else none
   |_=>none
  |_=>none
 | .mfrz b n ys=>bif Nat.beq b n then none else match s.h.look b,s.h.look n with
  |some (.mapx es c k v),some (.lst e xs) =>some (⟨s.fr,s.cs,(s.h.del n).set b (.map (es++ [(k,AV.frz n ys v,c)]) (Nat.succ c))⟩,[AV.keyless k=true,AV.keylessL xs=true,AV.frzOk n e xs ys v])
  |_,_=>none
 | .appN zs n=>match topOp s with
  | some o=>match appVal P s.h s.fr.tm o zs n with
   |some (v,h',ps) =>goOn s v h' ps
   |none=>none
  |none=>none
 | .lw b ys=>match s.h.look b with
  |some (.lst e xs) =>some (⟨s.fr,s.cs,s.h.set b (.lst e ys)⟩,[xs≠ [],VW xs ys])
  |_=>none
 | .toL j g cs=>match s.fr.tm.at j with
  | some (.slice b 0 n c e x) =>match s.h.look b with
   | some (.cells t _ [] false) =>bif g||Nat.beq e 1 then
     some (⟨{s.fr with tm:=s.fr.tm.put j (.gl b e 0 n (x&&Nat.beq c n))},s.cs,s.h.set b (.lst e (chunk g e n cs))⟩,[getCells t 0 (n*e) =some cs,allOne cs=true])else none
   |_=>none
  |_=>none
 | .ctoL k o g cs=>match s.h.look k with
  | some (.cells t n ol sup) =>match t.at o with
   | some (.slice b 0 n2 c e x) =>bif Nat.beq k b then none else match s.h.look b with
    | some (.cells t2 _ [] false) =>bif g||Nat.beq e 1 then
      some (⟨s.fr,s.cs,(s.h.set b (.lst e (chunk g e n2 cs))).set k (.cells (t.put o (.gl b e 0 n2 (x&&Nat.beq c n2))) n ol sup)⟩,[getCells t2 0 (n2*e) =some cs,allOne cs=true])else none
    |_=>none
   |_=>none
  |_=>none
def xexec (P:Program) :List Ins→AS→Option (AS×List Prop)
 | [],s=>some (s,[])
 | i::is,s=>match xstep P i s with
  |none=>none
  | some (s',ps) =>match xexec P is s' with
   |none=>none
   |some (s'',qs) =>some (s'',ps++qs)
end
end
def AllP :List Prop→Prop
 | [] =>True
 | [p] =>p
 |p::ps=>p∧AllP ps
theorem AllP.mem :∀ {ps:List Prop},AllP ps→∀p∈ps,p
 | [p],h,q,hq=>by rw [List.mem_singleton]at hq;rw [hq];exact h
 | p::p'::ps,h,q,hq=>by
  rcases List.mem_cons.1 hq with rfl|hq
  ·exact h.1
  ·exact AllP.mem h.2 q hq
variable {P :Program}
theorem astep_val {call:Oracle}{s:AS}{o:Oper}(ho:topOp s=some o){v:AV}{h':Hp}(hv:aop P s.h s.fr.tm o=some (.val v h')){fr:AFrame}(hf:s.fr.finish v=some fr) :astep P call s=some ⟨fr,s.cs,h'⟩ :=by
 obtain⟨afr,cs,h⟩ :=s
 obtain⟨fn,tm,nt,todo,defers,mode,kind,ro⟩ :=afr
 simp only at hv hf ⊢
 unfold topOp at ho
 simp only at ho
 split at ho
 · rename_i all i o' rest k
   split at ho
   · rename_i hw
     cases ho
     simp only [AFrame.finish]at hf
     split at hf
     · rename_i tm' htm
       cases hf
       simp only [astep,hw,hv,htm]
     ·cases hf
   ·cases ho
 ·cases ho
theorem astep_call {call:Oracle}{s:AS}{o:Oper}(ho:topOp s=some o){c:AIn}(hv:aop P s.h s.fr.tm o=some (.call c)){g:AFrame}(hg:inFrame P s.h c=some g) :astep P call s=some ⟨g,s.fr::s.cs,s.h⟩ :=by
 obtain⟨afr,cs,h⟩ :=s
 obtain⟨fn,tm,nt,todo,defers,mode,kind,ro⟩ :=afr
 simp only at hv hg ⊢
 unfold topOp at ho
 simp only at ho
 split at ho
 · rename_i all i o' rest k
   split at ho
   · rename_i hw
     cases ho
     simp only [astep,hw,hv,pushIn,hg]
   ·cases ho
 ·cases ho
theorem callC_rf {E:Emb}{h:Hp}{w:World}{fn:FuncId}{tmps:Array Value}{ds:List Deferred}{kd:CallKind}{ro:Option Nat}{todo:List Item}(r:Rel E h w.heap){fr:AFrame}{all:Array Oper}{i:Nat}{o:Oper}{rest:List Oper}{ak:List AItem}(htd:fr.todo= .ops all i (o::rest) ::ak)
  (f:FR E fr (rf fn tmps todo ds kd ro)) (hw:awanted fr.tm all.toList o=some true) {g:Nat} {args:List AV} (hop:aop P h fr.tm o=some (.call (.enter g args))) (cs:List Frame) :
  ∃cargs,VRs E args cargs∧step P (lone (rf fn tmps todo ds kd ro) cs w) = .next (lone (Frame.enter P g ⟨cargs⟩ .normal) (rf fn tmps todo ds kd ro::cs) w) :=by
 have ft:=f.todo
 rw [htd]at ft
 obtain⟨it,k,e,i1,i2⟩ :=ft.cons_inv
 simp only at e
 subst e
 obtain⟨rfl,ho,i3⟩ :=ops_item i1
 have hwant:∀ {b},awanted fr.tm all.toList o=some b→Region.wanted o (yielded all tmps) =b:=fun h=>awanted_sound f.tm h
 have hρ:=TR.reads (E:=E) f.tm fn (.inRegion all (i::List.range' (i+1) rest.length) ::k) ds kd ro (· ∈o.op.operands)
 have hnd:=not_defer' hop
 obtain⟨cargs,h1,h2⟩ :=aop_sound r hρ hop
 exact⟨cargs,h2,step_enter ho (hwant hw) (.inr hnd) h1⟩
theorem leads_callC {m:Nat}{s:AS}{o:Oper}(ho:topOp s=some o){g:Nat}{args:List AV}(hv:aop P s.h s.fr.tm o=some (.call (.enter g args))){v:AV}{h':Hp}(hc:SpecC P g args s.h v h'){fr:AFrame}(hf:s.fr.finish v=some fr) :LeadsM P m s ⟨fr,s.cs,h'⟩ :=fun hm E cf ccs w base ff fs r=>by
 obtain⟨afr,cs,h⟩ :=s
 simp only at hv hc hf ff fs r hm ⊢
 unfold topOp at ho
 simp only at ho
 split at ho
 · rename_i all i o' rest k hmd htd
   split at ho
   · rename_i hw
     cases ho
     have e:=ff.run hmd
     have ff0:=ff
     rw [e]at ff
     obtain⟨cargs,h1,h2⟩ :=callC_rf r htd ff hw hv (ccs++base)
     rw [←e]at h2
     obtain⟨en,w',fr',⟨cv,E',rfl,h3,h4,h5⟩,h6,h7,h8⟩ :=hc E w cargs r h1 (cf:: (ccs++base))
     have h9:=step_leave_returned (cs:=ccs++base) (c:=cf) h8
     have hle:=h5.le
     exact⟨E',_,ccs,w',(Steps.one h2).trans (Steps.trans h6 (.one h9)),finish_sound hf (ff0.mono hle) h3,fs.mono hle,h4,h5.toM hm⟩
   ·cases ho
 ·cases ho
theorem leads_call2 {m:Nat}{s:AS}{v:AV}{h':Hp}{f1 f2:Nat}{args:List AV}{fr:AFrame}(h2:twoCalls P s v=some (f1,args,f2,fr))(hc:SpecCC P f1 args f2 s.h v h') :LeadsM P m s ⟨fr,s.cs,h'⟩ :=fun hm E cf ccs w base ff fs r=>by
 obtain⟨afr,cs,h⟩ :=s
 obtain⟨fn,tm,nt,todo,defers,mode,kind,ro⟩ :=afr
 simp only at hc ff fs r hm ⊢
 unfold twoCalls at h2
 simp only at h2
 split at h2
 · rename_i all i o1 o2 rest k
   split at h2
   · rename_i f1' args' d1 d2 c hw hop hd1 hg2 hd2 hc2
     split at h2
     · rename_i f2' d hcal hca
       cases hb: (Nat.beq d d1&&Nat.blt d1 nt&&Nat.blt d2 nt&&callable P f2')with
       |false=>rw [hb]at h2;cases h2
       | true=>
        rw [hb]at h2;simp only [cond]at h2
        cases h2
        simp only [Bool.and_eq_true]at hb
        obtain⟨⟨⟨b1,b2⟩,b3⟩,b4⟩ :=hb
        have b1:=Nat.eq_of_beq_eq_true b1
        subst b1
        have e:=ff.run rfl
        have ff0:=ff
        rw [e]at ff
        obtain⟨cargs,h1,s1⟩ :=callC_rf r rfl ff hw hop (ccs++base)
        rw [←e]at s1
        obtain⟨en,w1,fr1,⟨v1,rfl,r1,hc'⟩,s2,_,g2⟩ :=hc E w cargs r h1 (cf:: (ccs++base))
        have s3:=step_leave_returned (cs:=ccs++base) (c:=cf) g2
        have hf1:AFrame.finish ⟨fn,tm,nt,.ops all i (o1::o2::rest) ::k,defers,.run,kind,ro⟩ (.val v1) =some ⟨fn,tm.put d (.val v1),nt,.ops all (Nat.succ i) (o2::rest) ::k,defers,.run,kind,ro⟩ :=by
         simp only [AFrame.finish,aput,hd1,b2,cond]
        have ff1:=finish_sound hf1 ff0 (show VR E (.val v1) v1 by simp only [VR])
        have hv1: (tm.put d (.val v1)).at d=some (.val v1) :=by rw [T.at_put,if_pos rfl]
        have hw2:awanted (tm.put d (.val v1)) all.toList o2=some true:=by simp only [awanted,hg2]
        have hop2:aop P h (tm.put d (.val v1)) o2=some (.call (.enter f2 [.val v1])) :=by
         unfold aop
         simp only [aop0,hc2,acall,hca,aevals,aeval,hv1,hcal,acallV,aenter,b4,cond,List.nil_append,List.append_nil]
        have e1:=ff1.run rfl
        have ff2:=ff1
        rw [e1]at ff1
        obtain⟨cargs2,h3,s4⟩ :=callC_rf r1 rfl ff1 hw2 hop2 (ccs++base)
        rw [←e1]at s4
        obtain⟨u,us,rfl,q1,q2⟩ :=h3.cons_inv
        simp only [VR]at q1
        subst q1
        have:=q2.nil_inv
        subst this
        obtain⟨en,w',fr',⟨cv,E',rfl,k3,k4,k5⟩,s5,_,g5⟩ :=hc' (cf.finish u:: (ccs++base))
        have s6:=step_leave_returned (cs:=ccs++base) (c:=cf.finish u) g5
        have hle:=k5.le
        have hf2:AFrame.finish ⟨fn,tm.put d (.val u),nt,.ops all (Nat.succ i) (o2::rest) ::k,defers,.run,kind,ro⟩ v=some ⟨fn,(tm.put d (.val u)).put d2 v,nt,.ops all (Nat.succ (Nat.succ i)) rest::k,defers,.run,kind,ro⟩ :=by
         simp only [AFrame.finish,aput,hd2,b3,cond]
        have ff3:=finish_sound hf2 (ff2.mono hle) k3
        refine⟨E',_,ccs,w',(Steps.one s1).trans (Steps.trans s2 ((Steps.one s3).trans ((Steps.one s4).trans (Steps.trans s5 (.one s6))))),⟨ff3.fn,⟨ff3.tm.1,fun t a ea=>ff3.tm.2 t a ?_⟩,ff3.todo,ff3.defers,ff3.mode,ff3.kind,ff3.round⟩,fs.mono hle,k4,k5.toM hm⟩
        simp only at ea ⊢
        rw [T.at_put]at ea ⊢
        split
        ·rename_i ht;rw [if_pos ht]at ea;exact ea
        · rename_i ht
          rw [if_neg ht,T.at_del]at ea
          rw [T.at_put]
          split at ea
          ·cases ea
          ·rename_i hd;rw [if_neg hd];exact ea
     ·cases h2
   ·cases h2
 ·cases h2
theorem goOn_some {s s':AS}{v:AV}{h':Hp}{obl ps:List Prop}(hg:goOn s v h' obl=some (s',ps)) :∃fr,s.fr.finish v=some fr∧s'= ⟨fr,s.cs,h'⟩ ∧ps=obl:=by
 unfold goOn at hg
 split at hg
 ·rename_i fr hf;cases hg;exact⟨fr,hf,rfl,rfl⟩
 ·cases hg
theorem put_same {α:Type}{t:T α}{k:Nat}{v:α}(h:t.at k=some v) :∀j,(t.put k v).at j=t.at j:=fun j=>by
 rw [T.at_put];split
 ·rename_i e;rw [e,h]
 ·rfl
theorem fr_same {E:Emb}{fr:AFrame}{c:Frame}(f:FR E fr c){j:Nat}{v:AV}(h:fr.tm.at j=some v) :FR E {fr with tm:=fr.tm.put j v} c:=
 ⟨f.fn,⟨f.tm.1,fun t a e=>f.tm.2 t a (by rw [←put_same h t];exact e)⟩,f.todo,f.defers,f.mode,f.kind,f.round⟩
theorem leads_same {m:Nat}{fr:AFrame}{cs:List AFrame}{h:Hp}{j:Nat}{v:AV}(hj:fr.tm.at j=some v) :LeadsM P m ⟨fr,cs,h⟩ ⟨{fr with tm:=fr.tm.put j v},cs,h⟩ :=
 fun hm E cf ccs w _ f fs r=> ⟨E,cf,ccs,w,Steps.refl _ _,fr_same f hj,fs,r,ExtM.refl hm⟩
theorem look_set_same {h:Hp}{b:Nat}{o:AObj}(hb:h.look b=some o) :∀x,(h.set b o).look x=h.look x:=fun x=>by
 rw [look_set];split
 ·rename_i e;rw [e,hb]
 ·rfl
theorem leads_heap {m:Nat}{fr:AFrame}{cs:List AFrame}{h h':Hp}(hl:∀x o,h'.look x=some o→h.look x=some o)(hn:h'.nb=h.nb) :LeadsM P m ⟨fr,cs,h⟩ ⟨fr,cs,h'⟩ :=
 fun hm E cf ccs w _ f fs r=> ⟨E,cf,ccs,w,Steps.refl _ _,f,fs,r.sub hl (Nat.le_of_eq hn.symm),⟨fun _ _=>rfl,fun _ _ e=>e,Nat.le_refl _,fun _ _ _=>rfl,fun b o L e k _=> ⟨b,o,L,hl b o e,k,rfl⟩,by rw [hn];exact hm,rfl,rfl,rfl,fun _ _=>rfl,fun _ _ e _=>.inl e,fun b o e _=> ⟨o,hl b o e⟩⟩⟩
theorem leads_tm {m:Nat}{fr:AFrame}{cs:List AFrame}{h:Hp}{tm':T AV}(ht:∀t a,tm'.at t=some a→fr.tm.at t=some a) :LeadsM P m ⟨fr,cs,h⟩ ⟨{fr with tm:=tm'},cs,h⟩ :=
 fun hm E cf ccs w _ f fs r=> ⟨E,cf,ccs,w,Steps.refl _ _,⟨f.fn,⟨f.tm.1,fun t a e=>f.tm.2 t a (ht t a e)⟩,f.todo,f.defers,f.mode,f.kind,f.round⟩,fs,r,ExtM.refl hm⟩
theorem leads_mk {m n:Nat}{s:AS}{o:Oper}(ho:topOp s=some o){t:TypeId}{l c:Operand}{d:Nat}(hop:o.op= .makeSlice t l c)(hdst:o.dst=some d){k1 k2:IntKind}(hl:aeval s.fr.tm l=some (.int k1 n))(hc:aeval s.fr.tm c=some (.int k2 n)){el:TypeId}(hu:P.underlying t=some (.slice el))
  {e:Nat} (hsz:sizeOfT P el=some e) {z:AV} (hz:zeroOf P el=some z) {inf:TypeInfo} (hinf:P.info? el=some inf) {ed:TypeDesc} (_hed:P.underlying el=some ed) (hcd: (Nat.ble e 40&&Nat.ble 1 e&&Nat.beq z.cells.length e&&Nat.ble inf.bytes 1000) =true) (h1:allOne z.cells=true) (hg:isAggD ed=true∨Nat.beq e 1=true) (hn:n<100000)
  {fr:AFrame} (hf:s.fr.finish (.gl s.h.nb e 0 n true) =some fr) :LeadsM P m s ⟨fr,s.cs,s.h.new (.lst e (List.replicate n (bif isAggD ed then .agg z.cells else z.cells.headD .undef)))⟩ :=by
 have hzl:z.cells.length=e:=by simp only [Bool.and_eq_true]at hcd;exact Nat.eq_of_beq_eq_true hcd.1.2
 have hv:aop P s.h s.fr.tm o=some (.val (.slice s.h.nb 0 n n e true) (s.h.newCells (repl z.cells n))) :=by
  unfold aop
  have hcd': (Nat.ble e 40&&Nat.ble 1 e&&Nat.beq z.cells.length e&&Nat.ble inf.bytes 1000) =true:=hcd
  simp only [aop0,hop,ev2,hl,hc,hu,hsz,hz,hinf,hcd',cond]
  rw [if_pos ⟨by omega,Int.le_refl _,by omega⟩]
  rfl
 obtain ⟨fr0,hf0,hfr⟩ :∃fr0,s.fr.finish (.slice s.h.nb 0 n n e true) =some fr0∧∃tm0,d<s.fr.nt∧tm0=s.fr.tm∧fr0.tm=tm0.put d (.slice s.h.nb 0 n n e true) ∧fr= {fr0 with tm:=tm0.put d (.gl s.h.nb e 0 n true)}:=by
  unfold topOp at ho
  split at ho
  · rename_i all i o' rest k hm htd
    split at ho
    · cases ho
      unfold AFrame.finish at hf ⊢
      rw [htd]at hf ⊢
      simp only [hdst,aput]at hf ⊢
      cases hb:Nat.blt d s.fr.nt with
      |false=>rw [hb]at hf;cases hf
      | true=>
       rw [hb]at hf
       simp only [cond]at hf ⊢
       cases hf
       exact⟨_,rfl,s.fr.tm,by rw [blt_dec]at hb;exact of_decide_eq_true hb,rfl,rfl,rfl⟩
    ·cases ho
  ·cases ho
 obtain⟨tm0,hd,_,e1,e2⟩ :=hfr
 have hrl: (repl z.cells n).length=n*e:=by rw [repl_length,hzl]
 have hlook: (s.h.newCells (repl z.cells n)).look s.h.nb=some (.cells (putCells .leaf 0 (repl z.cells n)) (repl z.cells n).length [] false) :=by
  unfold Hp.newCells;rw [look_new,if_pos rfl]
 have hget:getCells (putCells .leaf 0 (repl z.cells n)) 0 (n*e) =some (repl z.cells n) :=by
  rw [←hrl]
  exact getCells_put _ _ _ (fun j hj=>by rw [Nat.zero_add,at_put_leaf,if_pos hj])
 have step1:=leads_step (P:=P) (m:=m) nocall_sound (astep_val (call:=nocall) ho hv hf0)
 have step2:=leads_slot (P:=P) (m:=m) (fr:=fr0) (cs:=s.cs) (h:=s.h.newCells (repl z.cells n)) (j:=d) (by rw [e1,T.at_put,if_pos rfl]) (turns_toL (m:=m) (c:=n) (x:=true) (g:=isAggD ed) hlook hget (allOne_repl h1 n) (fun hgf=>by
  rcases hg with g|g
  ·rw [hgf]at g;cases g
  ·exact Nat.eq_of_beq_eq_true g))
 refine(step1.trans step2).trans ?_
 rw [chunk_repl (isAggD ed) hzl n]
 have hbeq: (true&&Nat.beq n n) =true:=by simp
 rw [hbeq]
 have a:=leads_heap (P:=P) (m:=m) (fr:={fr0 with tm:=fr0.tm.put d (.gl s.h.nb e 0 n true)}) (cs:=s.cs) (h:= (s.h.newCells (repl z.cells n)).set s.h.nb (.lst e (List.replicate n (bif isAggD ed then .agg z.cells else z.cells.headD .undef)))) (h':=s.h.new (.lst e (List.replicate n (bif isAggD ed then .agg z.cells else z.cells.headD .undef)))) (fun x ox ex=>by
  rw [look_new]at ex
  rw [look_set]
  unfold Hp.newCells
  rw [look_new]
  by_cases hx:x=s.h.nb
  ·rw [if_pos hx]at ex ⊢;exact ex
  ·rw [if_neg hx]at ex ⊢;rw [if_neg hx];exact ex) rfl
 refine a.trans ?_
 rw [e2]
 exact leads_tm (P:=P) (fr:={fr0 with tm:=fr0.tm.put d (.gl s.h.nb e 0 n true)}) (tm':=tm0.put d (.gl s.h.nb e 0 n true)) (fun t a ha=>by
  show(fr0.tm.put d (.gl s.h.nb e 0 n true)).at t=some a
  rw [e1,T.at_put]
  rw [T.at_put]at ha
  split at ha
  ·rename_i ht;rw [if_pos ht];exact ha
  ·rename_i ht;rw [if_neg ht,T.at_put,if_neg ht];exact ha)
theorem aappend_gl {h:Hp}{ats:Array TypeId}{b e off len:Nat}{ex:Bool}{x:AV}:aappend P h ats (.gl b e off len ex) x=none:=by
 unfold aappend
 simp only [cond_eq_ite]
 repeat' split
 all_goals first|rfl| (split<;>rfl)
theorem aappend_ilst {h:Hp}{ats:Array TypeId}{e:Nat}{xs:List AV}{ex:Bool}{x:AV}:aappend P h ats (.ilst e xs ex) x=none:=by
 unfold aappend
 simp only [cond_eq_ite]
 repeat' split
 all_goals first|rfl| (split<;>rfl)
set_option maxHeartbeats 2000000 in
theorem at_mkT' {α:Type}:∀ {l:List (Nat×α)} {k:Nat} {v:α},(mkT' l).at k=some v→ (k,v) ∈l
 | [],k,v,h=>by rw [mkT',T.at_leaf]at h;cases h
 | (j,u) ::r,k,v,h=>by
  rw [mkT',T.at_put]at h
  split at h
  ·rename_i hk;cases h;subst hk;exact List.mem_cons_self ..
  ·exact List.mem_cons_of_mem _ (at_mkT' h)
theorem keepT_mem {α:Type}{t:T α}:∀ {js:List Nat} {k:Nat} {v:α},(k,v) ∈keepT t js→t.at k=some v
 | [],_,_,h=>by cases h
 | j ::js,k,v,h=>by
  simp only [keepT]at h
  split at h
  · rename_i u hu
    rcases List.mem_cons.1 h with e|h
    ·cases e;exact hu
    ·exact keepT_mem h
  ·exact keepT_mem h
theorem xstep_sound {i:Ins}{s s':AS}{ps:List Prop}{m:Nat}(h0:xstep P i s=some (s',ps))(hp:∀p∈ps,p) :LeadsM P m s s':=by
 cases i with
 | run n=>
  simp only [xstep]at h0
  split at h0
  · rename_i s1 h1
    cases h0
    rw [fstepsN_eq]at h1
    exact(leads_steps nocall_sound h1).toM
  ·cases h0
 | unname j b=>
  simp only [xstep]at h0
  split at h0
  · rename_i u u' e xs hj hb
    cases h0
    have q0:=mem1 hp
    subst q0
    exact leads_slot hj (turns_unname hb)
  ·cases h0
 | vfrz b o ys=>
  simp only [xstep]at h0
  split at h0
  · rename_i u e xs eo zs hb ho
    cases hne:Nat.beq o b with
    |true=>rw [hne]at h0;cases h0
    | false=>
     rw [hne]at h0;simp only [cond]at h0
     cases h0
     have q0:=hp _ (List.mem_cons_self ..)
     have q1:=hp _ (List.mem_cons_of_mem _ (List.mem_cons_self ..))
     have q2:=hp _ (List.mem_cons_of_mem _ (List.mem_cons_of_mem _ (List.mem_cons_self ..)))
     refine leads_vfrz hb ho (fun e=>?_) q0 q1 q2
     rw [e,Nat.beq_refl]at hne;cases hne
  ·cases h0
 | appN zs n=>
  simp only [xstep]at h0
  split at h0
  · rename_i o ho
    split at h0
    · rename_i v h' qs hv
      obtain⟨fr,hf,rfl,rfl⟩ :=goOn_some h0
      exact leads_step nocall_sound (astep_val ho (appVal_sound hv hp) hf)
    ·cases h0
  ·cases h0
 | mopen b=>
  simp only [xstep]at h0
  split at h0
  · rename_i es c k v hb
    cases h0
    exact leads_mopen hb
  ·cases h0
 | mclose b es c k v=>
  simp only [xstep]at h0
  split at h0
  · rename_i es' c' hb
    cases h0
    exact leads_mclose hb (hp _ (List.mem_cons_self ..)) (hp _ (List.mem_cons_of_mem _ (List.mem_cons_self ..))) (hp _ (List.mem_cons_of_mem _ (List.mem_cons_of_mem _ (List.mem_cons_self ..))))
  ·cases h0
 | mtoL b g cs=>
  simp only [xstep]at h0
  split at h0
  · rename_i es c k n n2 c2 e x hb
    cases hkb:Nat.beq b n with
    |true=>rw [hkb]at h0;cases h0
    | false=>
     rw [hkb]at h0;simp only [cond]at h0
     have hne:b≠n:=fun e=>by subst e;simp at hkb
     split at h0
     · rename_i t2 k2 hn
       cases hc: (g||Nat.beq e 1)with
       |false=>rw [hc]at h0;cases h0
       | true=>
        rw [hc]at h0;simp only at h0;cases h0
        exact leads_mturn hb (by rw [look_set,if_neg hne];exact hb) (turns_toL hn (hp _ (List.mem_cons_self ..)) (hp _ (List.mem_cons_of_mem _ (List.mem_cons_self ..))) (fun hg=>by subst hg;simp only [Bool.false_or]at hc;exact Nat.eq_of_beq_eq_true hc))
     ·cases h0
  ·cases h0
 | mfrz b n ys=>
  simp only [xstep]at h0
  cases hc:Nat.beq b n with
  |true=>rw [hc]at h0;cases h0
  | false=>
   rw [hc]at h0;simp only [cond]at h0
   have hne:b≠n:=fun e=>by subst e;simp at hc
   split at h0
   · rename_i es c k v e xs hb hn
     cases h0
     exact leads_mfrz hb (by rw [look_del,if_neg hne];exact hb) (turns_frz hn (hp _ (List.mem_cons_of_mem _ (List.mem_cons_self ..))) (hp _ (List.mem_cons_of_mem _ (List.mem_cons_of_mem _ (List.mem_cons_self ..))))) (hp _ (List.mem_cons_self ..))
   ·cases h0
 | lw b ys=>
  simp only [xstep]at h0
  split at h0
  · rename_i e xs hb
    cases h0
    have q0:=hp _ (List.mem_cons_self ..)
    have q1:=hp _ (List.mem_cons_of_mem _ (List.mem_cons_self ..))
    exact leads_lw hb q0 q1
  ·cases h0
 | lkeep b js=>
  simp only [xstep]at h0
  split at h0
  · rename_i st pe fn tm nt ps aS bd df hb
    cases h0
    intro hm E cf ccs w base f fs r
    refine⟨E,cf,ccs,w,Steps.refl _ _,f,fs,r.reobj hb rfl (fun L hL=>?_) rfl rfl rfl,ext_set (ExtM.refl hm) hb⟩
    obtain⟨tmps,Ld,h1,h2,h3⟩ :=r.objL hb hL
    exact⟨tmps,Ld,h1,h2,h3.1,fun t a e=>h3.2 t a (keepT_mem (at_mkT' e))⟩
  ·cases h0
 | b j v=>
  simp only [xstep]at h0
  split at h0
  · rename_i b hb
    cases h0
    have:=mem1 hp
    subst this
    exact leads_same hb
  ·cases h0
 | set j v=>
  simp only [xstep]at h0
  split at h0
  · rename_i u hu
    cases h0
    have:=mem1 hp
    subst this
    exact leads_same hu
  ·cases h0
 | cset k o v=>
  simp only [xstep]at h0
  split at h0
  · rename_i t n ol sup hk
    split at h0
    · rename_i u hu
      cases h0
      have:=mem1 hp
      subst this
      exact leads_cell hk hk hu (turns_val fun _ _ h=>h)
    ·cases h0
  ·cases h0
 | lset b xs=>
  simp only [xstep]at h0
  split at h0
  · rename_i e ys hb
    cases h0
    have:=mem1 hp
    subst this
    exact leads_heap (fun x o e=>by rw [look_set_same hb]at e;exact e) rfl
  ·cases h0
 | call v h'=>
  simp only [xstep]at h0
  split at h0
  · rename_i o ho
    split at h0
    · rename_i c hc
      unfold goOn at h0
      split at h0
      · rename_i fr hf
        cases h0
        obtain⟨g,hg,he⟩ :=mem1 hp
        exact leads_entered (leads_step nocall_sound (astep_call ho hc hg)) he hf
      ·cases h0
    ·cases h0
  ·cases h0
 | callC v h'=>
  simp only [xstep]at h0
  split at h0
  · rename_i o ho
    split at h0
    · rename_i f args hc
      obtain⟨fr,hf,rfl,rfl⟩ :=goOn_some h0
      exact leads_callC ho hc (mem1 hp) hf
    ·cases h0
  ·cases h0
 | call2 v h'=>
  simp only [xstep]at h0
  split at h0
  · rename_i f1 args f2 fr h2
    cases h0
    exact leads_call2 h2 (mem1 hp)
  ·cases h0
 | callP ch h'=>
  simp only [xstep]at h0
  split at h0
  · rename_i o ho
    split at h0
    · rename_i c hc
      cases h0
      obtain⟨g,hg,he⟩ :=mem1 hp
      exact leads_enteredP (leads_step nocall_sound (astep_call ho hc hg)) he
    ·cases h0
  ·cases h0
 | ans a=>
  simp only [xstep]at h0
  split at h0
  · rename_i o ho
    split at h0
    · rename_i v qs hv
      obtain⟨fr,hf,rfl,rfl⟩ :=goOn_some h0
      exact leads_step nocall_sound (astep_val ho (ansVal_sound hv hp) hf)
    ·cases h0
  ·cases h0
 | pure v=>
  simp only [xstep]at h0
  split at h0
  · rename_i o ho
    split at h0
    · rename_i f args hc
      obtain⟨fr,hf,rfl,rfl⟩ :=goOn_some h0
      obtain⟨g,hg,he⟩ :=mem1 hp s.h
      exact leads_entered (leads_step nocall_sound (astep_call ho hc hg)) he hf
    ·cases h0
  ·cases h0
 | throws ch=>
  simp only [xstep]at h0
  split at h0
  · rename_i o ho
    split at h0
    · rename_i f args hc
      cases h0
      obtain⟨g,hg,he⟩ :=mem1 hp s.h
      exact leads_enteredP (leads_step nocall_sound (astep_call ho hc hg)) he
    ·cases h0
  ·cases h0
 | mk n =>
  simp only [xstep]at h0
  split at h0
  · rename_i o ho
    split at h0
    · rename_i t l c d hop hdst
      split at h0
      · rename_i k1 l' k2 c' hl hc
        split at h0
        · rename_i el hu
          split at h0
          · rename_i e z inf ed hsz hz hinf hed
            cases hcd: (Nat.ble e 40&&Nat.ble 1 e&&Nat.beq z.cells.length e&&Nat.ble inf.bytes 1000&&allOne z.cells&& (isAggD ed||Nat.beq e 1))with
            |false=>rw [hcd]at h0;cases h0
            | true=>
             rw [hcd]at h0;simp only [cond]at h0
             split at h0
             · rename_i fr hf
               cases h0
               have q1:=hp _ (List.mem_cons_self ..)
               have q2:=hp _ (List.mem_cons_of_mem _ (List.mem_cons_self ..))
               have q3:=hp _ (List.mem_cons_of_mem _ (List.mem_cons_of_mem _ (List.mem_cons_self ..)))
               subst q1 q2
               simp only [Bool.and_eq_true,Bool.or_eq_true]at hcd
               obtain⟨⟨⟨⟨⟨c1,c2⟩,c3⟩,c4⟩,c5⟩,c6⟩ :=hcd
               exact leads_mk ho hop hdst hl hc hu hsz hz hinf hed (by simp [c1,c2,c3,c4]) c5 c6 q3 hf
             ·cases h0
          ·cases h0
        ·cases h0
      ·cases h0
    ·cases h0
  ·cases h0
 | reg is=>
  simp only [xstep]at h0
  split at h0
  · rename_i id ops k hm htd
    split at h0
    · rename_i tm h' qs hr
      cases h0
      exact leads_region hm htd hr hp
    ·cases h0
  ·cases h0
 | regA is os=>
  simp only [xstep]at h0
  split at h0
  · rename_i id ops k hm htd
    split at h0
    · rename_i tm h' qs hr
      cases h0
      exact leads_region hm htd hr hp
    ·cases h0
  ·cases h0
 | nxt c d =>
  simp only [xstep]at h0
  split at h0
  · rename_i o ho
    split at h0
    · rename_i it hop
      split at h0
      · rename_i r hr
        split at h0
        · rename_i l n pos hb
          obtain⟨fr,hf,rfl,rfl⟩ :=goOn_some h0
          have q0:=hp _ (List.mem_cons_self ..)
          have q1:=hp _ (List.mem_cons_of_mem _ (List.mem_cons_self ..))
          refine leads_step nocall_sound (astep_val ho ?_ hf)
          have hbl:Nat.blt pos l=true:=by rw [blt_dec];exact decide_eq_true q0
          unfold aop
          simp only [aop0,hop,ev1,hr,hb,hbl,cond,q1]
        ·cases h0
      ·cases h0
    ·cases h0
  ·cases h0
 | nxtE =>
  simp only [xstep]at h0
  split at h0
  · rename_i o ho
    split at h0
    · rename_i it hop
      split at h0
      · rename_i r hr
        split at h0
        · rename_i l n pos hb
          obtain⟨fr,hf,rfl,rfl⟩ :=goOn_some h0
          have q0:=mem1 hp
          refine leads_step nocall_sound (astep_val ho ?_ hf)
          have hbl:Nat.blt pos l=false:=by rw [blt_dec];exact decide_eq_false (by omega)
          unfold aop
          simp only [aop0,hop,ev1,hr,hb,hbl,cond]
        ·cases h0
      ·cases h0
    ·cases h0
  ·cases h0
 | mput es' clock'=>
  simp only [xstep]at h0
  split at h0
  · rename_i o ho
    split at h0
    · rename_i t m k x hop
      split at h0
      · rename_i r kv v hm hk hx
        split at h0
        · rename_i kt et es clock hu hb
          split at h0
          · rename_i kd hkd
            cases hc:plainKey kd kv with
            |false=>rw [hc]at h0;cases h0
            | true=>
             rw [hc]at h0;simp only [cond]at h0
             obtain⟨fr,hf,rfl,rfl⟩ :=goOn_some h0
             have q:=mem1 hp
             refine leads_step nocall_sound (astep_val ho ?_ hf)
             unfold mapPut at q
             unfold aop
             simp only [aop0,hop,ev2,ev1,hm,hk,hx,amapUpdate,hu,hkd,hb,hc,cond]
             split at q
             · rename_i i w hfk
               cases q
               simp only [hfk,skipH]
             · rename_i hfk
               cases q
               simp only [hfk,skipH]
             ·cases q
          ·cases h0
        ·cases h0
      ·cases h0
    ·cases h0
  ·cases h0
 | mset b es' clock'=>
  simp only [xstep]at h0
  split at h0
  · rename_i es clock hb
    cases h0
    have q0:=hp _ (List.mem_cons_self ..)
    have q1:=hp _ (List.mem_cons_of_mem _ (List.mem_cons_self ..))
    subst q0 q1
    exact leads_heap (fun x o e=>by rw [look_set_same hb]at e;exact e) rfl
  ·cases h0
 | st y y' =>
  simp only [xstep]at h0
  split at h0
  · rename_i o ho
    split at h0
    · rename_i t a x hop
      split at h0
      · rename_i b e i k v ha hx
        split at h0
        · rename_i e' xs n hb hn
          cases hc: (Nat.beq e' e&&Nat.beq v.cells.length n&&Nat.ble (k+n) e&&allOne v.cells)with
          |false=>rw [hc]at h0;cases h0
          | true=>
           rw [hc]at h0;simp only [cond]at h0
           split at h0
           · rename_i fr hf
             cases h0
             have q0:=hp _ (List.mem_cons_self ..)
             have q1:=hp _ (List.mem_cons_of_mem _ (List.mem_cons_self ..))
             refine leads_step nocall_sound (astep_val ho (aop_of_vop ?_ ?_) hf)
             ·simp only [aop0,hop,ev2,ha,hx]
             ·simp only [vop,hop,ev2,ha,hx,hb,hn,hc,cond,q0,q1]
           ·cases h0
        ·cases h0
      ·cases h0
    ·cases h0
  ·cases h0
 | app zs n =>
  simp only [xstep]at h0
  split at h0
  · rename_i o ho
    split at h0
    · rename_i c hop
      split at h0
      · rename_i d x st xt hcal hargs hst hxt
        split at h0
        · rename_i el el' hu hu'
          split at h0
          · rename_i e inf z hsz hinf hz
            cases hc: (Nat.beq z.cells.length e&&Nat.ble e 40&&Nat.ble inf.bytes 1000&&Nat.ble 1 inf.bytes&&Nat.ble 1 e)with
            |false=>rw [hc]at h0;cases h0
            | true =>
             rw [hc]at h0;simp only [cond]at h0
             split at h0
             · rename_i b e' off len ex
               split at h0
               · rename_i e2 xs hb
                 cases hc2: (Nat.beq e' e&&Nat.beq e2 e)with
                 |false=>rw [hc2]at h0;cases h0
                 | true=>
                  rw [hc2]at h0;simp only at h0
                  simp only [Bool.and_eq_true]at hc2
                  have ee1:=Nat.eq_of_beq_eq_true hc2.1
                  have ee2:=Nat.eq_of_beq_eq_true hc2.2
                  split at h0
                  · rename_i ys y1
                    obtain⟨fr,hf,rfl,rfl⟩ :=goOn_some h0
                    have y2:=hp _ (List.mem_cons_self ..)
                    have y3:=hp _ (List.mem_cons_of_mem _ (List.mem_cons_self ..))
                    have y4:=hp _ (List.mem_cons_of_mem _ (List.mem_cons_of_mem _ (List.mem_cons_self ..)))
                    have y5:=hp _ (List.mem_cons_of_mem _ (List.mem_cons_of_mem _ (List.mem_cons_of_mem _ (List.mem_cons_self ..))))
                    subst y4 y5
                    refine leads_step nocall_sound (astep_val ho (aop_of_vop ?_ ?_) hf)
                    ·simp only [aop0,hop,acall,hargs,hcal,abuiltin,aappend_gl]
                    · simp only [vop,hop,hcal,hargs,vappend,hst,hxt,hu,hu',hsz,hinf,hz,y1,hc,cond,hb,valH]
                      rw [if_pos ⟨ee1,ee2,y2,y3⟩]
                  ·cases h0
               ·cases h0
             · rename_i e'
               cases hc2:Nat.beq e' e with
               |false=>rw [hc2]at h0;cases h0
               | true=>
                rw [hc2]at h0;simp only at h0
                have ee1:=Nat.eq_of_beq_eq_true hc2
                split at h0
                · rename_i ys y1
                  obtain⟨fr,hf,rfl,rfl⟩ :=goOn_some h0
                  have y2:=hp _ (List.mem_cons_self ..)
                  have y3:=hp _ (List.mem_cons_of_mem _ (List.mem_cons_self ..))
                  have y4:=hp _ (List.mem_cons_of_mem _ (List.mem_cons_of_mem _ (List.mem_cons_self ..)))
                  subst y3 y4
                  refine leads_step nocall_sound (astep_val ho (aop_of_vop ?_ ?_) hf)
                  ·simp only [aop0,hop,acall,hargs,hcal,abuiltin,aappend_ilst]
                  · simp only [vop,hop,hcal,hargs,vappend,hst,hxt,hu,hu',hsz,hinf,hz,y1,hc,cond,valH]
                    rw [if_pos ⟨ee1,y2⟩]
                ·cases h0
             ·cases h0
          ·cases h0
        ·cases h0
      ·cases h0
    ·cases h0
  ·cases h0
 | nilL j e=>
  simp only [xstep]at h0
  split at h0
  ·rename_i hj;cases h0;exact leads_slot hj (turns_nil e)
  ·cases h0
 | nilI j e=>
  simp only [xstep]at h0
  split at h0
  ·rename_i hj;cases h0;exact leads_slot hj (turns_nilI e)
  ·cases h0
 | frz j b ys=>
  simp only [xstep]at h0
  split at h0
  · rename_i v e xs hj hb
    cases h0
    exact leads_slot hj (turns_frz hb (hp _ (List.mem_cons_self ..)) (hp _ (List.mem_cons_of_mem _ (List.mem_cons_self ..))))
  ·cases h0
 | cnil k o e=>
  simp only [xstep]at h0
  split at h0
  · rename_i t n ol sup hk
    split at h0
    · rename_i hv
      cases hc:Nat.blt k s.h.nb with
      |false=>rw [hc]at h0;cases h0
      | true=>
       rw [hc]at h0;simp only [cond]at h0;cases h0
       rw [blt_dec]at hc
       have:=of_decide_eq_true hc
       exact leads_cell hk (by rw [look_new,if_neg (by omega)];exact hk) hv (turns_nil e)
    ·cases h0
  ·cases h0
 | cnilI k o e=>
  simp only [xstep]at h0
  split at h0
  · rename_i t n ol sup hk
    split at h0
    ·rename_i hv;cases h0;exact leads_cell hk hk hv (turns_nilI e)
    ·cases h0
  ·cases h0
 | cfrz k o b ys=>
  simp only [xstep]at h0
  cases hc:Nat.beq k b with
  |true=>rw [hc]at h0;cases h0
  | false=>
   rw [hc]at h0;simp only [cond]at h0
   have hne:k≠b:=fun e=>by subst e;simp at hc
   split at h0
   · rename_i t n ol sup e xs hk hb
     split at h0
     · rename_i v hv
       cases h0
       exact leads_cell hk (by rw [look_del,if_neg hne];exact hk) hv (turns_frz hb (hp _ (List.mem_cons_self ..)) (hp _ (List.mem_cons_of_mem _ (List.mem_cons_self ..))))
     ·cases h0
   ·cases h0
 | ctoL k o g cs=>
  simp only [xstep]at h0
  split at h0
  · rename_i t n ol sup hk
    split at h0
    · rename_i b n2 c e x hv
      cases hkb:Nat.beq k b with
      |true=>rw [hkb]at h0;cases h0
      | false=>
       rw [hkb]at h0;simp only [cond]at h0
       have hne:k≠b:=fun e=>by subst e;simp at hkb
       split at h0
       · rename_i t2 k2 hb
         cases hc: (g||Nat.beq e 1)with
         |false=>rw [hc]at h0;cases h0
         | true=>
          rw [hc]at h0;simp only at h0;cases h0
          exact leads_cell hk (by rw [look_set,if_neg hne];exact hk) hv (turns_toL hb (hp _ (List.mem_cons_self ..)) (hp _ (List.mem_cons_of_mem _ (List.mem_cons_self ..))) (fun hg=>by subst hg;simp only [Bool.false_or]at hc;exact Nat.eq_of_beq_eq_true hc))
       ·cases h0
    ·cases h0
  ·cases h0
 | toL j g cs=>
  simp only [xstep]at h0
  split at h0
  · rename_i b n c e x hj
    split at h0
    · rename_i t k hb
      cases hc: (g||Nat.beq e 1)with
      |false=>rw [hc]at h0;cases h0
      | true=>
       rw [hc]at h0;simp only [cond]at h0;cases h0
       exact leads_slot hj (turns_toL hb (hp _ (List.mem_cons_self ..)) (hp _ (List.mem_cons_of_mem _ (List.mem_cons_self ..))) (fun hg=>by subst hg;simp only [Bool.false_or]at hc;exact Nat.eq_of_beq_eq_true hc))
    ·cases h0
  ·cases h0
theorem xexec_sound {m:Nat}:∀ {is:List Ins} {s s':AS} {ps:List Prop},xexec P is s=some (s',ps) → (∀p∈ps,p) →LeadsM P m s s'
 | [],s,s',ps,h0,_=>by simp only [xexec]at h0;cases h0;exact LeadsM.refl s
 | i ::is,s,s',ps,h0,hp=>by
  simp only [xexec]at h0
  split at h0
  ·cases h0
  · rename_i s1 p1 h1
    split at h0
    ·cases h0
    · rename_i s2 p2 h2
      cases h0
      exact(xstep_sound h1 (fun p hpp=>hp p (List.mem_append_left _ hpp))).trans (xexec_sound h2 (fun p hpp=>hp p (List.mem_append_right _ hpp)))
end Go.Hb
namespace Go.Hb
variable {P :Program}
noncomputable section
def mkT {α:Type}:List (Nat×α) →T α
 | [] =>.leaf
 | (k,v) ::r=> (mkT r).put k v
theorem at_mkT {α:Type}:∀ {l:List (Nat×α)} {k:Nat} {v:α},(mkT l).at k=some v→ (k,v) ∈l
 | [],k,v,h=>by rw [mkT,T.at_leaf]at h;cases h
 | (j,u) ::r,k,v,h=>by
  rw [mkT,T.at_put]at h
  split at h
  ·rename_i hk;cases h;subst hk;exact List.mem_cons_self ..
  ·exact List.mem_cons_of_mem _ (at_mkT h)
structure TF where
 fn:Nat
 nt:Nat
 sl:List (Nat×AV)
 todo:List AItem
 defers:List ADef:=[]
 mode:AMode:=.run
 kind:CallKind:=.normal
 roundOf:Option Nat:=none
def TF.fr (f:TF) :AFrame:= ⟨f.fn,mkT f.sl,f.nt,f.todo,f.defers,f.mode,f.kind,f.roundOf⟩
structure TS where
 fr:TF
 cs:List TF
 hp:List (Nat×AObj×Bool)
 nb:Nat
def hpOf (l:List (Nat×AObj×Bool))(nb:Nat) :Hp:= ⟨mkT (l.map fun p=> (p.1,p.2.1)),nb⟩
def TS.as (s:TS) :AS:= ⟨s.fr.fr,s.cs.map TF.fr,hpOf s.hp s.nb⟩
def T.mapT {α β:Type}(f:α→β) :T α→T β
 | .leaf=>.leaf
 | .node l v r=>.node (T.mapT f l) (v.map f) (T.mapT f r)
theorem get_mapT {α β:Type}(f:α→β) :∀ (t:T α) (k:Nat),(t.mapT f).get k= (t.get k).map f
 | .leaf,k=>rfl
 | .node l v r,k=>by
  rw [T.mapT,T.get_node,T.get_node,get_mapT f l,get_mapT f r]
  split
  ·rfl
  ·split<;>rfl
theorem at_mapT {α β:Type}(f:α→β)(t:T α)(k:Nat) : (t.mapT f).at k= (t.at k).map f:=get_mapT f t _
def AObj.ren (τ:Nat→Nat) :AObj→AObj
 | .cells t n ol sup=>.cells (t.mapT (AV.ren τ)) n (ol.map τ) sup
 | .map es c=>.map (es.map fun p=> (AV.ren τ p.1,AV.ren τ p.2.1,p.2.2)) c
 | .siter l n p=>.siter l n p
 | .mapx es c k v=>.mapx es c (AV.ren τ k) (AV.ren τ v)
 | .loop st pe fn tm nt ps aS bd df=>.loop st pe fn (tm.mapT (AV.ren τ)) nt ps aS bd (τ df)
 | .defd t=>.defd t
 | .lst e xs=>.lst e (AV.renL τ xs)
 | .lstv u e xs=>.lstv u e (AV.renL τ xs)
 | .miter m s l n=>.miter (τ m) s l n
def AItem.ren (τ:Nat→Nat) :AItem→AItem
 | .inRF l=>.inRF (τ l)
 | .endRF l=>.endRF (τ l)
 |i=>i
def ADef.ren (τ:Nat→Nat) :ADef→ADef
 | .fn f args=>.fn f (AV.renL τ args)
 | .col r=>.col (τ r)
def AMode.ren (τ:Nat→Nat) :AMode→AMode
 | .pan ch=>.pan (ch.map fun p=> (AV.ren τ p.1,p.2))
 |m=>m
theorem ren_TR {τ:Nat→Nat}{E:Emb}{tm:T AV}{nt:Nat}{tmps:Array Value}(r:TR E (tm.mapT (AV.ren τ)) nt tmps) :TR (E.ren τ) tm nt tmps:=
 ⟨r.1,fun t a e=>by
  obtain⟨v,g1,g2⟩ :=r.2 t (AV.ren τ a) (by rw [at_mapT,e];rfl)
  exact⟨v,g1,(ren_VR τ E a v).1 g2⟩⟩
theorem ren_ERs {τ:Nat→Nat}{E:Emb}:∀ {es:List (AV×AV×Nat)} {us:List MapEntry},ERs E (es.map fun p=> (AV.ren τ p.1,AV.ren τ p.2.1,p.2.2)) us→ERs (E.ren τ) es us
 | [],_,r=>by simpa [ERs]using r
 | p::es,_,r=>by
  simp only [List.map_cons,ERs]at r ⊢
  obtain⟨u,us',h1,h2,h3,h4,h5⟩ :=r
  exact⟨u,us',h1,(ren_VR τ E _ _).1 h2,(ren_VR τ E _ _).1 h3,h4,ren_ERs h5⟩
theorem ren_OR {τ:Nat→Nat}{E:Emb}{H:Array Obj}{L:Loc}{o:AObj}(r:OR E H L (o.ren τ)) :OR (E.ren τ) H L o:=by
 cases o with
 | cells t n ol sup=>
  obtain⟨C,el,h1,h2,h3⟩ :=r
  refine⟨C,el,h1,h2,fun i a e=>?_⟩
  obtain⟨g1,v,g2,g3⟩ :=h3 i (AV.ren τ a) (by rw [at_mapT,e];rfl)
  exact⟨g1,v,g2,(ren_VR τ E a v).1 g3⟩
 |map es c=>obtain⟨ES,h1,h2⟩ :=r;exact⟨ES,h1,ren_ERs h2⟩
 |siter l n p=>exact r
 | mapx es c k v=>
  obtain⟨ES,h1,h2,h3⟩ :=r
  refine⟨ES,h1,?_,h3⟩
  obtain⟨us,vs,e1,e2,e3⟩ :=ERs.split h2
  rw [e1]
  refine ERs.join (h3 E _ us rfl e2) ?_
  simp only [ERs]at e3 ⊢
  obtain⟨u,us',q1,q2,q3,q4,q5⟩ :=e3
  exact⟨u,us',q1,(ren_VR τ E _ _).1 q2,(ren_VR τ E _ _).1 q3,q4,q5⟩
 |loop st pe fn tm nt ps aS bd df=>obtain⟨tmps,Ld,h1,h2,h3⟩ :=r;exact⟨tmps,Ld,h1,h2,ren_TR h3⟩
 |defd t=>exact r
 |lst e xs=>obtain⟨C,el,vs,h1,h2,h3,h4⟩ :=r;exact⟨C,el,vs,h1,h2,(ren_VRs τ E xs vs).1 h3,h4⟩
 |miter m s l n=>obtain⟨Lm,h1,h2,h3⟩ :=r;exact⟨Lm,h1,h2,h3⟩
 | lstv u e xs=>
  obtain⟨C,el,vs,h1,h2,h3,h4,h5,h6⟩ :=r
  have hl: (AV.renL τ xs).length=xs.length:=by rw [←h3.length,((ren_VRs τ E xs vs).1 h3).length]
  exact⟨C,el,vs,h1,h2,(ren_VRs τ E xs vs).1 h3,h4,h5,by rw [hl]at h6;exact h6⟩
def AObj.kl :AObj→Prop
 | .lst _ xs=>AV.keylessL xs=true
 | .lstv _ _ xs=>AV.keylessL xs=true
 | .map es _=>∀e∈es,AV.keyless e.1=true∧AV.keyless e.2.1=true
 |_=>False
theorem kl_ERs {E E':Emb}(he:E.imm=E'.imm) :∀ {es:List (AV×AV×Nat)} {us:List MapEntry},(∀e∈es,AV.keyless e.1=true∧AV.keyless e.2.1=true) →ERs E es us→ERs E' es us
 | [],_,_,r=>by simpa [ERs]using r
 | e::es,_,hk,r=>by
  simp only [ERs]at r ⊢
  obtain⟨u,us',h1,h2,h3,h4,h5⟩ :=r
  have e2:E.p=E'.p:=by simp [Emb.p,he]
  have k:=hk e (List.mem_cons_self ..)
  have q1:=keyless_VR k.1 h2
  have q2:=keyless_VR k.2 h3
  rw [e2]at q1 q2
  exact⟨u,us',h1,VR.of_p q1,VR.of_p q2,h4,kl_ERs he (fun x hx=>hk x (List.mem_cons_of_mem _ hx)) h5⟩
theorem kl_OR {E E':Emb}(he:E.imm=E'.imm){H:Array Obj}{L:Loc}{o:AObj}(hk:o.kl)(r:OR E H L o) :OR E' H L o:=by
 cases o with
 | lst e xs=>
  obtain⟨C,el,vs,h1,h2,h3,h4⟩ :=r
  refine⟨C,el,vs,h1,h2,?_,h4⟩
  have:=keyless_VRs hk h3
  have e2:E.p=E'.p:=by simp [Emb.p,he]
  rw [e2]at this;exact this.of_p
 | lstv u e xs=>
  obtain⟨C,el,vs,h1,h2,h3,h4⟩ :=r
  refine⟨C,el,vs,h1,h2,?_,h4⟩
  have:=keyless_VRs hk h3
  have e2:E.p=E'.p:=by simp [Emb.p,he]
  rw [e2]at this;exact this.of_p
 |map es c=>obtain⟨ES,h1,h2⟩ :=r;exact⟨ES,h1,kl_ERs he hk h2⟩
 |_=>exact hk.elim
theorem ren_IR {τ:Nat→Nat}{E:Emb}{a:AItem}{i:Item}(r:IR E (a.ren τ) i) :IR (E.ren τ) a i:=by cases a<;>exact r
theorem ren_IRs {τ:Nat→Nat}{E:Emb}:∀ {aS:List AItem} {is:List Item},IRs E (aS.map (AItem.ren τ)) is→IRs (E.ren τ) aS is
 | [],_,r=>by simpa [IRs]using r
 |_::_,_,r=>by simp only [List.map_cons,IRs]at r ⊢;obtain⟨i,is',h1,h2,h3⟩ :=r;exact⟨i,is',h1,ren_IR h2,ren_IRs h3⟩
theorem ren_DR {τ:Nat→Nat}{E:Emb}{a:ADef}{d:Deferred}(r:DR E (a.ren τ) d) :DR (E.ren τ) a d:=by
 cases a with
 |fn f args=>obtain⟨cap,a,h1,h2⟩ :=r;exact⟨cap,a,h1,(ren_VRs τ E _ _).1 h2⟩
 |col r'=>exact r
theorem ren_CR {τ:Nat→Nat}{E:Emb}:∀ {aS:List (AV×Bool)} {is:List PanicEntry},CR E (aS.map fun p=> (AV.ren τ p.1,p.2)) is→CR (E.ren τ) aS is
 | [],_,r=>by simpa [CR]using r
 |_::_,_,r=>by simp only [List.map_cons,CR]at r ⊢;obtain⟨i,is',h1,h2,h3⟩ :=r;exact⟨i,is',h1,(ren_VR τ E _ _).1 h2,ren_CR h3⟩
theorem ren_MR {τ:Nat→Nat}{E:Emb}{a:AMode}{m:FrameMode}(r:MR E (a.ren τ) m) :MR (E.ren τ) a m:=by
 cases a with
 |pan ch=>simp only [AMode.ren,MR]at r ⊢;obtain⟨ps,h1,h2⟩ :=r;exact⟨ps,h1,ren_CR h2⟩
 |_=>exact r
theorem ren_RR {τ:Nat→Nat}{E:Emb}{a b:Option Nat}(r:RR E (a.map τ) b) :RR (E.ren τ) a b:=by cases a<;>exact r
structure SumF where
 fn:Nat
 nt:Nat
 kind:CallKind
 ro:Option Nat
 mode:AMode
 todo:List AItem
 defers:List ADef
 sl:List (Option AV)
def slotsOf (tm:T AV) :List (Nat×AV) →List (Option AV)
 | [] =>[]
 |p::r=>tm.at p.1::slotsOf tm r
def wantS (τ:Nat→Nat) :List (Nat×AV) →List (Option AV)
 | [] =>[]
 |p::r=>some (AV.ren τ p.2) ::wantS τ r
def sumF (a:AFrame)(f:TF) :SumF:= ⟨a.fn,a.nt,a.kind,a.roundOf,a.mode,a.todo,a.defers,slotsOf a.tm f.sl⟩
def wantF (τ:Nat→Nat)(f:TF) :SumF:= ⟨f.fn,f.nt,f.kind,f.roundOf.map τ,f.mode.ren τ,f.todo.map (AItem.ren τ),f.defers.map (ADef.ren τ),wantS τ f.sl⟩
def sumFs :List AFrame→List TF→List SumF
 |a::aS,f::fs=>sumF a f::sumFs aS fs
 |_,_=>[]
def sumH (h:Hp)(τ:Nat→Nat) :List (Nat×AObj×Bool) →List (Option AObj)
 | [] =>[]
 |p::r=>h.look (τ p.1) ::sumH h τ r
def wantH (τ:Nat→Nat) :List (Nat×AObj×Bool) →List (Option AObj)
 | [] =>[]
 |p::r=>some (bif p.2.2 then p.2.1 else p.2.1.ren τ) ::wantH τ r
structure Sum where
 fr:SumF
 n:Nat
 cs:List SumF
 hp:List (Option AObj)
def AS.sum (s:AS)(τ:Nat→Nat)(t:TS) :Sum:= ⟨sumF s.fr t.fr,s.cs.length,sumFs s.cs t.cs,sumH s.h τ t.hp⟩
def TS.want (t:TS)(τ:Nat→Nat) :Sum:= ⟨wantF τ t.fr,t.cs.length,t.cs.map (wantF τ),wantH τ t.hp⟩
def tau (m nb n1:Nat)(ks:List Nat)(b:Nat) :Nat:=bif Nat.blt b m then b else bif Nat.blt b nb then ks.getD (b-m) 0 else n1+b
def nodup :List Nat→Bool
 | [] =>true
 |k::ks=> !(memN k ks) &&nodup ks
def allGe (m:Nat) :List Nat→Bool
 | [] =>true
 |k::ks=>Nat.ble m k&&allGe m ks
def noOlder :AObj→Bool
 | .cells _ _ [] _=>true
 | .cells .. =>false
 |_=>true
theorem noOlder_spec {o:AObj}(h:noOlder o=true) :olderOf o= [] :=by
 cases o with
 | cells t n ol sup=>cases ol with
  |nil=>rfl
  |cons x xs=>cases h
 |_=>rfl
def keysLt (nb:Nat) :List (Nat×AObj×Bool) →Bool
 | [] =>true
 |p::r=>Nat.blt p.1 nb&&noOlder p.2.1&&keysLt nb r
def okNames (m:Nat)(t:TS)(ks:List Nat) :Bool:=Nat.ble m t.nb&&Nat.beq (m+ks.length) t.nb&&nodup ks&&allGe m ks&&keysLt t.nb t.hp
def klAll :List (Nat×AObj×Bool) →Prop
 | [] =>True
 | (_,o,true) ::r=>o.kl∧klAll r
 | (_,_,false) ::r=>klAll r
theorem memN_iff (t:Nat) :∀l:List Nat,memN t l=true↔t∈l
 | [] =>by simp [memN]
 | x ::xs=>by
  rw [memN,Bool.or_eq_true,memN_iff t xs,beq_dec,decide_eq_true_eq,List.mem_cons]
  constructor
  · rintro(h|h)
    ·exact .inl h.symm
    ·exact .inr h
  · rintro(h|h)
    ·exact .inl h.symm
    ·exact .inr h
theorem nodup_get :∀ {l:List Nat},nodup l=true→∀i j,i<l.length→j<l.length→l.getD i 0=l.getD j 0→i=j
 | [],_,i,j,hi,_,_=>by simp at hi
 | x ::xs,h,i,j,hi,hj,e=>by
  simp only [nodup,Bool.and_eq_true,Bool.not_eq_true']at h
  have hn:x∉xs:=fun hm=>by rw [(memN_iff x xs).2 hm]at h;cases h.1
  cases i with
  | zero=>
   cases j with
   |zero=>rfl
   | succ j=>
    simp only [List.length_cons]at hj
    simp only [List.getD_cons_zero,List.getD_cons_succ]at e
    exact absurd (e ▸ (by rw [List.getD_eq_getElem?_getD,List.getElem?_eq_getElem (by omega)];exact List.getElem_mem ..)) hn
  | succ i=>
   cases j with
   | zero=>
    simp only [List.length_cons]at hi
    simp only [List.getD_cons_zero,List.getD_cons_succ]at e
    exact absurd (e ▸ (by rw [List.getD_eq_getElem?_getD,List.getElem?_eq_getElem (by omega)];exact List.getElem_mem ..)) hn
   | succ j=>
    simp only [List.length_cons]at hi hj
    simp only [List.getD_cons_succ]at e
    rw [nodup_get h.2 i j (by omega) (by omega) e]
theorem allGe_get {m:Nat}:∀ {l:List Nat},allGe m l=true→∀i,i<l.length→m≤l.getD i 0
 | [],_,i,hi=>by simp at hi
 | x::xs,h,i,hi=>by
  simp only [allGe,Bool.and_eq_true]at h
  cases i with
  |zero=>simpa using Nat.le_of_ble_eq_true h.1
  |succ i=>simp only [List.length_cons]at hi;simpa using allGe_get h.2 i (by omega)
theorem keysLt_mem {nb:Nat}:∀ {l:List (Nat×AObj×Bool)},keysLt nb l=true→∀p∈l,p.1<nb∧olderOf p.2.1= []
 | p::r,h,q,hq=>by
  simp only [keysLt,Bool.and_eq_true,blt_dec,decide_eq_true_eq]at h
  rcases List.mem_cons.1 hq with rfl|hq
  ·exact⟨h.1.1,noOlder_spec h.1.2⟩
  ·exact keysLt_mem h.2 q hq
theorem klAll_mem :∀ {l:List (Nat×AObj×Bool)},klAll l→∀k o,(k,o,true) ∈l→o.kl
 | (k',o',true) ::r,h,k,o,hq=>by
  rcases List.mem_cons.1 hq with e|hq
  ·cases e;exact h.1
  ·exact klAll_mem h.2 k o hq
 | (k',o',false) ::r,h,k,o,hq=>by
  rcases List.mem_cons.1 hq with e|hq
  ·cases e
  ·exact klAll_mem (l:=r) h k o hq
theorem wantS_get {τ:Nat→Nat}{tm:T AV}:∀ {l:List (Nat×AV)},slotsOf tm l=wantS τ l→∀p∈l,tm.at p.1=some (AV.ren τ p.2)
 | p::r,h,q,hq=>by
  simp only [slotsOf,wantS,List.cons.injEq]at h
  rcases List.mem_cons.1 hq with rfl|hq
  ·exact h.1
  ·exact wantS_get h.2 q hq
theorem wantH_get {τ:Nat→Nat}{h0:Hp}:∀ {l:List (Nat×AObj×Bool)},sumH h0 τ l=wantH τ l→∀p∈l,h0.look (τ p.1) =some (bif p.2.2 then p.2.1 else p.2.1.ren τ)
 | p::r,h,q,hq=>by
  simp only [sumH,wantH,List.cons.injEq]at h
  rcases List.mem_cons.1 hq with rfl|hq
  ·exact h.1
  ·exact wantH_get h.2 q hq
theorem sumF_FR {τ:Nat→Nat}{E:Emb}{a:AFrame}{f:TF}(h:sumF a f=wantF τ f){c:Frame}(r:FR E a c) :FR (E.ren τ) f.fr c:=by
 simp only [sumF,wantF,SumF.mk.injEq]at h
 obtain⟨h1,h2,h3,h4,h5,h6,h7,h8⟩ :=h
 refine⟨r.fn.trans h1,⟨r.tm.1.trans h2,fun t v e=>?_⟩,ren_IRs (show IRs E (f.todo.map (AItem.ren τ)) c.todo by rw [←h6];exact r.todo),?_,ren_MR (show MR E (f.mode.ren τ) c.mode by rw [←h5];exact r.mode),r.kind.trans h3,ren_RR (show RR E (f.roundOf.map τ) c.roundOf by rw [←h4];exact r.round)⟩
 · obtain⟨cv,g1,g2⟩ :=r.tm.2 t (AV.ren τ v) (wantS_get h8 (t,v) (at_mkT e))
   exact⟨cv,g1,(ren_VR τ E v cv).1 g2⟩
 · have hd:=r.defers
   rw [h7]at hd
   have:∀ {aS:List ADef} {ds:List Deferred},DRs E (aS.map (ADef.ren τ)) ds→DRs (E.ren τ) aS ds:=by
    intro aS
    induction aS with
    |nil=>intro ds h;simpa [DRs]using h
    | cons a aS ih=>
     intro ds h
     obtain⟨d,ds',rfl,k1,k2⟩ :=h.cons_inv
     exact DRs.cons (ren_DR k1) (ih k2)
   exact this hd
theorem sumFs_FRs {τ:Nat→Nat}{E:Emb}:∀ {aS:List AFrame} {fs:List TF},aS.length=fs.length→sumFs aS fs=fs.map (wantF τ) →∀ {cs:List Frame},FRs E aS cs→FRs (E.ren τ) (fs.map TF.fr) cs
 | [],[],_,_,cs,r=>by rw [r.nil_inv];rfl
 | a::aS,f::fs,hl,h,cs,r=>by
  simp only [sumFs,List.map_cons,List.cons.injEq]at h
  obtain⟨c,cs',rfl,k1,k2⟩ :=r.cons_inv
  exact FRs.cons (sumF_FR h.1 k1) (sumFs_FRs (by simpa using hl) h.2 k2)
 | [],_::_,hl,_,_,_=>by simp at hl
 |_::_,[],hl,_,_,_=>by simp at hl
theorem tau_low {m nb n1:Nat}{ks:List Nat}{b:Nat}(h:b<m) :tau m nb n1 ks b=b:=by simp [tau,blt_dec,h]
theorem tau_mid {m nb n1:Nat}{ks:List Nat}{b:Nat}(h1:m≤b)(h2:b<nb) :tau m nb n1 ks b=ks.getD (b-m) 0:=by simp [tau,blt_dec,h2,show ¬b<m by omega]
theorem tau_high {m nb n1:Nat}{ks:List Nat}{b:Nat}(h1:m≤b)(h2:nb≤b) :tau m nb n1 ks b=n1+b:=by simp [tau,blt_dec,show ¬b<m by omega,show ¬b<nb by omega]
theorem heap_ren {m:Nat}{l:List (Nat×AObj×Bool)}{nb:Nat}{ks:List Nat}{h:Hp}(hok:okNames m ⟨⟨0,0,[],[],[],.run,.normal,none⟩,[],l,nb⟩ ks=true)(hh:sumH h (tau m nb h.nb ks) l=wantH (tau m nb h.nb ks) l)(hkl:klAll l){E:Emb}{w:World}(r:Rel E h w.heap) :
  Rel (E.ren (tau m nb h.nb ks)) (hpOf l nb) w.heap∧ExtM m E h w (E.ren (tau m nb h.nb ks)) (hpOf l nb) w:=by
 simp only [okNames,Bool.and_eq_true]at hok
 obtain⟨⟨⟨⟨o1,o2⟩,o3⟩,o4⟩,o5⟩ :=hok
 have hm:=Nat.le_of_ble_eq_true o1
 have hlen:=Nat.eq_of_beq_eq_true o2
 have hlook:∀ {b o},(hpOf l nb).look b=some o→b<nb∧olderOf o= [] ∧∃f,(b,o,f) ∈l∧h.look (tau m nb h.nb ks b) =some (bif f then o else o.ren (tau m nb h.nb ks)) :=fun {b o} e=>by
  have: (b,o) ∈l.map fun p=> (p.1,p.2.1) :=at_mkT e
  obtain⟨p,hp,hpe⟩ :=List.mem_map.1 this
  obtain⟨pb,po,pf⟩ :=p
  cases hpe
  exact⟨(keysLt_mem o5 _ hp).1,(keysLt_mem o5 _ hp).2,pf,hp,wantH_get hh _ hp⟩
 have inj:∀ {b b'},b<nb→b'<nb→tau m nb h.nb ks b=tau m nb h.nb ks b'→b=b':=fun {b b'} h1 h2 e=>by
  rcases Nat.lt_or_ge b m with g1|g1
  · rw [tau_low g1]at e
    rcases Nat.lt_or_ge b' m with g2|g2
    ·rw [tau_low g2]at e;exact e
    · rw [tau_mid g2 h2]at e
      have:=allGe_get o4 (b'-m) (by omega)
      omega
  · rw [tau_mid g1 h1]at e
    rcases Nat.lt_or_ge b' m with g2|g2
    · rw [tau_low g2]at e
      have:=allGe_get o4 (b-m) (by omega)
      omega
    · rw [tau_mid g2 h2]at e
      have:=nodup_get o3 _ _ (by omega) (by omega) e
      omega
 refine⟨⟨fun b o e=>?_,fun b b' o o' L L' e e' k k' hbl hne=>?_,fun b hb=>?_,r.imm,fun b o L e k=>?_,fun b o e=> (hlook e).1⟩,
  ⟨fun b hb=>by show E.loc (tau m nb h.nb ks b) =E.loc b;rw [tau_low hb],fun _ _ e=>e,Nat.le_refl _,fun _ _ _=>rfl,fun b' o' L' e k _=>?_,hm,rfl,rfl,rfl,fun _ _=>rfl,fun _ _ e _=>.inl e,fun b o e hb=>?_⟩⟩
 · obtain⟨hb,hol,f,hf,hlk⟩ :=hlook e
   cases f with
   | true=>
    simp only [cond]at hlk
    rcases r.obj0 _ _ hlk with u| ⟨L,g1,g2⟩
    ·exact .inl u
    ·exact .inr ⟨L,g1,kl_OR (E:=E) (E':=E.ren (tau m nb h.nb ks)) rfl (klAll_mem hkl b o hf) g2⟩
   | false=>
    simp only [cond]at hlk
    rcases r.obj0 _ _ hlk with⟨u1,u2⟩ | ⟨L,g1,g2⟩
    · refine .inl ⟨?_,u2⟩
      cases o with
      | lst e xs=>cases xs with
       |nil=>rfl
       |cons x xs=>simp [AObj.ren,AV.renL,unloc]at u1
      |_=>cases u1
    ·exact .inr ⟨L,g1,ren_OR g2⟩
 · obtain⟨hb,hol,f,hf,hlk⟩ :=hlook e
   obtain⟨hb',hol',f',hf',hlk'⟩ :=hlook e'
   have hne':tau m nb h.nb ks b≠tau m nb h.nb ks b':=fun ee=>hne (inj hb hb' ee)
   have hkin:=r.kin _ _ _ _ L L' hlk hlk' k k' hbl hne'
   have q:∀ (o:AObj) (f:Bool),(f=true→o.kl) →olderOf (bif f then o else o.ren (tau m nb h.nb ks)) = (olderOf o).map (tau m nb h.nb ks) ∧supOf (bif f then o else o.ren (tau m nb h.nb ks)) =supOf o∧nOf (bif f then o else o.ren (tau m nb h.nb ks)) =nOf o:=fun o f hf=>by
    cases f with
    |true=>cases o<;>first|exact⟨rfl,rfl,rfl⟩ |exact(hf rfl).elim
    |false=>cases o<;>exact⟨rfl,rfl,rfl⟩
   obtain⟨a1,a2,a3⟩ :=q o f (fun ff=>by subst ff;exact klAll_mem hkl b o hf)
   obtain⟨b1,b2,b3⟩ :=q o' f' (fun ff=>by subst ff;exact klAll_mem hkl b' o' hf')
   unfold Kin at hkin
   rw [a1,a2,a3,b1,b2,b3,hol,hol']at hkin
   rcases hkin with⟨g,_⟩ | ⟨g,_⟩ <;>simp at g
 · show E.loc (tau m nb h.nb ks b) =none
   have hb:nb≤b:=hb
   rw [tau_high (by omega) hb]
   exact r.fresh _ (by omega)
 · obtain⟨hb,hol,f,hf,hlk⟩ :=hlook e
   exact r.apart _ _ L hlk k
 · obtain⟨hb,hol,f,hf,hlk⟩ :=hlook e
   exact⟨_,_,L',hlk,k,rfl⟩
 · obtain⟨hb',hol,f,hf,hlk⟩ :=hlook e
   rw [tau_low hb]at hlk
   exact⟨_,hlk⟩
end
end Go.Hb
