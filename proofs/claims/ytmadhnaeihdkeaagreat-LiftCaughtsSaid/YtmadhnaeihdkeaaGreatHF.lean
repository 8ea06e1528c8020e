/- A machine on abstract values, its soundness, ways, plain laws. -/
import Derived.Test.YtmadhnaeihdkeaaGreatHD
import Derived.KernelRfl
import Derived.Test.YtmadhnaeihdkeaaGreatProg
import Derived.WalkKit
import Derived.OpenShut
import Derived.ChangeArms
set_option linter.defProp false
set_option linter.unusedVariables false
set_option linter.unusedSimpArgs false
set_option linter.unusedSectionVars false
set_option maxRecDepth 100000
namespace Go.Hb
open AV (frzOk keyless keylessL renL)
open List (mem_singleton_self replicate)
open Nat (beq ble blt le_refl lt_or_ge)
noncomputable section
section
variable {P :Program}
theorem mem1 {p:Prop}{ps:List Prop}(h:∀q∈p::ps,q) :p:=h p (dJ ..)
theorem cP {h:Hp}{tm:T AV}{o:Oper}{out:AOut}(h0:fP P h tm o=none)(h1:vop P h tm o=some out) :iO P h tm o=some out:=by unfold iO;rw [h0];exact h1
theorem qR {k:IntKind}{n:Int}{len:Nat}(h0:0≤n)(h1:n<len) :fD (.int k n) len=some n.toNat:=by simp [fD,h0,h1]
inductive Ans where
 |idx (y:AV)
 |ix
 |ev (v:AV)
 |look (r:Option (Nat×AV))
 |len (n:Int)
def aFW (z:AV)(ok:Bool)(r:Option (Nat×AV)) :AV:=match r with
 |some (_,v) =>bif ok then .tup [v,.bool true]else v
 |none=>bif ok then .tup [z,.bool false]else z
def oP (P:Program)(h:Hp)(tm:T AV)(o:Oper)(a:Ans) :Option (AV×List Prop) :=
 match a with
 | .idx y=>match o.op with
  | .indexAddr t x i=>match bG tm x,bG tm i with
   |some (.ilst e xs _),some (.int _ n) =>bif sB P t e then some (.iptr y.cells,[0≤n,xs[n.toNat]?=some y])else none
   |_,_=>none
  | .load t a=>match bG tm a with
   | some (.ep b e i k) =>match h.look b with
    | some (.lst e' xs) =>bif beq e' e then match aHu P t (y.cells.drop k)with
     |some v=>some (v,[xs[i]?=some y])
     |none=>none else none
    |_=>none
   |_=>none
  |_=>none
 | .ix=>match o.op with
  | .indexAddr t x i=>match bG tm x,bG tm i with
   |some (.gl b e off len _),some (.int _ n) =>bif sB P t e then some (.ep b e (off+n.toNat) 0,[0≤n,n<len])else none
   |_,_=>none
  |_=>none
 | .ev v=>match o.op with
  | .slice t x lo hi mx=>match bG tm x,mE tm lo,mE tm hi,mE tm mx with
   |some a,some lo,some hi,some mx=>some (v,[∃l u m,eH lo=some l∧eH hi=some u∧eH mx=some m∧ (oD P t a l u m=some v∨ (oD P t a l u m=none∧wO P t a l u m=some v))])
   |_,_,_,_=>none
  | .binOp op t x y _=>match bG tm x,bG tm y with
   |some a,some b=>some (v,[aT1 P op t a b (isLit x) (isLit y) =some v])
   |_,_=>none
  | .index t x i=>match bG tm x,bG tm i with
   | some (.str l n),some (.int _ k) =>match P.underlying t with
    |some .string=>some (v,[0≤k,k<l,.int .u8 (Nat.mod (Nat.div n (Nat.pow 256 k.toNat)) 256) =v])
    |_=>none
   |_,_=>none
  | .convert sr d x=>match bG tm x with
   | some (.slice b off len _ _ _) =>match P.underlying sr,P.underlying d,h.loadN b off len with
    | some (.slice e),some .string,some vs=>match P.underlying e with
     |some (.int .u8) =>some (v,[sG vs=some v])
     |_=>none
    |_,_,_=>none
   |_=>none
  |_=>none
 | .look r=>match o.op with
  | .lookup t x k ok=>match bG tm x,bG tm k with
   | some (.map b),some k=>match P.underlying t,h.look b with
    | some (.map kt et),some (.map es _) =>match P.underlying kt,zeroOf P et with
     |some kd,some z=>bif plainKey kd k then some (aFW z ok r,[nH k es 0=some r])else none
     |_,_=>none
    |_,_=>none
   |_,_=>none
  |_=>none
 | .len n=>match o.op with
  | .call c=>match c.callee,fJ tm c.args.toList,c.argTypes[0]? with
   | .builtin .len,some [.ilst _ xs _],some t=>match P.underlying t with
    |some (.slice _) =>some (.int .i64 n,[(xs.length:Int) =n])
    |_=>none
   |_,_,_=>none
  |_=>none
theorem lT {h:Hp}{tm:T AV}{o:Oper}{a:Ans}{v:AV}{ps:List Prop}(h0:oP P h tm o a=some (v,ps))(hp:∀p∈ps,p) :iO P h tm o=some (.val v h) :=by
 cases a with
 | idx y =>
  simp only [oP]at h0;split at h0
  · rename_i t x i hop;split at h0
    · rename_i e xs ex k n hx hi;cases hc:sB P t e
      case false=>rw [hc]at h0;cases h0
      rw [hc]at h0;simp only [cond]at h0;cases h0;have q0:=hp _ (dJ ..);have q1:=hp _ (dR _ (dJ ..));have hlt:= (zq0.1 q1).1;refine cP ?_ ?_
      ·simp only [fP,hop,xR,hx,hi];split<;>simp_all
      ·simp only [vop,hop,xR,hx,hi,hc,cond,qR q0 (show n< (xs.length:Int)by omega),q1]
    ·cases h0
  · rename_i t a hop;split at h0
    · rename_i b e i k ha;split at h0
      · rename_i e' xs hb;cases hc:beq e' e
        case false=>rw [hc]at h0;cases h0
        rw [hc]at h0;simp only [cond]at h0;split at h0
        · rename_i v' hv;cases h0;have q1:=mem1 hp;refine cP ?_ ?_
          ·simp only [fP,hop,sF,ha]
          ·simp only [vop,hop,sF,ha,hb,hc,cond,q1,val,hv]
        ·cases h0
      ·cases h0
    ·cases h0
  ·cases h0
 | ix =>
  simp only [oP]at h0;split at h0
  · rename_i t x i hop;split at h0
    · rename_i b e off len ex k n hx hi;cases hc:sB P t e
      case false=>rw [hc]at h0;cases h0
      rw [hc]at h0;simp only [cond]at h0;cases h0;have q0:=hp _ (dJ ..);have q1:=hp _ (dR _ (dJ ..));refine cP ?_ ?_
      ·simp only [fP,hop,xR,hx,hi];split<;>simp_all
      ·simp only [vop,hop,xR,hx,hi,hc,cond,qR q0 q1]
    ·cases h0
  ·cases h0
 | ev v0 =>
  simp only [oP]at h0;split at h0
  · rename_i t x lo hi mx hop;split at h0
    · rename_i a l1 l2 l3 hx e1 e2 e3;cases h0;obtain⟨l,u,m',d1,d2,d3,d4| ⟨d4,d5⟩⟩ :=mem1 hp
      ·unfold iO;simp only [fP,hop,sF,hx,e1,e2,e3,d1,d2,d3,d4,val]
      · refine cP ?_ ?_
        ·simp only [fP,hop,sF,hx,e1,e2,e3,d1,d2,d3,d4,val]
        ·simp only [vop,hop,sF,hx,e1,e2,e3,d1,d2,d3,d5,val]
    ·cases h0
  · rename_i op t x y yt hop;split at h0
    · rename_i a b hx hy;cases h0;have q:=mem1 hp;unfold iO;simp only [fP,hop,xR,hx,hy,q,val]
    ·cases h0
  · rename_i t x i hop;split at h0
    · rename_i l n kk k hx hi;split at h0
      · rename_i hu;cases h0;have q1:=hp _ (dJ ..);have q2:=hp _ (dR _ (dJ ..));have q3:=hp _ (dR _ (dR _ (dJ ..)));unfold iO;simp only [fP,hop,xR,hx,hi,hu,qR q1 q2,q3]
      ·cases h0
    ·cases h0
  · rename_i sr d x hop;split at h0
    · rename_i b off len cp ez ex hx;split at h0
      · rename_i e vs hs hd hl;split at h0
        · rename_i hu;cases h0;have q:=mem1 hp;unfold iO;simp only [fP,hop,sF,hx,sH,hs,hd,hl,hu,q,val]
        ·cases h0
      ·cases h0
    ·cases h0
  ·cases h0
 | look r =>
  simp only [oP]at h0;split at h0
  · rename_i t x k ok hop;split at h0
    · rename_i b kv hx hk;split at h0
      · rename_i kt et es clock hu hb;split at h0
        · rename_i kd z hkd hz;cases hc:plainKey kd kv
          case false=>rw [hc]at h0;cases h0
          rw [hc]at h0;simp only [cond]at h0;cases h0;have q:=mem1 hp;unfold iO;simp only [fP,hop,xR,hx,hk,aBp,hu,hkd,hz,hc,cond,hb,q];cases r with
          |none=>cases ok<;>simp [val,aFW]
          |some p=>obtain⟨i,v⟩ :=p;cases ok<;>simp [val,aFW]
        ·cases h0
      ·cases h0
    ·cases h0
  ·cases h0
 | len n =>
  simp only [oP]at h0;split at h0
  · rename_i c hop;split at h0
    · rename_i e xs ex t hcal hargs ht;split at h0
      · rename_i el hu;cases h0;have q:=mem1 hp;subst q;refine cP ?_ ?_
        ·simp only [fP,hop,pA,hargs,hcal,eW,ht,aT4,hu]
        ·simp only [vop,hop,hcal,hargs,ht,hu]
      ·cases h0
    ·cases h0
  ·cases h0
inductive RIns where
 |d
 |b (j:Nat) (v:Bool)
 |pure (v:AV)
 |ans (a:Ans)
 |call (v:AV) (h':Hp)
 |st (y y':AV)
 |app (zs:List AV) (n:Nat)
 |mput (es:List (AV×AV×Nat)) (clock:Nat)
def aFX (P:Program)(h:Hp)(tm:T AV)(o:Oper)(zs:List AV)(n:Nat) :Option (AV×Hp×List Prop) :=
 match o.op with
 | .call c=>match c.callee,fJ tm c.args.toList,c.argTypes[0]?,c.argTypes[1]? with
  | .builtin .append,some [d,.ilst e1 ys ex],some st,some xt=>match P.underlying st,P.underlying xt with
   | some (.slice el),some (.slice _) =>match aR P el,P.info? el,zeroOf P el,P.underlying el with
    | some e,some inf,some z,some _=>bif (beq z.cells.length e&&ble e 40&&ble inf.bytes 1000&&ble 1 inf.bytes&&ble 1 e) &&beq e1 e then
      match d with
      | .nils=>some (.gl h.nb e 0 n false,h.new (.lst e zs),[n≤1000000,ys=zs,ys.length=n])
      | .gl b e' off len _=>match h.look b with
       | some (.lst e2 xs) =>bif beq e' e&&beq e2 e then
         some (.gl h.nb e 0 n false,(h.del b).new (.lst e zs),[off+len≤xs.length,n≤1000000,(xs.drop off).take len++ys=zs,len+ys.length=n])else none
       |_=>none
      | .ilst e2 (y::xs) true=>bif beq e2 e then some (.ilst e zs false,h,[keylessL ys=true,(y::xs).length+ys.length≤1000000,y::xs++ys=zs])else none
      |_=>none
      else none
    |_,_,_,_=>none
   |_,_=>none
  |_,_,_,_=>none
 |_=>none
def aFY (P:Program)(h:Hp)(tm:T AV)(o:Oper)(zs:List AV)(n:Nat) :Option (AV×Hp×List Prop) :=
 match o.op with
 | .call c=>match c.callee,fJ tm c.args.toList,c.argTypes[0]?,c.argTypes[1]? with
  | .builtin .append,some [.gl b e' off len _,x],some st,some xt=>match P.underlying st,P.underlying xt with
   | some (.slice el),some (.slice _) =>match aR P el,P.info? el,zeroOf P el with
    | some e,some inf,some z=>bif beq z.cells.length e&&ble e 40&&ble inf.bytes 1000&&ble 1 inf.bytes&&ble 1 e then
      match h.look b,oH P h el e x with
      | some (.lst e2 xs),some ys=>bif beq e' e&&beq e2 e then
         some (.gl h.nb e 0 n false,(h.del b).new (.lst e zs),[off+len≤xs.length,n≤1000000,(xs.drop off).take len++ys=zs,len+ys.length=n])else none
      |_,_=>none
      else none
    |_,_,_=>none
   |_,_=>none
  |_,_,_,_=>none
 |_=>none
def aFZ (P:Program)(h:Hp)(tm:T AV)(o:Oper)(zs:List AV)(n:Nat) :Option (AV×Hp×List Prop) :=
 match aFX P h tm o zs n with
 |some r=>some r
 |none=>aFY P h tm o zs n
theorem aD3 {h:Hp}{ats:Array TypeId}{b e off len:Nat}{ex:Bool}{x:AV}:aappend P h ats (.gl b e off len ex) x=none:=by
 unfold aappend;simp only [cond_eq_ite]
 repeat' split
 all_goals first|rfl| (split<;>rfl)
theorem aKx {h:Hp}{ats:Array TypeId}{e:TypeId}{sz e1:Nat}{ys:List AV}{ex:Bool}:aHr P h ats e sz (.ilst e1 ys ex) =none:=by
 unfold aHr;split
 ·rfl
 ·split<;>simp_all
theorem lJ {h:Hp}{ats:Array TypeId}{s:AV}{e1:Nat}{ys:List AV}{ex:Bool}:aappend P h ats s (.ilst e1 ys ex) =none:=by
 unfold aappend;simp only [aKx]
 repeat' split
 all_goals first|rfl| (simp_all;done)
theorem aD4 {h h':Hp}{tm:T AV}{o:Oper}{zs:List AV}{n:Nat}{v:AV}{ps:List Prop}(h0:aFX P h tm o zs n=some (v,h',ps))(hp:∀p∈ps,p) :iO P h tm o=some (.val v h') :=by
 unfold aFX at h0;split at h0
 · rename_i c hop;split at h0
   · rename_i d e1 ys ex st xt hcal hargs hst hxt;split at h0
     · rename_i el el' hu hu';split at h0
       · rename_i e inf z dd hsz hinf hz hd;cases hc: (beq z.cells.length e&&ble e 40&&ble inf.bytes 1000&&ble 1 inf.bytes&&ble 1 e)
         case false=>rw [hc]at h0;cases h0
         cases he:beq e1 e
         case false=>rw [hc,he]at h0;cases h0
         rw [hc,he]at h0;simp only [Bool.and_true,cond]at h0;have hadd:oH P h el e (.ilst e1 ys ex) =some ys:=by
          simp only [oH,hd,he,cond]
         split at h0
         · cases h0;have q0:=hp _ (dJ ..);have q1:=hp _ (dR _ (dJ ..));have q2:=hp _ (dR _ (dR _ (dJ ..)));subst q1;subst q2;refine cP ?_ ?_
           ·simp only [fP,hop,pA,hargs,hcal,eW,lJ]
           · simp only [vop,hop,hcal,hargs,kF,hst,hxt,hu,hu',hsz,hinf,hz,hadd,hc,cond,aB0];rw [if_pos q0]
         · rename_i b e' off len ex';split at h0
           · rename_i e2 xs hb;cases hc2: (beq e' e&&beq e2 e)
             case false=>rw [hc2]at h0;cases h0
             rw [hc2]at h0;simp only at h0;cases h0;simp only [dC]at hc2;have ee1:=eP hc2.1;have ee2:=eP hc2.2;have y2:=hp _ (dJ ..);have y3:=hp _ (dR _ (dJ ..));have y4:=hp _ (dR _ (dR _ (dJ ..)));have y5:=hp _ (dR _ (dR _ (dR _ (dJ ..))));subst y4 y5;refine cP ?_ ?_
             ·simp only [fP,hop,pA,hargs,hcal,eW,lJ]
             · simp only [vop,hop,hcal,hargs,kF,hst,hxt,hu,hu',hsz,hinf,hz,hadd,hc,cond,hb,aB0];rw [if_pos ⟨ee1,ee2,y2,y3⟩]
           ·cases h0
         · rename_i e2 y xs;cases he2:beq e2 e
           case false=>rw [he2]at h0;cases h0
           rw [he2]at h0;simp only [cond]at h0;cases h0;have q0:=hp _ (dJ ..);have q1:=hp _ (dR _ (dJ ..));have q2:=hp _ (dR _ (dR _ (dJ ..)));subst q2;refine cP ?_ ?_
           ·simp only [fP,hop,pA,hargs,hcal,eW,lJ]
           · simp only [vop,hop,hcal,hargs,kF,hst,hxt,hu,hu',hsz,hinf,hz,hadd,hc,cond,aB0];rw [if_pos ⟨eP he2,q0,q1⟩]
         ·cases h0
       ·cases h0
     ·cases h0
   ·cases h0
 ·cases h0
theorem aD5 {h h':Hp}{tm:T AV}{o:Oper}{zs:List AV}{n:Nat}{v:AV}{ps:List Prop}(h0:aFY P h tm o zs n=some (v,h',ps))(hp:∀p∈ps,p) :iO P h tm o=some (.val v h') :=by
 unfold aFY at h0;split at h0
 · rename_i c hop;split at h0
   · rename_i b e' off len ex x st xt hcal hargs hst hxt;split at h0
     · rename_i el el' hu hu';split at h0
       · rename_i e inf z hsz hinf hz;cases hc: (beq z.cells.length e&&ble e 40&&ble inf.bytes 1000&&ble 1 inf.bytes&&ble 1 e)
         case false=>rw [hc]at h0;cases h0
         rw [hc]at h0;simp only [cond]at h0;split at h0
         · rename_i e2 xs ys hb hadd;cases hc2: (beq e' e&&beq e2 e)
           case false=>rw [hc2]at h0;cases h0
           rw [hc2]at h0;simp only at h0;cases h0;simp only [dC]at hc2;have ee1:=eP hc2.1;have ee2:=eP hc2.2;have y2:=hp _ (dJ ..);have y3:=hp _ (dR _ (dJ ..));have y4:=hp _ (dR _ (dR _ (dJ ..)));have y5:=hp _ (dR _ (dR _ (dR _ (dJ ..))));subst y4 y5;refine cP ?_ ?_
           ·simp only [fP,hop,pA,hargs,hcal,eW,aD3]
           · simp only [vop,hop,hcal,hargs,kF,hst,hxt,hu,hu',hsz,hinf,hz,hadd,hc,cond,hb,aB0];rw [if_pos ⟨ee1,ee2,y2,y3⟩]
         ·cases h0
       ·cases h0
     ·cases h0
   ·cases h0
 ·cases h0
theorem yT {h h':Hp}{tm:T AV}{o:Oper}{zs:List AV}{n:Nat}{v:AV}{ps:List Prop}(h0:aFZ P h tm o zs n=some (v,h',ps))(hp:∀p∈ps,p) :iO P h tm o=some (.val v h') :=by
 unfold aFZ at h0;split at h0
 · rename_i r hr;cases h0;exact aD4 hr hp
 ·exact aD5 h0 hp
def qS (es:List (AV×AV×Nat))(clock:Nat)(k v:AV) :Option (List (AV×AV×Nat) ×Nat) :=
 match nH k es 0 with
 |some (some (i,_)) =>some (setE k v es i,clock)
 |some none=>some (es++ [(k,v,clock)],Nat.succ clock)
 |none=>none
def aKy (P:Program)(h:Hp)(tm:T AV)(o:Oper)(es':List (AV×AV×Nat))(clock':Nat) :Option (Hp×List Prop) :=
 match o.op with
 | .mapUpdate t m k x=>match bG tm m,bG tm k,bG tm x with
  | some (.map r),some kv,some v=>match P.underlying t,h.look r with
   | some (.map kt _),some (.map es clock) =>match P.underlying kt with
    |some kd=>bif plainKey kd kv then some (h.set r (.map es' clock'),[qS es clock kv v=some (es',clock')])else none
    |none=>none
   |_,_=>none
  |_,_,_=>none
 |_=>none
theorem aF0 {h h':Hp}{tm:T AV}{o:Oper}{es':List (AV×AV×Nat)}{clock':Nat}{ps:List Prop}(h0:aKy P h tm o es' clock'=some (h',ps))(hp:∀p∈ps,p) :iO P h tm o=some (.val .undef h') :=by
 unfold aKy at h0;split at h0
 · rename_i t m k x hop;split at h0
   · rename_i r kv v hm hk hx;split at h0
     · rename_i kt et es clock hu hb;split at h0
       · rename_i kd hkd;cases hc:plainKey kd kv
         case false=>rw [hc]at h0;cases h0
         rw [hc]at h0;simp only [cond]at h0;cases h0;have q:=hp _ (dJ ..);unfold qS at q;unfold iO;simp only [fP,hop,xR,sF,hm,hk,hx,mD,hu,hkd,hb,hc,cond];split at q
         · rename_i i w hfk;cases q;simp only [hfk,xX]
         · rename_i hfk;cases q;simp only [hfk,xX]
         ·cases q
       ·cases h0
     ·cases h0
   ·cases h0
 ·cases h0
def aPX (P:Program)(h:Hp)(tm:T AV)(o:Oper)(y y':AV) :Option (Hp×List Prop) :=
 match o.op with
 | .store t a x=>match bG tm a,bG tm x with
  | some (.ep b e i k),some v=>match h.look b,aR P t with
   | some (.lst e' xs),some n=>bif beq e' e&&beq v.cells.length n&&ble (k+n) e&&cG v.cells then
     some (h.set b (.lst e (xs.set i y')),[xs[i]?=some y,uP y k v.cells=some y'])else none
   |_,_=>none
  |_,_=>none
 |_=>none
theorem aHM {h h':Hp}{tm:T AV}{o:Oper}{y y':AV}{ps:List Prop}(h0:aPX P h tm o y y'=some (h',ps))(hp:∀p∈ps,p) :iO P h tm o=some (.val .undef h') :=by
 unfold aPX at h0;split at h0
 · rename_i t a x hop;split at h0
   · rename_i b e i k v ha hx;split at h0
     · rename_i e' xs n hb hn;cases hc: (beq e' e&&beq v.cells.length n&&ble (k+n) e&&cG v.cells)
       case false=>rw [hc]at h0;cases h0
       rw [hc]at h0;simp only [cond]at h0;cases h0;have q0:=hp _ (dJ ..);have q1:=hp _ (dR _ (dJ ..));refine cP ?_ ?_
       ·simp only [fP,hop,xR,ha,hx]
       ·simp only [vop,hop,xR,ha,hx,hb,hn,hc,cond,q0,q1]
     ·cases h0
   ·cases h0
 ·cases h0
abbrev Rec :=Nat×AIn×Hp×AV×Hp
theorem qT {α:Type}{v:α}:∀ (f k:Nat) (t:T α),1≤k→k<2 ^ f→t.get k=some v→T.setF (some v) f k t=t
 |0,k,t,h1,h2,_=>by simp at h2;omega
 |f+1,k,.leaf,_,_,h=>by cases h
 | f +1,k,.node l u r,h1,h2,h=>by
  rw [T.setF_node];rw [T.get_node]at h;have h2':k / 2<2 ^ f:=by rw [Nat.pow_succ]at h2;omega
  by_cases hk:k=1
  ·rw [if_pos hk]at h ⊢;rw [h]
  · rw [if_neg hk]at h ⊢;by_cases hm:k % 2=0
    ·rw [if_pos hm]at h ⊢;rw [qT f (k / 2) l (by omega) h2' h]
    ·rw [if_neg hm]at h ⊢;rw [qT f (k / 2) r (by omega) h2' h]
theorem put_eq {α:Type}{t:T α}{k:Nat}{v:α}(h:t.at k=some v) :t.put k v=t:=
 qT _ _ t (by simp) (by have:=wQ (k+1);simpa using this) h
def fK (P:Program)(nt:Nat)(ops:List Oper)(p:Plan)(i:RIns)(r:RS) :Option (RS×List Prop×List Rec) :=
 match i with
 | .d=>match kS P mM nt ops p r with
  |some r'=>some (r',[],[])
  |none=>none
 | .b _ _=>none
 | .pure v=>match bC r.tm ops p.o,p.kd with
  | some true,.eff=>
   match iO P (aI r.h r.s r.pend) r.tm p.o with
   | some (.call (.enter f args)) =>match fQ r.tm nt p.o.dst v with
    |some tm=>some ({r with tm,h:=aI r.h r.s r.pend,stages:=r.h::r.stages,s:=Nat.succ r.s},[aK P f args v],[(r.s,.enter f args,aI r.h r.s r.pend,v,aI r.h r.s r.pend)])
    |none=>none
   |_=>none
  |_,_=>none
 | .ans a=>match bC r.tm ops p.o,p.kd with
  | some true,.pure=>match oP P r.h r.tm p.o a with
   | some (v,ps) =>match fQ r.tm nt p.o.dst v with
    |some tm=>some ({r with tm},ps,[])
    |none=>none
   |none=>none
  | some true,.read=>match oP P r.h r.tm p.o a with
   | some (v,ps) =>match fQ r.tm nt p.o.dst v with
    |some tm=>some ({r with tm,again:=bif beq p.lo p.hi then r.again else⟨p.o,r.tm,p.lo,p.hi,v⟩ ::r.again},ps,[])
    |none=>none
   |none=>none
  |_,_=>none
 | .call v h'=>match bC r.tm ops p.o,p.kd with
  | some true,.eff=>
   match iO P (aI r.h r.s r.pend) r.tm p.o with
   | some (.call c) =>match fQ r.tm nt p.o.dst v with
    |some tm=>some ({r with tm,h:=h',stages:=r.h::r.stages,s:=Nat.succ r.s},[Spec P c (aI r.h r.s r.pend) (.ret v) h'],[(r.s,c,aI r.h r.s r.pend,v,h')])
    |none=>none
   |_=>none
  |_,_=>none
 | .st y y'=>match bC r.tm ops p.o,p.kd with
  | some true,.eff=>
   match aPX P (aI r.h r.s r.pend) r.tm p.o y y' with
   | some (h',ps) =>match fQ r.tm nt p.o.dst .undef with
    |some tm=>some ({r with tm,h:=h',stages:=r.h::r.stages,s:=Nat.succ r.s},ps,[])
    |none=>none
   |none=>none
  |_,_=>none
 | .mput es c=>match bC r.tm ops p.o,p.kd with
  | some true,.eff=>
   match aKy P (aI r.h r.s r.pend) r.tm p.o es c with
   | some (h',ps) =>match fQ r.tm nt p.o.dst .undef with
    |some tm=>some ({r with tm,h:=h',stages:=r.h::r.stages,s:=Nat.succ r.s},ps,[])
    |none=>none
   |none=>none
  |_,_=>none
 | .app zs n=>match bC r.tm ops p.o,p.kd with
  | some true,.eff=>
   match aFZ P (aI r.h r.s r.pend) r.tm p.o zs n with
   | some (v,h',ps) =>match fQ r.tm nt p.o.dst v with
    |some tm=>some ({r with tm,h:=h',stages:=r.h::r.stages,s:=Nat.succ r.s},ps,[])
    |none=>none
   |none=>none
  |_,_=>none
def eT (P:Program)(nt:Nat)(ops:List Oper) :List RIns→List Plan→RS→Option (RS×List Prop×List Rec)
 | [],[],r=>some (r,[],[])
 | .b j v::is,ps,r=>match r.tm.at j with
  | some (.bool b) =>match eT P nt ops is ps {r with tm:=r.tm.put j (.bool v)} with
   |some (r',qs,rs) =>some (r',(b=v) ::qs,rs)
   |none=>none
  |_=>none
 | i::is,p::ps,r=>match fK P nt ops p i r with
  |none=>none
  | some (r1,qs,rs) =>match eT P nt ops is ps r1 with
   |none=>none
   |some (r2,qs2,rs2) =>some (r2,qs++qs2,rs++rs2)
 |_,_,_=>none
def keysOf :List Rec→List Nat
 | [] =>[]
 |r::rs=>r.1::keysOf rs
def aCt :List Nat→Bool
 | [] =>true
 |k::ks=> !(vL k ks) &&aCt ks
def aF1 (P:Program)(a:Again)(h:Hp) :Option Ans→List Prop
 | none=>[match iO P h a.tm a.o with
  |some (.val v _) =>v=a.v
  |_=>False]
 | some an=>match oP P h a.tm a.o an with
  |some (v,ps) => (v=a.v) ::ps
  |none=>[False]
def iY (P:Program)(a:Again)(oa:Option Ans) :List Hp→Nat→List Prop
 | [],_=>[]
 | h::hs,k=>bif ble a.lo k&&ble k a.hi then aF1 P a h oa++iY P a oa hs (k-1)
  else iY P a oa hs (k-1)
def uX (P:Program)(hs:List Hp)(k:Nat) :List Again→List (Option Ans) →List Prop
 | [],_=>[]
 |a::aS,[] =>iY P a none hs k++uX P hs k aS []
 |a::aS,oa::os=>iY P a oa hs k++uX P hs k aS os
theorem aF2 {a:Again}{h:Hp}{oa:Option Ans}(h0:∀p∈aF1 P a h oa,p) :∃hx,iO P h a.tm a.o=some (.val a.v hx) :=by
 cases oa with
 | none=>
  have:=h0 _ (mem_singleton_self _);split at this
  ·rename_i v hx hv;exact⟨hx,by rw [hv,this]⟩
  ·exact this.elim
 | some an=>
  simp only [aF1]at h0;split at h0
  · rename_i v ps hv;have e:v=a.v:=h0 _ (dJ ..);subst e;exact⟨h,lT hv (fun p hp=>h0 p (dR _ hp))⟩
  ·exact(h0 _ (mem_singleton_self _)).elim
theorem jY {a:Again}{oa:Option Ans}:∀ {hs:List Hp} {k:Nat},(∀p∈iY P a oa hs k,p) →∀ (x:Nat) (h:Hp),hs[x]?=some h→x≤k→a.lo≤k-x→k-x≤a.hi→∃hx,iO P h a.tm a.o=some (.val a.v hx)
 | [],k,_,x,h,hx,_,_,_=>by simp at hx
 | y::ys,k,h0,x,h,hx,hk,h1,h2=>by
  simp only [iY]at h0;cases x with
  | zero=>
   simp at hx;subst hx;rw [Nat.sub_zero]at h1 h2;simp only [gG,h1,h2,decide_true,Bool.and_self,cond]at h0;exact aF2 (fun p hp=>h0 p (aFs _ hp))
  | succ x=>
   have hx':ys[x]?=some h:=by simpa using hx
   refine jY (oa:=oa) (k:=k-1) (fun p hp=>h0 p ?_) x h hx' (by omega) (by omega) (by omega);cases (ble a.lo k&&ble k a.hi)
   case true=>exact aHs _ hp
   exact hp
theorem qU {hs:List Hp}{k:Nat}:∀ {aS:List Again} {os:List (Option Ans)},(∀p∈uX P hs k aS os,p) →uW P hs k aS
 | [],_,_=>fun a ha=>by cases ha
 | b::aS,[],h0=>fun a ha=>by
  simp only [uX]at h0;cases ha with
  |head=>exact jY (fun p hp=>h0 p (aFs _ hp))
  |tail _ ha=>exact qU (os:=[]) (fun p hp=>h0 p (aHs _ hp)) a ha
 | b::aS,oa::os,h0=>fun a ha=>by
  simp only [uX]at h0;cases ha with
  |head=>exact jY (fun p hp=>h0 p (aFs _ hp))
  |tail _ ha=>exact qU (os:=os) (fun p hp=>h0 p (aHs _ hp)) a ha
def aBt (P:Program)(nt:Nat)(ops:Array Oper)(tm:T AV)(h:Hp)(is:List RIns)(os:List (Option Ans)) :Option (T AV×Hp×List Prop) :=
 let pl:=hP ops
 bif pl.ok then
  match eT P nt pl.ops is pl.plans {tm,h:={h with nb:=h.nb+pl.fresh},stages:=[],s:=0,pend:=[],next:=h.nb,again:=[]} with
  | some (r,ps,rs) =>bif aCt (keysOf rs)then
    some (r.tm,aI r.h r.s r.pend,ps++uX P (r.h::r.stages) r.s r.again os)else none
  |none=>none
 else none
open Classical in
def aHN (rs:List Rec) :bB:=fun k c h=>match rs.find? (fun r=>beq r.1 k)with
 |some r=>if r.2.1=c∧r.2.2.1=h then some r.2.2.2 else none
 |none=>none
theorem aEE :∀ {rs:List Rec},aCt (keysOf rs) =true→∀r∈rs,aHN rs r.1 r.2.1 r.2.2.1=some r.2.2.2
 | r0 ::rs,hn,r,hr=>by
  simp only [keysOf,aCt,dC,Bool.not_eq_true']at hn;unfold aHN;rw [List.find?_cons];rcases zq7.1 hr with rfl|hr'
  ·simp
  · have hne:beq r0.1 r.1=false:=by
     cases hb:beq r0.1 r.1
     case false=>rfl
     have e:=eP hb;exfalso;have:vL r0.1 (keysOf rs) =true:=by
      rw [e];clear hn hr hb e
      induction rs with
      |nil=>cases hr'
      | cons x xs ih=>
       simp only [keysOf,vL,Bool.or_eq_true];rcases zq7.1 hr' with rfl|h
       ·exact .inl (by simp)
       ·exact .inr (ih h)
     rw [this]at hn;cases hn.1
    rw [hne];exact aEE hn.2 r hr'
theorem aHO {rs:List Rec}(h0:∀r∈rs,Spec P r.2.1 r.2.2.1 (.ret r.2.2.2.1) r.2.2.2.2) :dD P (aHN rs) :=fun k c h v h' e=>by
 unfold aHN at e;split at e
 · rename_i r hr;split at e
   · rename_i hc;obtain⟨rfl,rfl⟩ :=hc;have:=h0 r (List.mem_of_find?_eq_some hr);simp only [Option.some.injEq]at e;rw [e]at this;exact this.sound
   ·cases e
 ·cases e
theorem aF3 {call:bB}{nt:Nat}{ops:List Oper}{p:Plan}{r r':RS}(h0:kS P mM nt ops p r=some r') :kS P call nt ops p r=some r':=by
 unfold kS at h0 ⊢;split at h0
 ·cases h0
 ·rename_i hw;exact h0
 · rename_i hw;split at h0
   ·exact h0
   ·exact h0
   ·exact h0
   · simp only at h0 ⊢;split at h0
     ·exact h0
     · rename_i c hv;simp only [mM]at h0;cases h0
     ·cases h0
theorem aF4 {call:bB}{nt:Nat}{ops:List Oper}{p:Plan}{i:RIns}{r r':RS}{ps:List Prop}{rs:List Rec}(h0:fK P nt ops p i r=some (r',ps,rs))(hp:∀q∈ps,q)(hc:∀x∈rs,call x.1 x.2.1 x.2.2.1=some x.2.2.2) :kS P call nt ops p r=some r':=by
 cases i with
 | d=>
  simp only [fK]at h0;split at h0
  ·rename_i r1 h1;cases h0;exact aF3 h1
  ·cases h0
 |b j v=>cases h0
 | pure v=>
  simp only [fK]at h0;split at h0
  · rename_i hw hk;split at h0
    · rename_i f args ha;split at h0
      · rename_i tm htm;cases h0;have:=hc _ (mem_singleton_self _);simp only at this;simp only [kS,hw,hk,ha,this,htm]
      ·cases h0
    ·cases h0
  ·cases h0
 | ans a =>
  simp only [fK]at h0;split at h0
  · rename_i hw hk;split at h0
    · rename_i v qs hv;split at h0
      · rename_i tm htm;cases h0;simp only [kS,hw,hk,lT hv hp,htm]
      ·cases h0
    ·cases h0
  · rename_i hw hk;split at h0
    · rename_i v qs hv;split at h0
      · rename_i tm htm;cases h0;simp only [kS,hw,hk,lT hv hp,htm]
      ·cases h0
    ·cases h0
  ·cases h0
 | call v h'=>
  simp only [fK]at h0;split at h0
  · rename_i hw hk;split at h0
    · rename_i c ha;split at h0
      · rename_i tm htm;cases h0;have:=hc _ (mem_singleton_self _);simp only at this;simp only [kS,hw,hk,ha,this,htm]
      ·cases h0
    ·cases h0
  ·cases h0
 | st y y'=>
  simp only [fK]at h0;split at h0
  · rename_i hw hk;split at h0
    · rename_i h' qs hv;split at h0
      · rename_i tm htm;cases h0;simp only [kS,hw,hk,aHM hv hp,htm]
      ·cases h0
    ·cases h0
  ·cases h0
 | mput es c=>
  simp only [fK]at h0;split at h0
  · rename_i hw hk;split at h0
    · rename_i h' qs hv;split at h0
      · rename_i tm htm;cases h0;simp only [kS,hw,hk,aF0 hv hp,htm]
      ·cases h0
    ·cases h0
  ·cases h0
 | app zs n=>
  simp only [fK]at h0;split at h0
  · rename_i hw hk;split at h0
    · rename_i v h' qs hv;split at h0
      · rename_i tm htm;cases h0;simp only [kS,hw,hk,yT hv hp,htm]
      ·cases h0
    ·cases h0
  ·cases h0
theorem oQ {call:bB}{nt:Nat}{ops:List Oper}:∀ {is:List RIns} {pl:List Plan} {r r':RS} {ps:List Prop} {rs:List Rec},eT P nt ops is pl r=some (r',ps,rs) → (∀q∈ps,q) → (∀x∈rs,call x.1 x.2.1 x.2.2.1=some x.2.2.2) →lG P call nt ops pl r=some r'
 | [],[],r,r',ps,rs,h0,_,_=>by simp only [eT]at h0;cases h0;rfl
 | [],_::_,_,_,_,_,h0,_,_=>by simp [eT]at h0
 | i :: is,pl,r,r',ps,rs,h0,hp,hc=>by
  by_cases hb:∃j v,i= .b j v
  · obtain⟨j,v,rfl⟩ :=hb;simp only [eT]at h0;split at h0
    · rename_i b hj;split at h0
      · rename_i r1 qs rs1 h1;cases h0;have:=mem1 hp;subst this;rw [put_eq hj]at h1;exact oQ h1 (fun q hq=>hp q (dR _ hq)) hc
      ·cases h0
    ·cases h0
  · cases pl with
    |nil=>cases i<;>simp [eT]at h0<;>exact absurd ⟨_,_,rfl⟩ hb
    | cons p pl=>
     have h0': (match fK P nt ops p i r with
      |none=>none
      | some (r1,qs,rs) =>match eT P nt ops is pl r1 with
       |none=>none
       |some (r2,qs2,rs2) =>some (r2,qs++qs2,rs++rs2)) =some (r',ps,rs) :=by
      cases i<;>first|exact h0|exact absurd ⟨_,_,rfl⟩ hb
     split at h0'
     ·cases h0'
     · rename_i r1 qs rs1 h1;split at h0'
       ·cases h0'
       · rename_i r2 qs2 rs2 h2;cases h0';simp only [lG,aF4 (call:=call) h1 (fun q hq=>hp q (aFs _ hq)) (fun x hx=>hc x (aFs _ hx))];exact oQ h2 (fun q hq=>hp q (aHs _ hq)) (fun x hx=>hc x (aHs _ hx))
theorem qV {nt:Nat}{ops:List Oper}:∀ {is:List RIns} {pl:List Plan} {r r':RS} {ps:List Prop} {rs:List Rec},eT P nt ops is pl r=some (r',ps,rs) → (∀q∈ps,q) →∀x∈rs,Spec P x.2.1 x.2.2.1 (.ret x.2.2.2.1) x.2.2.2.2
 | [],[],r,r',ps,rs,h0,_=>by simp only [eT]at h0;cases h0;intro x hx;cases hx
 | [],_::_,_,_,_,_,h0,_=>by simp [eT]at h0
 | i :: is, pl, r, r',ps,rs,h0,hp=>by
  by_cases hb:∃j v,i= .b j v
  · obtain⟨j,v,rfl⟩ :=hb;simp only [eT]at h0;split at h0
    · split at h0
      · rename_i r1 qs rs1 h1;cases h0;exact qV h1 (fun q hq=>hp q (dR _ hq))
      ·cases h0
    ·cases h0
  · cases pl with
    |nil=>cases i<;>simp [eT]at h0<;>exact absurd ⟨_,_,rfl⟩ hb
    | cons p pl =>
     have h0': (match fK P nt ops p i r with
      |none=>none
      | some (r1,qs,rs) =>match eT P nt ops is pl r1 with
       |none=>none
       |some (r2,qs2,rs2) =>some (r2,qs++qs2,rs++rs2)) =some (r',ps,rs) :=by
      cases i<;>first|exact h0|exact absurd ⟨_,_,rfl⟩ hb
     split at h0'
     ·cases h0'
     · rename_i r1 qs rs1 h1;split at h0'
       ·cases h0'
       · rename_i r2 qs2 rs2 h2;cases h0';intro x hx;rcases zq28.1 hx with g|g
         · cases i with
           | d=>
            simp only [fK]at h1;split at h1
            ·cases h1;cases g
            ·cases h1
           |b j v=>cases h1
           | pure v=>
            simp only [fK]at h1;split at h1
            · split at h1
              · rename_i f args ha;split at h1
                · cases h1;rw [zq32]at g;subst g;exact hp _ (aFs _ (mem_singleton_self _)) _
                ·cases h1
              ·cases h1
            ·cases h1
           | ans a=>
            simp only [fK]at h1;split at h1
            · split at h1
              · split at h1
                ·cases h1;cases g
                ·cases h1
              ·cases h1
            · split at h1
              · split at h1
                ·cases h1;cases g
                ·cases h1
              ·cases h1
            ·cases h1
           | call v h'=>
            simp only [fK]at h1;split at h1
            · split at h1
              · rename_i c ha;split at h1
                · cases h1;rw [zq32]at g;subst g;exact hp _ (aFs _ (mem_singleton_self _))
                ·cases h1
              ·cases h1
            ·cases h1
           | app zs n=>
            simp only [fK]at h1;split at h1
            · split at h1
              · split at h1
                ·cases h1;cases g
                ·cases h1
              ·cases h1
            ·cases h1
           | mput es c=>
            simp only [fK]at h1;split at h1
            · split at h1
              · split at h1
                ·cases h1;cases g
                ·cases h1
              ·cases h1
            ·cases h1
           | st y y'=>
            simp only [fK]at h1;split at h1
            · split at h1
              · split at h1
                ·cases h1;cases g
                ·cases h1
              ·cases h1
            ·cases h1
         ·exact qV h2 (fun q hq=>hp q (aHs _ hq)) x g
theorem yU {m:Nat}{s:AS}{id:Nat}{ops:Array Oper}{k:List AItem}(hm:s.fr.mode= .run)(htd:s.fr.todo= .code (.region id ops true) ::k){is:List RIns}{os:List (Option Ans)}{tm:T AV}{h':Hp}{ps:List Prop}(h0:aBt P s.fr.nt ops s.fr.tm s.h is os=some (tm,h',ps))(hp:∀p∈ps,p) :
  LeadsM P m s ⟨{s.fr with tm,todo:=k},s.cs,h'⟩ :=by
 unfold aBt at h0;simp only at h0;cases hok: (hP ops).ok
 case false=>rw [hok]at h0;cases h0
 rw [hok]at h0;simp only [cond]at h0;split at h0
 · rename_i r qs rs hr;cases hn:aCt (keysOf rs)
   case false=>rw [hn]at h0;cases h0
   rw [hn]at h0;simp only at h0;cases h0;have hq:∀q∈qs,q:=fun q hq=>hp q (aFs _ hq);have hst:=oQ (call:=aHN rs) hr hq (aEE hn);have hck:uW P (r.h::r.stages) r.s r.again:=qU (fun q hq=>hp q (aHs _ hq));intro hm0 E fr ccs w base f fs rl;obtain⟨afr,cs,h⟩ :=s;simp only at hm htd hr hst f fs rl ⊢;have e:=f.run hm;generalize fr.fn=fn at e;generalize fr.tmps=tmps at e;generalize fr.todo=todo at e;generalize fr.defers=ds at e;generalize fr.kind=kd at e;generalize fr.roundOf=ro at e;subst e;have ft:=f.todo;simp only [htd]at ft;obtain⟨i,ck,e1,i1,i2⟩ :=ft.cons_inv;subst e1;simp only [IR]at i1;subst i1;obtain⟨E',w',tmps',s1,t1,r1,x1⟩ :=wE (aHO (qV hr hq)) hok hst hck rl f.tm id fn ds kd ro ck (ccs++base);exact⟨E',_,ccs,w',s1,⟨f.fn,t1,i2.mono x1.le,f.defers.mono x1.le,by simp only [hm];exact rfl,f.kind,f.round.mono x1.le⟩,fs.mono x1.le,r1,x1.toM hm0⟩
 ·cases h0
theorem yV :∀ (l:List AV) (t:T AV) (i:Nat),(∀j,j<l.length→t.at (i+j) =l[j]?) →getCells t i l.length=some l
 | [],_,_,_=>rfl
 | a::aS,t,i,h=>by
  have h0:=h 0 (by simp);simp only [Nat.add_zero,aKb]at h0;simp only [rY,getCells,h0]
  rw [yV aS t (Nat.succ i) (fun j hj=>by
   have:=h (j+1) (by simp;omega);rw [show Nat.succ i+j=i+ (j+1)by omega,this];simp)]
theorem aCu (g:Bool){zc:List AV}{e:Nat}(he:zc.length=e) :∀n,rU g e n (jR zc n) =replicate n (bif g then .agg zc else zc.headD .undef)
 |0=>rfl
 | n+1=>by
  have h1: (zc++jR zc n).take e=zc:=by rw [←he,List.take_left]
  have h2: (zc++jR zc n).drop e=jR zc n:=by rw [←he,List.drop_left]
  rw [jR,rU,h1,h2,aCu g he n,List.replicate_succ];congr 1;cases g
  case true=>rfl
  have rn:∀n,jR ([] :List AV) n= [] :=fun n=>by
   induction n with
   |zero=>rfl
   |succ n ih=>simpa [jR]using ih
  cases zc with
  |nil=>simp [rn]
  |cons z zs=>rfl
theorem aAW {zc:List AV}(h:cG zc=true) :∀n,cG (jR zc n) =true
 |0=>rfl
 | n +1=>by
  have app:∀ (xs ys:List AV),cG xs=true→cG ys=true→cG (xs++ys) =true:=by
   intro xs
   induction xs with
   |nil=>intro ys _ h;exact h
   | cons x xs ih=>
    intro ys h1 h2;simp only [cG,dC]at h1;simp only [aDS,cG,dC];exact⟨h1.1,ih ys h1.2 h2⟩
  exact app _ _ h (aAW h n)
end
section
variable {P :Program}
theorem aMJ {E:Emb}{h:Hp}{H:Array Obj}(r:Rel E h H){b e:Nat}{u:Value}{xs:List AV}(hb:h.look b=some (.lstv u e xs)) :VR E (.gl b e 0 xs.length false) u:=by
 obtain⟨L,hE,C,k,j,m,i,l,n,o,a,c,g,d,f⟩ :=r.obj b _ hb;simp only [VR];exact .inr ⟨L,a,c,hE,g,d,fun e=> (by cases e),fun hc=>by have:=f hc;exact⟨by omega,this.2⟩⟩
theorem Rel.unview {E:Emb}{h:Hp}{H:Array Obj}(r:Rel E h H){b e:Nat}{u:Value}{xs:List AV}(hb:h.look b=some (.lstv u e xs)) :Rel E (h.set b (.lst e xs)) H:=
 r.reobj hb rfl (fun L k=>by
  obtain⟨C,d,c,g,a,f,i,j,_⟩ :=r.objL hb k;exact⟨C,d,c,g,a,f,i,j⟩) rfl rfl rfl
theorem aCv {m:Nat}{h:Hp}{b e o l:Nat}:m≤h.nb→mP m h h (.gl b e o l true) (.gl b e o l false) :=fun hm E w r=>
 ⟨E,Emb.le.refl E,r,ExtM.refl hm,fun k f=>by
  simp only [VR]at f ⊢;rcases f with d| ⟨L,a,c,d,g,j,_,i⟩
  ·exact .inl d
  ·exact .inr ⟨L,a,c,d,g,j,(fun e=>by cases e),i⟩⟩
theorem aHP {m:Nat}{h:Hp}{e:Nat}{xs:List AV}:m≤h.nb→mP m h h (.ilst e xs true) (.ilst e xs false) :=fun hm E w r=>
 ⟨E,Emb.le.refl E,r,ExtM.refl hm,fun t g=>by
  simp only [VR]at g ⊢;obtain⟨p,s,i,q⟩ :=g;refine⟨p,s,i,?_⟩;rcases q with⟨f,a,n,b,d,j⟩ | ⟨k,o,c,C,f,b,d,j,l⟩
  ·exact .inl ⟨f,a,n,b,d,(fun e=>by cases e)⟩
  ·exact .inr ⟨k,o,c,C,f,b,d,(fun e=>by cases e),l⟩⟩
theorem aF5 {m:Nat}{h:Hp}{b e:Nat}{u:Value}{xs:List AV}(hb:h.look b=some (.lstv u e xs)) :m≤h.nb→mP m h (h.set b (.lst e xs)) (.val u) (.gl b e 0 xs.length false) :=fun hm E w r=>
 ⟨E,Emb.le.refl E,r.unview hb,qQ (ExtM.refl hm) hb,fun c a=>by
  simp only [VR]at a;subst a;exact aMJ r hb⟩
theorem aPY {m:Nat}{E E':Emb}{h c h2:Hp}{w w':World}(x:ExtM m E h w E' c w')(d:∀b o,h2.look b=some o→c.look b=some o)(j:h2.nb=c.nb) :ExtM m E h w E' h2 w':=
 ⟨x.low,x.imm,x.size,x.keep,fun g f i e k a=>x.own g f i (d _ _ e) k a,by rw [j];exact x.nb,x.os,x.tape,x.output,x.froz,x.immo,fun b o e hb=>x.keys b o (d _ _ e) hb⟩
theorem aKz {m:Nat}{fr:AFrame}{cs:List AFrame}{h:Hp}{b e o j:Nat}{u:Value}{xs c ys:List AV}(hb:h.look b=some (.lstv u e xs))(K:h.look o=some (.lst j c))(p:o≠b)(hz:c≠ [])(hk:keylessL xs=true)
  (N:∀ (E:Emb) (d:List Value),VR E (.ilst e xs false) u→VRs E c d→VRs E ys d) :LeadsM P m ⟨fr,cs,h⟩ ⟨fr,cs,(h.del b).set o (.lst j ys)⟩ :=fun hm E z n w t f fs r=>by
 have H:=r.unview hb;have q: (h.set b (.lst e xs)).look b=some (.lst e xs) :=by rw [aU,if_pos rfl]
 have k:frzOk b e xs xs (.gl b e 0 xs.length false) :=by
  simp only [frzOk];intro _;simp
 obtain⟨g,i,M,I,B⟩ :=pJ (m:=m) q hk k hm E w H;have y:VR g (.ilst e xs false) u:=by
  have:=B u (by
   have:=aMJ r hb;exact this)
  simpa [AV.frz]using this
 have same:∀x ob,(h.del b).look x=some ob→ ((h.set b (.lst e xs)).del b).look x=some ob:=fun x ob e=>by
  rw [mI]at e ⊢;split at e
  ·cases e
  ·rename_i s;rw [if_neg s,aU,if_neg s];exact e
 have v:Rel g (h.del b) w.heap:=M.sub same (le_refl _);have G:ExtM m E h w g (h.del b) w:=aPY ((qQ (ExtM.refl hm) hb).trans I) same rfl;have a: (h.del b).look o=some (.lst j c) :=by rw [mI,if_neg p];exact K
 have l:lM (.lst j c) =false:=by
  cases c with
  |nil=>exact absurd rfl hz
  |cons _ _=>rfl
 refine⟨g,z,n,w,Steps.refl _ _,f.mono i,fs.mono i,v.reobj a l (fun L F=>?_) rfl rfl rfl,qQ G a⟩;obtain⟨C,A,d,O,J,D,Q,R⟩ :=v.objL a F;exact⟨C,A,d,O,J,N g d y D,Q,R⟩
theorem aPZ {m:Nat}{fr:AFrame}{cs:List AFrame}{h:Hp}{b e:Nat}{xs ys:List AV}(hb:h.look b=some (.lst e xs))(hz:xs≠ [])
  (l:∀ (E:Emb) (a:List Value),VRs E xs a→VRs E ys a) :LeadsM P m ⟨fr,cs,h⟩ ⟨fr,cs,h.set b (.lst e ys)⟩ :=fun hm E j d w g f fs r=>by
 have c:lM (.lst e xs) =false:=by
  cases xs with
  |nil=>exact absurd rfl hz
  |cons _ _=>rfl
 refine⟨E,j,d,w,Steps.refl _ _,f,fs,r.reobj hb c (fun L s=>?_) rfl rfl rfl,qQ (ExtM.refl hm) hb⟩;obtain⟨C,k,a,o,i,n,p,q⟩ :=r.objL hb s;exact⟨C,k,a,o,i,l E a n,p,q⟩
theorem aND {m:Nat}{fr:AFrame}{cs:List AFrame}{h:Hp}{j b e n:Nat}{ex:Bool}{xs:List AV}{k:Res}{h':Hp}(X:fr.tm.at j=some (.gl b e 0 n ex))(hb:h.look b=some (.lst e xs))(s:xs.length=n)(h0:0<n)
  (hk:∀u q x,Ends P m ⟨{fr with tm:=fr.tm.put j (.val (Value.slice u q x))},cs,h.set b (.lstv (Value.slice u q x) e xs)⟩ k h') :Ends P m ⟨fr,cs,h⟩ k h':=fun hm E cf p w f fs r F i=>by
 obtain⟨Z,Q,y⟩ :=f.tm.2 _ _ X;simp only [VR]at y;rcases y with⟨z,_⟩ | ⟨L,a,d,hE,rfl,Y,_,G⟩
 ·omega
 · have l:lM (.lst e xs) =false:=by
    cases xs with
    |nil=>simp at s;omega
    |cons _ _=>rfl
   have S:FR E {fr with tm:=fr.tm.put j (.val (.slice (some ⟨L.blk,a,none⟩) n d))} cf:=by
    refine⟨f.fn,⟨f.tm.1,fun t v e=>?_⟩,f.todo,f.defers,f.mode,f.kind,f.round⟩;rw [T.at_put]at e;split at e
    · rename_i H;cases e;subst H;exact⟨_,Q,by simp only [VR]⟩
    ·exact f.tm.2 t v e
   have R:Rel E (h.set b (.lstv (.slice (some ⟨L.blk,a,none⟩) n d) e xs)) w.heap:=r.reobj hb l (fun L' c=>by
    obtain⟨C,B,M,V,K,I,U,W⟩ :=r.objL hb c;rw [hE]at c;cases c;exact⟨C,B,M,V,K,I,U,W,a,d,by rw [s],by omega,fun hc=>by have:=G hc;exact⟨by omega,this.2⟩⟩) rfl rfl rfl
   obtain⟨o,D,N,A,g,O,J⟩ :=hk _ _ _ hm E cf p w S fs R F i;exact⟨o,D,N,A,g,O,(qQ (ExtM.refl hm) hb).trans J⟩
theorem aP0 {m:Nat}{fr:AFrame}{cs:List AFrame}{h:Hp}{j e:Nat}{ex:Bool}{xs:List AV}{d:Res}{h':Hp}(p:fr.tm.at j=some (.ilst e xs ex))
  (y:xs= [] →Ends P m ⟨{fr with tm:=fr.tm.put j .nils},cs,h⟩ d h')
  (h2:∀a n c,Ends P m ⟨{fr with tm:=fr.tm.put j (.val (.slice (some a) n c))},cs,h⟩ d h') :Ends P m ⟨fr,cs,h⟩ d h':=fun hm E cf g w f fs r l b=>by
 obtain⟨z,G,o⟩ :=f.tm.2 _ _ p
 have put:∀ {v:AV},VR E v z→FR E {fr with tm:=fr.tm.put j v} cf:=fun {v} hv=>by
  refine⟨f.fn,⟨f.tm.1,fun t q e=>?_⟩,f.todo,f.defers,f.mode,f.kind,f.round⟩;rw [T.at_put]at e;split at e
  · rename_i u;cases e;subst u;exact⟨_,G,hv⟩
  ·exact f.tm.2 t q e
 simp only [VR]at o;obtain⟨F,B,D⟩ :=o;rcases D.2 with⟨rfl,a,i,rfl,s,_⟩ | ⟨k,a,i,C,rfl,_⟩
 · have A:xs= [] :=by
    cases xs with
    |nil=>rfl
    |cons x xs=>simp [VRs]at B
   cases a with
   | none=>
    have:=s rfl;subst this;exact y A hm E cf g w (put (by simp only [VR])) fs r l b
   |some a=>exact h2 a 0 i hm E cf g w (put (by simp only [VR])) fs r l b
 ·exact h2 ⟨k,a,none⟩ F.length i hm E cf g w (put (by simp only [VR])) fs r l b
section
variable (P :Program)
inductive Ins where
 |run (n:Nat)
 |b (j:Nat) (v:Bool)
 |set (j:Nat) (v:AV)
 |call (v:AV) (h':Hp)
 |callP (ch:List (AV×Bool)) (h':Hp)
 |ans (a:Ans)
 |st (y y':AV)
 |app (zs:List AV) (n:Nat)
 |nilL (j e:Nat)
 |nilI (j e:Nat)
 |frz (j b:Nat) (ys:List AV)
 |cnil (k o e:Nat)
 |cnilI (k o e:Nat)
 |cfrz (k o b:Nat) (ys:List AV)
 |toL (j:Nat) (g:Bool) (cs:List AV)
 |cset (k o:Nat) (v:AV)
 |ctoL (k o:Nat) (g:Bool) (cs:List AV)
 |lset (b:Nat) (xs:List AV)
 |pure (v:AV)
 |mk (n:Nat)
 |reg (is:List RIns)
 |regA (is:List RIns) (os:List (Option Ans))
 |nxt (c d:Nat)
 |nxtE
 |mput (es:List (AV×AV×Nat)) (clock:Nat)
 |mset (b:Nat) (es:List (AV×AV×Nat)) (clock:Nat)
 |lkeep (b:Nat) (js:List Nat)
 |unname (j b:Nat)
 |weak (j:Nat)
 |cweak (k o:Nat)
 |vfrz (b o:Nat) (ys:List AV)
 |lw (b:Nat) (ys:List AV)
 |call2 (v:AV) (h':Hp)
 |appN (zs:List AV) (n:Nat)
def aCw (P:Program)(f1:Nat)(args:List AV)(f2:Nat)(h:Hp)(v:AV)(h':Hp) :Prop:=∀ (E:Emb) (w:World) (cargs:List Value),Rel E h w.heap→VRs E args cargs →
 Calls P f1 ⟨cargs⟩ w fun e w1=>∃v1,e= .returned v1∧Rel E h w1.heap∧Calls P f2 #[v1] w1 fun e w'=>∃cv E',e= .returned cv∧VR E' v cv∧Rel E' h' w'.heap∧Ext E h w E' h' w'
def aCx (P:Program)(s:AS)(v:AV) :Option (Nat×List AV×Nat×AFrame) :=
 match s.fr.mode,s.fr.todo with
 | .run,.ops all i (o1::o2::rest) ::k=>match bC s.fr.tm all.toList o1,iO P s.h s.fr.tm o1,o1.dst,o2.guard,o2.dst,o2.op with
  | some true,some (.call (.enter f1 args)),some d1,none,some d2,.call c=>match c.callee,c.args.toList with
   | .value (.func f2),[.tmp d] =>bif beq d d1&&blt d1 s.fr.nt&&blt d2 s.fr.nt&&dA P f2 then
     some (f1,args,f2,{s.fr with tm:= (s.fr.tm.del d1).put d2 v,todo:=.ops all (Nat.succ (Nat.succ i)) rest::k})else none
   |_,_=>none
  |_,_,_,_,_,_=>none
 |_,_=>none
def VQ (u:Value)(e:Nat)(xs zs ys:List AV) :Prop:=∀ (E:Emb) (vs:List Value),VR E (.ilst e xs false) u→VRs E zs vs→VRs E ys vs
def VW (xs ys:List AV) :Prop:=∀ (E:Emb) (vs:List Value),VRs E xs vs→VRs E ys vs
def kW (s:AS) :Option Oper:=
 match s.fr.mode,s.fr.todo with
 | .run,.ops all _ (o::_) ::_=>match bC s.fr.tm all.toList o with
  |some true=>some o
  |_=>none
 |_,_=>none
def aAo (s:AS)(v:AV)(h':Hp)(obl:List Prop) :Option (AS×List Prop) :=
 match s.fr.finish v with
 |some fr=>some (⟨fr,s.cs,h'⟩,obl)
 |none=>none
def aCy {α:Type}(t:T α) :List Nat→List (Nat×α)
 | [] =>[]
 | j::js=>match t.at j with
  |some v=> (j,v) ::aCy t js
  |none=>aCy t js
def aF6 {α:Type}:List (Nat×α) →T α
 | [] =>.leaf
 |p::r=> (aF6 r).put p.1 p.2
def xstep (P :Program)(i:Ins)(s:AS) :Option (AS×List Prop) :=
 match i with
 | .run n=>match kK P mM n s with
  |some s'=>some (s',[])
  |none=>none
 | .b j v=>match s.fr.tm.at j with
  |some (.bool b) =>some (⟨{s.fr with tm:=s.fr.tm.put j (.bool v)},s.cs,s.h⟩,[b=v])
  |_=>none
 | .set j v=>match s.fr.tm.at j with
  |some u=>some (⟨{s.fr with tm:=s.fr.tm.put j v},s.cs,s.h⟩,[u=v])
  |none=>none
 | .cset k o v=>match s.h.look k with
  | some (.cells t n ol sup) =>match t.at o with
   |some u=>some (⟨s.fr,s.cs,s.h.set k (.cells (t.put o v) n ol sup)⟩,[u=v])
   |none=>none
  |_=>none
 | .lset b xs=>match s.h.look b with
  |some (.lst e ys) =>some (⟨s.fr,s.cs,s.h.set b (.lst e xs)⟩,[ys=xs])
  |_=>none
 | .call v h'=>match kW s with
  | some o=>match iO P s.h s.fr.tm o with
   |some (.call c) =>aAo s v h' [Spec P c s.h (.ret v) h']
   |_=>none
  |none=>none
 | .call2 v h'=>match aCx P s v with
  |some (f1,args,f2,fr) =>some (⟨fr,s.cs,h'⟩,[aCw P f1 args f2 s.h v h'])
  |none=>none
 | .callP ch h'=>match kW s with
  | some o=>match iO P s.h s.fr.tm o with
   |some (.call c) =>some (⟨s.fr.raise ch,s.cs,h'⟩,[Spec P c s.h (.pan ch) h'])
   |_=>none
  |none=>none
 | .ans a=>match kW s with
  | some o=>match oP P s.h s.fr.tm o a with
   |some (v,ps) =>aAo s v s.h ps
   |none=>none
  |none=>none
 | .pure v=>match kW s with
  | some o=>match iO P s.h s.fr.tm o with
   |some (.call (.enter f args)) =>aAo s v s.h [aK P f args v]
   |_=>none
  |none=>none
 | .mk n =>match kW s with
  | some o=>match o.op,o.dst with
   | .makeSlice t l c,some d=>match bG s.fr.tm l,bG s.fr.tm c with
    | some (.int _ l),some (.int _ c) =>match P.underlying t with
     | some (.slice el) =>match aR P el,zeroOf P el,P.info? el,P.underlying el with
      | some e,some z,some inf,some ed=>bif ble e 40&&ble 1 e&&beq z.cells.length e&&ble inf.bytes 1000&&cG z.cells&& (isAggD ed||beq e 1)then
        match s.fr.finish (.gl s.h.nb e 0 n true)with
        |some fr=>some (⟨fr,s.cs,s.h.new (.lst e (replicate n (bif isAggD ed then .agg z.cells else z.cells.headD .undef)))⟩,[l= (n:Int),c= (n:Int),n<100000])
        |none=>none else none
      |_,_,_,_=>none
     |_=>none
    |_,_=>none
   |_,_=>none
  |none=>none
 | .reg is=>match s.fr.mode,s.fr.todo with
  | .run,.code (.region _ ops true) ::k=>match aBt P s.fr.nt ops s.fr.tm s.h is []with
   |some (tm,h',ps) =>some (⟨{s.fr with tm,todo:=k},s.cs,h'⟩,ps)
   |none=>none
  |_,_=>none
 | .regA is os=>match s.fr.mode,s.fr.todo with
  | .run,.code (.region _ ops true) ::k=>match aBt P s.fr.nt ops s.fr.tm s.h is os with
   |some (tm,h',ps) =>some (⟨{s.fr with tm,todo:=k},s.cs,h'⟩,ps)
   |none=>none
  |_,_=>none
 | .nxt c d=>match kW s with
  | some o=>match o.op with
   | .next it true=>match bG s.fr.tm it with
    | some (.ptr r 0) =>match s.h.look r with
     |some (.siter l n pos) =>aAo s (.tup [.bool true,.int .i64 pos,.int .i32 c]) (s.h.set r (.siter l n (Nat.add pos d))) [pos<l,aKd l n pos=some (c,d)]
     |_=>none
    |_=>none
   |_=>none
  |none=>none
 | .nxtE=>match kW s with
  | some o=>match o.op with
   | .next it true=>match bG s.fr.tm it with
    | some (.ptr r 0) =>match s.h.look r with
     |some (.siter l n pos) =>aAo s (.tup [.bool false]) s.h [l≤pos]
     |_=>none
    |_=>none
   |_=>none
  |none=>none
 | .mput es' clock'=>match kW s with
  | some o=>match o.op with
   | .mapUpdate t m k x=>match bG s.fr.tm m,bG s.fr.tm k,bG s.fr.tm x with
    | some (.map r),some k,some v=>match P.underlying t,s.h.look r with
     | some (.map kt _),some (.map es clock) =>match P.underlying kt with
      |some kd=>bif plainKey kd k then aAo s .undef (s.h.set r (.map es' clock')) [qS es clock k v=some (es',clock')]else none
      |none=>none
     |_,_=>none
    |_,_,_=>none
   |_=>none
  |none=>none
 | .mset b es' clock'=>match s.h.look b with
  |some (.map es clock) =>some (⟨s.fr,s.cs,s.h.set b (.map es' clock')⟩,[es=es',clock=clock'])
  |_=>none
 | .st y y'=>match kW s with
  | some o=>match o.op with
   | .store t a x=>match bG s.fr.tm a,bG s.fr.tm x with
    | some (.ep b e i k),some v=>match s.h.look b,aR P t with
     | some (.lst e' xs),some n=>bif beq e' e&&beq v.cells.length n&&ble (k+n) e&&cG v.cells then
       match s.fr.finish .undef with
       |some fr=>some (⟨fr,s.cs,s.h.set b (.lst e (xs.set i y'))⟩,[xs[i]?=some y,uP y k v.cells=some y'])
       |none=>none else none
     |_,_=>none
    |_,_=>none
   |_=>none
  |none=>none
 | .app zs n =>match kW s with
  | some o => match o.op with
   | .call c =>match c.callee,fJ s.fr.tm c.args.toList,c.argTypes[0]?,c.argTypes[1]? with
    | .builtin .append,some [d,x],some st,some xt=>match P.underlying st,P.underlying xt with
     | some (.slice el),some (.slice _) =>match aR P el,P.info? el,zeroOf P el with
      | some e,some inf,some z=>bif beq z.cells.length e&&ble e 40&&ble inf.bytes 1000&&ble 1 inf.bytes&&ble 1 e then
       match d with
       | .gl b e' off len _=>match s.h.look b with
        | some (.lst e2 xs) =>bif beq e' e&&beq e2 e then
          match x with
          | .gl b2 e1 off2 len2 _=>match s.h.look b2,P.underlying el with
           | some (.lst e3 ys),some _=>bif beq e1 e&&beq e3 e then
             aAo s (.gl s.h.nb e 0 n false) ((s.h.del b).new (.lst e zs)) [off2+len2≤ys.length,off+len≤xs.length,n≤1000000,(xs.drop off).take len++ (ys.drop off2).take len2=zs,len+len2=n]else none
           |_,_=>none
          | x=>match oH P s.h el e x with
           |some ys=>aAo s (.gl s.h.nb e 0 n false) ((s.h.del b).new (.lst e zs)) [off+len≤xs.length,n≤1000000,(xs.drop off).take len++ys=zs,len+ys.length=n]
           |none=>none
          else none
        |_=>none
       | .ilst e' [] true=>bif beq e' e then match oH P s.h el e x with
        |some ys=>aAo s (.gl s.h.nb e 0 n false) (s.h.new (.lst e zs)) [n≤1000000,ys=zs,ys.length=n]
        |none=>none
        else none
       |_=>none
       else none
      |_,_,_=>none
     |_,_=>none
    |_,_,_,_=>none
   |_=>none
  |none=>none
 | .nilL j e=>match s.fr.tm.at j with
  |some .nils=>some (⟨{s.fr with tm:=s.fr.tm.put j (.gl s.h.nb e 0 0 false)},s.cs,s.h.new (.lst e [])⟩,[])
  |_=>none
 | .nilI j e=>match s.fr.tm.at j with
  |some .nils=>some (⟨{s.fr with tm:=s.fr.tm.put j (.ilst e [] true)},s.cs,s.h⟩,[])
  |_=>none
 | .frz j b ys=>match s.fr.tm.at j,s.h.look b with
  |some v,some (.lst e xs) =>some (⟨{s.fr with tm:=s.fr.tm.put j (AV.frz b ys v)},s.cs,s.h.del b⟩,[keylessL xs=true,frzOk b e xs ys v])
  |_,_=>none
 | .cnil k o e=>match s.h.look k with
  | some (.cells t n ol sup) =>match t.at o with
   |some .nils=>bif blt k s.h.nb then some (⟨s.fr,s.cs,(s.h.new (.lst e [])).set k (.cells (t.put o (.gl s.h.nb e 0 0 false)) n ol sup)⟩,[])else none
   |_=>none
  |_=>none
 | .cnilI k o e=>match s.h.look k with
  | some (.cells t n ol sup) =>match t.at o with
   |some .nils=>some (⟨s.fr,s.cs,s.h.set k (.cells (t.put o (.ilst e [] true)) n ol sup)⟩,[])
   |_=>none
  |_=>none
 | .cfrz k o b ys=>bif beq k b then none else match s.h.look k,s.h.look b with
  | some (.cells t n ol sup),some (.lst e xs) =>match t.at o with
   |some v=>some (⟨s.fr,s.cs,(s.h.del b).set k (.cells (t.put o (AV.frz b ys v)) n ol sup)⟩,[keylessL xs=true,frzOk b e xs ys v])
   |none=>none
  |_,_=>none
 | .lkeep b js=>match s.h.look b with
  |some (.loop st pe fn tm nt ps aS bd df) =>some (⟨s.fr,s.cs,s.h.set b (.loop st pe fn (aF6 (aCy tm js)) nt ps aS bd df)⟩,[])
  |_=>none
 | .cweak k o=>match s.h.look k with
  | some (.cells t n ol sup) =>match t.at o with
   |some (.gl b e off l true) =>some (⟨s.fr,s.cs,s.h.set k (.cells (t.put o (.gl b e off l false)) n ol sup)⟩,[])
   |some (.ilst e xs true) =>some (⟨s.fr,s.cs,s.h.set k (.cells (t.put o (.ilst e xs false)) n ol sup)⟩,[])
   |_=>none
  |_=>none
 | .weak j=>match s.fr.tm.at j with
  |some (.gl b e o l true) =>some (⟨{s.fr with tm:=s.fr.tm.put j (.gl b e o l false)},s.cs,s.h⟩,[])
  |_=>none
 | .unname j b=>match s.fr.tm.at j,s.h.look b with
  |some (.val u),some (.lstv u' e xs) =>some (⟨{s.fr with tm:=s.fr.tm.put j (.gl b e 0 xs.length false)},s.cs,s.h.set b (.lst e xs)⟩,[u=u'])
  |_,_=>none
 | .vfrz b o ys=>match s.h.look b,s.h.look o with
  |some (.lstv u e xs),some (.lst eo zs) =>bif beq o b then none else some (⟨s.fr,s.cs,(s.h.del b).set o (.lst eo ys)⟩,[zs≠ [],keylessL xs=true,VQ u e xs zs ys])
  |_,_=>none
 | .appN zs n=>match kW s with
  | some o=>match aFZ P s.h s.fr.tm o zs n with
   |some (v,h',ps) =>aAo s v h' ps
   |none=>none
  |none=>none
 | .lw b ys=>match s.h.look b with
  |some (.lst e xs) =>some (⟨s.fr,s.cs,s.h.set b (.lst e ys)⟩,[xs≠ [],VW xs ys])
  |_=>none
 | .toL j g cs=>match s.fr.tm.at j with
  | some (.slice b 0 n c e x) =>match s.h.look b with
   | some (.cells t _ [] false) =>bif g||beq e 1 then
     some (⟨{s.fr with tm:=s.fr.tm.put j (.gl b e 0 n (x&&beq c n))},s.cs,s.h.set b (.lst e (rU g e n cs))⟩,[getCells t 0 (n*e) =some cs,cG cs=true])else none
   |_=>none
  |_=>none
 | .ctoL k o g cs=>match s.h.look k with
  | some (.cells t n ol sup) =>match t.at o with
   | some (.slice b 0 n2 c e x) =>bif beq k b then none else match s.h.look b with
    | some (.cells t2 _ [] false) =>bif g||beq e 1 then
      some (⟨s.fr,s.cs,(s.h.set b (.lst e (rU g e n2 cs))).set k (.cells (t.put o (.gl b e 0 n2 (x&&beq c n2))) n ol sup)⟩,[getCells t2 0 (n2*e) =some cs,cG cs=true])else none
    |_=>none
   |_=>none
  |_=>none
def wH (P:Program) :List Ins→AS→Option (AS×List Prop)
 | [],s=>some (s,[])
 | i::is,s=>match xstep P i s with
  |none=>none
  | some (s',ps) =>match wH P is s' with
   |none=>none
   |some (s'',qs) =>some (s'',ps++qs)
end
def AllP :List Prop→Prop
 | [] =>True
 | [p] =>p
 |p::ps=>p∧AllP ps
theorem AllP.mem :∀ {b:List Prop},AllP b→∀p∈b,p
 | [p],h,q,a=>by rw [zq32]at a;rw [a];exact h
 | p::c::b,h,q,a=>by
  rcases zq7.1 a with rfl|a
  ·exact h.1
  ·exact AllP.mem h.2 q a
theorem fH {call:bB}{s:AS}{o:Oper}(a:kW s=some o){v:AV}{h':Hp}(g:iO P s.h s.fr.tm o=some (.val v h')){fr:AFrame}(b:s.fr.finish v=some fr) :jF P call s=some ⟨fr,s.cs,h'⟩ :=by
 obtain⟨d,r,h⟩ :=s;obtain⟨fn,t,w,j,c,l,m,u⟩ :=d;simp only at g b ⊢;unfold kW at a;simp only at a;split at a
 · rename_i all i q f k;split at a
   · rename_i p;cases a;simp only [AFrame.finish]at b;split at b
     · rename_i n e;cases b;simp only [jF,p,g,e]
     ·cases b
   ·cases a
 ·cases a
theorem wW {call:bB}{s:AS}{o:Oper}(a:kW s=some o){c:AIn}(l:iO P s.h s.fr.tm o=some (.call c)){g:AFrame}(e:cX P s.h c=some g) :jF P call s=some ⟨g,s.fr::s.cs,s.h⟩ :=by
 obtain⟨d,r,h⟩ :=s;obtain⟨fn,t,v,j,b,m,n,u⟩ :=d;simp only at l e ⊢;unfold kW at a;simp only at a;split at a
 · rename_i all i q f k;split at a
   · rename_i p;cases a;simp only [jF,p,l,oJ,e]
   ·cases a
 ·cases a
theorem aHQ {E:Emb}{h:Hp}{w:World}{fn:FuncId}{tmps:Array Value}{ds:List Deferred}{kd:CallKind}{ro:Option Nat}{c:List Item}(r:Rel E h w.heap){fr:AFrame}{all:Array Oper}{i:Nat}{o:Oper}{rest:List Oper}{u:List AItem}(p:fr.todo= .ops all i (o::rest) ::u)
  (f:FR E fr (rf fn tmps c ds kd ro)) (y:bC fr.tm all.toList o=some true) {g:Nat} {d:List AV} (l:iO P h fr.tm o=some (.call (.enter g d))) (cs:List Frame) :
  ∃a,VRs E d a∧step P (lone (rf fn tmps c ds kd ro) cs w) = .next (lone (Frame.enter P g ⟨a⟩ .normal) (rf fn tmps c ds kd ro::cs) w) :=by
 have q:=f.todo;rw [p]at q;obtain⟨B,k,e,s,z⟩ :=q.cons_inv;simp only at e;subst e;obtain⟨rfl,x,A⟩ :=aCp s;have j:∀ {b},bC fr.tm all.toList o=some b→Region.wanted o (yielded all tmps) =b:=fun h=>vZ f.tm h;have m:=TR.reads (E:=E) f.tm fn (.inRegion all (i::List.range' (i+1) rest.length) ::k) ds kd ro (· ∈o.op.operands);have n:=wV l;obtain⟨a,t,v⟩ :=iU r m l;exact⟨a,v,wT x (j y) (.inr n) t⟩
theorem aHR {m:Nat}{s:AS}{v:AV}{h':Hp}{f1 f2:Nat}{q:List AV}{fr:AFrame}(h2:aCx P s v=some (f1,q,f2,fr))(hc:aCw P f1 q f2 s.h v h') :LeadsM P m s ⟨fr,s.cs,h'⟩ :=fun hm E J j w f C fs r=>by
 obtain⟨O,cs,h⟩ :=s;obtain⟨fn,y,A,todo,b,mode,n,H⟩ :=O;simp only at hc C fs r hm ⊢;unfold aCx at h2;simp only at h2;split at h2
 · rename_i all i o1 F l k;split at h2
   · rename_i f1' args' d1 d2 c hw M hd1 V Q hc2;split at h2
     · rename_i W d D S;cases hb: (beq d d1&&blt d1 A&&blt d2 A&&dA P W)
       case false=>rw [hb]at h2;cases h2
       rw [hb]at h2;simp only [cond]at h2;cases h2;simp only [dC]at hb;obtain⟨⟨⟨U,b2⟩,b3⟩,b4⟩ :=hb;have U:=eP U;subst U;have e:=C.run rfl;have Z:=C;rw [e]at C;obtain⟨z,h1,s1⟩ :=aHQ r rfl C hw M (j++f);rw [←e]at s1;obtain⟨en,w1,fr1,⟨p,rfl,r1,X⟩,s2,_,g2⟩ :=hc E w z r h1 (J:: (j++f));have s3:=step_leave_returned (cs:=j++f) (c:=J) g2;have R:AFrame.finish ⟨fn,y,A,.ops all i (o1::F::l) ::k,b,.run,n,H⟩ (.val p) =some ⟨fn,y.put d (.val p),A,.ops all (Nat.succ i) (F::l) ::k,b,.run,n,H⟩ :=by
        simp only [AFrame.finish,fQ,hd1,b2,cond]
       have o:=lR R Z (show VR E (.val p) p by simp only [VR]);have N: (y.put d (.val p)).at d=some (.val p) :=by rw [T.at_put,if_pos rfl]
       have L:bC (y.put d (.val p)) all.toList F=some true:=by simp only [bC,V]
       have B:iO P h (y.put d (.val p)) F=some (.call (.enter f2 [.val p])) :=by
        unfold iO;simp only [fP,hc2,pA,S,fJ,bG,N,D,pX,sK,b4,cond,List.nil_append,rZ]
       have e1:=o.run rfl;have K:=o;rw [e1]at o;obtain⟨I,h3,s4⟩ :=aHQ r1 rfl o L B (j++f);rw [←e1]at s4;obtain⟨u,us,rfl,q1,q2⟩ :=h3.cons_inv;simp only [VR]at q1;subst q1;have:=q2.nil_inv;subst this;obtain⟨en,w',fr',⟨cv,E',rfl,k3,k4,k5⟩,s5,_,g5⟩ :=X (J.finish u:: (j++f));have s6:=step_leave_returned (cs:=j++f) (c:=J.finish u) g5;have G:=k5.le;have hf2:AFrame.finish ⟨fn,y.put d (.val u),A,.ops all (Nat.succ i) (F::l) ::k,b,.run,n,H⟩ v=some ⟨fn,(y.put d (.val u)).put d2 v,A,.ops all (Nat.succ (Nat.succ i)) l::k,b,.run,n,H⟩ :=by
        simp only [AFrame.finish,fQ,Q,b3,cond]
       have g:=lR hf2 (K.mono G) k3;refine⟨E',_,j,w',(Steps.one s1).trans (Steps.trans s2 ((Steps.one s3).trans ((Steps.one s4).trans (Steps.trans s5 (.one s6))))),⟨g.fn,⟨g.tm.1,fun t a x=>g.tm.2 t a ?_⟩,g.todo,g.defers,g.mode,g.kind,g.round⟩,fs.mono G,k4,k5.toM hm⟩;simp only at x ⊢;rw [T.at_put]at x ⊢;split
       ·rename_i Y;rw [if_pos Y]at x;exact x
       · rename_i Y;rw [if_neg Y,T.at_del]at x;rw [T.at_put];split at x
         ·cases x
         ·rename_i hd;rw [if_neg hd];exact x
     ·cases h2
   ·cases h2
 ·cases h2
theorem gQ {s b:AS}{v:AV}{h':Hp}{obl ps:List Prop}(a:aAo s v h' obl=some (b,ps)) :∃fr,s.fr.finish v=some fr∧b= ⟨fr,s.cs,h'⟩ ∧ps=obl:=by
 unfold aAo at a;split at a
 ·rename_i fr c;cases a;exact⟨fr,c,rfl,rfl⟩
 ·cases a
theorem put_same {a:Type}{t:T a}{k:Nat}{v:a}(h:t.at k=some v) :∀j,(t.put k v).at j=t.at j:=fun j=>by
 rw [T.at_put];split
 ·rename_i e;rw [e,h]
 ·rfl
theorem aUd {E:Emb}{fr:AFrame}{c:Frame}(f:FR E fr c){j:Nat}{v:AV}(h:fr.tm.at j=some v) :FR E {fr with tm:=fr.tm.put j v} c:=
 ⟨f.fn,⟨f.tm.1,fun t a e=>f.tm.2 t a (by rw [←put_same h t];exact e)⟩,f.todo,f.defers,f.mode,f.kind,f.round⟩
theorem aCz {m:Nat}{fr:AFrame}{cs:List AFrame}{h:Hp}{j:Nat}{v:AV}(c:fr.tm.at j=some v) :LeadsM P m ⟨fr,cs,h⟩ ⟨{fr with tm:=fr.tm.put j v},cs,h⟩ :=
 fun hm E b a w _ f fs r=> ⟨E,b,a,w,Steps.refl _ _,aUd f c,fs,r,ExtM.refl hm⟩
theorem wI {h:Hp}{b:Nat}{o:AObj}(hb:h.look b=some o) :∀x,(h.set b o).look x=h.look x:=fun x=>by
 rw [aU];split
 ·rename_i e;rw [e,hb]
 ·rfl
theorem wX {m:Nat}{fr:AFrame}{cs:List AFrame}{h h':Hp}(hl:∀x o,h'.look x=some o→h.look x=some o)(c:h'.nb=h.nb) :LeadsM P m ⟨fr,cs,h⟩ ⟨fr,cs,h'⟩ :=
 fun hm E d a w _ f fs r=> ⟨E,d,a,w,Steps.refl _ _,f,fs,r.sub hl (Nat.le_of_eq c.symm),⟨fun _ _=>rfl,fun _ _ e=>e,le_refl _,fun _ _ _=>rfl,fun b o L e k i g _=> ⟨b,o,L,hl b o e,k,g⟩,by rw [c];exact hm,rfl,rfl,rfl,fun _ _=>rfl,fun _ _ e _=>.inl e,fun b o e _=> ⟨o,hl b o e⟩⟩⟩
theorem aP1 {m:Nat}{fr:AFrame}{cs:List AFrame}{h:Hp}{tm':T AV}(d:∀t a,tm'.at t=some a→fr.tm.at t=some a) :LeadsM P m ⟨fr,cs,h⟩ ⟨{fr with tm:=tm'},cs,h⟩ :=
 fun hm E c b w _ f fs r=> ⟨E,c,b,w,Steps.refl _ _,⟨f.fn,⟨f.tm.1,fun t a e=>f.tm.2 t a (d t a e)⟩,f.todo,f.defers,f.mode,f.kind,f.round⟩,fs,r,ExtM.refl hm⟩
theorem aP2 {m n:Nat}{s:AS}{o:Oper}(v:kW s=some o){t:TypeId}{l c:Operand}{d:Nat}(M:o.op= .makeSlice t l c)(C:o.dst=some d){k1 k2:IntKind}(hl:bG s.fr.tm l=some (.int k1 n))(hc:bG s.fr.tm c=some (.int k2 n)){B:TypeId}(Z:P.underlying t=some (.slice B))
  {e:Nat} (S:aR P B=some e) {z:AV} (hz:zeroOf P B=some z) {r:TypeInfo} (D:P.info? B=some r) {q:TypeDesc} (_hed:P.underlying B=some q) (u: (ble e 40&&ble 1 e&&beq z.cells.length e&&ble r.bytes 1000) =true) (h1:cG z.cells=true) (hg:isAggD q=true∨beq e 1=true) (hn:n<100000)
  {fr:AFrame} (p:s.fr.finish (.gl s.h.nb e 0 n true) =some fr) :LeadsM P m s ⟨fr,s.cs,s.h.new (.lst e (replicate n (bif isAggD q then .agg z.cells else z.cells.headD .undef)))⟩ :=by
 have J:z.cells.length=e:=by simp only [dC]at u;exact eP u.1.2
 have hv:iO P s.h s.fr.tm o=some (.val (.slice s.h.nb 0 n n e true) (s.h.newCells (jR z.cells n))) :=by
  unfold iO;have H: (ble e 40&&ble 1 e&&beq z.cells.length e&&ble r.bytes 1000) =true:=u;simp only [fP,M,xR,hl,hc,Z,S,hz,D,H,cond];rw [if_pos ⟨by omega,Int.le_refl _,by omega⟩];rfl
 obtain⟨b,O,R⟩ :∃b,s.fr.finish (.slice s.h.nb 0 n n e true) =some b∧∃f,d<s.fr.nt∧f=s.fr.tm∧b.tm=f.put d (.slice s.h.nb 0 n n e true) ∧fr= {b with tm:=f.put d (.gl s.h.nb e 0 n true)}:=by
  unfold kW at v;split at v
  · rename_i all i o' W k hm V;split at v
    · cases v;unfold AFrame.finish at p ⊢;rw [V]at p ⊢;simp only [C,fQ]at p ⊢;cases hb:blt d s.fr.nt
      case false=>rw [hb]at p;cases p
      rw [hb]at p;simp only [cond]at p ⊢;cases p;exact⟨_,rfl,s.fr.tm,by rw [cF]at hb;exact of_decide_eq_true hb,rfl,rfl,rfl⟩
    ·cases v
  ·cases v
 obtain⟨f,hd,_,X,e2⟩ :=R;have U: (jR z.cells n).length=n*e:=by rw [kU,J]
 have w: (s.h.newCells (jR z.cells n)).look s.h.nb=some (.cells (putCells .leaf 0 (jR z.cells n)) (jR z.cells n).length [] false) :=by
  unfold Hp.newCells;rw [cA,if_pos rfl]
 have F:getCells (putCells .leaf 0 (jR z.cells n)) 0 (n*e) =some (jR z.cells n) :=by
  rw [←U];exact yV _ _ _ (fun j Y=>by rw [jS,aX,if_pos Y])
 have y:=cO (P:=P) (m:=m) bQ (fH (call:=mM) v hv O)
 have A:=iG (P:=P) (m:=m) (fr:=b) (cs:=s.cs) (h:=s.h.newCells (jR z.cells n)) (j:=d) (by rw [X,T.at_put,if_pos rfl]) (aAn (m:=m) (c:=n) (x:=true) (g:=isAggD q) w F (aAW h1 n) (fun Q=>by
  rcases hg with g|g
  ·rw [Q]at g;cases g
  ·exact eP g))
 refine(y.trans A).trans ?_;rw [aCu (isAggD q) J n];have G: (true&&beq n n) =true:=by simp
 rw [G]
 have a:=wX (P:=P) (m:=m) (fr:={b with tm:=b.tm.put d (.gl s.h.nb e 0 n true)}) (cs:=s.cs) (h:= (s.h.newCells (jR z.cells n)).set s.h.nb (.lst e (replicate n (bif isAggD q then .agg z.cells else z.cells.headD .undef)))) (h':=s.h.new (.lst e (replicate n (bif isAggD q then .agg z.cells else z.cells.headD .undef)))) (fun x ox I=>by
  rw [cA]at I;rw [aU];unfold Hp.newCells;rw [cA];by_cases N:x=s.h.nb
  ·rw [if_pos N]at I ⊢;exact I
  ·rw [if_neg N]at I ⊢;rw [if_neg N];exact I) rfl
 refine a.trans ?_;rw [e2]
 exact aP1 (P:=P) (fr:={b with tm:=b.tm.put d (.gl s.h.nb e 0 n true)}) (tm':=f.put d (.gl s.h.nb e 0 n true)) (fun t a L=>by
  show(b.tm.put d (.gl s.h.nb e 0 n true)).at t=some a;rw [X,T.at_put];rw [T.at_put]at L;split at L
  ·rename_i K;rw [if_pos K];exact L
  ·rename_i K;rw [if_neg K,T.at_put,if_neg K];exact L)
theorem aCA {h:Hp}{a:Array TypeId}{b e off len:Nat}{ex:Bool}{x:AV}:aappend P h a (.gl b e off len ex) x=none:=by
 unfold aappend;simp only [cond_eq_ite]
 repeat' split
 all_goals first|rfl| (split<;>rfl)
theorem aF7 {h:Hp}{a:Array TypeId}{e:Nat}{xs:List AV}{ex:Bool}{x:AV}:aappend P h a (.ilst e xs ex) x=none:=by
 unfold aappend;simp only [cond_eq_ite]
 repeat' split
 all_goals first|rfl| (split<;>rfl)
set_option maxHeartbeats 2000000 in
theorem aBu {a:Type}:∀ {l:List (Nat×a)} {k:Nat} {v:a},(aF6 l).at k=some v→ (k,v) ∈l
 | [],k,v,h=>by rw [aF6,T.at_leaf]at h;cases h
 | (j,u) ::r,k,v,h=>by
  rw [aF6,T.at_put]at h;split at h
  ·rename_i hk;cases h;subst hk;exact dJ ..
  ·exact dR _ (aBu h)
theorem pK {a:Type}{t:T a}:∀ {b:List Nat} {k:Nat} {v:a},(k,v) ∈aCy t b→t.at k=some v
 | [],_,_,h=>by cases h
 | j ::b,k,v,h=>by
  simp only [aCy]at h;split at h
  · rename_i u c;rcases zq7.1 h with e|h
    ·cases e;exact c
    ·exact pK h
  ·exact pK h
theorem xstep_sound {i:Ins}{s s':AS}{ps:List Prop}{m:Nat}(A:xstep P i s=some (s',ps))(B:∀p∈ps,p) :LeadsM P m s s':=by
 cases i with
 | run n=>
  simp only [xstep]at A;split at A
  · rename_i s1 h1;cases A;rw [qP]at h1;exact(nR bQ h1).toM
  ·cases A
 | cweak k o=>
  simp only [xstep]at A;split at A
  · rename_i t n ol U hk;split at A
    ·rename_i M;cases A;exact iH hk hk M aCv
    ·rename_i M;cases A;exact iH hk hk M aHP
    ·cases A
  ·cases A
 | weak j=>
  simp only [xstep]at A;split at A
  · rename_i b e o l R;cases A;exact iG R aCv
  ·cases A
 | unname j b=>
  simp only [xstep]at A;split at A
  · rename_i u u' e xs R hb;cases A;have N:=mem1 B;subst N;exact iG R (aF5 hb)
  ·cases A
 | vfrz b o W=>
  simp only [xstep]at A;split at A
  · rename_i u e xs eo zs hb F;cases K:beq o b
    case true=>rw [K]at A;cases A
    rw [K]at A;simp only [cond]at A;cases A;have N:=B _ (dJ ..);have Q:=B _ (dR _ (dJ ..));have q2:=B _ (dR _ (dR _ (dJ ..)));refine aKz hb F (fun e=>?_) N Q q2;rw [e,Nat.beq_refl]at K;cases K
  ·cases A
 | appN zs n=>
  simp only [xstep]at A;split at A
  · rename_i o F;split at A
    · rename_i v h' qs M;obtain⟨fr,G,rfl,rfl⟩ :=gQ A;exact cO bQ (fH F (yT M B) G)
    ·cases A
  ·cases A
 | lw b W=>
  simp only [xstep]at A;split at A
  · rename_i e xs hb;cases A;have N:=B _ (dJ ..);have Q:=B _ (dR _ (dJ ..));exact aPZ hb N Q
  ·cases A
 | lkeep b js=>
  simp only [xstep]at A;split at A
  · rename_i st pe fn tm nt ps aS bd df hb;cases A;intro hm E cf ccs w base f fs r;refine⟨E,cf,ccs,w,Steps.refl _ _,f,fs,r.reobj hb rfl (fun L hL=>?_) rfl rfl rfl,qQ (ExtM.refl hm) hb⟩;obtain⟨tmps,Ld,h1,h2,h3⟩ :=r.objL hb hL;exact⟨tmps,Ld,h1,h2,h3.1,fun t a e=>h3.2 t a (pK (aBu e))⟩
  ·cases A
 | b j v=>
  simp only [xstep]at A;split at A
  · rename_i b hb;cases A;have:=mem1 B;subst this;exact aCz hb
  ·cases A
 | set j v=>
  simp only [xstep]at A;split at A
  · rename_i u O;cases A;have:=mem1 B;subst this;exact aCz O
  ·cases A
 | cset k o v=>
  simp only [xstep]at A;split at A
  · rename_i t n ol U hk;split at A
    · rename_i u O;cases A;have:=mem1 B;subst this;exact iH hk hk O (aEC fun _ _ h=>h)
    ·cases A
  ·cases A
 | lset b xs=>
  simp only [xstep]at A;split at A
  · rename_i e W hb;cases A;have:=mem1 B;subst this;exact wX (fun x o e=>by rw [wI hb]at e;exact e) rfl
  ·cases A
 | call v h'=>
  simp only [xstep]at A;split at A
  · rename_i o F;split at A
    · rename_i c hc;unfold aAo at A;split at A
      · rename_i fr G;cases A;obtain⟨g,hg,he⟩ :=mem1 B;exact wG (cO bQ (wW F hc hg)) he G
      ·cases A
    ·cases A
  ·cases A
 | call2 v h'=>
  simp only [xstep]at A;split at A
  · rename_i f1 args f2 fr h2;cases A;exact aHR h2 (mem1 B)
  ·cases A
 | callP ch h'=>
  simp only [xstep]at A;split at A
  · rename_i o F;split at A
    · rename_i c hc;cases A;obtain⟨g,hg,he⟩ :=mem1 B;exact aCr (cO bQ (wW F hc hg)) he
    ·cases A
  ·cases A
 | ans a=>
  simp only [xstep]at A;split at A
  · rename_i o F;split at A
    · rename_i v qs M;obtain⟨fr,G,rfl,rfl⟩ :=gQ A;exact cO bQ (fH F (lT M B) G)
    ·cases A
  ·cases A
 | pure v=>
  simp only [xstep]at A;split at A
  · rename_i o F;split at A
    · rename_i f args hc;obtain⟨fr,G,rfl,rfl⟩ :=gQ A;obtain⟨g,hg,he⟩ :=mem1 B s.h;exact wG (cO bQ (wW F hc hg)) he G
    ·cases A
  ·cases A
 | mk n =>
  simp only [xstep]at A;split at A
  · rename_i o F;split at A
    · rename_i t l c d C hdst;split at A
      · rename_i k1 l' k2 c' hl hc;split at A
        · rename_i el O;split at A
          · rename_i e z Y ed V hz J hed;cases Z: (ble e 40&&ble 1 e&&beq z.cells.length e&&ble Y.bytes 1000&&cG z.cells&& (isAggD ed||beq e 1))
            case false=>rw [Z]at A;cases A
            rw [Z]at A;simp only [cond]at A;split at A
            · rename_i fr G;cases A;have Q:=B _ (dJ ..);have q2:=B _ (dR _ (dJ ..));have q3:=B _ (dR _ (dR _ (dJ ..)));subst Q q2;simp only [dC,Bool.or_eq_true]at Z;obtain⟨⟨⟨⟨⟨c1,c2⟩,c3⟩,c4⟩,c5⟩,c6⟩ :=Z;exact aP2 F C hdst hl hc O V hz J hed (by simp [c1,c2,c3,c4]) c5 c6 q3 G
            ·cases A
          ·cases A
        ·cases A
      ·cases A
    ·cases A
  ·cases A
 | reg is=>
  simp only [xstep]at A;split at A
  · rename_i id ops k hm htd;split at A
    · rename_i tm h' qs hr;cases A;exact yU hm htd hr B
    ·cases A
  ·cases A
 | regA is os=>
  simp only [xstep]at A;split at A
  · rename_i id ops k hm htd;split at A
    · rename_i tm h' qs hr;cases A;exact yU hm htd hr B
    ·cases A
  ·cases A
 | nxt c d =>
  simp only [xstep]at A;split at A
  · rename_i o F;split at A
    · rename_i it C;split at A
      · rename_i r hr;split at A
        · rename_i l n pos hb;obtain⟨fr,G,rfl,rfl⟩ :=gQ A;have N:=B _ (dJ ..);have Q:=B _ (dR _ (dJ ..));refine cO bQ (fH F ?_ G);have hbl:blt pos l=true:=by rw [cF];exact decide_eq_true N
          unfold iO;simp only [fP,C,sF,hr,hb,hbl,cond,Q]
        ·cases A
      ·cases A
    ·cases A
  ·cases A
 | nxtE =>
  simp only [xstep]at A;split at A
  · rename_i o F;split at A
    · rename_i it C;split at A
      · rename_i r hr;split at A
        · rename_i l n pos hb;obtain⟨fr,G,rfl,rfl⟩ :=gQ A;have N:=mem1 B;refine cO bQ (fH F ?_ G);have hbl:blt pos l=false:=by rw [cF];exact decide_eq_false (by omega)
          unfold iO;simp only [fP,C,sF,hr,hb,hbl,cond]
        ·cases A
      ·cases A
    ·cases A
  ·cases A
 | mput es' X =>
  simp only [xstep]at A;split at A
  · rename_i o F;split at A
    · rename_i t m k x C;split at A
      · rename_i r kv v hm hk hx;split at A
        · rename_i kt et es clock O hb;split at A
          · rename_i kd hkd;cases hc:plainKey kd kv
            case false=>rw [hc]at A;cases A
            rw [hc]at A;simp only [cond]at A;obtain⟨fr,G,rfl,rfl⟩ :=gQ A;have q:=mem1 B;refine cO bQ (fH F ?_ G);unfold qS at q;unfold iO;simp only [fP,C,xR,sF,hm,hk,hx,mD,O,hkd,hb,hc,cond];split at q
            · rename_i i w hfk;cases q;simp only [hfk,xX]
            · rename_i hfk;cases q;simp only [hfk,xX]
            ·cases q
          ·cases A
        ·cases A
      ·cases A
    ·cases A
  ·cases A
 | mset b es' X=>
  simp only [xstep]at A;split at A
  · rename_i es clock hb;cases A;have N:=B _ (dJ ..);have Q:=B _ (dR _ (dJ ..));subst N Q;exact wX (fun x o e=>by rw [wI hb]at e;exact e) rfl
  ·cases A
 | st y y' =>
  simp only [xstep]at A;split at A
  · rename_i o F;split at A
    · rename_i t a x C;split at A
      · rename_i b e i k v ha hx;split at A
        · rename_i e' xs n hb hn;cases hc: (beq e' e&&beq v.cells.length n&&ble (k+n) e&&cG v.cells)
          case false=>rw [hc]at A;cases A
          rw [hc]at A;simp only [cond]at A;split at A
          · rename_i fr G;cases A;have N:=B _ (dJ ..);have Q:=B _ (dR _ (dJ ..));refine cO bQ (fH F (cP ?_ ?_) G)
            ·simp only [fP,C,xR,ha,hx]
            ·simp only [vop,C,xR,ha,hx,hb,hn,hc,cond,N,Q]
          ·cases A
        ·cases A
      ·cases A
    ·cases A
  ·cases A
 | app zs n =>
  simp only [xstep]at A;split at A
  · rename_i o F;split at A
    · rename_i c C;split at A
      · rename_i d x st xt H D hst hxt;split at A
        · rename_i el el' O hu';split at A
          · rename_i e Y z V J hz;cases hc: (beq z.cells.length e&&ble e 40&&ble Y.bytes 1000&&ble 1 Y.bytes&&ble 1 e)
            case false=>rw [hc]at A;cases A
            rw [hc]at A;simp only [cond]at A;split at A
            · rename_i b e' off len ex;split at A
              · rename_i e2 xs hb;cases I: (beq e' e&&beq e2 e)
                case false=>rw [I]at A;cases A
                rw [I]at A;simp only at A;simp only [dC]at I;have ee1:=eP I.1;have ee2:=eP I.2;split at A
                · rename_i b2 e1 S len2 ex2;split at A
                  · rename_i e3 W dd hb2 hu3;cases T: (beq e1 e&&beq e3 e)
                    case false=>rw [T]at A;cases A
                    rw [T]at A;simp only at A;simp only [dC]at T;have ee3:=eP T.2;obtain⟨fr,G,rfl,rfl⟩ :=gQ A;have y0:=B _ (dJ ..);have y2:=B _ (dR _ (dJ ..));have y3:=B _ (dR _ (dR _ (dJ ..)));have y4:=B _ (dR _ (dR _ (dR _ (dJ ..))));have y5:=B _ (dR _ (dR _ (dR _ (dR _ (dJ ..)))));subst y4 y5;have yl: ((W.drop S).take len2).length=len2:=by rw [List.length_take,List.length_drop];omega
                    have y1:oH P s.h el e (.gl b2 e1 S len2 ex2) =some ((W.drop S).take len2) :=by
                     simp only [oH,hu3,T.1,cond,hb2];rw [if_pos ⟨ee3,y0⟩]
                    refine cO bQ (fH F (cP ?_ ?_) G)
                    ·simp only [fP,C,pA,D,H,eW,aCA]
                    · simp only [vop,C,H,D,kF,hst,hxt,O,hu',V,J,hz,y1,hc,cond,hb,aB0,yl];rw [if_pos ⟨ee1,ee2,y2,y3⟩]
                  ·cases A
                · split at A
                  · rename_i W y1;obtain⟨fr,G,rfl,rfl⟩ :=gQ A;have y2:=B _ (dJ ..);have y3:=B _ (dR _ (dJ ..));have y4:=B _ (dR _ (dR _ (dJ ..)));have y5:=B _ (dR _ (dR _ (dR _ (dJ ..))));subst y4 y5;refine cO bQ (fH F (cP ?_ ?_) G)
                    ·simp only [fP,C,pA,D,H,eW,aCA]
                    · simp only [vop,C,H,D,kF,hst,hxt,O,hu',V,J,hz,y1,hc,cond,hb,aB0];rw [if_pos ⟨ee1,ee2,y2,y3⟩]
                  ·cases A
              ·cases A
            · rename_i e';cases I:beq e' e
              case false=>rw [I]at A;cases A
              rw [I]at A;simp only at A;have ee1:=eP I;split at A
              · rename_i W y1;obtain⟨fr,G,rfl,rfl⟩ :=gQ A;have y2:=B _ (dJ ..);have y3:=B _ (dR _ (dJ ..));have y4:=B _ (dR _ (dR _ (dJ ..)));subst y3 y4;refine cO bQ (fH F (cP ?_ ?_) G)
                ·simp only [fP,C,pA,D,H,eW,aF7]
                · simp only [vop,C,H,D,kF,hst,hxt,O,hu',V,J,hz,y1,hc,cond,aB0];rw [if_pos ⟨ee1,y2⟩]
              ·cases A
            ·cases A
          ·cases A
        ·cases A
      ·cases A
    ·cases A
  ·cases A
 | nilL j e=>
  simp only [xstep]at A;split at A
  ·rename_i R;cases A;exact iG R (aED e)
  ·cases A
 | nilI j e=>
  simp only [xstep]at A;split at A
  ·rename_i R;cases A;exact iG R (aCs e)
  ·cases A
 | frz j b W=>
  simp only [xstep]at A;split at A
  · rename_i v e xs R hb;cases A;exact iG R (pJ hb (B _ (dJ ..)) (B _ (dR _ (dJ ..))))
  ·cases A
 | cnil k o e=>
  simp only [xstep]at A;split at A
  · rename_i t n ol U hk;split at A
    · rename_i M;cases hc:blt k s.h.nb
      case false=>rw [hc]at A;cases A
      rw [hc]at A;simp only [cond]at A;cases A;rw [cF]at hc;have:=of_decide_eq_true hc;exact iH hk (by rw [cA,if_neg (by omega)];exact hk) M (aED e)
    ·cases A
  ·cases A
 | cnilI k o e=>
  simp only [xstep]at A;split at A
  · rename_i t n ol U hk;split at A
    ·rename_i M;cases A;exact iH hk hk M (aCs e)
    ·cases A
  ·cases A
 | cfrz k o b W=>
  simp only [xstep]at A;cases hc:beq k b
  case true=>rw [hc]at A;cases A
  rw [hc]at A;simp only [cond]at A;have K:k≠b:=fun e=>by subst e;simp at hc
  split at A
  · rename_i t n ol U e xs hk hb;split at A
    · rename_i v M;cases A;exact iH hk (by rw [mI,if_neg K];exact hk) M (pJ hb (B _ (dJ ..)) (B _ (dR _ (dJ ..))))
    ·cases A
  ·cases A
 | ctoL k o g cs=>
  simp only [xstep]at A;split at A
  · rename_i t n ol U hk;split at A
    · rename_i b n2 c e x M;cases hkb:beq k b
      case true=>rw [hkb]at A;cases A
      rw [hkb]at A;simp only [cond]at A;have K:k≠b:=fun e=>by subst e;simp at hkb
      split at A
      · rename_i t2 k2 hb;cases hc: (g||beq e 1)
        case false=>rw [hc]at A;cases A
        rw [hc]at A;simp only at A;cases A;exact iH hk (by rw [aU,if_neg K];exact hk) M (aAn hb (B _ (dJ ..)) (B _ (dR _ (dJ ..))) (fun hg=>by subst hg;simp only [Bool.false_or]at hc;exact eP hc))
      ·cases A
    ·cases A
  ·cases A
 | toL j g cs=>
  simp only [xstep]at A;split at A
  · rename_i b n c e x R;split at A
    · rename_i t k hb;cases hc: (g||beq e 1)
      case false=>rw [hc]at A;cases A
      rw [hc]at A;simp only [cond]at A;cases A;exact iG R (aAn hb (B _ (dJ ..)) (B _ (dR _ (dJ ..))) (fun hg=>by subst hg;simp only [Bool.false_or]at hc;exact eP hc))
    ·cases A
  ·cases A
theorem kX {m:Nat}:∀ {f:List Ins} {s c:AS} {d:List Prop},wH P f s=some (c,d) → (∀p∈d,p) →LeadsM P m s c
 | [],s,c,d,a,_=>by simp only [wH]at a;cases a;exact LeadsM.refl s
 | i ::f,s,c,d,a,e=>by
  simp only [wH]at a;split at a
  ·cases a
  · rename_i j n h;split at a
    ·cases a
    · rename_i k l g;cases a;exact(xstep_sound h (fun p b=>e p (aFs _ b))).trans (kX g (fun p b=>e p (aHs _ b)))
def pL {α:Type}:List (Nat×α) →T α
 | [] =>.leaf
 | (k,v) ::r=> (pL r).put k v
theorem aAp {a:Type}:∀ {l:List (Nat×a)} {k:Nat} {v:a},(pL l).at k=some v→ (k,v) ∈l
 | [],k,v,h=>by rw [pL,T.at_leaf]at h;cases h
 | (j,u) ::r,k,v,h=>by
  rw [pL,T.at_put]at h;split at h
  ·rename_i hk;cases h;subst hk;exact dJ ..
  ·exact dR _ (aAp h)
structure TF where
 fn:Nat
 nt:Nat
 sl:List (Nat×AV)
 todo:List AItem
 defers:List ADef:=[]
 mode:AMode:=.run
 kind:CallKind:=.normal
 roundOf:Option Nat:=none
def TF.fr (f:TF) :AFrame:= ⟨f.fn,pL f.sl,f.nt,f.todo,f.defers,f.mode,f.kind,f.roundOf⟩
structure TS where
 fr:TF
 cs:List TF
 hp:List (Nat×AObj×Bool)
 nb:Nat
def aA (l:List (Nat×AObj×Bool))(nb:Nat) :Hp:= ⟨pL (l.map fun p=> (p.1,p.2.1)),nb⟩
def TS.as (s:TS) :AS:= ⟨s.fr.fr,s.cs.map TF.fr,aA s.hp s.nb⟩
def T.mapT {α β:Type}(f:α→β) :T α→T β
 | .leaf=>.leaf
 | .node l v r=>.node (T.mapT f l) (v.map f) (T.mapT f r)
theorem aCB {a b:Type}(f:a→b) :∀ (t:T a) (k:Nat),(t.mapT f).get k= (t.get k).map f
 | .leaf,k=>rfl
 | .node l v r,k=>by
  rw [T.mapT,T.get_node,T.get_node,aCB f l,aCB f r];split
  ·rfl
  ·split<;>rfl
theorem aBv {a b:Type}(f:a→b)(t:T a)(k:Nat) : (t.mapT f).at k= (t.at k).map f:=aCB f t _
def AObj.ren (τ:Nat→Nat) :AObj→AObj
 | .cells t n ol sup=>.cells (t.mapT (AV.ren τ)) n (ol.map τ) sup
 | .map es c=>.map (es.map fun p=> (AV.ren τ p.1,AV.ren τ p.2.1,p.2.2)) c
 | .siter l n p=>.siter l n p
 | .loop st pe fn tm nt ps aS bd df=>.loop st pe fn (tm.mapT (AV.ren τ)) nt ps aS bd (τ df)
 | .defd t=>.defd t
 | .lst e xs=>.lst e (renL τ xs)
 | .lstv u e xs=>.lstv u e (renL τ xs)
 | .miter m s l n=>.miter (τ m) s l n
 | .zone w rs Z=>.zone w (List.map τ rs) Z
def AItem.ren (τ:Nat→Nat) :AItem→AItem
 | .inRF l=>.inRF (τ l)
 | .junk=>.junk
 | .endRF l=>.endRF (τ l)
 |i=>i
def ADef.ren (τ:Nat→Nat) :ADef→ADef
 | .fn f args=>.fn f (renL τ args)
 | .col r=>.col (τ r)
def AMode.ren (τ:Nat→Nat) :AMode→AMode
 | .pan ch=>.pan (ch.map fun p=> (AV.ren τ p.1,p.2))
 |m=>m
theorem aWd {b:Nat→Nat}{E:Emb}{tm:T AV}{c:Nat}{tmps:Array Value}(r:TR E (tm.mapT (AV.ren b)) c tmps) :TR (E.ren b) tm c tmps:=
 ⟨r.1,fun t a e=>by
  obtain⟨v,d,f⟩ :=r.2 t (AV.ren b a) (by rw [aBv,e];rfl);exact⟨v,d,(eS b E a v).1 f⟩⟩
theorem aMK {a:Nat→Nat}{E:Emb}:∀ {c:List (AV×AV×Nat)} {d:List MapEntry},ERs E (c.map fun p=> (AV.ren a p.1,AV.ren a p.2.1,p.2.2)) d→ERs (E.ren a) c d
 | [],_,r=>by simpa [ERs]using r
 | p::c,_,r=>by
  simp only [dS,ERs]at r ⊢;obtain⟨u,b,f,e,h,i,g⟩ :=r;exact⟨u,b,f,(eS a E _ _).1 e,(eS a E _ _).1 h,i,aMK g⟩
theorem aWe {g:Nat→Nat}{E:Emb}{H:Array Obj}{L:Loc}{o:AObj}(r:OR E H L (o.ren g)) :OR (E.ren g) H L o:=by
 cases o with
 | cells t n T J=>
  obtain⟨C,k,d,f,b⟩ :=r;refine⟨C,k,d,f,fun i a e=>?_⟩;obtain⟨I,v,K,G⟩ :=b i (AV.ren g a) (by rw [aBv,e];rfl);exact⟨I,v,K,(eS g E a v).1 G⟩
 |map O c=>obtain⟨M,d,f⟩ :=r;exact⟨M,d,aMK f⟩
 |siter l n p=>exact r
 |loop st X fn N Y V U Q R=>obtain⟨q,B,d,f,b⟩ :=r;exact⟨q,B,d,f,aWd b⟩
 |defd t=>exact r
 |lst e j=>obtain⟨C,k,h,d,f,b,w⟩ :=r;exact⟨C,k,h,d,f,(kM g E j h).1 b,w⟩
 |miter m s l n=>obtain⟨Lm,d,f,b⟩ :=r;exact⟨Lm,d,f,b⟩
 | zone W S Z=>
  obtain⟨D,z,x,F⟩ :=r;exact⟨D,z,by rw [aT3]at x;exact x,F⟩
 | lstv u e j=>
  obtain⟨C,k,h,d,f,b,w,A,y⟩ :=r;have hl: (renL g j).length=j.length:=by rw [←b.length,((kM g E j h).1 b).length]
  exact⟨C,k,h,d,f,(kM g E j h).1 b,w,A,by rw [hl]at y;exact y⟩
def AObj.kl :AObj→Prop
 | .lst _ xs=>keylessL xs=true
 | .lstv _ _ xs=>keylessL xs=true
 | .map es _=>∀e∈es,keyless e.1=true∧keyless e.2.1=true
 |_=>False
theorem aP3 {E E':Emb}(he:E.imm=E'.imm) :∀ {a:List (AV×AV×Nat)} {f:List MapEntry},(∀e∈a,keyless e.1=true∧keyless e.2.1=true) →ERs E a f→ERs E' a f
 | [],_,_,r=>by simpa [ERs]using r
 | e::a,_,hk,r=>by
  simp only [ERs]at r ⊢;obtain⟨u,b,i,m,h,n,g⟩ :=r;have l:E.p=E'.p:=by simp [Emb.p,he]
  have k:=hk e (dJ ..);have c:=eC k.1 m;have d:=eC k.2 h;rw [l]at c d;exact⟨u,b,i,VR.of_p c,VR.of_p d,n,aP3 he (fun x j=>hk x (dR _ j)) g⟩
theorem aVN {E E':Emb}(he:E.imm=E'.imm){H:Array Obj}{L:Loc}{o:AObj}(hk:o.kl)(r:OR E H L o) :OR E' H L o:=by
 cases o with
 | lst e j=>
  obtain⟨C,f,d,b,a,g,i⟩ :=r;refine⟨C,f,d,b,a,?_,i⟩;have:=dX hk g;have h:E.p=E'.p:=by simp [Emb.p,he]
  rw [h]at this;exact this.of_p
 | lstv u e j=>
  obtain⟨C,f,d,b,a,g,i⟩ :=r;refine⟨C,f,d,b,a,?_,i⟩;have:=dX hk g;have h:E.p=E'.p:=by simp [Emb.p,he]
  rw [h]at this;exact this.of_p
 |map l c=>obtain⟨k,b,a⟩ :=r;exact⟨k,b,aP3 he hk a⟩
 |_=>exact hk.elim
theorem aWf {b:Nat→Nat}{E:Emb}{a:AItem}{i:Item}(r:IR E (a.ren b) i) :IR (E.ren b) a i:=by cases a<;>exact r
theorem aML {b:Nat→Nat}{E:Emb}:∀ {c:List AItem} {d:List Item},IRs E (c.map (AItem.ren b)) d→IRs (E.ren b) c d
 | [],_,r=>by simpa [IRs]using r
 |_::_,_,r=>by simp only [dS,IRs]at r ⊢;obtain⟨i,a,g,e,f⟩ :=r;exact⟨i,a,g,aWf e,aML f⟩
theorem aWg {b:Nat→Nat}{E:Emb}{a:ADef}{d:Deferred}(r:DR E (a.ren b) d) :DR (E.ren b) a d:=by
 cases a with
 |fn f e=>obtain⟨c,a,h,g⟩ :=r;exact⟨c,a,h,(kM b E _ _).1 g⟩
 |col i=>exact r
theorem aKA {a:Nat→Nat}{E:Emb}:∀ {c:List (AV×Bool)} {d:List PanicEntry},CR E (c.map fun p=> (AV.ren a p.1,p.2)) d→CR (E.ren a) c d
 | [],_,r=>by simpa [CR]using r
 |_::_,_,r=>by simp only [dS,CR]at r ⊢;obtain⟨i,b,g,e,f⟩ :=r;exact⟨i,b,g,(eS a E _ _).1 e,aKA f⟩
theorem aWh {b:Nat→Nat}{E:Emb}{a:AMode}{m:FrameMode}(r:MR E (a.ren b) m) :MR (E.ren b) a m:=by
 cases a with
 |pan f=>simp only [AMode.ren,MR]at r ⊢;obtain⟨d,e,c⟩ :=r;exact⟨d,e,aKA c⟩
 |_=>exact r
theorem aWi {c:Nat→Nat}{E:Emb}{a b:Option Nat}(r:RR E (a.map c) b) :RR (E.ren c) a b:=by cases a<;>exact r
theorem own_ren {a:Nat→Nat}{o:AObj}{L:Loc}{i:Nat}:Own (o.ren a) L i↔Own o L i:=by cases o<;>exact Iff.rfl
theorem uY {a:Nat→Nat}{o:AObj}{f:Bool}{L:Loc}{i:Nat}(h:Own o L i) :Own (bif f then o else o.ren a) L i:=by
 cases f
 case true=>exact h
 exact own_ren.2 h
theorem pM {a:Nat→Nat}{o q:AObj}{f:Bool}{L:Loc}{i:Nat}(e:o= (bif f then q else q.ren a))(h:Own o L i) :Own q L i:=by
 subst e;cases f
 case true=>exact h
 exact own_ren.1 h
structure SumF where
 fn:Nat
 nt:Nat
 kind:CallKind
 ro:Option Nat
 mode:AMode
 todo:List AItem
 defers:List ADef
 sl:List (Option AV)
def slotsOf (tm:T AV) :List (Nat×AV) →List (Option AV)
 | [] =>[]
 |p::r=>tm.at p.1::slotsOf tm r
def aMM (τ:Nat→Nat) :List (Nat×AV) →List (Option AV)
 | [] =>[]
 |p::r=>some (AV.ren τ p.2) ::aMM τ r
def sumF (a:AFrame)(f:TF) :SumF:= ⟨a.fn,a.nt,a.kind,a.roundOf,a.mode,a.todo,a.defers,slotsOf a.tm f.sl⟩
def aCC (τ:Nat→Nat)(f:TF) :SumF:= ⟨f.fn,f.nt,f.kind,f.roundOf.map τ,f.mode.ren τ,f.todo.map (AItem.ren τ),f.defers.map (ADef.ren τ),aMM τ f.sl⟩
def aMN :List AFrame→List TF→List SumF
 |a::aS,f::fs=>sumF a f::aMN aS fs
 |_,_=>[]
def sC (h:Hp)(τ:Nat→Nat) :List (Nat×AObj×Bool) →List (Option AObj)
 | [] =>[]
 |p::r=>h.look (τ p.1) ::sC h τ r
def fW (τ:Nat→Nat) :List (Nat×AObj×Bool) →List (Option AObj)
 | [] =>[]
 |p::r=>some (bif p.2.2 then p.2.1 else p.2.1.ren τ) ::fW τ r
structure Sum where
 fr:SumF
 n:Nat
 cs:List SumF
 hp:List (Option AObj)
def AS.sum (s:AS)(τ:Nat→Nat)(t:TS) :Sum:= ⟨sumF s.fr t.fr,s.cs.length,aMN s.cs t.cs,sC s.h τ t.hp⟩
def TS.want (t:TS)(τ:Nat→Nat) :Sum:= ⟨aCC τ t.fr,t.cs.length,t.cs.map (aCC τ),fW τ t.hp⟩
def eU (m nb n1:Nat)(ks:List Nat)(b:Nat) :Nat:=bif blt b m then b else bif blt b nb then ks.getD (b-m) 0 else n1+b
def aMO :List Nat→Bool
 | [] =>true
 |k::ks=> !(vL k ks) &&aMO ks
def aMP (m:Nat) :List Nat→Bool
 | [] =>true
 |k::ks=>ble m k&&aMP m ks
def aMQ :AObj→Bool
 | .cells _ _ [] _=>true
 | .cells .. =>false
 |_=>true
theorem aF8 {o:AObj}(h:aMQ o=true) :bK o= [] :=by
 cases o with
 | cells t n b a=>cases b with
  |nil=>rfl
  |cons x c=>cases h
 |_=>rfl
def eD (nb:Nat) :List (Nat×AObj×Bool) →Bool
 | [] =>true
 |p::r=>blt p.1 nb&&aMQ p.2.1&&eD nb r
def dE (m:Nat)(t:TS)(ks:List Nat) :Bool:=ble m t.nb&&beq (m+ks.length) t.nb&&aMO ks&&aMP m ks&&eD t.nb t.hp
def eG :List (Nat×AObj×Bool) →Prop
 | [] =>True
 | (_,o,true) ::r=>o.kl∧eG r
 | (_,_,false) ::r=>eG r
theorem yW (t:Nat) :∀l:List Nat,vL t l=true↔t∈l
 | [] =>by simp [vL]
 | x ::a=>by
  rw [vL,Bool.or_eq_true,yW t a,aZ,decide_eq_true_eq,zq7];constructor
  · rintro(h|h)
    ·exact .inl h.symm
    ·exact .inr h
  · rintro(h|h)
    ·exact .inl h.symm
    ·exact .inr h
theorem aEF :∀ {l:List Nat},aMO l=true→∀i j,i<l.length→j<l.length→l.getD i 0=l.getD j 0→i=j
 | [],_,i,j,a,_,_=>by simp at a
 | x ::xs,h,i,j,a,b,e=>by
  simp only [aMO,dC,Bool.not_eq_true']at h;have c:x∉xs:=fun hm=>by rw [(yW x xs).2 hm]at h;cases h.1
  cases i with
  | zero=>
   cases j with
   |zero=>rfl
   | succ j=>
    simp only [rY]at b;simp only [List.getD_cons_zero,List.getD_cons_succ]at e;exact absurd (e ▸ (by rw [pV,lZ (by omega)];exact List.getElem_mem ..)) c
  | succ i=>
   cases j with
   | zero=>
    simp only [rY]at a;simp only [List.getD_cons_zero,List.getD_cons_succ]at e;exact absurd (e ▸ (by rw [pV,lZ (by omega)];exact List.getElem_mem ..)) c
   | succ j=>
    simp only [rY]at a b;simp only [List.getD_cons_succ]at e;rw [aEF h.2 i j (by omega) (by omega) e]
theorem aAq {m:Nat}:∀ {l:List Nat},aMP m l=true→∀i,i<l.length→m≤l.getD i 0
 | [],_,i,a=>by simp at a
 | x::b,h,i,a=>by
  simp only [aMP,dC]at h;cases i with
  |zero=>simpa using Nat.le_of_ble_eq_true h.1
  |succ i=>simp only [rY]at a;simpa using aAq h.2 i (by omega)
theorem dH {nb:Nat}:∀ {l:List (Nat×AObj×Bool)},eD nb l=true→∀p∈l,p.1<nb∧bK p.2.1= []
 | p::r,h,q,a=>by
  simp only [eD,dC,cF,decide_eq_true_eq]at h;rcases zq7.1 a with rfl|a
  ·exact⟨h.1.1,aF8 h.1.2⟩
  ·exact dH h.2 q a
theorem mB :∀ {l:List (Nat×AObj×Bool)},eG l→∀k o,(k,o,true) ∈l→o.kl
 | (c,b,true) ::r,h,k,o,a=>by
  rcases zq7.1 a with e|a
  ·cases e;exact h.1
  ·exact mB h.2 k o a
 | (c,b,false) ::r,h,k,o,a=>by
  rcases zq7.1 a with e|a
  ·cases e
  ·exact mB (l:=r) h k o a
theorem aEG {b:Nat→Nat}{tm:T AV}:∀ {l:List (Nat×AV)},slotsOf tm l=aMM b l→∀p∈l,tm.at p.1=some (AV.ren b p.2)
 | p::r,h,q,a=>by
  simp only [slotsOf,aMM,List.cons.injEq]at h;rcases zq7.1 a with rfl|a
  ·exact h.1
  ·exact aEG h.2 q a
theorem pN {a:Nat→Nat}{c:Hp}:∀ {l:List (Nat×AObj×Bool)},sC c a l=fW a l→∀p∈l,c.look (a p.1) =some (bif p.2.2 then p.2.1 else p.2.1.ren a)
 | p::r,h,q,b=>by
  simp only [sC,fW,List.cons.injEq]at h;rcases zq7.1 b with rfl|b
  ·exact h.1
  ·exact pN h.2 q b
theorem aF9 {b:Nat→Nat}{E:Emb}{a:AFrame}{f:TF}(h:sumF a f=aCC b f){c:Frame}(r:FR E a c) :FR (E.ren b) f.fr c:=by
 simp only [sumF,aCC,SumF.mk.injEq]at h;obtain⟨o,j,m,n,l,u,x,p⟩ :=h;refine⟨r.fn.trans o,⟨r.tm.1.trans j,fun t v e=>?_⟩,aML (show IRs E (f.todo.map (AItem.ren b)) c.todo by rw [←u];exact r.todo),?_,aWh (show MR E (f.mode.ren b) c.mode by rw [←l];exact r.mode),r.kind.trans m,aWi (show RR E (f.roundOf.map b) c.roundOf by rw [←n];exact r.round)⟩
 · obtain⟨i,k,y⟩ :=r.tm.2 t (AV.ren b v) (aEG p (t,v) (aAp e));exact⟨i,k,(eS b E v i).1 y⟩
 · have hd:=r.defers;rw [x]at hd;have:∀ {g:List ADef} {ds:List Deferred},DRs E (g.map (ADef.ren b)) ds→DRs (E.ren b) g ds:=by
    intro g
    induction g with
    |nil=>intro ds h;simpa [DRs]using h
    | cons a g q=>
     intro ds h;obtain⟨d,w,rfl,z,s⟩ :=h.cons_inv;exact DRs.cons (aWg z) (q s)
   exact this hd
theorem aAr {e:Nat→Nat}{E:Emb}:∀ {d:List AFrame} {fs:List TF},d.length=fs.length→aMN d fs=fs.map (aCC e) →∀ {b:List Frame},FRs E d b→FRs (E.ren e) (fs.map TF.fr) b
 | [],[],_,_,b,r=>by rw [r.nil_inv];rfl
 | a::d,f::fs,hl,h,b,r=>by
  simp only [aMN,dS,List.cons.injEq]at h;obtain⟨c,i,rfl,j,g⟩ :=r.cons_inv;exact FRs.cons (aF9 h.1 j) (aAr (by simpa using hl) h.2 g)
 | [],_::_,hl,_,_,_=>by simp at hl
 |_::_,[],hl,_,_,_=>by simp at hl
theorem qW {m nb n1:Nat}{ks:List Nat}{b:Nat}(h:b<m) :eU m nb n1 ks b=b:=by simp [eU,cF,h]
theorem aBw {m nb n1:Nat}{ks:List Nat}{b:Nat}(a:m≤b)(h2:b<nb) :eU m nb n1 ks b=ks.getD (b-m) 0:=by simp [eU,cF,h2,show ¬b<m by omega]
theorem aP4 {m nb n1:Nat}{ks:List Nat}{b:Nat}(a:m≤b)(h2:nb≤b) :eU m nb n1 ks b=n1+b:=by simp [eU,cF,show ¬b<m by omega,show ¬b<nb by omega]
theorem mQ {m:Nat}{l:List (Nat×AObj×Bool)}{nb:Nat}{ks:List Nat}{h:Hp}(y:dE m ⟨⟨0,0,[],[],[],.run,.normal,none⟩,[],l,nb⟩ ks=true)(hh:sC h (eU m nb h.nb ks) l=fW (eU m nb h.nb ks) l)(t:eG l){E:Emb}{w:World}(r:Rel E h w.heap) :
  Rel (E.ren (eU m nb h.nb ks)) (aA l nb) w.heap∧ExtM m E h w (E.ren (eU m nb h.nb ks)) (aA l nb) w:=by
 simp only [dE,dC]at y;obtain⟨⟨⟨⟨o1,o2⟩,Y⟩,R⟩,S⟩ :=y;have hm:=Nat.le_of_ble_eq_true o1;have O:=eP o2
 have a:∀ {b o},(aA l nb).look b=some o→b<nb∧bK o= [] ∧∃f,(b,o,f) ∈l∧h.look (eU m nb h.nb ks b) =some (bif f then o else o.ren (eU m nb h.nb ks)) :=fun {b o} e=>by
  have: (b,o) ∈l.map fun p=> (p.1,p.2.1) :=aAp e;obtain⟨p,D,F⟩ :=zq24.1 this;obtain⟨pb,po,X⟩ :=p;cases F;exact⟨(dH S _ D).1,(dH S _ D).2,X,D,pN hh _ D⟩
 have inj:∀ {b b'},b<nb→b'<nb→eU m nb h.nb ks b=eU m nb h.nb ks b'→b=b':=fun {b b'} h1 h2 e=>by
  rcases lt_or_ge b m with v|v
  · rw [qW v]at e;rcases lt_or_ge b' m with n|n
    ·rw [qW n]at e;exact e
    · rw [aBw n h2]at e;have:=aAq R (b'-m) (by omega);omega
  · rw [aBw v h1]at e;rcases lt_or_ge b' m with n|n
    · rw [qW n]at e;have:=aAq R (b-m) (by omega);omega
    · rw [aBw n h2]at e;have:=aEF Y _ _ (by omega) (by omega) e;omega
 refine⟨⟨fun b o e=>?_,fun b b' o I L K e e' k k' H N=>?_,fun b hb=>?_,r.imm,fun b o L e k i J=>?_,fun b o e=> (a e).1⟩,
  ⟨fun b hb=>by show E.loc (eU m nb h.nb ks b) =E.loc b;rw [qW hb],fun _ _ e=>e,le_refl _,fun _ _ _=>rfl,fun b' I K e k i J _=>?_,hm,rfl,rfl,rfl,fun _ _=>rfl,fun _ _ e _=>.inl e,fun b o e hb=>?_⟩⟩
 · obtain⟨hb,j,f,s,c⟩ :=a e;cases f
   case true=>
    simp only [cond]at c;rcases r.obj0 _ _ c with u| ⟨L,v,n⟩
    ·exact .inl u
    ·exact .inr ⟨L,v,aVN (E:=E) (E':=E.ren (eU m nb h.nb ks)) rfl (mB t b o s) n⟩
   simp only [cond]at c;rcases r.obj0 _ _ c with⟨T,u2⟩ | ⟨L,v,n⟩
   · refine .inl ⟨?_,u2⟩;cases o with
     | lst e Q=>cases Q with
      |nil=>rfl
      |cons x Q=>simp [AObj.ren,renL,lM]at T
     |_=>cases T
   ·exact .inr ⟨L,v,aWe n⟩
 · obtain⟨hb,j,f,s,c⟩ :=a e;obtain⟨B,z,f',G,C⟩ :=a e';have A:eU m nb h.nb ks b≠eU m nb h.nb ks b':=fun ee=>N (inj hb B ee);obtain⟨i,V,U⟩ :=H;have d:=r.kin _ _ _ _ L K c C k k' ⟨i,uY V,uY U⟩ A
   have q:∀ (o:AObj) (f:Bool),(f=true→o.kl) →bK (bif f then o else o.ren (eU m nb h.nb ks)) = (bK o).map (eU m nb h.nb ks) ∧fS (bif f then o else o.ren (eU m nb h.nb ks)) =fS o∧nOf (bif f then o else o.ren (eU m nb h.nb ks)) =nOf o:=fun o f s=>by
    cases f
    case true=>cases o<;>first|exact⟨rfl,rfl,rfl⟩ |exact(s rfl).elim
    cases o<;>exact⟨rfl,rfl,rfl⟩
   obtain⟨a1,a2,a3⟩ :=q o f (fun M=>by subst M;exact mB t b o s);obtain⟨b1,Z,W⟩ :=q I f' (fun M=>by subst M;exact mB t b' I G);unfold Kin at d;rw [a1,a2,a3,b1,Z,W,j,z]at d;rcases d with⟨g,_⟩ | ⟨g,_⟩ <;>simp at g
 · show E.loc (eU m nb h.nb ks b) =none;have hb:nb≤b:=hb;rw [aP4 (by omega) hb];exact r.fresh _ (by omega)
 · obtain⟨hb,j,f,s,c⟩ :=a e;exact r.apart _ _ L c k i (uY J)
 · obtain⟨hb,j,f,s,c⟩ :=a e;exact⟨_,_,K,c,k,uY J⟩
 · obtain⟨B,j,f,s,c⟩ :=a e;rw [qW hb]at c;exact⟨_,c⟩
end
end
end Go.Hb

set_option linter.defProp false
set_option linter.unusedVariables false
set_option linter.unusedSimpArgs false
set_option linter.unusedSectionVars false
set_option maxRecDepth 100000
namespace Go.Hb
open AV (frzOk int keyless keylessL ren renL)
open List (drop length map_take range replicate set take)
open Nat (beq ble ble_eq blt div le_refl lt_or_ge mod pow zero_le)
open Option (getD_none getD_some)
open Go.Proofs Tryz
noncomputable section
section
variable {P :Program}
def way (P:Program)(m:Nat)(is:List Ins)(s:TS)(t:TS)(ks:List Nat) :Option (Nat×Sum×List Prop) :=
 match wH P is s.as with
 |some (s1,ps) =>some (s1.h.nb,s1.sum (eU m t.nb s1.h.nb ks) t,ps)
 |none=>none
theorem aNE {m:Nat}{is:List Ins}{s t:TS}{ks:List Nat}{n1:Nat}{ps:List Prop}(a:way P m is s t ks=some (n1,t.want (eU m t.nb n1 ks),ps))(b:dE m t ks=true)(c:eG t.hp)(v:AllP ps) :LeadsM P m s.as t.as:=by
 unfold way at a;split at a
 · rename_i x qs n;simp only [Option.some.injEq,Prod.mk.injEq]at a;obtain⟨rfl,g,rfl⟩ :=a;refine(kX n (fun p d=>v.mem p d)).trans ?_;simp only [AS.sum,TS.want,Sum.mk.injEq]at g;obtain⟨k,j,o,u⟩ :=g;intro hm E fr e w h f fs r;obtain⟨q,i⟩ :=mQ (l:=t.hp) (nb:=t.nb) (by simpa [dE]using b) u c r;exact⟨_,fr,e,w,Steps.refl _ _,aF9 k f,aAr j o fs,q,i⟩
 ·cases a
def aKB (P:Program)(s:AS) :Option (List (AV×Bool) ×Hp) :=
 match s.fr.mode,s.fr.defers,s.cs,P.funcs[s.fr.fn]? with
 | .pan ch,[],[],some _=>some (ch,s.h)
 |_,_,_,_=>none
theorem aHS {m:Nat}{s:AS}{j:List (AV×Bool)}{h':Hp}(c:aKB P s=some (j,h')) :Ends P m s (.pan j) h':=fun hm E fr l w f fs r o i=>by
 unfold aKB at c;split at c
 · rename_i n p g hd e h;cases c;have a:=f.mode;rw [g]at a;simp only [MR]at a;obtain⟨k,a,d⟩ :=a;have b:=f.defers;rw [hd]at b;rw [e]at fs;rw [fs.nil_inv];exact⟨_,w,E,.one (tB a b.nil_inv (by rw [f.fn];exact h)),⟨k,rfl,d⟩,r,ExtM.refl hm⟩
 ·cases c
def aP5 (τ:Nat→Nat)(ch:List (AV×Bool)) :List (AV×Bool) :=ch.map fun p=> (ren τ p.1,p.2)
def start (P:Program)(f:Nat)(args:List AV) :TS:=
 match P.funcs[f]? with
 | some fn=>match fn.body with
  |some c=> ⟨⟨f,max fn.ntmps args.length,(range args.length).zip args,[.code c],[],.run,.normal,none⟩,[],[],0⟩
  |none=> ⟨⟨f,0,[],[],[],.run,.normal,none⟩,[],[],0⟩
 |none=> ⟨⟨f,0,[],[],[],.run,.normal,none⟩,[],[],0⟩
theorem aCD {E:Emb}{h:Hp}{w:World}(r:Rel E h w.heap) :Rel E.p ⟨.leaf,0⟩ w.heap:=
 ⟨fun b o e=>by simp [Hp.look,T.at_leaf]at e,fun b d o a L c e=>by simp [Hp.look,T.at_leaf]at e,fun _ _=>rfl,r.imm,fun b o L e=>by simp [Hp.look,T.at_leaf]at e,fun b o e=>by simp [Hp.look,T.at_leaf]at e⟩
theorem yX :aA [] 0= ⟨.leaf,0⟩ :=rfl
theorem aHT {a:List AV}{k:Nat}{v:AV}(h: (k,v) ∈ (range a.length).zip a) :a[k]?=some v:=by
 obtain⟨i,b⟩ :=zq38.1 h;rw [List.getElem?_zip_eq_some]at b;obtain⟨e,c⟩ :=b;obtain⟨d,he⟩ :=zq0.1 e;rw [List.getElem_range]at he;subst he;exact c
theorem aKC {E E':Emb}{h:Hp}{w w':World}(r:Rel E h w.heap)(m:Rel E' ⟨.leaf,0⟩ w'.heap)(x:ExtM 0 E.p ⟨.leaf,0⟩ w E' ⟨.leaf,0⟩ w') :
  Rel ⟨E.loc,E'.imm⟩ h w'.heap∧ExtM h.nb E h w ⟨E.loc,E'.imm⟩ h w':=by
 have d:∀ {b o},¬ (⟨.leaf,0⟩ :Hp).look b=some o:=fun {b o} e=>by simp [Hp.look,T.at_leaf]at e
 have keep:∀i,i<w.heap.size→w'.heap[i]?=w.heap[i]?:=fun i a=>x.keep i a (fun b o L e=>absurd e d);have f:E.le ⟨E.loc,E'.imm⟩ := ⟨fun _ _ e=>e,x.imm⟩
 have c:∀k C,E'.imm k=some C→k<w.heap.size→E.imm k=some C:=fun k C e hk=>by
  rcases x.immo k C e hk with g| ⟨b,o,L,g,_⟩
  ·exact g
  ·exact absurd g d
 refine⟨⟨fun b o e=>?_,r.kin,r.fresh,m.imm,fun b o L e k i a=>?_,r.keys⟩,⟨fun _ _=>rfl,x.imm,x.size,fun i a _=>keep i a,fun b o L e k i a _=> ⟨b,o,L,e,k,a⟩,le_refl _,x.os,x.tape,x.output,x.froz,fun k C e hk=>.inl (c k C e hk),fun b o e _=> ⟨o,e⟩⟩⟩
 · rcases r.obj0 b o e with u| ⟨L,l,j⟩
   ·exact .inl u
   ·exact .inr ⟨L,l,(j.mono f).heap fun i a=>keep _ (j.lt i a)⟩
 · show E'.imm i=none;cases hc:E'.imm i with
   |none=>rfl
   | some C=>
    have:=c _ C hc (r.lt e k i a);rw [r.apart b o L e k i a]at this;cases this
theorem pure_of {f : Nat} {args : List AV} {v : AV} {fn:Func}{c:Code}(n:P.funcs[f]?=some fn)(hc:fn.body=some c)(hk:keylessL args=true)(q:keyless v=true)(he:Ends P 0 (start P f args).as (.ret v) (aA [] 0)) :aK P f args v:=fun h=>by
 have D:cX P h (.enter f args) =some ⟨f,dQ .leaf 0 args,max fn.ntmps args.length,[.code c],[],.run,.normal,none⟩ :=by simp [cX,cM,n,hc]
 refine⟨_,D,fun hm E fr u w fr' fs r p b=>?_⟩;simp only at fs;rw [fs.nil_inv];have B:FR E.p (start P f args).as.fr fr:=by
  have A: (start P f args).as.fr= ⟨f,pL ((range args.length).zip args),max fn.ntmps args.length,[.code c],[],.run,.normal,none⟩ :=by simp [start,n,hc,TS.as,TF.fr]
  rw [A];refine⟨fr'.fn,⟨fr'.tm.1,fun t a e=>?_⟩,?_,?_,fr'.mode,fr'.kind,?_⟩
  · have g:=aHT (aAp e);have l:= (zq0.1 g).1;have y: (dQ .leaf 0 args).at t=some a:=by
     unfold dQ;rw [aX,if_pos l];exact g
    obtain⟨d,k,i⟩ :=fr'.tm.2 t a y;exact⟨d,k,eC (keylessL_mem.1 hk a (oG g)) i⟩
  · have:=fr'.todo;simpa [IRs,IR]using this
  · have:=fr'.defers;simpa [DRs]using this
  · have:=fr'.round;simpa [RR]using this
 have e2 : (start P f args).as.cs = [] := by unfold start;split; · split<;>rfl
                                             ·rfl
 have e3 : (start P f args).as.h = ⟨.leaf, 0⟩ := by unfold start;split; · split<;>rfl
                                                    ·rfl
 obtain⟨C,o,j,k,⟨d,rfl,i⟩,z,m⟩ :=he (zero_le _) E.p fr [] w B (by rw [e2];rfl) (by rw [e3];exact aCD r) p b;rw [e3]at m;obtain⟨s,x⟩ :=aKC r z m;exact⟨_,o,_,k,⟨d,rfl,VR.of_p (E:= ⟨E.loc,j.imm⟩) (show VR (Emb.p ⟨E.loc,j.imm⟩) v d from eC (E:=j) q i)⟩,s,x⟩
def cJ (P:Program)(f:Nat)(args:List AV)(hp:List (Nat×AObj×Bool))(nb:Nat) :TS:={(start P f args)with hp:=hp,nb:=nb}
def aMR (nb:Nat)(h1 h2:Hp) :List (Nat×AObj×Bool) →List (Option AObj)
 | [] =>[]
 |p::r=> (bif blt p.1 nb then h1.look p.1 else h2.look p.1) ::aMR nb h1 h2 r
def sD :List (Nat×AObj×Bool) →List (Option AObj)
 | [] =>[]
 |p::r=>some p.2.1::sD r
theorem aEH {nb:Nat}{h1 h2:Hp}:∀ {l:List (Nat×AObj×Bool)},aMR nb h1 h2 l=sD l→∀p∈l,(p.1<nb→h1.look p.1=some p.2.1) ∧ (nb≤p.1→h2.look p.1=some p.2.1)
 | q ::r,h,p,hp=>by
  simp only [aMR,sD,List.cons.injEq]at h;rcases zq7.1 hp with rfl|hp
  · rw [cF]at h;refine⟨fun g=>?_,fun g=>?_⟩
    ·have:=h.1;rw [decide_eq_true g]at this;exact this
    ·have:=h.1;rw [decide_eq_false (show ¬p.1<nb by omega)]at this;exact this
  ·exact aEH h.2 p hp
theorem hQ {l:List (Nat×AObj×Bool)}{nb b:Nat}{o:AObj}(e: (aA l nb).look b=some o) :∃f,(b,o,f) ∈l:=by
 have: (b,o) ∈l.map fun p=> (p.1,p.2.1) :=aAp e;obtain⟨⟨pb,po,pf⟩,hp,hpe⟩ :=zq24.1 this;cases hpe;exact⟨pf,hp⟩
theorem aHU {E:Emb}{τ:Nat→Nat}{h:Hp}{f:Nat}{args:List AV}{g:AFrame}{fr:Frame}(hg:cX P h (.enter f args) =some g)(ha:renL τ args=args)(fr':FR E g fr) :FR (E.ren τ) g fr:=by
 simp only [cX,cM]at hg;split at hg
 · split at hg
   · cases hg;refine⟨fr'.fn,⟨fr'.tm.1,fun t a e=>?_⟩,?_,?_,fr'.mode,fr'.kind,?_⟩
     · obtain⟨cv,g1,g2⟩ :=fr'.tm.2 t a e;refine⟨cv,g1,(eS τ E a cv).1 ?_⟩;have ht:t<args.length∧args[t]?=some a:=by
        have e': (dQ .leaf 0 args).at t=some a:=e;unfold dQ at e';rw [aX]at e';split at e'
        ·rename_i hlt;exact⟨hlt,e'⟩
        ·cases e'
       have all:∀ (l:List AV),renL τ l=l→∀ (i:Nat) (x:AV),l[i]?=some x→ren τ x=x:=by
        intro l
        induction l with
        |nil=>intro _ i x hx;simp at hx
        | cons y l ih=>
         intro hl i x hx;simp only [renL,List.cons.injEq]at hl;cases i with
         |zero=>simp at hx;subst hx;exact hl.1
         |succ i=>exact ih hl.2 i x (by simpa using hx)
       rw [all args ha t a ht.2];exact g2
     ·have:=fr'.todo;simpa [IRs,IR]using this
     ·have:=fr'.defers;simpa [DRs]using this
     ·have:=fr'.round;simpa [RR]using this
   ·cases hg
 ·cases hg
theorem aCE {f:Nat}{args:List AV}{v:AV}{l l' x:List (Nat×AObj×Bool)}{nb n2:Nat}
  (h0:Spec P (.enter f args) (aA l nb) (.ret v) (aA l' nb)) (hargs:renL (eU nb nb n2 []) args=args) (hv:keyless v=true) (hle:ble nb n2=true)
  (hin:dE nb ⟨⟨0,0,[],[],[],.run,.normal,none⟩,[],l,nb⟩ [] =true) (hl:sC (aA (l++x) n2) (eU nb nb n2 []) l=fW (eU nb nb n2 []) l) (hkl:eG l)
  (hx:eD n2 (l++x) =true) (hx':eD n2 (l'++x) =true) (hout:aMR nb (aA l' nb) (aA (l++x) n2) (l'++x) =sD (l'++x)) :
  Spec P (.enter f args) (aA (l++x) n2) (.ret v) (aA (l'++x) n2) :=by
 obtain⟨g,hg,he⟩ :=h0;refine⟨g,hg,?_⟩;intro _ E fr ccs w fr' fs r cl base;have hle:=Nat.le_of_ble_eq_true hle
 have hkeys:∀ {b o},(aA l nb).look b=some o→b<nb∧∃o1,(aA (l++x) n2).look b=some o1∧∀L i,Own o L i→Own o1 L i:=fun {b o} e=>by
  obtain⟨fl,hm⟩ :=hQ e;simp only [dE,dC]at hin;have hb:= (dH hin.2 _ hm).1;have:=pN hl _ hm;simp only [qW hb]at this;exact⟨hb,_,this,fun _ _ h=>uY h⟩
 have low:∀ {b},b<nb→ (E.ren (eU nb nb n2 [])) b=E b:=fun {b} hb=>by show E.loc (eU nb nb n2 [] b) =E.loc b;rw [qW hb]
 have nool:∀ {b o},(aA (l++x) n2).look b=some o→b<n2∧bK o= [] :=fun {b o} e=>by
  obtain⟨fl,hm⟩ :=hQ e;exact dH hx _ hm
 have apart:∀ {b b' o o' L L'},(aA (l++x) n2).look b=some o→ (aA (l++x) n2).look b'=some o'→E b=some L→E b'=some L'→b≠b'→¬Meet o o' L L':=fun {b b' o o' L L'} e e' k k' hne hbl=>by
  have:=r.kin b b' o o' L L' e e' k k' hbl hne;unfold Kin at this;rw [(nool e).2,(nool e').2]at this;rcases this with⟨g,_⟩ | ⟨g,_⟩ <;>simp at g
 obtain⟨rL,_⟩ :=mQ (h:=aA (l++x) n2) hin hl hkl r;have frL:=aHU (τ:=eU nb nb n2 []) hg hargs fr';rw [fs.nil_inv];obtain⟨cl',w',EL,s1,⟨cv,rfl,g2⟩,r2,x2⟩ :=he (le_refl _) (E.ren (eU nb nb n2 [])) fr [] w frL rfl rL cl base;have hnb: (aA l nb).nb=nb:=rfl;have hnb': (aA l' nb).nb=nb:=rfl;rw [hnb]at x2;have eL:∀ {b},b<nb→EL b=E b:=fun {b} hb=> (x2.low b hb).trans (low hb);have eLhi:∀ {b},nb≤b→EL b=none:=fun {b} hb=>r2.fresh b hb;have hELE:EL.le ⟨E.loc,EL.imm⟩ :=by
  refine⟨fun b L e=>?_,fun _ _ e=>e⟩;rcases lt_or_ge b nb with hb|hb
  ·rw [eL hb]at e;exact e
  ·rw [eLhi hb]at e;cases e
 have hEE:E.le ⟨E.loc,EL.imm⟩ := ⟨fun _ _ e=>e,fun k C e=>x2.imm k C e⟩
 have hlook:∀ {b o},(aA (l'++x) n2).look b=some o→b<n2∧bK o= [] ∧ (b<nb→ (aA l' nb).look b=some o) ∧ (nb≤b→ (aA (l++x) n2).look b=some o) :=fun {b o} e=>by
  obtain⟨fl,hm⟩ :=hQ e;exact⟨(dH hx' _ hm).1,(dH hx' _ hm).2,aEH hout _ hm⟩
 have away:∀ {b o L},nb≤b→ (aA (l++x) n2).look b=some o→E b=some L→∀b1 o1 L1,(aA l nb).look b1=some o1→ (E.ren (eU nb nb n2 [])) b1=some L1→∀i,Own o1 L1 i→¬Own o L i:=fun {b o L} hb e k b1 o1 L1 e1 k1 i i1 i2=>by
  obtain⟨hb1,o2,e2,ho⟩ :=hkeys e1;rw [low hb1]at k1;exact apart e2 e k1 k (by omega) ⟨i,ho _ _ i1,i2⟩
 refine⟨_,w',⟨E.loc,EL.imm⟩,s1,⟨cv,rfl,?_⟩,⟨fun b o e=>?_,fun b b' o o' L L' e e' k k' hbl hne=>?_,fun b hb=>r.fresh b hb,r2.imm,fun b o L e k i hi=>?_,fun b o e=> (hlook e).1⟩,
  ⟨fun _ _=>rfl,hEE.2,x2.size,fun i hi hn=>?_,fun b' o' L' e k i hi hlt=>?_,le_refl _,x2.os,x2.tape,x2.output,x2.froz,fun k C e hk=>?_,fun b o e hb=>?_⟩⟩
 ·exact VR.of_p (E:= ⟨E.loc,EL.imm⟩) (show VR (Emb.p ⟨E.loc,EL.imm⟩) v cv from eC (E:=EL) hv g2)
 · obtain⟨hb,_,q1,q2⟩ :=hlook e;rcases lt_or_ge b nb with g|g
   · rcases r2.obj0 b o (q1 g)with⟨u1,u2⟩ | ⟨L,k1,k2⟩
     ·rw [eL g]at u2;exact .inl ⟨u1,u2⟩
     ·rw [eL g]at k1;exact .inr ⟨L,k1,k2.mono hELE⟩
   · rcases r.obj0 b o (q2 g)with u| ⟨L,k1,k2⟩
     ·exact .inl u
     ·exact .inr ⟨L,k1,(k2.mono hEE).heap fun i hi=>x2.keep _ (k2.lt i hi) (fun b1 o1 L1 h1 h2 h3=>away g (q2 g) k1 b1 o1 L1 h1 h2 i h3 hi)⟩
 · obtain⟨hb,ho,q1,q2⟩ :=hlook e;obtain⟨hb',ho',q1',q2'⟩ :=hlook e'
   have mixed:∀ {b b' o o' L L'},b<nb→nb≤b'→ (aA l' nb).look b=some o→ (aA (l++x) n2).look b'=some o'→E b=some L→E b'=some L'→¬Meet o o' L L':=fun {b b' o o' L L'} h1 h2 e e' k k' hbl=>by
    obtain⟨i,i1,i2⟩ :=hbl;obtain⟨b1,o1,L1,a1,a2,a3⟩ :=x2.own b o L e (by rw [eL h1];exact k) i i1 (r.lt e' k' i i2);exact away h2 e' k' b1 o1 L1 a1 a2 i a3 i2
   rcases lt_or_ge b nb with g|g
   · rcases lt_or_ge b' nb with g'|g'
     ·exact r2.kin b b' o o' L L' (q1 g) (q1' g') (by rw [eL g];exact k) (by rw [eL g'];exact k') hbl hne
     ·exact absurd hbl (mixed g g' (q1 g) (q2' g') k k')
   · rcases lt_or_ge b' nb with g'|g'
     ·exact absurd hbl.symm (mixed g' g (q1' g') (q2 g) k' k)
     ·exact r.kin b b' o o' L L' (q2 g) (q2' g') k k' hbl hne
 · obtain⟨hb,_,q1,q2⟩ :=hlook e;show EL.imm i=none;rcases lt_or_ge b nb with g|g
   ·exact r2.apart b o L (q1 g) (by rw [eL g];exact k) i hi
   · cases hc:EL.imm i with
     |none=>rfl
     | some C=>
      rcases x2.immo _ C hc (r.lt (q2 g) k i hi)with a| ⟨b1,o1,L1,a1,a2,a3⟩
      · have:=r.apart b o L (q2 g) k i hi;rw [show(E.ren (eU nb nb n2 [])).imm=E.imm from rfl]at a;rw [this]at a;cases a
      ·exact absurd hi (away g (q2 g) k b1 o1 L1 a1 a2 i a3)
 · refine x2.keep i hi (fun b o L e k hh=>?_);obtain⟨hb,o1,e1,ho⟩ :=hkeys e;rw [low hb]at k;exact hn b o1 L e1 k (ho _ _ hh)
 · obtain⟨hb,_,q1,q2⟩ :=hlook e;rcases lt_or_ge b' nb with g|g
   · obtain⟨b1,o1,L1,a1,a2,a3⟩ :=x2.own b' o' L' (q1 g) (by rw [eL g];exact k) i hi hlt;obtain⟨hb1,o2,e2,ho⟩ :=hkeys a1;rw [low hb1]at a2;exact⟨b1,o2,L1,e2,a2,ho _ _ a3⟩
   ·exact⟨b',o',L',q2 g,k,hi⟩
 · rcases x2.immo k C e hk with a| ⟨b1,o1,L1,a1,a2,a3⟩
   ·exact .inl a
   · obtain⟨hb1,o2,e2,ho⟩ :=hkeys a1;rw [low hb1]at a2;exact .inr ⟨b1,o2,L1,e2,a2,ho _ _ a3⟩
 · obtain⟨_,_,q1,q2⟩ :=hlook e;rcases lt_or_ge b nb with g|g
   · obtain⟨o0,e0⟩ :=x2.keys b o (q1 g) g;exact⟨_,(hkeys e0).2.choose_spec.1⟩
   ·exact⟨o,q2 g⟩
theorem aNF {j:Nat→Nat}{h h':Hp}{f:Nat}{b args':List AV}{g:AFrame}(k:cX P h (.enter f b) =some g)(w:renL j b=args') :
  ∃s,cX P h' (.enter f args') =some s∧∀ {E:Emb} {fr:Frame},FR E s fr→FR (E.ren j) g fr:=by
 have d:∀ (l:List AV),(renL j l).length=l.length:=by
  intro l
  induction l with
  |nil=>rfl
  |cons x l q=>simp [renL,q]
 have n:∀ (l:List AV) (i:Nat) (x:AV),l[i]?=some x→ (renL j l)[i]?=some (ren j x) :=by
  intro l
  induction l with
  |nil=>intro i x m;simp at m
  | cons y l q=>
   intro i x m;cases i with
   |zero=>simp at m;subst m;simp [renL]
   |succ i=>simp only [renL,aDQ]at m ⊢;exact q i x m
 subst w;simp only [cX,cM]at k ⊢;split at k
 · rename_i fn A;split at k
   · rename_i c hc;cases k;refine⟨_,rfl,fun {E fr} fr'=>?_⟩;refine⟨fr'.fn,⟨by have:=fr'.tm.1;rw [d]at this;exact this,fun t a e=>?_⟩,?_,?_,fr'.mode,fr'.kind,?_⟩
     · have r:t<b.length∧b[t]?=some a:=by
        have o: (dQ .leaf 0 b).at t=some a:=e;unfold dQ at o;rw [aX]at o;split at o
        ·rename_i p;exact⟨p,o⟩
        ·cases o
       obtain⟨u,v,z⟩ :=fr'.tm.2 t (ren j a) (by
        show(dQ .leaf 0 (renL j b)).at t=_;unfold dQ;rw [aX,if_pos (by rw [d];exact r.1)];exact n b t a r.2)
       exact⟨u,v,(eS j E a u).1 z⟩
     ·have:=fr'.todo;simpa [IRs,IR]using this
     ·have:=fr'.defers;simpa [DRs]using this
     ·have:=fr'.round;simpa [RR]using this
   ·cases k
 ·cases k
def aXs (P:Program)(c:AIn)(h:Hp)(res:Res)(h':Hp) :Prop:=∃g,cX P h c=some g∧Ends P 0 ⟨g,[],h⟩ res h'
theorem aHV {a:Nat→Nat}{E:Emb}:∀ {c:List (AV×AV×Nat)} {d:List MapEntry},ERs (E.ren a) c d→ERs E (c.map fun p=> (ren a p.1,ren a p.2.1,p.2.2)) d
 | [],_,r=>by simpa [ERs]using r
 | e::c,_,r=>by
  simp only [ERs]at r;simp only [dS,ERs];obtain⟨u,b,g,f,i,j,h⟩ :=r;exact⟨u,b,g,(eS a E _ _).2 f,(eS a E _ _).2 i,j,aHV h⟩
def plainO :AObj→Bool
 | .cells .. | .map .. | .lst .. | .loop .. | .defd .. | .zone .. =>true
 |_=>false
theorem aUe {j:Nat→Nat}{E:Emb}{H:Array Obj}{L:Loc}{o:AObj}(J:plainO o=true)(r:OR (E.ren j) H L o) :OR E H L (o.ren j) :=by
 cases o with
 | cells t n Q F=>
  obtain⟨C,l,d,f,g⟩ :=r;refine⟨C,l,d,f,fun i a e=>?_⟩;rw [aBv]at e;cases b:t.at i with
  |none=>rw [b]at e;cases e
  | some h=>
   rw [b]at e;cases e;obtain⟨m,v,p,A⟩ :=g i h b;exact⟨m,v,p,(eS j E h v).2 A⟩
 |map K c=>obtain⟨I,d,f⟩ :=r;exact⟨I,d,aHV f⟩
 |lst e D=>obtain⟨C,l,s,d,f,g,G⟩ :=r;exact⟨C,l,s,d,f,(kM j E D s).2 g,G⟩
 |defd t=>exact r
 | loop st U fn w V S R M N=>
  obtain⟨k,x,d,f,g⟩ :=r;refine⟨k,x,d,f,g.1,fun t a e=>?_⟩;rw [aBv]at e;cases b:w.at t with
  |none=>rw [b]at e;cases e
  | some h=>
   rw [b]at e;cases e;obtain⟨q,m,p⟩ :=g.2 t h b;exact⟨q,m,(eS j E h q).2 p⟩
 | zone T O Z=>
  obtain⟨y,u,B,z⟩ :=r;exact⟨y,u,by rw [aT3];exact B,z⟩
 |_=>cases J
def tR :List (Nat×AObj×Bool) →Bool
 | [] =>true
 |p::r=> (p.2.2||plainO p.2.1) &&tR r
theorem aCF :∀ {l:List (Nat×AObj×Bool)},tR l=true→∀p∈l,p.2.2=true∨plainO p.2.1=true
 | q::r,h,p,a=>by
  simp only [tR,dC,Bool.or_eq_true]at h;rcases zq7.1 a with rfl|a
  ·exact h.1
  ·exact aCF h.2 p a
def namesT (τ:Nat→Nat) :List (Nat×AObj×Bool) →List Nat
 | [] =>[]
 |p::r=>τ p.1::namesT τ r
theorem aCG {a:Nat→Nat}{b:Nat}:∀ {l:List (Nat×AObj×Bool)},b∈namesT a l→∃p∈l,a p.1=b
 | q ::r,h=>by
  rcases zq7.1 h with e|h
  ·exact⟨q,dJ ..,e.symm⟩
  · obtain⟨p,c,e⟩ :=aCG h;exact⟨p,dR _ c,e⟩
def aAX (names ks:List Nat)(h1:Hp) :List (Nat×AObj×Bool) →List (Option AObj)
 | [] =>[]
 |p::r=> (bif vL p.1 names then some p.2.1 else bif vL p.1 ks then none else h1.look p.1) ::aAX names ks h1 r
theorem aEI {a ks:List Nat}{b:Hp}:∀ {l:List (Nat×AObj×Bool)},aAX a ks b l=sD l→∀p∈l,p.1∈a∨ (p.1∉ks∧b.look p.1=some p.2.1)
 | q ::r,h,p,c=>by
  simp only [aAX,sD,List.cons.injEq]at h;rcases zq7.1 c with rfl|c
  · cases hm:vL p.1 a
    case true=>exact .inl ((yW _ _).1 hm)
    have b:=h.1;rw [hm]at b;simp only [cond]at b;cases hk:vL p.1 ks
    case true=>rw [hk]at b;cases b
    rw [hk]at b;exact .inr ⟨fun d=>by(rw [(yW _ _).2 d]at hk;cases hk),b⟩
  ·exact aEI h.2 p c
theorem CR.of_p {E:Emb}:∀ {c:List (AV×Bool)} {b:List PanicEntry},CR E.p c b→CR E c b
 | [],_,r=>by simpa [CR]using r
 | a::l,_,r=>by
  simp only [CR]at r ⊢;obtain⟨v,b,f,d,e⟩ :=r;exact⟨v,b,f,d.of_p,e.of_p⟩
def kY (P:Program)(m:Nat)(c:AIn)(h:Hp)(res:Res)(h':Hp) :Prop:=∃g,cX P h c=some g∧Ends P m ⟨g,[],h⟩ res h'
def hR (m n2:Nat)(ks:List Nat)(b:Nat) :Nat:=bif blt b m then ks.getD b 0 else b-m+n2
theorem aNG {f:Nat}{args args':List AV}{res res':Res}{l l' lc lc':List (Nat×AObj×Bool)}{m nb c n2:Nat}{ks:List Nat}
  (h0:kY P m (.enter f args) (aA l nb) res (aA l' c)) (hres:∀ {F:Emb} {loc:Nat→Option Loc} {cl cl':Frame},F.le ((⟨loc,F.imm⟩ :Emb).ren (hR m n2 ks)) →Got F cl res cl'→Got ⟨loc,F.imm⟩ cl res' cl') (hargs:renL (eU 0 nb n2 ks) args=args') (hm:ble m nb=true) (hm':ble m c=true)
  (U:dE 0 ⟨⟨0,0,[],[],[],.run,.normal,none⟩,[],l,nb⟩ ks=true) (hl:sC (aA lc n2) (eU 0 nb n2 ks) l=fW (eU 0 nb n2 ks) l) (hkl:eG l)
  (hl':sC (aA lc' (c-m+n2)) (hR m n2 ks) l'=fW (hR m n2 ks) l') (hkl':eG l') (hpl:tR l'=true) (hk':eD c l'=true)
  (hx:eD n2 lc=true) (hx':eD (c-m+n2) lc'=true) (hlt:ks.all (fun k=>blt k n2) =true) (hout:aAX (namesT (hR m n2 ks) l') (l.map fun p=>ks.getD p.1 0) (aA lc n2) lc'=sD lc') (hll:sD l'= (l'.map fun p=> (aA l' c).look p.1)) :
  Spec P (.enter f args') (aA lc n2) res' (aA lc' (c-m+n2)) :=by
 obtain⟨g,hg,he⟩ :=h0;obtain⟨g',hg',hfr⟩ :=aNF (h':=aA lc n2) hg hargs;refine⟨g',hg',?_⟩;intro _ E fr ccs w fr' fs r cl base;have hm:=Nat.le_of_ble_eq_true hm;have hm':=Nat.le_of_ble_eq_true hm';have K:∀ {k:Hp} {l:List (Nat×AObj×Bool)},sD l= (l.map fun p=>k.look p.1) →∀p∈l,k.look p.1=some p.2.1:=by
  intro k l
  induction l with
  |nil=>intro _ p W;cases W
  | cons q l ih=>
   intro h p W;simp only [sD,dS,List.cons.injEq]at h;rcases zq7.1 W with rfl|W
   ·exact h.1.symm
   ·exact ih h.2 p W
 have hlenks:ks.length=nb:=by
  simp only [dE,dC]at U;have:=eP U.1.1.1.2;simpa using this
 have tget:∀ {b},b<nb→eU 0 nb n2 ks b=ks.getD b 0:=fun {b} hb=>by
  rw [aBw (zero_le b) hb,Nat.sub_zero]
 have gin:∀ {b},b<nb→ks.getD b 0∈ks:=fun {b} hb=>by
  rw [pV,lZ (by omega)];exact List.getElem_mem ..
 have glt:∀ {b},b<nb→ks.getD b 0<n2:=fun {b} hb=>by
  have:=zq27.1 hlt _ (gin hb);rw [cF,decide_eq_true_eq]at this;exact this
 have slo:∀ {b},b<m→hR m n2 ks b=ks.getD b 0:=fun {b} hb=>by unfold hR;rw [cF,decide_eq_true hb];rfl
 have shi:∀ {b},m≤b→hR m n2 ks b=b-m+n2:=fun {b} hb=>by unfold hR;rw [cF,decide_eq_false (by omega)];rfl
 have s:∀ {b o},(aA l nb).look b=some o→b<nb∧∃B,(aA lc n2).look (eU 0 nb n2 ks b) =some B∧∀L i,Own o L i→Own B L i:=fun {b o} e=>by
  obtain⟨fl,u⟩ :=hQ e;have hb:b<nb:=by
   simp only [dE,dC]at U;exact(dH U.2 _ u).1
  exact⟨hb,_,pN hl _ u,fun _ _ h=>uY h⟩
 have Z:∀ {b o},(aA lc n2).look b=some o→b<n2∧bK o= [] :=fun {b o} e=>by
  obtain⟨fl,u⟩ :=hQ e;exact dH hx _ u
 have apart:∀ {b G o T L L'},(aA lc n2).look b=some o→ (aA lc n2).look G=some T→E b=some L→E G=some L'→b≠G→¬Meet o T L L':=fun {b G o T L L'} e e' k J hne A=>by
  have:=r.kin b G o T L L' e e' k J A hne;unfold Kin at this;rw [(Z e).2,(Z e').2]at this;rcases this with⟨g,_⟩ | ⟨g,_⟩ <;>simp at g
 obtain⟨rL,_⟩ :=mQ (h:=aA lc n2) U hl hkl r;have frL:=hfr fr';rw [fs.nil_inv];obtain⟨cl',w',F,s1,g2,r2,I⟩ :=he hm (E.ren (eU 0 nb n2 ks)) fr [] w frL rfl rL cl base
 have eL:∀ {b},b<m→F b=E (ks.getD b 0) :=fun {b} hb=>by
  rw [I.low b hb];show E (eU 0 nb n2 ks b) =_;rw [tget (by omega)]
 let E':Emb:= ⟨fun b=>if b<n2 then E b else F (b-n2+m),F.imm⟩
 have e1:∀ {b},b<n2→E' b=E b:=fun {b} hb=>if_pos hb;have e2:∀ {b},n2≤b→E' b=F (b-n2+m) :=fun {b} hb=>if_neg (by omega)
 have hE:∀b,E' (hR m n2 ks b) =F b:=fun b=>by
  rcases lt_or_ge b m with hb|hb
  ·rw [slo hb,e1 (glt (by omega)),eL hb]
  ·rw [shi hb,e2 (by omega),show b-m+n2-n2+m=b by omega]
 have hsig:F.le (E'.ren (hR m n2 ks)) := ⟨fun b L e=>by show E' (hR m n2 ks b) =some L;rw [hE];exact e,fun _ _ e=>e⟩;have hEE:E.le E':= ⟨fun b L e=>by rw [e1 (r.nb_gt e)];exact e,fun k C e=>I.imm k C e⟩
 have d:∀ {b o},(aA lc' (c-m+n2)).look b=some o→b<c-m+n2∧bK o= [] ∧ ((∃i q f,i<c∧hR m n2 ks i=b∧ (aA l' c).look i=some q∧o= (bif f then q else q.ren (hR m n2 ks)) ∧ (f=true→q.kl) ∧ (f=true∨plainO q=true)) ∨ (b∉ (l.map fun p=>ks.getD p.1 0) ∧b<n2∧ (aA lc n2).look b=some o)) :=fun {b o} e=>by
  obtain⟨fl,u⟩ :=hQ e;refine⟨(dH hx' _ u).1,(dH hx' _ u).2,?_⟩;rcases aEI hout _ u with M|M
  · obtain⟨⟨i,q,f⟩,W,H⟩ :=aCG M;have R:= (dH hk' _ W).1;have hw:=pN hl' _ W;simp only at H hw R;rw [H,e]at hw;cases hw;exact .inl ⟨i,q,f,R,H,K hll _ W,rfl,fun hf=>by subst hf;exact mB hkl' i q W,aCF hpl _ W⟩
  ·exact .inr ⟨M.1,(Z M.2).1,M.2⟩
 have X:∀ {b o L},b∉ (l.map fun p=>ks.getD p.1 0) → (aA lc n2).look b=some o→E b=some L→∀S B N,(aA l nb).look S=some B→ (E.ren (eU 0 nb n2 ks)) S=some N→∀i,Own B N i→¬Own o L i:=fun {b o L} hb e k S B N e1' k1 i i1 i2=>by
  obtain⟨hb1,o2,z,v⟩ :=s e1';obtain⟨fl,u⟩ :=hQ e1';exact apart z e k1 k (fun h=>hb (h ▸ zq24.2 ⟨(S,B,fl),u,(tget hb1).symm⟩)) ⟨i,v _ _ i1,i2⟩
 have mixed:∀ {i G q T L L'},G∉ (l.map fun p=>ks.getD p.1 0) → (aA l' c).look i=some q→ (aA lc n2).look G=some T→F i=some L→E G=some L'→¬Meet q T L L':=fun {i G q T L L'} h2 e e' k J A=>by
  obtain⟨y,i1,i2⟩ :=A;obtain⟨S,B,N,a1,a2,a3⟩ :=I.own i q L e k y i1 (r.lt e' J y i2);exact X h2 e' J S B N a1 a2 y a3 i2
 refine⟨_,w',E',s1,hres hsig g2,⟨fun b o e=>?_,fun b G o T L L' e e' k J A hne=>?_,fun b hb=>?_,r2.imm,fun b o L e k y hy=>?_,fun b o e=> (d e).1⟩,
  ⟨fun b hb=>e1 hb,hEE.2,I.size,fun i R M=>?_,fun G T L' e k y hy hlt=>?_,?_,I.os,I.tape,I.output,I.froz,fun k C e hk=>?_,fun b o e hb=>?_⟩⟩
 · obtain ⟨hb,_,h⟩ :=d e;rcases h with⟨i,q,f,R,H,j,v,hf,V⟩ | ⟨hb',hb2,j⟩
   · subst H;rcases r2.obj0 i q j with⟨u1,u2⟩ | ⟨L,k1,k2⟩
     · refine .inl ⟨?_,by rw [hE];exact u2⟩;rw [v];cases f with
       |true=>exact u1
       | false=>cases q with
        | lst e xs=>cases xs with
         |nil=>rfl
         |cons x xs=>cases u1
        |_=>cases u1
     · refine .inr ⟨L,by rw [hE];exact k1,?_⟩;rw [v];cases f
       case true=>exact aVN (E:=F) (E':=E') rfl (hf rfl) k2
       rcases V with hh|hh
       ·cases hh
       ·exact aUe hh (k2.mono hsig)
   · rcases r.obj0 b o j with⟨u1,u2⟩ | ⟨L,k1,k2⟩
     ·exact .inl ⟨u1,by rw [e1 hb2];exact u2⟩
     ·exact .inr ⟨L,by rw [e1 hb2];exact k1,(k2.mono hEE).heap fun i R=>I.keep _ (k2.lt i R) (fun S B N h1 h2 h3=>X hb' j k1 S B N h1 h2 i h3 R)⟩
 · obtain⟨hb,hol,h⟩ :=d e;obtain⟨hb',hol',h'⟩ :=d e'
   have hkin:∀ {o:AObj} {f:Bool} {q:AObj},o= (bif f then q else q.ren (hR m n2 ks)) →bK o= [] →bK q= [] :=fun {o f q} v hol=>by
    cases f
    case true=>subst v;exact hol
    subst v;cases q with
    | cells t n ol sup=>
     have:ol.map (hR m n2 ks) = [] :=hol;exact List.map_eq_nil_iff.1 this
    |_=>rfl
   rcases h with⟨i,q,f,R,H,j,v,hf,V⟩ | ⟨M,Q,j⟩
   · subst H;rw [hE]at k;rcases h' with⟨i',q',f',hi',ht',D,O,hf',hpo'⟩ | ⟨hn',Y,D⟩
     · subst ht';rw [hE]at J;have:=r2.kin i i' q q' L L' j D k J (by obtain⟨y,i1,i2⟩ :=A;exact⟨y,pM v i1,pM O i2⟩) (fun e=>hne (by rw [e]));unfold Kin at this;rw [hkin v hol,hkin O hol']at this;rcases this with⟨g,_⟩ | ⟨g,_⟩ <;>simp at g
     · rw [e1 Y]at J;obtain⟨y,i1,i2⟩ :=A;exact(mixed hn' j D k J ⟨y,pM v i1,i2⟩).elim
   · rw [e1 Q]at k;rcases h' with⟨i',q',f',hi',ht',D,O,hf',hpo'⟩ | ⟨hn',Y,D⟩
     · subst ht';rw [hE]at J;obtain⟨y,i1,i2⟩ :=A;exact(mixed M D j J k ⟨y,pM O i2,i1⟩).elim
     · rw [e1 Y]at J;exact r.kin b G o T L L' j D k J A hne
 · have hb:c-m+n2≤b:=hb;rw [e2 (by omega)];exact r2.fresh _ (by show c≤_;omega)
 · obtain⟨hb,_,h⟩ :=d e;show F.imm y=none;rcases h with⟨i,q,f,R,H,j,v,hf,V⟩ | ⟨M,Q,j⟩
   · subst H;rw [hE]at k;exact r2.apart i q L j k y (pM v hy)
   · rw [e1 Q]at k;cases hc:F.imm y with
     |none=>rfl
     | some C=>
      rcases I.immo _ C hc (r.lt j k y hy)with a| ⟨S,B,N,a1,a2,a3⟩
      · have:=r.apart b o L j k y hy;rw [show(E.ren (eU 0 nb n2 ks)).imm=E.imm from rfl]at a;rw [this]at a;cases a
      ·exact absurd hy (X M j k S B N a1 a2 y a3)
 · refine I.keep i R (fun b o L e k hh=>?_);obtain⟨hb,B,e1',v⟩ :=s e;exact M _ B L e1' k (v _ _ hh)
 · obtain⟨hb,_,h⟩ :=d e;rcases h with⟨i,q,f,R,H,j,v,hf,V⟩ | ⟨M,Q,j⟩
   · subst H;rw [hE]at k;obtain⟨S,B,N,a1,a2,a3⟩ :=I.own i q L' j k y (pM v hy) hlt;obtain⟨_,o2,z,O⟩ :=s a1;exact⟨_,o2,N,z,a2,O _ _ a3⟩
   · rw [e1 Q]at k;exact⟨G,T,L',j,k,hy⟩
 ·show n2≤c-m+n2;omega
 · rcases I.immo k C e hk with a| ⟨S,B,N,a1,a2,a3⟩
   ·exact .inl a
   · obtain⟨_,o2,z,v⟩ :=s a1;exact .inr ⟨_,o2,N,z,a2,v _ _ a3⟩
 · have hb:b<n2:=hb;obtain⟨_,_,h⟩ :=d e;rcases h with⟨i,q,f,R,H,j,v,hf,V⟩ | ⟨M,Q,j⟩
   · rcases lt_or_ge i m with him|him
     · obtain⟨o0,e0⟩ :=I.keys i q j him;obtain⟨hi2,o2,z,_⟩ :=s e0;rw [tget hi2,←slo him,H]at z;exact⟨o2,z⟩
     · rw [shi him]at H;omega
   ·exact⟨o,j⟩
theorem aP6 {f:Nat}{b args':List AV}{v:AV}{l l' lc lc':List (Nat×AObj×Bool)}{m nb a n2:Nat}{ks:List Nat}
  (z:kY P m (.enter f b) (aA l nb) (.ret v) (aA l' a)) (c:renL (eU 0 nb n2 ks) b=args') (hm:ble m nb=true) (j:ble m a=true)
  (r:dE 0 ⟨⟨0,0,[],[],[],.run,.normal,none⟩,[],l,nb⟩ ks=true) (hl:sC (aA lc n2) (eU 0 nb n2 ks) l=fW (eU 0 nb n2 ks) l) (o:eG l)
  (n:sC (aA lc' (a-m+n2)) (hR m n2 ks) l'=fW (hR m n2 ks) l') (h:eG l') (i:tR l'=true) (s:eD a l'=true)
  (y:eD n2 lc=true) (u:eD (a-m+n2) lc'=true) (t:ks.all (fun k=>blt k n2) =true) (d:aAX (namesT (hR m n2 ks) l') (l.map fun p=>ks.getD p.1 0) (aA lc n2) lc'=sD lc') (q:sD l'= (l'.map fun p=> (aA l' a).look p.1)) :
  Spec P (.enter f args') (aA lc n2) (.ret (ren (hR m n2 ks) v)) (aA lc' (a-m+n2)) :=
 aNG z (fun w g=>by
  obtain⟨x,e,A⟩ :=g;exact⟨x,e,(eS _ _ v x).2 (A.mono w)⟩) c hm j r hl o n h i s y u t d q
theorem Goes.then {E:Emb}{h:Hp}{fr:Frame}{ccs:List Frame}{w:World}{base:List Frame}{a b:AS}(h1:Goes P E h fr ccs w base a)(h2:Leads P a b) :Goes P E h fr ccs w base b:=by
 obtain⟨E1,fr1,cs1,w1,s1,f1,fs1,r1,x1⟩ :=h1;obtain⟨E2,fr2,cs2,w2,s2,f2,fs2,r2,x2⟩ :=h2 E1 fr1 cs1 w1 base f1 fs1 r1;exact⟨E2,fr2,cs2,w2,s1.trans s2,f2,fs2,r2,x1.trans x2⟩
theorem Rel.older {E:Emb}{h:Hp}{H:Array Obj}(r:Rel E h H){b:Nat}{t:T AV}{n:Nat}{o1 o2:List Nat}{sup:Bool}(hb:h.look b=some (.cells t n o1 sup))(hs:∀x∈o1,x∈o2) :Rel E (h.set b (.cells t n o2 sup)) H:=by
 have old:∀ {x o},(h.set b (.cells t n o2 sup)).look x=some o→∃o',h.look x=some o'∧lM o'=lM o∧fS o'=fS o∧nOf o'=nOf o∧ (∀y∈bK o',y∈bK o) ∧ (∀L,OR E H L o'→OR E H L o) ∧∀L i,Own o L i→Own o' L i:=fun {x o} e=>by
  rw [aU]at e;split at e
  · rename_i hx;subst hx;cases e;exact⟨_,hb,rfl,rfl,rfl,hs,fun L ho=>ho,fun _ _ h=>h⟩
  ·exact⟨o,e,rfl,rfl,rfl,fun _ h=>h,fun _ h=>h,fun _ _ h=>h⟩
 refine⟨fun x o e=>?_,fun x x' o o' L L' e e' k k' hbl hne=>?_,r.fresh,r.imm,fun x o L e k i hi=>?_,fun x o e=>?_⟩
 · obtain⟨o',e1,g1,_,_,_,g5,_⟩ :=old e;rcases r.obj0 x o' e1 with⟨a1,a2⟩ | ⟨L,a1,a2⟩
   ·exact .inl ⟨by rw [←g1];exact a1,a2⟩
   ·exact .inr ⟨L,a1,g5 L a2⟩
 · obtain⟨p,e1,_,g2,g3,g4,_,g6⟩ :=old e;obtain⟨p',e1',_,g2',g3',g4',_,g6'⟩ :=old e';obtain⟨i,i1,i2⟩ :=hbl;rcases r.kin x x' p p' L L' e1 e1' k k' ⟨i,g6 _ _ i1,g6' _ _ i2⟩ hne with⟨a1,a2,a3⟩ | ⟨a1,a2,a3⟩
   ·exact .inl ⟨g4 _ a1,by rw [←g2'];exact a2,by rw [←g3',←g3];exact a3⟩
   ·exact .inr ⟨g4' _ a1,by rw [←g2];exact a2,by rw [←g3,←g3'];exact a3⟩
 · obtain⟨o',e1,_,_,_,_,_,g6⟩ :=old e;exact r.apart x o' L e1 k i (g6 _ _ hi)
 · obtain⟨o',e1,_⟩ :=old e;exact r.keys x o' e1
def AS.older (s:AS)(b:Nat)(o2:List Nat) :Option AS:=
 match s.h.look b with
 |some (.cells t n o1 sup) =>bif o1.all (fun x=>xY x o2)then some {s with h:=s.h.set b (.cells t n o2 sup)} else none
 |_=>none
structure LFr where
 fn:Nat
 tm:List (Nat×AV)
 nt:Nat
 todo:List AItem
 defers:List ADef
 mode:AMode
 kind:CallKind
 ro:Option Nat
structure LS where
 fr:LFr
 cs:List LFr
 hp:List (Nat×AObj)
 nb:Nat
def LFr.fr' (f:LFr) :AFrame:= ⟨f.fn,aF6 f.tm,f.nt,f.todo,f.defers,f.mode,f.kind,f.ro⟩
def LS.as (s:LS) :AS:= ⟨s.fr.fr',s.cs.map LFr.fr',⟨aF6 s.hp,s.nb⟩⟩
def aWj {α:Type}:List (Nat×α) →List Nat
 | [] =>[]
 |p::r=>p.1::aWj r
def aKD (f:AFrame)(l:LFr) :AFrame:={f with tm:=aF6 (aCy f.tm (aWj l.tm))}
def aGa :List AFrame→List LFr→List AFrame
 |f::fs,l::ls=>aKD f l::aGa fs ls
 |fs,_=>fs
def AS.keep (s:AS)(l:LS) :AS:= ⟨aKD s.fr l.fr,aGa s.cs l.cs,⟨aF6 (aCy s.h.t (aWj l.hp)),s.h.nb⟩⟩
def bI (P:Program)(call:bB)(n:Nat)(a b:LS) :Option AS:=
 match kK P call n a.as with
 |some s'=>some (s'.keep b)
 |none=>none
theorem yY {E:Emb}{f:AFrame}{c:Frame}(h:FR E f c)(l:LFr) :FR E (aKD f l) c:=
 ⟨h.fn,⟨h.tm.1,fun t a e=>h.tm.2 t a (pK (aBu e))⟩,h.todo,h.defers,h.mode,h.kind,h.round⟩
theorem wJ {E:Emb}:∀ {fs:List AFrame} {b:List Frame} (a:List LFr),FRs E fs b→FRs E (aGa fs a) b
 | [],_,[],h=>h
 | [],_,_::_,h=>h
 |_::_,_,[],h=>h
 | f::fs,b,l::a,h=>by
  obtain⟨c,e,rfl,g,d⟩ :=FRs.cons_inv h;exact FRs.cons (yY g l) (wJ a d)
theorem aKE (s:AS)(l:LS) :Leads P s (s.keep l) :=fun E fr c w d f fs r=>by
 have a:∀b o,(s.keep l).h.look b=some o→s.h.look b=some o:=fun b o e=>pK (aBu e);exact⟨E,fr,c,w,Steps.refl _ _,yY f l.fr,wJ l.cs fs,r.sub a (le_refl _),⟨Emb.le.refl E,le_refl _,fun _ _ _=>rfl,fun b o L j g i h _=> ⟨b,o,L,a b o j,g,h⟩,le_refl _,rfl,rfl,rfl,fun _ _=>rfl,fun _ _=>rfl,fun _ _ e _=>.inl e,fun b o e _=> ⟨o,a b o e⟩⟩⟩
theorem aC {call:bB}(hc:dD P call){n:Nat}{a b:LS}(c:bI P call n a b=some b.as) :Leads P a.as b.as:=by
 unfold bI at c;split at c
 · rename_i e d;rw [qP]at d;rw [←Option.some.inj c];exact(nR hc d).trans (aKE e b)
 ·cases c
end
def Code.part :Code→List Nat→Code
 |c,[] =>c
 | .seq a b,n::p=>bif beq n 0 then Code.part a p else Code.part b p
 | .cond _ a b,n::p=>bif beq n 0 then Code.part a p else Code.part b p
 | .block _ c,_::p=>Code.part c p
 | .loop c,_::p=>Code.part c p
 | .scope c,_::p=>Code.part c p
 | .rangeFunc _ _ a b,n::p=>bif beq n 0 then Code.part a p else Code.part b p
 |c,_=>c
def cd (f:Func)(p:List Nat) :Code:=match f.body with
 |some c=>Code.part c p
 |none=>.skip
def od (f:Func)(p:List Nat) :Array Oper:=match cd f p with
 | .region _ ops _=>ops
 |_=> #[]
def aXt (f:Func)(p:List Nat)(k:Nat) :AItem:=.ops (od f p) k (drop k (od f p).toList)
abbrev bS :=List UInt8
def aY (n:Int) :AV:=.int .i64 n
def kZ (b:Bool) :AV:=.bool b
def cU (s:bS) :AV:=.str (length s) (aD s)
theorem bW {a:Type}{f:a→AV}{l:List a}{i:Nat}{y:a}(h:l[i]?=some y) : (List.map f l)[i]?=some (f y) :=by rw [aT2,h];rfl
theorem eZ {a:Type}{f:a→AV}{l:List a}{i:Nat}{y:a}(h:l[i]?=some y) : (List.map f l)[0+i]?=some (f y) :=by rw [jS];exact bW h
theorem aP7 {a:Type}(f:a→AV)(l:List a) :0+length l≤length (List.map f l) :=by simp
theorem aP8 {a:Type}(f:a→AV)(l m:List a) :take (length l) (drop 0 (List.map f l)) ++List.map f m=List.map f (l++m) :=by
 rw [List.drop_zero,aBg (by simp),aNr]
theorem aP9 {a:Type}(f:a→AV)(l m:List a) :length l+length (List.map f m) =length (l++m) :=by simp
theorem lB {a:Type}(f:a→AV)(l:List a)(i:Nat)(y:a) : (List.map f l).set (0+i) (f y) =List.map f (set l i y) :=by rw [jS,List.map_set]
theorem aGb {a:Type}(f:a→AV)(n:Nat)(y:a) :replicate n (f y) =List.map f (replicate n y) :=by rw [List.map_replicate]
theorem cE {b e o n m:Nat}{x:Bool}(h:n=m) :AV.gl b e o n x= .gl b e o m x:=by rw [h]
theorem aEJ {a:Type}(f:a→AV)(l:List a){b e:Nat}{x:Bool}:frzOk b e (List.map f l) (List.map f l) (.gl b e 0 (length l) x) :=by
 simp only [frzOk];intro _;exact⟨trivial,by simp,by rw [List.drop_zero,aBg (by simp)]⟩
inductive Pat where
 |mk (form n:Int) (text:bS) (parts:List Pat)
mutual
def Pat.av :Pat→AV
 | .mk f n t ps=>.agg [.int .i64 f,.int .i64 n,cU t,.ilst 4 (Pats.av ps) false]
def Pats.av :List Pat→List AV
 | [] =>[]
 |p::ps=>Pat.av p::Pats.av ps
end
theorem aF :∀l,Pats.av l=List.map Pat.av l
 | [] =>rfl
 |p::a=>by rw [Pats.av,aF a];rfl
mutual
theorem lK :∀p,keyless (Pat.av p) =true
 | .mk f n t a=>by simp only [Pat.av,keyless,keylessL,yZ a,cU,Bool.and_true]
theorem yZ :∀ (l:List Pat),keylessL (Pats.av l) =true
 | [] =>rfl
 |p::a=>by simp only [Pats.av,keylessL,lK p,yZ a,Bool.and_true]
end
theorem nS {l:List Pat}:keylessL (Pats.av l) =true:=yZ l
structure Con where
 name:bS
 args:Int
def Con.av (c:Con) :AV:=.agg [cU c.name,.int .i64 c.args]
structure Node where
 op:Int
 n:Int
 kids:List Int
 pats:List Pat
def Node.av (x:Node) :AV:=.agg [.int .i64 x.op,.int .i64 x.n,.ilst 1 (List.map aY x.kids) false,.ilst 4 (Pats.av x.pats) false]
structure Prog where
 nodes:List Node
 funs:List Int
 main:Int
 cons:List Con
def Prog.av (p:Prog) :AV:=.agg [.ilst 4 (List.map Node.av p.nodes) false,.ilst 1 (List.map aY p.funs) false,.int .i64 p.main,.ilst 2 (List.map Con.av p.cons) false]
section
theorem byte_at :∀ {s:bS} {k:Nat} {y:UInt8},s[k]?=some y→aD s / 256 ^ k % 256=y.toNat
 | c::s,0,y,h=>by
  simp only [aKb,Option.some.injEq]at h;subst h;have:=c.toNat_lt;simp only [aD,Nat.pow_zero,Nat.div_one];omega
 | c::s,k+1,y,h=>by
  rw [aDQ]at h;have:=byte_at h;rw [←this];have hc:=c.toNat_lt;simp only [aD];rw [Nat.pow_succ',←Nat.div_div_eq_div_mul];congr 2;omega
theorem aAs {s:bS}{k:Int}{y:UInt8}(a:0≤k)(h:s[k.toNat]?=some y) :k< ((length s:Nat) :Int) :=by
 have:= (zq0.1 h).1;omega
theorem aAt {s:bS}{k:Int}{y:UInt8}(h:s[k.toNat]?=some y) :int .u8 ((mod (div (aD s) (pow 256 k.toNat)) 256:Nat) :Int) = .int .u8 ((y.toNat:Nat) :Int) :=by
 show int .u8 ((aD s / 256 ^ k.toNat % 256:Nat) :Int) =_;rw [byte_at h]
theorem aCH :∀ (s:bS) (k:Nat),aD s / 256 ^ k=aD (s.drop k)
 |s,0=>by simp
 | [],k+1=>by simp [aD]
 | c::s,k+1=>by
  rw [List.drop_succ_cons,←aCH s k,Nat.pow_succ',←Nat.div_div_eq_div_mul];congr 1;have:=c.toNat_lt;simp only [aD];omega
theorem aAu {k:IntKind}{i:Int}(h:0≤i) :eH (some (.int k i)) =some (some i.toNat) :=by
 show(if 0≤i then some (some i.toNat)else none) =_;rw [if_pos h]
theorem jZ :eH none=some none:=rfl
variable {P :Program}
def aBk (P:Program)(t:TypeId)(X:AV)(lo hi:Option AV)(V:AV) :Prop:=
 ∃l u m,eH lo=some l∧eH hi=some u∧eH none=some m∧ (oD P t X l u m=some V∨ (oD P t X l u m=none∧wO P t X l u m=some V))
theorem aAY {t:TypeId}(a:P.underlying t=some .string){s:bS}{kk:IntKind}{k:Int}(d:0≤k)(f:k.toNat≤s.length) :
  aBk P t (cU s) (some (.int kk k)) none (cU (s.drop k.toNat)) :=by
 refine⟨_,_,_,aAu d,jZ,jZ,.inl ?_⟩;unfold oD cU;rw [a];simp only [getD_some,getD_none];have c:ble k.toNat s.length=true:=ble_eq ▸ f;have e:ble s.length s.length=true:=ble_eq ▸ le_refl _;have b:div (aD s) (pow 256 k.toNat) =aD (s.drop k.toNat) :=aCH s k.toNat;rw [c,e,b];simp
theorem aNH {a:Type}{f:a→AV}{F:List a→List AV}(b:∀l,F l=List.map f l){t:TypeId}{e:Nat}(c:sB P t e=true){xs:List a}{kk:IntKind}{k:Int}(d:0≤k)(g:k.toNat≤xs.length) :
  aBk P t (.ilst e (F xs) false) none (some (.int kk k)) (.ilst e (F (xs.take k.toNat)) false) :=by
 rw [b,b];refine⟨_,_,_,jZ,aAu d,jZ,.inr ⟨?_,?_⟩⟩
 ·unfold oD;split<;>simp_all
 · unfold wO;simp only [c,cond,getD_some,getD_none,lP];rw [if_pos ⟨zero_le _,g⟩];simp [map_take]
theorem aCI {a:Type}{f:a→AV}{t:TypeId}{e:Nat}(b:sB P t e=true){xs:List a}{kk:IntKind}{k:Int}(c:0≤k)(d:k.toNat≤xs.length) :
  aBk P t (.ilst e (List.map f xs) false) none (some (.int kk k)) (.ilst e (List.map f (xs.take k.toNat)) false) :=aNH (fun _=>rfl) b c d
theorem aHW {a:Type}{f:a→AV}{F:List a→List AV}(b:∀l,F l=List.map f l){t:TypeId}{e:Nat}(c:sB P t e=true){xs:List a}{kk:IntKind}{k:Int}(d:0≤k)(g:k.toNat≤xs.length) :
  aBk P t (.ilst e (F xs) false) (some (.int kk k)) none (.ilst e (F (xs.drop k.toNat)) false) :=by
 rw [b,b];refine⟨_,_,_,aAu d,jZ,jZ,.inr ⟨?_,?_⟩⟩
 ·unfold oD;split<;>simp_all
 · unfold wO;simp only [c,cond,getD_some,getD_none,lP];rw [if_pos ⟨g,le_refl _⟩];have:take (xs.length-k.toNat) (drop k.toNat xs) =drop k.toNat xs:=aBg (by simp);simp [←List.map_drop,←map_take,this]
theorem aCJ {a:Type}{f:a→AV}{t:TypeId}{e:Nat}(b:sB P t e=true){xs:List a}{kk:IntKind}{k:Int}(c:0≤k)(d:k.toNat≤xs.length) :
  aBk P t (.ilst e (List.map f xs) false) (some (.int kk k)) none (.ilst e (List.map f (xs.drop k.toNat)) false) :=aHW (fun _=>rfl) b c d
theorem aQa {a:Type}(f:a→AV)(l:List a) : ((length (List.map f l) :Nat) :Int) = ((length l:Nat) :Int) :=by rw [lP]
section
variable {α :Type} {f:α→AV} {F:List α→List AV} (hF:∀l,F l=List.map f l)
include hF
theorem hU {l:List α}{i:Nat}{y:α}(h:l[i]?=some y) : (F l)[i]?=some (f y) :=by rw [hF];exact bW h
theorem aEK {l:List α}{i:Nat}{y:α}(h:l[i]?=some y) : (F l)[0+i]?=some (f y) :=by rw [hF];exact eZ h
theorem aBx (l:List α) :0+length l≤length (F l) :=by rw [hF];exact aP7 f l
theorem aBy (l m:List α) :take (length l) (drop 0 (F l)) ++F m=F (l++m) :=by rw [hF,hF,hF];exact aP8 f l m
theorem aBz (l m:List α) :length l+length (F m) =length (l++m) :=by rw [hF];exact aP9 f l m
theorem aNI (l:List α)(i:Nat)(y:α) : (F l).set (0+i) (f y) =F (set l i y) :=by rw [hF,hF];exact lB f l i y
theorem fM (l:List α) : ((length (F l) :Nat) :Int) = ((length l:Nat) :Int) :=by rw [hF,lP]
theorem wY (l:List α){b e:Nat}{x:Bool}:frzOk b e (F l) (F l) (.gl b e 0 (length l) x) :=by rw [hF];exact aEJ f l
end
theorem aCK :∀ (s:bS),aD s<256 ^ s.length
 | [] =>by simp [aD]
 | c::s=>by
  have:=aCK s;have:=c.toNat_lt;simp only [aD,rY,Nat.pow_succ];omega
theorem bytes_inj {s t:bS}(hl:s.length=t.length)(a:aD s=aD t) :s=t:=by
 rw [←dV s,←dV t,hl,a]
theorem zA (s t:bS) :jA (length s) (aD s) (length t) (aD t) =decide (s=t) :=by
 unfold jA;have b:mod (aD s) (pow 256 s.length) =aD s:=Nat.mod_eq_of_lt (aCK s);by_cases hl:s.length=t.length
 · rw [←hl,b];have c:mod (aD t) (pow 256 s.length) =aD t:=by rw [hl];exact Nat.mod_eq_of_lt (aCK t)
   rw [c,show beq s.length s.length=true from Nat.beq_refl _];by_cases a:aD s=aD t
   ·have:=bytes_inj hl a;subst this;simp
   · have:s≠t:=fun e=>a (by rw [e]);rw [show beq (aD s) (aD t) =false from Bool.eq_false_iff.2 (fun h=>a (eP h)),decide_eq_false this];rfl
 · have:s≠t:=fun e=>hl (by rw [e]);simp [this,hl]
theorem cI (s:bS) :jA (length s) (aD s) 0 0=decide (s= []) :=zA s []
def bT {α β:Type}(f:α→AV)(g:β→AV) :Nat→List (α×β) →List (AV×AV×Nat)
 |_,[] =>[]
 |n,e::l=> (f e.1,g e.2,n) ::bT f g (n+1) l
def dN {α β:Type}[DecidableEq α](k:α)(v:β) :List (α×β) →List (α×β)
 | [] =>[(k,v)]
 |e::l=>if k=e.1 then(k,v) ::l else e::dN k v l
def vN {α β:Type}[DecidableEq α](k:α) :List (α×β) →Option β
 | [] =>none
 |e::l=>if k=e.1 then some e.2 else vN k l
def aQb {α:Type}[DecidableEq α](f:α→AV) :Prop:=∀a b,lD (f a) (f b) =some (decide (a=b))
theorem aUf :aQb cU:=fun a b=>by
 simp only [lD,cU,zA]
theorem aMS :aQb aY:=fun a b=>by
 simp only [lD,aY,if_true];by_cases h:a=b<;>simp [h]
theorem aCL {a c:Type}[DecidableEq a]{f:a→AV}{g:c→AV}(b:aQb f)(k:a) :∀ (l:List (a×c)) (n i:Nat),vN k l=none→nH (f k) (bT f g n l) i=some none
 | [],n,i,_=>rfl
 | e ::l,n,i,h=>by
  unfold vN at h;split at h
  ·cases h
  · rename_i hk;simp only [bT,nH,b k e.1,decide_eq_false hk];exact aCL b k l (n+1) _ h
theorem aHX {c d:Type}[DecidableEq c](f:c→AV)(g:d→AV)(k:c)(v:d) :∀ (l:List (c×d)) (n:Nat),vN k l=none→bT f g n l++ [(f k,g v,n+l.length)] =bT f g n (dN k v l) ∧ (dN k v l).length=l.length+1
 | [],n,_=>by simp [bT,dN]
 | e ::l,n,h=>by
  unfold vN at h;split at h
  ·cases h
  · rename_i hk;obtain⟨a,b⟩ :=aHX f g k v l (n+1) h;simp only [bT,dN,if_neg hk,aDS,rY,b];refine⟨?_,trivial⟩;rw [←a,show n+1+l.length=n+ (l.length+1)by omega]
theorem aHY {d o:Type}[DecidableEq d]{f:d→AV}{g:o→AV}(m:aQb f)(k:d)(v w:o) :∀ (l:List (d×o)) (n i:Nat),vN k l=some w→∃j,nH (f k) (bT f g n l) i=some (some (i+j,g w)) ∧setE (f k) (g v) (bT f g n l) j=bT f g n (dN k v l) ∧ (dN k v l).length=l.length
 | [],_,_,h=>by cases h
 | e ::l,n,i,h=>by
  unfold vN at h;split at h
  · rename_i hk;cases h;refine⟨0,?_,?_,?_⟩
    ·simp only [bT,nH,m k e.1,decide_eq_true hk,Nat.add_zero]
    ·simp only [bT,setE,dN,if_pos hk]
    ·simp only [dN,if_pos hk,rY]
  · rename_i hk;obtain⟨j,a,b,c⟩ :=aHY m k v w l (n+1) (i+1) h;refine⟨j+1,?_,?_,?_⟩
    · simp only [bT,nH,m k e.1,decide_eq_false hk];rw [show i+ (j+1) =i+1+j by omega];exact a
    ·simp only [bT,setE,dN,if_neg hk,b]
    ·simp only [dN,if_neg hk,rY,c]
theorem aGc {d e:Type}[DecidableEq d]{f:d→AV}{g:e→AV}(i:aQb f)(k:d)(v:e)(l:List (d×e)) :qS (bT f g 0 l) (length l) (f k) (g v) =some (bT f g 0 (dN k v l),length (dN k v l)) :=by
 unfold qS;cases h:vN k l with
 | none=>
  rw [aCL i k l 0 0 h];obtain⟨a,b⟩ :=aHX f g k v l 0 h;simp only [jS]at a;simp only [a,b]
 | some w=>
  obtain⟨j,a,b,c⟩ :=aHY i k v w l 0 0 h;rw [a];simp only [jS,b,c]
theorem aMT {a b:Type}(f:a→AV)(g:b→AV) :∀ (l:List (a×b)) (n:Nat),(bT f g n l).length=l.length
 | [],_=>rfl
 |e::l,n=>by simp only [bT,rY,aMT f g l (n+1)]
end
theorem zB {b i:Type}{f:b→AV}{g:i→AV}(d:∀a,keyless (f a) =true)(c:∀a,keyless (g a) =true) :∀ (l:List (b×i)) (n:Nat),∀e∈bT f g n l,keyless e.1=true∧keyless e.2.1=true
 | [],_,e,h=>by simp [bT]at h
 | x::l,n,e,h=>by
  rcases zq7.1 h with rfl|h
  ·exact⟨d _,c _⟩
  ·exact zB d c l (n+1) e h
theorem aQc {a b:Type}(f:a→AV)(g:b→AV)(l:List (a×b)) :int .i64 ((length (bT f g 0 l) :Nat) :Int) = .int .i64 ((length l:Nat) :Int) :=by rw [aMT]
theorem aWk {b d:Type}{f:b→AV}{g:d→AV}(i:∀a,keyless (f a) =true)(h:∀a,keyless (g a) =true)(n:Nat)(l:List (b×d))(c:Nat) : (AObj.map (bT f g n l) c).kl:=by
 intro e he;exact zB i h l n e he
theorem kZ0 {b d:Type}{f:b→AV}{g:d→AV}{n:Nat}{l:List (b×d)}{c:Nat}(h:∀a,keyless (f a) =true:=by exact fun _=>rfl)(e:∀a,keyless (g a) =true:=by exact fun _=>rfl) : (AObj.map (bT f g n l) c).kl:=aWk h e n l c
section
/-- a proposition with its proof -/
structure Pf where
  p:Prop
  h:p
def qp {p:Prop}(h:p) :Pf:= ⟨p,h⟩
theorem aVO :∀ (L:List Pf),AllP (L.map Pf.p)
  | [] =>trivial
  | [a] =>a.h
  |a::b::L=> ⟨a.h,aVO (b::L)⟩
theorem kR0 {p:Prop}(h:p:=by kernel_rfl) :p:=h
noncomputable abbrev PP:Program:=Tryz.prog
variable {P :Program}
theorem kk {α:Type}{f:α→AV}{l:List α}(h:∀a,keyless (f a) =true:=by exact fun _=>rfl) :keylessL (List.map f l) =true:=bL f h l
section
variable {α :Type}
def qs (b e o:Nat)(l:List α)(i:Nat)(v:α)(x:Bool) :Pf:= ⟨AV.gl b e o l.length x= .gl b e o (l.set i v).length x,cE (jP ..).symm⟩
noncomputable abbrev aL (l:List α) :Ins:=.ans (.len (l.length:Int))
end
noncomputable abbrev rn:Nat→Ins:=.run
noncomputable abbrev bt (j:Nat) :Ins:=.b j true
noncomputable abbrev bf (j:Nat) :Ins:=.b j false
noncomputable abbrev sI (j:Nat)(x:Int) :Ins:=.set j (.int .i64 x)
noncomputable abbrev pB (b:Bool) :Ins:=.pure (.bool b)
noncomputable abbrev nI (x:Int) :AV:=.int .i64 x
noncomputable abbrev bV (b:Bool) :AV:=.bool b
noncomputable abbrev jI (l:List Int) :List AV:=List.map aY l
noncomputable abbrev jN (l:List Node) :List AV:=List.map Node.av l
noncomputable abbrev jC (l:List Con) :List AV:=List.map Con.av l
noncomputable abbrev iI (l:List Int) :AV:=.ilst 1 (List.map aY l) false
noncomputable abbrev iS (l:List bS) :AV:=.ilst 1 (List.map cU l) false
noncomputable abbrev iN (l:List Node) :AV:=.ilst 4 (List.map Node.av l) false
noncomputable abbrev iC (l:List Con) :AV:=.ilst 2 (List.map Con.av l) false
noncomputable abbrev iP (l:List Pat) :AV:=.ilst 4 (Pats.av l) false
end
section
/-- an obligation: proved outright, or a premise with what follows from it -/
inductive Hy where
  |q {p:Prop} (h:p)
  |a (p:Prop) {p':Prop} (f:p→p')
def Hy.ob :Hy→Prop
  | @Hy.q p _=>p
  | @Hy.a _ p' _=>p'
/-- all ways from a state -/
inductive Tr :Type 1 where
  |b (n j:Nat) (c:Bool) (t f:Tr)
  |i (is:List Ins) (L:List Hy) (a:Tr)
  |y {α:Type} (f:α→Tr)
  |o (a b:Tr)
  |W (n n1:Nat) (ks:List Nat) (t:TS)
  |E (n n1:Nat) (ks:List Nat) (v:AV) (hp:List (Nat×AObj×Bool)) (nb:Nat)
  |P (n n1:Nat) (ks:List Nat) (ch:List (AV×Bool)) (hp:List (Nat×AObj×Bool)) (nb:Nat)
  |x
structure Br (c:Bool) (A B:Prop) :Prop where
  t:c=true→A
  f:c=false→B
def aUg :List Hy→Prop→Prop
  | [],Q=>Q
  | @Hy.q _ _::L,Q=>aUg L Q
  | @Hy.a p _ _::L,Q=>p→aUg L Q
variable (P :Program)
def aAZ (m:Nat)(s0:AS) :Tr→Prop
  | .b _ _ c t f=>Br c (aAZ m s0 t) (aAZ m s0 f)
  | .i _ L a=>aUg L (aAZ m s0 a)
  | .y f=>∀y,aAZ m s0 (f y)
  | .o a b=>aAZ m s0 a∧aAZ m s0 b
  | .W _ _ _ t=>eG t.hp→LeadsM P m s0 t.as
  | .E _ _ _ v hp nb=>eG hp→Ends P m s0 (.ret v) (aA hp nb)
  | .P _ _ _ ch hp nb=>eG hp→Ends P m s0 (.pan ch) (aA hp nb)
  | .x=>True
abbrev eTS (hp:List (Nat×AObj×Bool))(nb:Nat) :TS:= ⟨⟨0,0,[],[],[],.run,.normal,none⟩,[],hp,nb⟩
def pO (m:Nat) :Tr→AS→Prop
  | .b n j c t f,s=>match kK P mM n s with
    | some s=>match s.fr.tm.at j with
      |some (.bool b) =>b=c∧pO m t ⟨{s.fr with tm:=s.fr.tm.put j (.bool true)},s.cs,s.h⟩ ∧pO m f ⟨{s.fr with tm:=s.fr.tm.put j (.bool false)},s.cs,s.h⟩
      |_=>False
    |none=>False
  | .i is L a,s=>match wH P is s with
    |some (s,ps) =>ps=L.map Hy.ob∧pO m a s
    |none=>False
  | .y f,s=>∀y,pO m (f y) s
  | .o a b,s=>pO m a s∧pO m b s
  | .W n n1 ks t,s=>match kK P mM n s with
    |some s=> (s.h.nb,s.sum (eU m t.nb s.h.nb ks) t) = (n1,t.want (eU m t.nb n1 ks)) ∧dE m t ks=true
    |none=>False
  | .E n n1 ks v hp nb,s=>match kK P mM n s with
    | some s=>match vS P s with
      |some (u,h1) => (h1.nb,u,sC h1 (eU m nb h1.nb ks) hp) = (n1,ren (eU m nb n1 ks) v,fW (eU m nb n1 ks) hp) ∧dE m (eTS hp nb) ks=true
      |none=>False
    |none=>False
  | .P n n1 ks ch hp nb,s=>match kK P mM n s with
    | some s=>match aKB P s with
      |some (u,h1) => (h1.nb,u,sC h1 (eU m nb h1.nb ks) hp) = (n1,aP5 (eU m nb n1 ks) ch,fW (eU m nb n1 ks) hp) ∧dE m (eTS hp nb) ks=true
      |none=>False
    |none=>False
  | .x,_=>True
/-- what it comes to -/
def okP (m:Nat) :Tr→Prop
  | .b _ _ c t f=>c=c∧okP m t∧okP m f
  | .i _ L a=>L.map Hy.ob=L.map Hy.ob∧okP m a
  | .y f=>∀y,okP m (f y)
  | .o a b=>okP m a∧okP m b
  | .W _ n1 ks t=> (n1,t.want (eU m t.nb n1 ks)) = (n1,t.want (eU m t.nb n1 ks)) ∧true=true
  | .E _ n1 ks v hp nb=> (n1,ren (eU m nb n1 ks) v,fW (eU m nb n1 ks) hp) = (n1,ren (eU m nb n1 ks) v,fW (eU m nb n1 ks) hp) ∧true=true
  | .P _ n1 ks ch hp nb=> (n1,aP5 (eU m nb n1 ks) ch,fW (eU m nb n1 ks) hp) = (n1,aP5 (eU m nb n1 ks) ch,fW (eU m nb n1 ks) hp) ∧true=true
  | .x=>True
variable {P :Program}
theorem qX (m:Nat) :∀t:Tr,okP m t
  | .b _ _ _ t f=> ⟨rfl,qX m t,qX m f⟩
  | .i _ _ a=> ⟨rfl,qX m a⟩
  | .y f=>fun y=>qX m (f y)
  | .o a b=> ⟨qX m a,qX m b⟩
  | .W .. => ⟨rfl,rfl⟩
  | .E .. => ⟨rfl,rfl⟩
  | .P .. => ⟨rfl,rfl⟩
  | .x=>trivial
theorem aGd :∀ {L:List Hy} {Q:Prop},((∀p∈L.map Hy.ob,p) →Q) →aUg L Q
  | [],_,h=>h (by simp)
  | @Hy.q p hp::L,_,h=>aGd (L:=L) fun g=>h fun q hq=>by
    rcases zq7.1 hq with e|e
    ·subst e;exact hp
    ·exact g q e
  | @Hy.a p p' f::L,_,h=>fun hp=>aGd (L:=L) fun g=>h fun q hq=>by
    rcases zq7.1 hq with e|e
    ·subst e;exact f hp
    ·exact g q e
theorem zC {m n:Nat}{s s':AS}(h:kK P mM n s=some s') :LeadsM P m s s':=by
  rw [qP]at h;exact(nR bQ h).toM
theorem aQd {m:Nat}{s:AS}{t:TS}{ks:List Nat}(h2:s.sum (eU m t.nb s.h.nb ks) t=t.want (eU m t.nb s.h.nb ks))(hok:dE m t ks=true)(hkl:eG t.hp) :LeadsM P m s t.as:=by
  simp only [AS.sum,TS.want,Sum.mk.injEq]at h2;obtain⟨a1,a2,a3,a4⟩ :=h2;intro hm E fr ccs w base f fs r;obtain⟨q1,q2⟩ :=mQ (l:=t.hp) (nb:=t.nb) (by simpa [dE]using hok) a4 hkl r;exact⟨_,fr,ccs,w,Steps.refl _ _,aF9 a1 f,aAr a2 a3 fs,q1,q2⟩
theorem iJ {m:Nat}{s0:AS}:∀ (tr:Tr) {s:AS},pO P m tr s→LeadsM P m s0 s→aAZ P m s0 tr
  | .x,_,_,_=>trivial
  | .b n j c t f,s,h,hl=>by
    simp only [pO]at h;split at h
    · rename_i s1 h1;split at h
      · rename_i b hj;obtain⟨rfl,h2,h3⟩ :=h;have l1:=hl.trans (zC h1);refine⟨fun e=>iJ t h2 (l1.trans ?_),fun e=>iJ f h3 (l1.trans ?_)⟩
        ·exact xstep_sound (i:=.b j true) (ps:=[b=true]) (by simp only [xstep,hj]) (fun p hp=>by simp only [zq32]at hp;subst hp;exact e)
        ·exact xstep_sound (i:=.b j false) (ps:=[b=false]) (by simp only [xstep,hj]) (fun p hp=>by simp only [zq32]at hp;subst hp;exact e)
      ·exact h.elim
    ·exact h.elim
  | .i is L a,s,h,hl=>by
    simp only [pO]at h;split at h
    · rename_i s1 ps h1;obtain⟨rfl,h2⟩ :=h;exact aGd fun g=>iJ a h2 (hl.trans (kX h1 g))
    ·exact h.elim
  | .y f,s,h,hl=>fun y=>iJ (f y) (h y) hl
  | .o a b,s,h,hl=> ⟨iJ a h.1 hl,iJ b h.2 hl⟩
  | .W n n1 ks t,s,h,hl=>fun hkl=>by
    simp only [pO]at h;split at h
    · rename_i s1 h1;obtain⟨h2,h3⟩ :=h;obtain⟨e,h2⟩ :=Prod.mk.inj h2;subst e;exact(hl.trans (zC h1)).trans (aQd h2 h3 hkl)
    ·exact h.elim
  | .E n n1 ks v hp nb,s,h,hl=>fun hkl=>by
    simp only [pO]at h;split at h
    · rename_i s1 h1;split at h
      · rename_i u hh hf;obtain⟨h2,hok⟩ :=h;obtain⟨e,h2⟩ :=Prod.mk.inj h2;obtain⟨h3,h4⟩ :=Prod.mk.inj h2;subst e;subst h3;refine(hl.trans (zC h1)).ends ?_;intro hm E fr ccs w f fs r cl base;obtain⟨cl',w',E',g1,⟨cv,rfl,g2⟩,g3,g4⟩ :=mO (m:=m) hf hm E fr ccs w f fs r cl base;obtain⟨q1,q2⟩ :=mQ hok h4 hkl g3;exact⟨_,w',_,g1,⟨cv,rfl,(eS _ _ _ _).1 g2⟩,q1,g4.trans q2⟩
      ·exact h.elim
    ·exact h.elim
  | .P n n1 ks ch hp nb,s,h,hl=>fun hkl=>by
    simp only [pO]at h;split at h
    · rename_i s1 h1;split at h
      · rename_i u hh hf;obtain⟨h2,hok⟩ :=h;obtain⟨e,h2⟩ :=Prod.mk.inj h2;obtain⟨h3,h4⟩ :=Prod.mk.inj h2;subst e;subst h3;refine(hl.trans (zC h1)).ends ?_;intro hm E fr ccs w f fs r cl base;obtain⟨cl',w',E',g1,⟨ps',rfl,g2⟩,g3,g4⟩ :=aHS (m:=m) hf hm E fr ccs w f fs r cl base;obtain⟨q1,q2⟩ :=mQ hok h4 hkl g3;exact⟨_,w',_,g1,⟨ps',rfl,aKA g2⟩,q1,g4.trans q2⟩
      ·exact h.elim
    ·exact h.elim
theorem tT (m:Nat)(s:TS)(tr:Tr)(h0:pO PP m tr s.as=okP m tr:=by kernel_rfl) :aAZ PP m s.as tr:=
  iJ tr (h0 ▸ qX m tr) (LeadsM.refl _)
theorem tv :True:=trivial
def aQe :Nat→Nat→List Nat→List Nat
  |0,_,l=>l
  |k+1,n,l=>bif beq n 1 then l else aQe k (n / 2) (n % 2::l)
/-- a place in code by one number -/
abbrev kd (F:Func)(n:Nat) :Code:=cd F (aQe 60 n [])
abbrev kc (F:Func)(n:Nat) :AItem:=.code (kd F n)
abbrev kl (F:Func)(n:Nat) :AItem:=.inLoop (kd F n)
abbrev ko (F:Func)(n k:Nat) :AItem:=aXt F (aQe 60 n []) k
abbrev kp (j b:Nat) :Nat×AV:= (j,.ptr b 0)
abbrev tf (fn nt:Nat)(sl:List (Nat×AV))(todo:List AItem)(defers:List ADef:=[])(mode:AMode:=.run)(kind:CallKind:=.normal)(roundOf:Option Nat:=none) :TF:= ⟨fn,nt,sl,todo,defers,mode,kind,roundOf⟩
abbrev oC (k:Nat)(L:List AV) :Nat×AObj×Bool:= (k,.cells (putCells .leaf 0 L) L.length [] false,false)
abbrev oL (k e:Nat)(L:List AV) :Nat×AObj×Bool:= (k,.lst e L,true)
section
variable {α :Type} {f:α→AV} {F:List α→List AV}
abbrev hA (p:Prop) :Hy:=.a p id
abbrev hW (x:Int) :Hy:=.a (IntKind.i64.wrap x=x) (congrArg (int .i64))
abbrev hr {β:Type}(x:β) :Hy:=.q (Eq.refl x)
abbrev hl (f:α→AV)(l:List α) :Hy:=.q (aQa f l)
abbrev hm (M:∀l,F l=List.map f l)(l:List α) :Hy:=.q (fM M l)
abbrev hb (f:α→AV)(l:List α) :Hy:=.q (aP7 f l)
abbrev hB (M:∀l,F l=List.map f l)(l:List α) :Hy:=.q (aBx M l)
abbrev hc (f:α→AV)(l m:List α) :Hy:=.q (aP8 f l m)
abbrev hC (M:∀l,F l=List.map f l)(l m:List α) :Hy:=.q (aBy M l m)
abbrev he (f:α→AV)(l m:List α) :Hy:=.q (aP9 f l m)
abbrev hE (M:∀l,F l=List.map f l)(l m:List α) :Hy:=.q (aBz M l m)
abbrev hk (f:α→AV)(l:List α)(h:∀a,keyless (f a) =true:=by exact fun _=>rfl) :Hy:=.q (bL f h l)
abbrev hK (K:∀ {l:List α},keylessL (F l) =true)(l:List α) :Hy:=.q (K (l:=l))
abbrev hz (b e:Nat)(f:α→AV)(l:List α)(x:Bool) :Hy:=.q (aEJ f l (b:=b) (e:=e) (x:=x))
abbrev hZ (b e:Nat)(M:∀l,F l=List.map f l)(l:List α)(x:Bool) :Hy:=.q (wY M l (b:=b) (e:=e) (x:=x))
abbrev rd (n:Nat)(L:List RIns) :List RIns:=replicate n RIns.d++L
abbrev gd (n j:Nat)(p:Prop)[Decidable p](t f:Tr) :Tr:=.b n j (decide p) t f
abbrev gE (n n1:Nat)(v:AV) :Tr:=.E n n1 [] v [] 0
abbrev gw (n j:Nat)(x:Int)(a:Tr) :Tr:=.i [.run n,.set j (.int .i64 x)] [hW x] a
abbrev gs (n j:Nat)(v:AV)(a:Tr) :Tr:=.i [.run n,.set j v] [hr v] a
abbrev gv (n k o:Nat)(v:AV)(a:Tr) :Tr:=.i [.run n,.cset k o v] [hr v] a
abbrev gu (n b:Nat)(x:List AV)(a:Tr) :Tr:=.i [.run n,.lset b x] [hr x] a
abbrev gl (n:Nat)(f:α→AV)(l:List α)(a:Tr) :Tr:=.i [.run n,.ans (.len (l.length:Int))] [hl f l] a
abbrev gm (n:Nat)(M:∀l,F l=List.map f l)(l:List α)(a:Tr) :Tr:=.i [.run n,.ans (.len (l.length:Int))] [hm M l] a
abbrev gi (f:α→AV)(n:Nat)(l:List α)(i:Int)(y:α)(a:Tr) :Tr:=.i [.run n,.ans (.idx (f y))] [hA (0≤i),.a (l[i.toNat]?=some y) (bW (f:=f))] a
abbrev giF (M:∀l,F l=List.map f l)(n:Nat)(l:List α)(i:Int)(y:α)(a:Tr) :Tr:=.i [.run n,.ans (.idx (f y))] [hA (0≤i),.a (l[i.toNat]?=some y) (hU M)] a
abbrev gj (f:α→AV)(n:Nat)(l:List α)(i:Nat)(y:α)(a:Tr) :Tr:=.i [.run n,.ans (.idx (f y))] [.a (l[i]?=some y) (eZ (f:=f))] a
abbrev gjF (M:∀l,F l=List.map f l)(n:Nat)(l:List α)(i:Nat)(y:α)(a:Tr) :Tr:=.i [.run n,.ans (.idx (f y))] [.a (l[i]?=some y) (aEK M)] a
abbrev gX (f:α→AV)(n:Nat)(l:List α)(i:Int)(a:α→Tr) :Tr:=.y fun y=>gi f n l i y (a y)
abbrev gp (n f:Nat)(xs:List AV)(v:AV)(a:Tr) :Tr:=.i [.run n,.pure v] [hA (aK PP f xs v)] a
abbrev gpI (n f:Nat)(xs:List AV)(a:Int→Tr) :Tr:=.y fun y=>gp n f xs (.int .i64 y) (a y)
abbrev iE (n f:Nat)(xs:List AV)(a:Bool→Tr) :Tr:=.y fun y=>gp n f xs (.bool y) (a y)
abbrev gk (n:Nat)(c:AIn)(H:List (Nat×AObj×Bool))(k:Nat)(v:AV)(H':List (Nat×AObj×Bool))(k':Nat)(a:Tr) :Tr:=.i [.run n,.call v (aA H' k')] [hA (Spec PP c (aA H k) (.ret v) (aA H' k'))] a
abbrev ga (n:Nat)(f:α→AV)(l m:List α)(a:Tr) :Tr:=.i [.run n,.app (List.map f (l++m)) (l++m).length] [hb f l,hA ((l++m).length≤1000000),hc f l m,he f l m] a
abbrev gA (n:Nat)(M:∀l,F l=List.map f l)(l m:List α)(a:Tr) :Tr:=.i [.run n,.app (F (l++m)) (l++m).length] [hB M l,hA ((l++m).length≤1000000),hC M l m,hE M l m] a
abbrev gz (n j b e:Nat)(f:α→AV)(l:List α)(x:Bool)(a:Tr)(h:∀a,keyless (f a) =true:=by exact fun _=>rfl) :Tr:=.i [.run n,.frz j b (List.map f l)] [hk f l h,hz b e f l x] a
abbrev gy (n k o b e:Nat)(f:α→AV)(l:List α)(x:Bool)(a:Tr)(h:∀a,keyless (f a) =true:=by exact fun _=>rfl) :Tr:=.i [.run n,.cfrz k o b (List.map f l)] [hk f l h,hz b e f l x] a
abbrev gZ (n j b e:Nat)(M:∀l,F l=List.map f l)(K:∀ {l:List α},keylessL (F l) =true)(l:List α)(x:Bool)(a:Tr) :Tr:=.i [.run n,.frz j b (F l)] [.q (K (l:=l)),hZ b e M l x] a
abbrev gY (n k o b e:Nat)(M:∀l,F l=List.map f l)(K:∀ {l:List α},keylessL (F l) =true)(l:List α)(x:Bool)(a:Tr) :Tr:=.i [.run n,.cfrz k o b (F l)] [.q (K (l:=l)),hZ b e M l x] a
abbrev tU (n:Nat)(l:List Pat)(i:Int)(a:Int→Int→bS→List Pat→Tr) :Tr:=.y fun p=>.y fun q=>.y fun r=>.y fun s=>giF aF n l i (.mk p q r s) (a p q r s)
end
end
def uZ(a:bS)(b:Int):TS:=⟨(tf 117 20 [(0,(cU a)),(2,(bV false)),(3,(nI b))] [kc f117 52,kl f117 52,.inBlock 0,kc f117 7]),[],[],0⟩
def aBA(a:List bS)(b:bS)(c:Int):TS:=⟨(tf 90 18 [(0,(iS a)),(1,(cU b)),(4,(bV false)),(5,(nI c))] [kc f90 52,kl f90 52,.inBlock 0,kc f90 7]),[],[],0⟩
def qY(a:List bS)(b:Int):TS:=⟨(tf 79 18 [(0,(iS a)),(2,(bV false)),(3,(nI b))] [kc f79 52,kl f79 52,.inBlock 0,kc f79 7]),[],[],0⟩
def vA(a b:Int)(c:bS)(d:List Pat)(g e f:Int):TS:=⟨(tf 52 29 [(1,(nI e)),kp 2 0,(4,(nI 0)),(5,(nI f))] [kc f52 244,kl f52 244,.inBlock 0,kc f52 31]),[],[oC 0 [(nI a),(nI b),(cU c),(iP d)]],1⟩
def lU(a b:Int)(c:bS)(d:List Pat)(e:Int):TS:=⟨(tf 53 22 [kp 1 0,(2,(bV false)),(3,(nI e))] [kc f53 52,kl f53 52,.inBlock 0,kc f53 7]),[],[oC 0 [(nI a),(nI b),(cU c),(iP d)]],1⟩
def kN(a:Prog)(b:Int):TS:=⟨(tf 8 74 [kp 1 0,(2,(bV false)),(3,(nI b))] [kc f8 116,kl f8 116,.inBlock 0,kc f8 15]),[],[oC 0 [(iN a.nodes),(iI a.funs),(nI a.main),(iC a.cons)]],1⟩
def kO(a:Prog)(b:Int):TS:=⟨(tf 8 74 [kp 1 0,(2,(bV false)),(4,(nI b))] [kc f8 244,kl f8 244,.inBlock 2,kc f8 31]),[],[oC 0 [(iN a.nodes),(iI a.funs),(nI a.main),(iC a.cons)]],1⟩
def kP(a:Prog)(b c:Int)(d:List Int)(e:List Pat)(f g:Int):TS:=⟨(tf 8 74 [kp 1 0,(2,(bV false)),(4,(nI g)),kp 5 1,(6,(nI f))] [kc f8 62620,kl f8 62620,.inBlock 4,.inBlock 3,kc f8 979,kl f8 244,.inBlock 2,kc f8 31]),[],[oC 0 [(iN a.nodes),(iI a.funs),(nI a.main),(iC a.cons)],oC 1 [(nI b),(nI c),(iI d),(iP e)]],2⟩
def aXu(a b c:Int):=tT 0 (start PP 46 [(nI a),(nI b),(nI c)])<|gd 10 10 (a≥b) (gE 7 0 (bV (decide (a≤c))))<|gE 7 0 (bV false)
def aUh:=fun a b c d=>aXu a b c|>.t d tv
def aUi:=fun a b c d=>aXu a b c|>.f d tv
def aKG (a:bS):=(tT 0 (start PP 117 [(cU a)])<|.W 11 0 [] (uZ a 0)) tv
def aUj(b:bS)(a:Int):=tT 0 (uZ b a)<|gd 8 7 (a< (b.length:Int)) (.y fun c:UInt8=>.i [rn 8,.ans (.ev (.int .u8 ((c.toNat:Nat) :Int)))] [hA (0≤a),.a (0≤a∧ (b)[a.toNat]?=some c) (p':=a< (b.length:Int)) fun⟨ha,hb⟩=>(aAs (k:=a) ha hb),.a ((b)[a.toNat]?=some c) (p':=int .u8 ((mod (div (aD b) (pow 256 a.toNat)) 256:Nat) :Int) = (.int .u8 ((c.toNat:Nat) :Int))) (fun h=>(aAt (k:=a) h))]<|gd 2 14 (((c.toNat:Nat) :Int) <97) (gE 12 0 (bV false))<|.i [rn 2,.ans (.ev (.int .u8 ((c.toNat:Nat) :Int)))] [hA (0≤a),.a (0≤a∧ (b)[a.toNat]?=some c) (p':=a< (b.length:Int)) fun⟨ha,hb⟩=>(aAs (k:=a) ha hb),.a ((b)[a.toNat]?=some c) (p':=int .u8 ((mod (div (aD b) (pow 256 a.toNat)) 256:Nat) :Int) = (.int .u8 ((c.toNat:Nat) :Int))) (fun h=>(aAt (k:=a) h))]<|gd 3 19 (((c.toNat:Nat) :Int) >122) (gE 6 0 (bV false))<|gw 6 9 (a+ (1:Int))<|.W 3 0 [] (uZ b (a+ (1:Int))))<|gE 7 0 (bV true)
def aKH:=fun c d e f a b g=>aUj c d|>.t f e a ⟨a,b⟩ b|>.t g tv
def aKI:=fun c d e f a b g i=>aUj c d|>.t f e a ⟨a,b⟩ b|>.f g a ⟨a,b⟩ b|>.t i tv
def aKJ:=fun c d e f a b g i j=>aUj c d|>.t f e a ⟨a,b⟩ b|>.f g a ⟨a,b⟩ b|>.f i j tv
def aKK:=fun a b c=>aUj a b|>.f c tv
def aQf(a:bS):=tT 0 (start PP 78 [(cU a)])<|gd 10 6 ((a.length:Int) ≥1) (gd 5 11 ((a.length:Int) ≤8) (.y fun b:UInt8=>.i [rn 1,.ans (.ev (.int .u8 ((b.toNat:Nat) :Int)))] [.q (p:=0≤ (0:Int)) (by decide),.a ((a)[0]?=some b) (p':=(0:Int) < (a.length:Int)) (fun h=>(aAs (k:= (0:Int)) (by decide) h)),.a ((a)[0]?=some b) (p':=int .u8 ((mod (div (aD a) (pow 256 (0:Int).toNat)) 256:Nat) :Int) = (.int .u8 ((b.toNat:Nat) :Int))) (fun h=>(aAt (k:= (0:Int)) h))]<|gd 3 16 (((b.toNat:Nat) :Int) ≥65) (.i [rn 1,.ans (.ev (.int .u8 ((b.toNat:Nat) :Int)))] [.q (p:=0≤ (0:Int)) (by decide),.a ((a)[0]?=some b) (p':=(0:Int) < (a.length:Int)) (fun h=>(aAs (k:= (0:Int)) (by decide) h)),.a ((a)[0]?=some b) (p':=int .u8 ((mod (div (aD a) (pow 256 (0:Int).toNat)) 256:Nat) :Int) = (.int .u8 ((b.toNat:Nat) :Int))) (fun h=>(aAt (k:= (0:Int)) h))]<|gd 3 21 (((b.toNat:Nat) :Int) ≤90) (.i [rn 1,.ans (.ev (cU (drop 1 a)))] [.a (1≤length a) (p':=aBk PP 9 (cU a) (some (nI 1)) none (cU (drop 1 a))) (fun h=>(aAY (k:= (1:Int)) kR0 (by decide) h))]<|iE 0 117 [(cU (drop 1 a))]<|fun c=>gE 4 0 (bV c))<|gE 7 0 (bV false))<|gE 12 0 (bV false))<|gE 17 0 (bV false))<|gE 22 0 (bV false)
def aKL:=fun b c d e f a g i j k=>aQf b|>.t e|>.t f c a a|>.t g a a|>.t i j d k tv
def aKM:=fun b c d e a f g=>aQf b|>.t d|>.t e c a a|>.t f a a|>.f g tv
def aKN:=fun b c d e a f=>aQf b|>.t d|>.t e c a a|>.f f tv
def aKO:=fun a b c=>aQf a|>.t b|>.f c tv
def aKP:=fun a b=>aQf a|>.f b tv
def aQg (a:List bS)(b:bS):=(tT 0 (start PP 90 [(iS a),(cU b)])<|.W 11 0 [] (aBA a b 0)) tv
def aWl(a:List bS)(c:bS)(b:Int):=tT 0 (aBA a c b)<|gl 5 cU a<|gd 2 9 (b< (a.length:Int)) (gX cU 8 a b<|fun d=>.b 4 17 (jA d.length (aD d) c.length (aD c)) (gE 6 0 (bV true))<|gw 6 11 (b+1)<|.W 3 0 [] (aBA a c (b+1)))<|gE 7 0 (bV false)
def aQh:=fun a b c d e f g i=>aWl a b c|>.t e d f g|>.t i tv
def aQi:=fun a b c d e f g i j=>aWl a b c|>.t e d f g|>.f i j tv
def aQj:=fun a b c d=>aWl a b c|>.f d tv
def aHZ (a:List bS):=(tT 0 (start PP 79 [(iS a)])<|.W 11 0 [] (qY a 0)) tv
def aWm(b:List bS)(a:Int):=tT 0 (qY b a)<|gl 5 cU b<|gd 2 7 (a< (b.length:Int)) (.y fun c:bS=>.y fun d:Bool=>.i [rn 5,.reg [.d,.d,.ans (.ev (iS (take a.toNat b))),.d,.d,.ans (.idx (cU c)),.d,.pure (bV d)]] [.a (0≤a∧a.toNat≤length b) (p':=aBk PP 136 (iS b) none (some (nI a)) (iS (take a.toNat b))) fun⟨ha,hb⟩=>(aCI (k:=a) kR0 ha hb),hA (0≤a),.a (((b)[a.toNat]?) =some c) (bW (f:=cU)),hA (aK PP 90 [(iS (take a.toNat b)),(cU c)] (bV d))]<|.b 0 17 d (gE 6 0 (bV false))<|gw 6 9 (a+1)<|.W 3 0 [] (qY b (a+1)))<|gE 7 0 (bV true)
def aH0:=fun b c d e f a g i j k=>aWm b c|>.t f d e ⟨a,g⟩ a i j|>.t k tv
def aH1:=fun b c d e f a g i j k l=>aWm b c|>.t f d e ⟨a,g⟩ a i j|>.f k l tv
def aH2:=fun a b c=>aWm a b|>.f c tv
def aXv(b c:Int)(d:bS)(e:List Pat)(a:Int):=tT 0 (start PP 52 [(.agg [(nI b),(nI c),(cU d),(iP e)]),(nI a)])<|gd 11 7 (a<1) (gE 6 1 (nI (-1)))<|gw 6 9 (a-1)<|.W 9 1 [0] (vA b c d e a (a-1) 0)
def aKQ:=fun a b c d e f=>aXv a b c d e|>.t f tv
def aKR:=fun a b c d e f g=>aXv a b c d e|>.f f g tv
def aWn(d e:Int)(f:bS)(a:List Pat)(g b c:Int):=tT 0 (vA d e f a g b c)<|gm 6 aF a<|gd 2 15 (c< (a.length:Int)) (gd 4 18 (b≥0) (tU 8 a c<|fun i j k l=>gpI 2 52 [(.agg [(nI i),(nI j),(cU k),(iP l)]),(nI b)]<|fun m=>gw 6 20 (c+1)<|.W 3 1 [0] (vA d e f a g m (c+1)))<|gE 8 1 (nI b))<|gE 12 1 (nI b)
def aKS:=fun a b c d e f g i j k l m n o p q r s=>aWn a b c d e f g|>.t n|>.t o i j k l p q m r s tv
def aKT:=fun a b c d e f g i j=>aWn a b c d e f g|>.t i|>.f j tv
def aKU:=fun a b c d e f g i=>aWn a b c d e f g|>.f i tv
def aD6 (a b:Int)(c:bS)(d:List Pat):=(tT 0 (start PP 53 [(.agg [(nI a),(nI b),(cU c),(iP d)])])<|.W 12 1 [0] (lU a b c d 0)) tv
def aWo(d e:Int)(c:bS)(a:List Pat)(b:Int):=tT 0 (lU d e c a b)<|gm 6 aF a<|gd 2 8 (b< (a.length:Int)) (tU 9 a b<|fun f g i j=>iE 1 53 [(.agg [(nI f),(nI g),(cU i),(iP j)])]<|fun k=>.b 2 17 (!k) (gE 6 1 (bV false))<|gw 6 10 (b+1)<|.W 3 1 [0] (lU d e c a (b+1)))<|gE 11 1 (bV (decide ((c.length:Int) ≤30)))
def aD7:=fun a b c d e f g i j k l m n o p=>aWo a b c d e|>.t l f g i j m n k o|>.t p tv
def aD8:=fun a b c d e f g i j k l m n o p q=>aWo a b c d e|>.t l f g i j m n k o|>.f p q tv
def aD9:=fun a b c d e f=>aWo a b c d e|>.f f tv
def aXw(a b:Int)(c:bS)(d:List Pat):=tT 0 (start PP 26 [(.agg [(nI a),(nI b),(cU c),(iP d)])])<|gpI 8 52 [(.agg [(nI a),(nI b),(cU c),(iP d)]),(nI 16)]<|fun e=>gd 2 6 (e≥0) (iE 1 53 [(.agg [(nI a),(nI b),(cU c),(iP d)])]<|fun f=>gE 4 1 (bV f))<|gE 6 1 (bV false)
def aH3:=fun a b c d e f g i j=>aXw a b c d e g|>.t i f j tv
def aH4:=fun a b c d e f g=>aXw a b c d e f|>.f g tv
def aUk(a:Prog):=tT 0 (start PP 8 [(Prog.av a)])<|gl 10 Node.av a.nodes<|gd 2 11 ((a.nodes.length:Int) >320) (gE 18 1 (bV false))<|gl 2 aY a.funs<|gd 3 17 ((a.funs.length:Int) >320) (gE 12 1 (bV false))<|gl 2 Con.av a.cons<|gd 3 22 ((a.cons.length:Int) >25) (gE 6 1 (bV false))<|.W 9 1 [0] (kN a 0)
def aCM:=fun a b=>aUk a|>.t b tv
def aCN:=fun a b c=>aUk a|>.f b|>.t c tv
def aCO:=fun a b c d=>aUk a|>.f b|>.f c|>.t d tv
def aCP:=fun a b c d=>aUk a|>.f b|>.f c|>.f d tv
def aQk(a:Prog)(b:Int):=tT 0 (kN a b)<|gl 6 Con.av a.cons<|gd 2 27 (b< (a.cons.length:Int)) (gX Con.av 9 a.cons b<|fun c=>gd 5 37 ((c.name.length:Int) >40) (gE 6 1 (bV false))<|gw 6 29 (b+1)<|.W 3 1 [0] (kN a (b+1)))<|.W 9 1 [0] (kO a 0)
def aCQ:=fun a b c d e f g=>aQk a b|>.t d c e f|>.t g tv
def aCR:=fun a b c d e f g i=>aQk a b|>.t d c e f|>.f g i tv
def aCS:=fun a b c=>aQk a b|>.f c tv
def aMU(b:Prog)(c:Int):=tT 0 (kO b c)<|gl 6 Node.av b.nodes<|gd 2 42 (c< (b.nodes.length:Int)) (gX Node.av 9 b.nodes c<|fun a=>gl 9 aY a.kids<|gd 2 54 ((a.kids.length:Int) >10) (gE 12 2 (bV false))<|gm 2 aF a.pats<|gd 3 59 ((a.pats.length:Int) >10) (gE 6 2 (bV false))<|.W 8 2 [0,1] (kP b a.op a.n a.kids a.pats 0 c))<|gE 7 1 (bV true)
def aCT:=fun a b c d e f g=>aMU a b|>.t d c e f|>.t g tv
def aCU:=fun a b c d e f g i=>aMU a b|>.t d c e f|>.f g|>.t i tv
def aCV:=fun a b c d e f g i=>aMU a b|>.t d c e f|>.f g|>.f i tv
def aCW:=fun a b c=>aMU a b|>.f c tv
def aQl(d:Prog)(e f:Int)(g:List Int)(a:List Pat)(b c:Int):=tT 0 (kP d e f g a b c)<|gm 6 aF a<|gd 2 64 (b< (a.length:Int)) (tU 9 a b<|fun i j k l=>iE 1 26 [(.agg [(nI i),(nI j),(cU k),(iP l)])]<|fun m=>.b 2 73 (!m) (gE 6 2 (bV false))<|gw 6 66 (b+1)<|.W 3 2 [0,1] (kP d e f g a (b+1) c))<|gw 6 44 (c+1)<|.W 3 2 [0] (kO d (c+1))
def aCX:=fun a b c d e f g i j k l m n o p q r=>aQl a b c d e f g|>.t n i j k l o p m q|>.t r tv
def aCY:=fun a b c d e f g i j k l m n o p q r s=>aQl a b c d e f g|>.t n i j k l o p m q|>.f r s tv
def aCZ:=fun a b c d e f g i j=>aQl a b c d e f g|>.f i j tv
theorem wrap64 {e:Int}(c: -9223372036854775808≤e)(h2:e<9223372036854775808) :IntKind.i64.wrap e=e:=by
 have a: (2:Int) ^ IntKind.i64.bits=18446744073709551616:=by decide
 have b: (2:Int) ^ (IntKind.i64.bits-1) =9223372036854775808:=by decide
 simp only [IntKind.wrap,a,b,IntKind.signed,lE,decide_eq_true_eq];split<;>omega
noncomputable def qZ (P:Program)(f:Nat) :Bool:=match P.funcs[f]? with
 | some fn=>match fn.body with
  |some _=>true
  |none=>false
 |none=>false
theorem aH {P:Program}{f:Nat}{a:List AV}{v:AV}(hb:qZ P f=true)(hk:keylessL a=true)(d:keyless v=true)(he:Ends P 0 (start P f a).as (.ret v) (aA [] 0)) :aK P f a v:=by
 unfold qZ at hb;split at hb
 · rename_i fn b;split at hb
   ·rename_i c hc;exact pure_of b hc hk d he
   ·cases hb
 ·cases hb
theorem bH {a:Type}{l t:List a}{i:Nat}{y:a}(h:l.drop i=y::t) :l[i]?=some y∧l.drop (i+1) =t∧i<l.length:=by
 have b:l[i]?=some y:=by rw [←List.head?_drop,h];rfl
 refine⟨b,?_,(zq0.1 b).1⟩;rw [←List.tail_drop,h];rfl
theorem bJ {a:Type}{l:List a}{i:Nat}(h:l.drop i= []) :l.length≤i:=List.drop_eq_nil_iff.1 h
theorem sd {p:Prop}(h:p:=by first|assumption|rfl| (simp only [xW];assumption) | (simp only [decide_eq_true_eq,decide_eq_false_iff_not];omega) |omega| (apply wrap64<;>omega) | (simp_all;done)) :p:=h
def cZ (n lo hi:Int) :Bool:=decide (lo≤n) &&decide (n≤hi)
theorem aQ (n lo a:Int) :aK PP 46 [.int .i64 n,.int .i64 lo,.int .i64 a] (.bool (cZ n lo a)) :=by
 refine aH kR0 rfl rfl ?_;by_cases h:n≥lo
 · have e:cZ n lo a=decide (n≤a) :=by unfold cZ;rw [decide_eq_true (show lo≤n from h),lE]
   rw [e];exact aUh n lo a (decide_eq_true h)
 · have e:cZ n lo a=false:=by unfold cZ;rw [decide_eq_false (show ¬lo≤n from h),sA]
   rw [e];exact aUi n lo a (decide_eq_false h)
def rA (c:UInt8) :Bool:=decide (97≤c.toNat) &&decide (c.toNat≤122)
def hN (s:bS) :Bool:=s.all rA
theorem aA0 (s:bS)(f:s.length<1000000) :∀ (t:bS) (i:Nat),s.drop i=t→Ends PP 0 (uZ s (i:Int)).as (.ret (.bool (hN t))) (aA [] 0)
 | [],i,h=>by
  have:=bJ h;exact aKK s i sd
 | c :: t,i,h=>by
  obtain⟨k,d,j⟩ :=bH h;have b: (decide ((i:Int) < ((length s:Nat) :Int))) =true:=sd;have a:s[(i:Int).toNat]?=some c:=sd;by_cases g:c.toNat<97
  · have e:hN (c::t) =false:=by simp [hN,rA];omega
    rw [e];exact aKH s i c b sd a sd
  · by_cases l:122<c.toNat
    · have e:hN (c::t) =false:=by simp [hN,rA];omega
      rw [e];exact aKI s i c b sd a sd sd
    · have e:hN (c::t) =hN t:=by
       have:rA c=true:=by simp [rA];omega
       simp [hN,this]
      rw [e];refine(aKJ s i c b sd a sd sd sd).ends ?_;exact aA0 s f t (i+1) d
theorem aH5 (s:bS)(a:s.length<1000000) :aK PP 117 [cU s] (.bool (hN s)) :=
 aH kR0 rfl rfl ((aKG s).ends (aA0 s a s 0 rfl))
def fX (s:bS) :Bool:=match s with
 | [] =>false
 |c::t=>decide (s.length≤8) &&decide (65≤c.toNat) &&decide (c.toNat≤90) &&hN t
theorem aH6 (s:bS) :aK PP 78 [cU s] (.bool (fX s)) :=by
 refine aH kR0 rfl rfl ?_
 match s with
 | [] =>exact aKP [] sd
 | c :: t=>
  have b: (decide (((length (c::t) :Nat) :Int) ≥ (1:Int))) =true:=by simp only [rY];exact sd
  by_cases d: (c::t).length≤8
  · have a: (decide (((length (c::t) :Nat) :Int) ≤ (8:Int))) =true:=sd;by_cases f:65≤c.toNat
    · by_cases g:c.toNat≤90
      · have e:fX (c::t) =hN t:=by simp only [fX,decide_eq_true d,decide_eq_true f,decide_eq_true g,lE]
        rw [e];exact aKL (c::t) c _ b a rfl sd sd (by simp) (aH5 t (by simp at d;omega))
      · have e:fX (c::t) =false:=by simp only [fX,decide_eq_false g,Bool.and_false,sA]
        rw [e];exact aKM (c::t) c b a rfl sd sd
    · have e:fX (c::t) =false:=by simp only [fX,decide_eq_false f,Bool.and_false,sA]
      rw [e];exact aKN (c::t) c b a rfl sd
  · have e:fX (c::t) =false:=by simp only [fX,decide_eq_false d,sA]
    rw [e];exact aKO (c::t) b sd
def vO (l:List bS)(s:bS) :Bool:=l.any fun x=>decide (x=s)
theorem aEL (l:List bS)(s:bS)(hl:l.length<1000000) :∀ (t:List bS) (i:Nat),l.drop i=t→Ends PP 0 (aBA l s (i:Int)).as (.ret (.bool (vO t s))) (aA [] 0)
 | [],i,h=>by
  have:=bJ h;exact aQj l s i sd
 | x ::t,i,h=>by
  obtain⟨c,a,b⟩ :=bH h;by_cases g:x=s
  · have e:vO (x::t) s=true:=by simp [vO,g]
    rw [e];exact aQh l s i x sd sd sd (by rw [zA];exact decide_eq_true g)
  · have e:vO (x::t) s=vO t s:=by simp [vO,g]
    rw [e];refine(aQi l s i x sd sd sd (by rw [zA];exact decide_eq_false g) sd).ends ?_;exact aEL l s hl t (i+1) a
theorem aNJ (l:List bS)(s:bS)(hl:l.length<1000000) :aK PP 90 [.ilst 1 (List.map cU l) false,cU s] (.bool (vO l s)) :=
 aH kR0 rfl rfl ((aQg l s).ends (aEL l s hl l 0 rfl))
def dO :List bS→List bS→Bool
 |_,[] =>true
 |pre,x::t=> !vO pre x&&dO (pre++ [x]) t
def lV (l:List bS) :Bool:=dO [] l
theorem zD (l:List bS)(hl:l.length<1000000) :∀ (t:List bS) (i:Nat),l.drop i=t→Ends PP 0 (qY l (i:Int)).as (.ret (.bool (dO (l.take i) t))) (aA [] 0)
 | [],i,h=>by
  have:=bJ h;exact aH2 l i sd
 | x ::t,i,h=>by
  obtain⟨d,c,f⟩ :=bH h;have b:aK PP 90 [.ilst 1 (List.map cU (l.take (i:Int).toNat)) false,cU x] (.bool (vO (l.take i) x)) :=by
   simp only [xW];exact aNJ _ _ (by simp;omega)
  by_cases g:vO (l.take i) x=true
  · have e:dO (l.take i) (x::t) =false:=by simp [dO,g]
    rw [e];exact aH0 l i x _ sd sd sd sd b g
  · have a:vO (l.take i) x=false:=by simpa using g
    have e:dO (l.take i) (x::t) =dO (l.take (i+1)) t:=by
     simp only [dO,a,Bool.not_false,lE];rw [List.take_add_one,d];rfl
    rw [e];refine(aH1 l i x _ sd sd sd sd b a sd).ends ?_;exact zD l hl t (i+1) c
theorem aGe (l:List bS)(hl:l.length<1000000) :aK PP 79 [.ilst 1 (List.map cU l) false] (.bool (lV l)) :=by
 refine aH kR0 rfl rfl ((aHZ l).ends ?_);exact zD l hl l 0 rfl
section
variable {P :Program}
theorem aVR {s s':AS}{b:Bool}{h':Hp}(hl:Leads P s s')(p:vS P s'=some (.bool b,h')) :Ends P 0 s (.ret (.bool b)) (aA [] 0) :=by
 have m:LeadsM P 0 s s':=fun hm E fr d w a f fs r=>by
  obtain⟨h,fr',i,g,k,z,j,t,x⟩ :=hl E fr d w a f fs r;exact⟨h,fr',i,g,k,z,j,t,x.toM hm⟩
 intro hm E fr d w f fs r l a;obtain⟨q,g,h,v,⟨n,rfl,y⟩,u,c⟩ := (m.ends (mO p)) hm E fr d w f fs r l a;refine⟨_,g,h.p,v,⟨n,rfl,?_⟩,aCD u,⟨fun b hb=>absurd hb (Nat.not_lt_zero _),c.imm,c.size,c.keep,fun B A C e=>?_,le_refl _,c.os,c.tape,c.output,c.froz,c.immo,fun b o e=>?_⟩⟩
 ·simpa only [VR]using y
 ·simp [yX,Hp.look,T.at_leaf]at e
 ·simp [yX,Hp.look,T.at_leaf]at e
end
section
def embOf (w:World) :Emb:= ⟨fun _=>none,fun k=>match w.heap[k]? with
 |some (.cells C _ _) =>some C
 |_=>none⟩
theorem aNK {w:World}{k:Nat}{C:Array Value}{el:TypeId}{fz:Nat×Nat}(h:w.heap[k]?=some (.cells C el fz)) : (embOf w).imm k=some C:=by
 simp only [embOf,h]
theorem aNL (w:World) :Rel (embOf w) ⟨.leaf,0⟩ w.heap:=by
 refine⟨fun b o e=>?_,fun b b' o o' L L' e=>?_,fun _ _=>rfl,fun k C e=>?_,fun b o L e=>?_,fun b o e=>?_⟩
 ·simp [Hp.look,T.at_leaf]at e
 ·simp [Hp.look,T.at_leaf]at e
 · simp only [embOf]at e;split at e
   ·rename_i C' el fz h;cases e;exact⟨el,fz,h⟩
   ·cases e
 ·simp [Hp.look,T.at_leaf]at e
 ·simp [Hp.look,T.at_leaf]at e
def Elt (w:World)(e:Nat)(a:AV)(cs:List Value) :Prop:=cs.length=e∧∃u:Value,u.cells.toList=cs∧VR (embOf w) a u∧∀c∈cs,c.oneCell'=true
theorem Elt.one {w:World}{a:AV}{u:Value}(h:VR (embOf w) a u)(ha:a.one=true)(hu:u.cells= #[u]) :Elt w 1 a [u] :=
 ⟨rfl,u,by rw [hu],h,fun c hc=>by rw [zq32.1 hc];exact h.one ha⟩
variable {H :Type} {enc:TypeId×Value→H} {P:Program} {w:World} {spare:Nat→Bool} {held:Bool}
theorem aUl {a:Addr}{C:Array Value}{el:TypeId}{fz:Nat×Nat}(hC:w.heap[a.block]?=some (.cells C el fz))(hs:a.spot=none)(k:Nat) :w.cell? (a.add k) =C[a.off+k]?:=by
 unfold World.cell? Addr.add;by_cases h:k=0
 ·subst h;simp [hC,hs]
 ·simp [h,hC]
theorem add_add (a:Addr)(i j:Nat) : (a.add i).add j=a.add (i+j) :=by
 unfold Addr.add;by_cases hi:i=0<;>by_cases hj:j=0<;>simp [hi,hj,Nat.add_assoc]
theorem aNM (us:List Value)(u:Value) :flat (us++ [u]) =flat us++u.cells.toList:=by simp [flat]
theorem mR {α:Type}(f:α→AV){t e:TypeId}{n fuel:Nat}(ht:P.underlying t=some (.slice e))(hc:P.cellsOf e=n)(hn:0<n){cs:List Value}{x:DataW H×List MemPlace}
  (h:DataW.trod enc P w 0 spare held fuel t cs=some x) (hel:∀fu,fu<fuel→∀cs x,DataW.trod enc P w 0 spare held fu e cs=some x→∃y,Elt w n (f y) cs) :∃ (ys:List α) (c:Value),cs= [c] ∧VR (embOf w) (.ilst n (ys.map f) false) c:=by
 rcases DataW.trod_slice ht h with⟨rfl,_⟩ | ⟨a,len,cap,elems,rest,m,rfl,rfl,_,_,hlc,_,hlen,hat,_⟩
 · refine⟨[],_,rfl,?_⟩;simp only [VR];exact⟨[],by simp [VRs],⟨fun u hu=> (by cases hu),.inl ⟨rfl,none,0,rfl,fun _=>rfl,fun _=>rfl⟩⟩⟩
 · cases len with
   | zero=>
    refine⟨[],_,rfl,?_⟩;simp only [VR];exact⟨[],by simp [VRs],⟨fun u hu=> (by cases hu),.inl ⟨rfl,some a,cap,rfl,fun e=> (by cases e),fun e=> (by cases e)⟩⟩⟩
   | succ len=>
    rw [hc]at hat
    have each:∀i,i<len+1→∃cs' y,w.cells? 0 (a.add (i*n)) n=some cs'∧Elt w n (f y) cs':=fun i hi=>by
     have h1:=hat i hi;rw [lZ (by omega)]at h1;obtain⟨cs',g1,g2⟩ :=Option.bind_eq_some_iff.1 h1;obtain⟨y,g3⟩ :=hel m (Nat.lt_succ_self m) cs' _ g2;exact⟨cs',y,g1,g3⟩
    obtain⟨C,el,fz,hC,hs⟩ :∃C el fz,w.heap[a.block]?=some (.cells C el fz) ∧a.spot=none:=by
     obtain⟨cs',y,g1,g2,_⟩ :=each 0 (by omega);obtain⟨_,_,g3⟩ :=World.cells?_some g1;have g4:=g3 0 hn;have: (a.add (0*n)).add 0=a:=by simp [Addr.add]
     rw [this,lZ (by omega)]at g4;unfold World.cell? at g4;split at g4
     · rename_i C el fz hh;split at g4
       ·cases g4
       · rename_i hsp;refine⟨C,el,fz,hh,?_⟩;cases hq:a.spot with
         |none=>rfl
         |some q=>rw [hq]at hsp;simp at hsp
     ·cases g4
    have all:∀k,k≤len+1→∃ (ys:List α) (us:List Value),us.length=k∧VRs (embOf w) (ys.map f) us∧ (∀u∈us,vM n u) ∧∀j,j<k*n→C[a.off+j]?= (flat us)[j]?:=by
     intro k
     induction k with
     |zero=>exact fun _=> ⟨[],[],rfl,by simp [VRs],fun u hu=> (by cases hu),fun j hj=>by omega⟩
     | succ k ih=>
      intro hk;obtain⟨ys,us,q1,q2,q3,q4⟩ :=ih (by omega);obtain⟨cs',y,g1,g2,u,g3,g4,g5⟩ :=each k (by omega);obtain⟨_,g6,g7⟩ :=World.cells?_some g1;have hfl:=flat_length q3;refine⟨ys++ [y],us++ [u],by simp [q1],?_,fun v hv=>?_,fun j hj=>?_⟩
      ·rw [aNr];exact q2.append (VRs.cons g4 (VRs.nil _))
      · rcases zq28.1 hv with hv|hv
        ·exact q3 v hv
        · rw [zq32.1 hv];refine⟨?_,fun c hc=>g5 c (by rw [←g3];exact hc)⟩;rw [←Array.length_toList,g3,g2]
      · rw [aNM,g3];by_cases hj2:j<k*n
        ·rw [q4 j hj2,wL (by rw [hfl,q1];exact hj2)]
        · have hr:j-k*n<n:=by rw [Nat.succ_mul]at hj;omega
          rw [aDR (by rw [hfl,q1];omega),hfl,q1,←g7 _ hr,add_add,aUl hC hs];congr 2;omega
    obtain⟨ys,us,q1,q2,q3,q4⟩ :=all (len+1) (le_refl _);refine⟨ys,_,rfl,?_⟩;simp only [VR];refine⟨us,q2,q3,.inr ⟨a.block,a.off,cap,C,?_,aNK hC,by omega,fun e=> (by cases e),by rw [q1];exact q4⟩⟩;rw [q1,←hs]
theorem mS {fuel:Nat}{t:TypeId}(ht:P.underlying t=some (.int .i64)){cs:List Value}{x:DataW H×List MemPlace}(h:DataW.trod enc P w 0 spare held fuel t cs=some x) :∃n,cs= [.int .i64 n] :=by
 obtain⟨n,h1,_⟩ :=DataW.trod_int ht h;exact⟨n,h1⟩
theorem aH7 {fuel:Nat}{t:TypeId}(ht:P.underlying t=some .string){cs:List Value}{x:DataW H×List MemPlace}(h:DataW.trod enc P w 0 spare held fuel t cs=some x) :∃ (s:bS) (c:Value),cs= [c] ∧VR (embOf w) (cU s) c:=by
 obtain⟨s,h1,_⟩ :=DataW.trod_string ht h;refine⟨s.data.toList,_,h1,?_⟩;have:=dV s.data.toList;simp only [cU,VR,eQ,this]
theorem four {α:Type}{cs:List α}(h:cs.length=4) :∃a b c d,cs= [a,b,c,d] :=by
 match cs,h with
 | [a,b,c,d],_=>exact⟨a,b,c,d,rfl⟩
theorem two {α:Type}{cs:List α}(h:cs.length=2) :∃a b,cs= [a,b] :=by
 match cs,h with
 | [a,b],_=>exact⟨a,b,rfl⟩
theorem aGf {l:List AV}{cs:List Value}(h:VRs (embOf w) l cs)(ho:cG l=true) :Elt w l.length (.agg l) cs:=
 ⟨h.length,.agg ⟨cs⟩,rfl,by simp only [VR];exact⟨cs,rfl,h⟩,VRs.ones h ho⟩
theorem aUm {a:AV}{c:Value}(h:VR (embOf w) a c)(ha:a.one=true)(hc:c.cells= #[c]) :Elt w 1 a [c] :=
 ⟨rfl,c,by rw [hc],h,fun x hx=>by rw [zq32.1 hx];exact h.one ha⟩
section
theorem cells3 :PP.cellsOf 3=1:=by kernel_rfl
theorem cells9 :PP.cellsOf 9=1:=by kernel_rfl
theorem cells22 :PP.cellsOf 22=1:=by kernel_rfl
theorem cells23 :PP.cellsOf 23=1:=by kernel_rfl
theorem cells24 :PP.cellsOf 24=1:=by kernel_rfl
theorem cells26 :PP.cellsOf 26=4:=by kernel_rfl
theorem cells49 :PP.cellsOf 49=2:=by kernel_rfl
theorem cells51 :PP.cellsOf 51=1:=by kernel_rfl
theorem aMV :PP.cellsOf 52=1:=by kernel_rfl
theorem aMW :PP.cellsOf 54=4:=by kernel_rfl
theorem aUn :PP.cellsOf 56=1:=by kernel_rfl
theorem cells58 :PP.cellsOf 58=4:=by kernel_rfl
theorem got {α:Type}{xs:List α}{n i:Nat}{r:Option α}(h:r=xs[i]?)(hl:xs.length=n)(hi:i<n) :∃x,r=some x:=by
 rw [lZ (by omega)]at h;exact⟨_,h⟩
theorem aEM {fuel:Nat}{cs:List Value}{x:DataW H×List MemPlace}(h:DataW.trod enc PP w 0 spare held fuel 23 cs=some x) :∃ (l:List Int) (c:Value),cs= [c] ∧VR (embOf w) (.ilst 1 (l.map aY) false) c:=
 mR aY Tryz.underlying23 cells3 (by omega) h (fun fu _ cs x hx=>by
  obtain⟨n,rfl⟩ :=mS Tryz.underlying3 hx;exact⟨n,aUm (by simp only [aY,VR]) rfl rfl⟩)
theorem aQm :∀ (fuel:Nat) (cs:List Value) (x:DataW H×List MemPlace),DataW.trod enc PP w 0 spare held fuel 58 cs=some x→∃p:Pat,Elt w 4 (Pat.av p) cs:=by
 intro fuel
 induction fuel using Nat.strongRecOn with
 | ind fuel ih=>
  intro cs x h;obtain⟨xs,m,rfl,rfl,hl,hlen,hf⟩ :=DataW.trod_struct Tryz.underlying58 h;rw [cells58]at hl;obtain⟨c0,c1,c2,c3,rfl⟩ :=four hl;have h0:DataW.trod enc PP w 0 spare held m 56 (([c0,c1,c2,c3].drop 0).take (PP.cellsOf 56)) =xs[0]?:=hf 0 _ rfl;have h1:DataW.trod enc PP w 0 spare held m 3 (([c0,c1,c2,c3].drop 1).take (PP.cellsOf 3)) =xs[1]?:=hf 1 _ rfl;have h2:DataW.trod enc PP w 0 spare held m 9 (([c0,c1,c2,c3].drop 2).take (PP.cellsOf 9)) =xs[2]?:=hf 2 _ rfl;have h3:DataW.trod enc PP w 0 spare held m 52 (([c0,c1,c2,c3].drop 3).take (PP.cellsOf 52)) =xs[3]?:=hf 3 _ rfl;simp only [aUn,cells3,cells9,aMV,drop,take]at h0 h1 h2 h3;obtain⟨x0,h0⟩ :=got h0 hlen (by decide);obtain⟨x1,h1⟩ :=got h1 hlen (by decide);obtain⟨x2,h2⟩ :=got h2 hlen (by decide);obtain⟨x3,h3⟩ :=got h3 hlen (by decide);obtain⟨f,e0⟩ :=mS Tryz.underlying56 h0;obtain⟨n,e1⟩ :=mS Tryz.underlying3 h1;obtain⟨s,c,e2,v2⟩ :=aH7 Tryz.underlying9 h2;obtain⟨ps,c',e3,v3⟩ :=mR Pat.av Tryz.underlying52 cells58 (by omega) h3 (fun fu hfu cs x hx=>ih fu (by omega) cs x hx);cases e0;cases e1;cases e2;cases e3;refine⟨.mk f n s ps,?_⟩;simp only [Pat.av,aF];refine aGf (VRs.cons (by simp only [VR]) (VRs.cons (by simp only [VR]) (VRs.cons v2 (VRs.cons v3 (VRs.nil _))))) ?_;rfl
theorem aNN (fuel:Nat)(cs:List Value)(x:DataW H×List MemPlace)(h:DataW.trod enc PP w 0 spare held fuel 54 cs=some x) :∃p:Node,Elt w 4 (Node.av p) cs:=by
 obtain⟨xs,m,rfl,rfl,hl,hlen,hf⟩ :=DataW.trod_struct Tryz.underlying54 h;rw [aMW]at hl;obtain⟨c0,c1,c2,c3,rfl⟩ :=four hl;have h0:DataW.trod enc PP w 0 spare held m 51 (([c0,c1,c2,c3].drop 0).take (PP.cellsOf 51)) =xs[0]?:=hf 0 _ rfl;have h1:DataW.trod enc PP w 0 spare held m 3 (([c0,c1,c2,c3].drop 1).take (PP.cellsOf 3)) =xs[1]?:=hf 1 _ rfl;have h2:DataW.trod enc PP w 0 spare held m 23 (([c0,c1,c2,c3].drop 2).take (PP.cellsOf 23)) =xs[2]?:=hf 2 _ rfl;have h3:DataW.trod enc PP w 0 spare held m 52 (([c0,c1,c2,c3].drop 3).take (PP.cellsOf 52)) =xs[3]?:=hf 3 _ rfl;simp only [cells51,cells3,cells23,aMV,drop,take]at h0 h1 h2 h3;obtain⟨x0,h0⟩ :=got h0 hlen (by decide);obtain⟨x1,h1⟩ :=got h1 hlen (by decide);obtain⟨x2,h2⟩ :=got h2 hlen (by decide);obtain⟨x3,h3⟩ :=got h3 hlen (by decide);obtain⟨f,e0⟩ :=mS Tryz.underlying51 h0;obtain⟨n,e1⟩ :=mS Tryz.underlying3 h1;obtain⟨ks,c,e2,v2⟩ :=aEM h2;obtain⟨ps,c',e3,v3⟩ :=mR Pat.av Tryz.underlying52 cells58 (by omega) h3 (fun fu _ cs x hx=>aQm fu cs x hx);cases e0;cases e1;cases e2;cases e3;refine⟨⟨f,n,ks,ps⟩,?_⟩;simp only [Node.av,aF];refine aGf (VRs.cons (by simp only [VR]) (VRs.cons (by simp only [VR]) (VRs.cons v2 (VRs.cons v3 (VRs.nil _))))) ?_;rfl
theorem aQn (fuel:Nat)(cs:List Value)(x:DataW H×List MemPlace)(h:DataW.trod enc PP w 0 spare held fuel 49 cs=some x) :∃p:Con,Elt w 2 (Con.av p) cs:=by
 obtain⟨xs,m,rfl,rfl,hl,hlen,hf⟩ :=DataW.trod_struct Tryz.underlying49 h;rw [cells49]at hl;obtain⟨c0,c1,rfl⟩ :=two hl;have h0:DataW.trod enc PP w 0 spare held m 9 (([c0,c1].drop 0).take (PP.cellsOf 9)) =xs[0]?:=hf 0 _ rfl;have h1:DataW.trod enc PP w 0 spare held m 3 (([c0,c1].drop 1).take (PP.cellsOf 3)) =xs[1]?:=hf 1 _ rfl;simp only [cells9,cells3,drop,take]at h0 h1;obtain⟨x0,h0⟩ :=got h0 hlen (by decide);obtain⟨x1,h1⟩ :=got h1 hlen (by decide);obtain⟨s,c,e0,v0⟩ :=aH7 Tryz.underlying9 h0;obtain⟨n,e1⟩ :=mS Tryz.underlying3 h1;cases e0;cases e1;refine⟨⟨s,n⟩,?_⟩;simp only [Con.av];refine aGf (VRs.cons v0 (VRs.cons (by simp only [VR]) (VRs.nil _))) ?_;rfl
theorem lift_prog (fuel:Nat)(cs:List Value)(x:DataW H×List MemPlace)(h:DataW.trod enc PP w 0 spare held fuel 26 cs=some x) :∃p:Prog,VR (embOf w) (Prog.av p) (.agg ⟨cs⟩) :=by
 obtain⟨xs,m,rfl,rfl,hl,hlen,hf⟩ :=DataW.trod_struct Tryz.underlying26 h;rw [cells26]at hl;obtain⟨c0,c1,c2,c3,rfl⟩ :=four hl;have h0:DataW.trod enc PP w 0 spare held m 22 (([c0,c1,c2,c3].drop 0).take (PP.cellsOf 22)) =xs[0]?:=hf 0 _ rfl;have h1:DataW.trod enc PP w 0 spare held m 23 (([c0,c1,c2,c3].drop 1).take (PP.cellsOf 23)) =xs[1]?:=hf 1 _ rfl;have h2:DataW.trod enc PP w 0 spare held m 3 (([c0,c1,c2,c3].drop 2).take (PP.cellsOf 3)) =xs[2]?:=hf 2 _ rfl;have h3:DataW.trod enc PP w 0 spare held m 24 (([c0,c1,c2,c3].drop 3).take (PP.cellsOf 24)) =xs[3]?:=hf 3 _ rfl;simp only [cells22,cells23,cells3,cells24,drop,take]at h0 h1 h2 h3;obtain⟨x0,h0⟩ :=got h0 hlen (by decide);obtain⟨x1,h1⟩ :=got h1 hlen (by decide);obtain⟨x2,h2⟩ :=got h2 hlen (by decide);obtain⟨x3,h3⟩ :=got h3 hlen (by decide);obtain⟨ns,c,e0,v0⟩ :=mR Node.av Tryz.underlying22 aMW (by omega) h0 (fun fu _ cs x hx=>aNN fu cs x hx);obtain⟨fs,c',e1,v1⟩ :=aEM h1;obtain⟨n,e2⟩ :=mS Tryz.underlying3 h2;obtain⟨ks,c'',e3,v3⟩ :=mR Con.av Tryz.underlying24 cells49 (by omega) h3 (fun fu _ cs x hx=>aQn fu cs x hx);cases e0;cases e1;cases e2;cases e3;refine⟨⟨ns,fs,n,ks⟩,?_⟩;simp only [Prog.av,VR];exact⟨_,rfl,VRs.cons v0 (VRs.cons v1 (VRs.cons (by simp only [VR]) (VRs.cons v3 (VRs.nil _))))⟩
end
end
section
variable {P :Program}
theorem Rel.swap {E E':Emb}{h h':Hp}{w:World}(r:Rel E h w.heap)(K:Nat→Prop)(Z:h.nb≤h'.nb)(n:∀b,b<h.nb→E' b=E b)(f:E'.imm=E.imm)(R:∀b,h'.nb≤b→E' b=none)
  (A:∀b o,h.look b=some o→¬K b→bK o= [] ∧fS o=false)
  (c:∀b o,h'.look b=some o→ (K b∧h.look b=some o) ∨ (b<h'.nb∧bK o= [] ∧fS o=false∧ (b<h.nb→¬K b∧∃d,h.look b=some d) ∧∃L,E' b=some L∧OR E' w.heap L o∧∀i,Own o L i→∃j d p,¬K j∧h.look j=some d∧E j=some p∧Own d p i))
  (N:∀b a o l L u,¬ (K b∧h.look b=some o) →¬ (K a∧h.look a=some l) →h'.look b=some o→h'.look a=some l→E' b=some L→E' a=some u→b≠a→¬Meet o l L u) :
  E.le E'∧Rel E' h' w.heap∧∀m,m≤h.nb→ExtM m E h w E' h' w:=by
 have D:E.le E':= ⟨fun b L e=>by rw [n b (r.nb_gt e)];exact e,fun k C e=>by rw [f];exact e⟩;have hK:∀ {b o},K b∧h.look b=some o→E' b=E b:=fun {b o} g=>n b (r.keys b o g.2)
 have z:∀ {b o L},h'.look b=some o→E' b=some L→∀i,Own o L i→∃j d p,h.look j=some d∧E j=some p∧Own d p i:=fun {b o L} e k i G=>by
  rcases c b o e with g| ⟨_,_,_,_,W,B,_,Q⟩
  ·exact⟨b,o,L,g.2,by rw [←hK g];exact k,G⟩
  · rw [k]at B;cases B;obtain⟨j,d,p,_,F,J,M⟩ :=Q i G;exact⟨j,d,p,F,J,M⟩
 have s:∀ {b a o l L u},¬ (K b∧h.look b=some o) →K a∧h.look a=some l→h'.look b=some o→E' b=some L→E a=some u→∀i,Own o L i→¬Own l u i:=fun {b a o l L u} g t e k y i I H=>by
  rcases c b o e with q| ⟨_,_,_,_,W,B,_,Q⟩
  ·exact g q
  · rw [k]at B;cases B;obtain⟨j,d,p,V,F,J,M⟩ :=Q i I;obtain⟨T,S⟩ :=A j d F V;rcases r.kin j a d l p u F t.2 J y ⟨i,M,H⟩ (fun e=>V (e ▸ t.1))with⟨x,_⟩ | ⟨_,x,_⟩
    ·rw [T]at x;cases x
    ·rw [S]at x;cases x
 refine⟨D,⟨fun b o e=>?_,fun b a o l L u e U k y v O=>?_,R,fun k C e=>by rw [f]at e;exact r.imm k C e,fun b o L e k i G=>?_,fun b o e=>?_⟩,fun m hm=> ⟨fun b hb=>n b (by omega),D.2,le_refl _,fun _ _ _=>rfl,fun b o L e k i G _=>z e k i G,by omega,rfl,rfl,rfl,fun _ _=>rfl,fun k C e _=>.inl (by rw [f]at e;exact e),fun b o e hb=>?_⟩⟩
 · rcases c b o e with g| ⟨_,_,_,_,L,B,g2,_⟩
   · rcases r.obj0 b o g.2 with⟨T,S⟩ | ⟨L,Y,X⟩
     ·exact .inl ⟨T,by rw [hK g];exact S⟩
     ·exact .inr ⟨L,by rw [hK g];exact Y,X.mono D⟩
   ·exact .inr ⟨L,B,g2⟩
 · by_cases g:K b∧h.look b=some o
   · by_cases t:K a∧h.look a=some l
     · rw [hK g]at k;rw [hK t]at y;exact r.kin b a o l L u g.2 t.2 k y v O
     · rw [hK g]at k;obtain⟨i,I,H⟩ :=v;exact absurd I (s t g U y k i H)
   · by_cases t:K a∧h.look a=some l
     · rw [hK t]at y;obtain⟨i,I,H⟩ :=v;exact absurd H (s g t e k y i I)
     ·exact absurd v (N b a o l L u g t e U k y O)
 · rw [f];obtain⟨j,d,p,F,J,M⟩ :=z e k i G;exact r.apart j d p F J i M
 · rcases c b o e with g| ⟨g,_⟩
   ·have:=r.keys b o g.2;omega
   ·exact g
 · rcases c b o e with g| ⟨_,_,_,g,_⟩
   ·exact⟨o,g.2⟩
   ·exact(g (by omega)).2
end
end
end Go.Hb
