/- A machine on abstract values, its soundness, ways, plain laws. -/
import Derived.Test.YtnljmgihoioocaaGreatHD
set_option linter.defProp false
set_option linter.unusedVariables false
set_option linter.unusedSimpArgs false
set_option linter.unusedSectionVars false
set_option maxRecDepth 100000
namespace Go.Hb
open AV (frzL frzOk keyless keylessL renL)
open List (mem_singleton_self replicate)
open Nat (beq beq_refl ble blt le_refl lt_or_ge)
noncomputable section
section
variable {P :Program}
theorem mem1 {p:Prop}{ps:List Prop}(h:∀q∈p::ps,q) :p:=h p (cQ ..)
theorem dH {h:Hp}{tm:T AV}{o:Oper}{out:AOut}(h0:hQ P h tm o=none)(h1:vop P h tm o=some out) :kL P h tm o=some out:=by unfold kL;rw [h0];exact h1
theorem uF {k:IntKind}{n:Int}{len:Nat}(h0:0≤n)(h1:n<len) :iY (.int k n) len=some n.toNat:=by simp [iY,h0,h1]
inductive Ans where
 |idx (y:AV)
 |ix
 |ev (v:AV)
 |look (r:Option (Nat×AV))
 |len (n:Int)
def aI3 (z:AV)(ok:Bool)(r:Option (Nat×AV)) :AV:=match r with
 |some (_,v) =>bif ok then .tup [v,.bool true]else v
 |none=>bif ok then .tup [z,.bool false]else z
def rV (P:Program)(h:Hp)(tm:T AV)(o:Oper)(a:Ans) :Option (AV×List Prop) :=
 match a with
 | .idx y=>match o.op with
  | .indexAddr t x i=>match bO tm x,bO tm i with
   |some (.ilst e xs _),some (.int _ n) =>bif zY P t e then some (.iptr y.cells,[0≤n,xs[n.toNat]?=some y])else none
   |_,_=>none
  | .load t a=>match bO tm a with
   | some (.ep b e i k) =>match h.look b with
    | some (.lst e' xs) =>bif beq e' e then match aLa P t (y.cells.drop k)with
     |some v=>some (v,[xs[i]?=some y])
     |none=>none else none
    |_=>none
   |_=>none
  |_=>none
 | .ix=>match o.op with
  | .indexAddr t x i=>match bO tm x,bO tm i with
   |some (.gl b e off len _),some (.int _ n) =>bif zY P t e then some (.ep b e (off+n.toNat) 0,[0≤n,n<len])else none
   |_,_=>none
  |_=>none
 | .ev v=>match o.op with
  | .slice t x lo hi mx=>match bO tm x,pP tm lo,pP tm hi,pP tm mx with
   |some a,some lo,some hi,some mx=>some (v,[∃l u m,hJ lo=some l∧hJ hi=some u∧hJ mx=some m∧ (tI P t a l u m=some v∨ (tI P t a l u m=none∧aCw P t a l u m=some v))])
   |_,_,_,_=>none
  | .binOp op t x y _=>match bO tm x,bO tm y with
   |some a,some b=>some (v,[aZE P op t a b (isLit x) (isLit y) =some v])
   |_,_=>none
  | .index t x i=>match bO tm x,bO tm i with
   | some (.str l n),some (.int _ k) =>match P.underlying t with
    |some .string=>some (v,[0≤k,k<l,.int .u8 (Nat.mod (Nat.div n (Nat.pow 256 k.toNat)) 256) =v])
    |_=>none
   |_,_=>none
  | .convert sr d x=>match bO tm x with
   | some (.slice b off len _ _ _) =>match P.underlying sr,P.underlying d,h.loadN b off len with
    | some (.slice e),some .string,some vs=>match P.underlying e with
     |some (.int .u8) =>some (v,[sD vs=some v])
     |_=>none
    |_,_,_=>none
   |_=>none
  |_=>none
 | .look r=>match o.op with
  | .lookup t x k ok=>match bO tm x,bO tm k with
   | some (.map b),some k=>match P.underlying t,h.look b with
    | some (.map kt et),some (.map es _) =>match P.underlying kt,zeroOf P et with
     |some kd,some z=>bif plainKey kd k then some (aI3 z ok r,[pN k es 0=some r])else none
     |_,_=>none
    |_,_=>none
   |_,_=>none
  |_=>none
 | .len n=>match o.op with
  | .call c=>match c.callee,iG tm c.args.toList,c.argTypes[0]? with
   | .builtin .len,some [.ilst _ xs _],some t=>match P.underlying t with
    |some (.slice _) =>some (.int .i64 n,[(xs.length:Int) =n])
    |_=>none
   |_,_,_=>none
  |_=>none
theorem oZ {h:Hp}{tm:T AV}{o:Oper}{a:Ans}{v:AV}{ps:List Prop}(h0:rV P h tm o a=some (v,ps))(hp:∀p∈ps,p) :kL P h tm o=some (.val v h) :=by
 cases a with
 | idx y =>
  simp only [rV]at h0;split at h0
  · rename_i t x i hop;split at h0
    · rename_i e xs ex k n hx hi;cases hc:zY P t e
      case false=>rw [hc]at h0;cases h0
      rw [hc]at h0;simp only [cond]at h0;cases h0;have q0:=hp _ (cQ ..);have q1:=hp _ (cH _ (cQ ..));have hlt:= (zq0.1 q1).1;refine dH ?_ ?_
      ·simp only [hQ,hop,ev2,hx,hi];split<;>simp_all
      ·simp only [vop,hop,ev2,hx,hi,hc,cond,uF q0 (show n< (xs.length:Int)by omega),q1]
    ·cases h0
  · rename_i t a hop;split at h0
    · rename_i b e i k ha;split at h0
      · rename_i e' xs hb;cases hc:beq e' e
        case false=>rw [hc]at h0;cases h0
        rw [hc]at h0;simp only [cond]at h0;split at h0
        · rename_i v' hv;cases h0;have q1:=mem1 hp;refine dH ?_ ?_
          ·simp only [hQ,hop,vQ,ha]
          ·simp only [vop,hop,vQ,ha,hb,hc,cond,q1,val,hv]
        ·cases h0
      ·cases h0
    ·cases h0
  ·cases h0
 | ix =>
  simp only [rV]at h0;split at h0
  · rename_i t x i hop;split at h0
    · rename_i b e off len ex k n hx hi;cases hc:zY P t e
      case false=>rw [hc]at h0;cases h0
      rw [hc]at h0;simp only [cond]at h0;cases h0;have q0:=hp _ (cQ ..);have q1:=hp _ (cH _ (cQ ..));refine dH ?_ ?_
      ·simp only [hQ,hop,ev2,hx,hi];split<;>simp_all
      ·simp only [vop,hop,ev2,hx,hi,hc,cond,uF q0 q1]
    ·cases h0
  ·cases h0
 | ev v0 =>
  simp only [rV]at h0;split at h0
  · rename_i t x lo hi mx hop;split at h0
    · rename_i a l1 l2 l3 hx e1 e2 e3;cases h0;obtain⟨l,u,m',d1,d2,d3,d4| ⟨d4,d5⟩⟩ :=mem1 hp
      ·unfold kL;simp only [hQ,hop,vQ,hx,e1,e2,e3,d1,d2,d3,d4,val]
      · refine dH ?_ ?_
        ·simp only [hQ,hop,vQ,hx,e1,e2,e3,d1,d2,d3,d4,val]
        ·simp only [vop,hop,vQ,hx,e1,e2,e3,d1,d2,d3,d5,val]
    ·cases h0
  · rename_i op t x y yt hop;split at h0
    · rename_i a b hx hy;cases h0;have q:=mem1 hp;unfold kL;simp only [hQ,hop,ev2,hx,hy,q,val]
    ·cases h0
  · rename_i t x i hop;split at h0
    · rename_i l n kk k hx hi;split at h0
      · rename_i hu;cases h0;have q1:=hp _ (cQ ..);have q2:=hp _ (cH _ (cQ ..));have q3:=hp _ (cH _ (cH _ (cQ ..)));unfold kL;simp only [hQ,hop,ev2,hx,hi,hu,uF q1 q2,q3]
      ·cases h0
    ·cases h0
  · rename_i sr d x hop;split at h0
    · rename_i b off len cp ez ex hx;split at h0
      · rename_i e vs hs hd hl;split at h0
        · rename_i hu;cases h0;have q:=mem1 hp;unfold kL;simp only [hQ,hop,vQ,hx,vY,hs,hd,hl,hu,q,val]
        ·cases h0
      ·cases h0
    ·cases h0
  ·cases h0
 | look r =>
  simp only [rV]at h0;split at h0
  · rename_i t x k ok hop;split at h0
    · rename_i b kv hx hk;split at h0
      · rename_i kt et es clock hu hb;split at h0
        · rename_i kd z hkd hz;cases hc:plainKey kd kv
          case false=>rw [hc]at h0;cases h0
          rw [hc]at h0;simp only [cond]at h0;cases h0;have q:=mem1 hp;unfold kL;simp only [hQ,hop,ev2,hx,hk,aD4,hu,hkd,hz,hc,cond,hb,q];cases r with
          |none=>cases ok<;>simp [val,aI3]
          |some p=>obtain⟨i,v⟩ :=p;cases ok<;>simp [val,aI3]
        ·cases h0
      ·cases h0
    ·cases h0
  ·cases h0
 | len n =>
  simp only [rV]at h0;split at h0
  · rename_i c hop;split at h0
    · rename_i e xs ex t hcal hargs ht;split at h0
      · rename_i el hu;cases h0;have q:=mem1 hp;subst q;refine dH ?_ ?_
        ·simp only [hQ,hop,pR,hargs,hcal,fD,ht,aZF,hu]
        ·simp only [vop,hop,hcal,hargs,ht,hu]
      ·cases h0
    ·cases h0
  ·cases h0
inductive RIns where
 |d
 |b (j:Nat) (v:Bool)
 |pure (v:AV)
 |ans (a:Ans)
 |call (v:AV) (h':Hp)
 |st (y y':AV)
 |app (zs:List AV) (n:Nat)
 |mput (es:List (AV×AV×Nat)) (clock:Nat)
 |mval (v:AV) (es:List (AV×AV×Nat)) (clock:Nat)
 |own (v:AV)
def aI4 (P:Program)(h:Hp)(tm:T AV)(o:Oper)(zs:List AV)(n:Nat) :Option (AV×Hp×List Prop) :=
 match o.op with
 | .call c=>match c.callee,iG tm c.args.toList,c.argTypes[0]?,c.argTypes[1]? with
  | .builtin .append,some [d,.ilst e1 ys ex],some st,some xt=>match P.underlying st,P.underlying xt with
   | some (.slice el),some (.slice _) =>match aY P el,P.info? el,zeroOf P el,P.underlying el with
    | some e,some inf,some z,some _=>bif (beq z.cells.length e&&ble e 40&&ble inf.bytes 1000&&ble 1 inf.bytes&&ble 1 e) &&beq e1 e then
      match d with
      | .nils=>some (.gl h.nb e 0 n false,h.new (.lst e zs),[n≤1000000,ys=zs,ys.length=n])
      | .gl b e' off len _=>match h.look b with
       | some (.lst e2 xs) =>bif beq e' e&&beq e2 e then
         some (.gl h.nb e 0 n false,(h.del b).new (.lst e zs),[off+len≤xs.length,n≤1000000,(xs.drop off).take len++ys=zs,len+ys.length=n])else none
       |_=>none
      | .ilst e2 (y::xs) true=>bif beq e2 e then some (.ilst e zs false,h,[keylessL ys=true,(y::xs).length+ys.length≤1000000,y::xs++ys=zs])else none
      |_=>none
      else none
    |_,_,_,_=>none
   |_,_=>none
  |_,_,_,_=>none
 |_=>none
def aI5 (P:Program)(h:Hp)(tm:T AV)(o:Oper)(zs:List AV)(n:Nat) :Option (AV×Hp×List Prop) :=
 match o.op with
 | .call c=>match c.callee,iG tm c.args.toList,c.argTypes[0]?,c.argTypes[1]? with
  | .builtin .append,some [.gl b e' off len _,x],some st,some xt=>match P.underlying st,P.underlying xt with
   | some (.slice el),some (.slice _) =>match aY P el,P.info? el,zeroOf P el with
    | some e,some inf,some z=>bif beq z.cells.length e&&ble e 40&&ble inf.bytes 1000&&ble 1 inf.bytes&&ble 1 e then
      match h.look b,lT P h el e x with
      | some (.lst e2 xs),some ys=>bif beq e' e&&beq e2 e then
         some (.gl h.nb e 0 n false,(h.del b).new (.lst e zs),[off+len≤xs.length,n≤1000000,(xs.drop off).take len++ys=zs,len+ys.length=n])else none
      |_,_=>none
      else none
    |_,_,_=>none
   |_,_=>none
  |_,_,_,_=>none
 |_=>none
def aI6 (P:Program)(h:Hp)(tm:T AV)(o:Oper)(zs:List AV)(n:Nat) :Option (AV×Hp×List Prop) :=
 match o.op with
 | .call c=>match c.callee,iG tm c.args.toList,c.argTypes[0]?,c.argTypes[1]? with
  | .builtin .append,some [d,.gl b2 e1 off2 len2 _],some st,some xt=>match P.underlying st,P.underlying xt with
   | some (.slice el),some (.slice _) =>match aY P el,P.info? el,zeroOf P el,P.underlying el,h.look b2 with
    | some e,some inf,some z,some _,some (.lst e3 ys) =>bif (beq z.cells.length e&&ble e 40&&ble inf.bytes 1000&&ble 1 inf.bytes&&ble 1 e) && (beq e1 e&&beq e3 e)then
      match d with
      | .nils=>some (.gl h.nb e 0 n false,h.new (.lst e zs),[off2+len2≤ys.length,n≤1000000,(ys.drop off2).take len2=zs,len2=n])
      | .gl b e' off len _=>match h.look b with
       | some (.lst e2 xs) =>bif beq e' e&&beq e2 e then
         some (.gl h.nb e 0 n false,(h.del b).new (.lst e zs),[off2+len2≤ys.length,off+len≤xs.length,n≤1000000,(xs.drop off).take len++ (ys.drop off2).take len2=zs,len+len2=n])else none
       |_=>none
      |_=>none
      else none
    |_,_,_,_,_=>none
   |_,_=>none
  |_,_,_,_=>none
 |_=>none
def aI7 (P:Program)(h:Hp)(tm:T AV)(o:Oper)(zs:List AV)(n:Nat) :Option (AV×Hp×List Prop) :=
 match o.op with
 | .call c=>match c.callee,iG tm c.args.toList,c.argTypes[0]?,c.argTypes[1]? with
  | .builtin .append,some [.nils,.int .i64 k],some st,some xt=>match P.underlying st,P.underlying xt with
   | some (.slice el),some (.int _) =>match aY P el,P.info? el,zeroOf P el with
    | some e,some inf,some z=>bif beq z.cells.length e&&ble e 40&&ble inf.bytes 1000&&ble 1 inf.bytes&&ble 1 e then
      some (.slice h.nb 0 n n e false,h.newCells zs,[k= (n:Int),0<n,n<100000,lP z.cells n=zs,dE zs=true])else none
    |_,_,_=>none
   |_,_=>none
  |_,_,_,_=>none
 |_=>none
def aI8 (P:Program)(h:Hp)(tm:T AV)(o:Oper)(zs:List AV)(n:Nat) :Option (AV×Hp×List Prop) :=
 match aI4 P h tm o zs n with
 |some r=>some r
 | none=>match aI6 P h tm o zs n with
  |some r=>some r
  | none=>match aI5 P h tm o zs n with
   |some r=>some r
   |none=>aI7 P h tm o zs n
theorem aVh {h:Hp}{ats:Array TypeId}{e:TypeId}{sz:Nat}{b e1 off len:Nat}{ex:Bool}:aBg P h ats e sz (.gl b e1 off len ex) =none:=by
 unfold aBg;split
 ·rfl
 ·split<;>simp_all
theorem xI {h:Hp}{ats:Array TypeId}{s:AV}{b e1 off len:Nat}{ex:Bool}:aappend P h ats s (.gl b e1 off len ex) =none:=by
 unfold aappend;simp only [aVh]
 repeat' split
 all_goals first|rfl| (simp_all;done)
theorem aHe {h:Hp}{ats:Array TypeId}{b e off len:Nat}{ex:Bool}{x:AV}:aappend P h ats (.gl b e off len ex) x=none:=by
 unfold aappend;simp only [cond_eq_ite]
 repeat' split
 all_goals first|rfl| (split<;>rfl)
theorem aOh {h:Hp}{ats:Array TypeId}{e:TypeId}{sz e1:Nat}{ys:List AV}{ex:Bool}:aBg P h ats e sz (.ilst e1 ys ex) =none:=by
 unfold aBg;split
 ·rfl
 ·split<;>simp_all
theorem oO {h:Hp}{ats:Array TypeId}{s:AV}{e1:Nat}{ys:List AV}{ex:Bool}:aappend P h ats s (.ilst e1 ys ex) =none:=by
 unfold aappend;simp only [aOh]
 repeat' split
 all_goals first|rfl| (simp_all;done)
theorem aHf {h h':Hp}{tm:T AV}{o:Oper}{zs:List AV}{n:Nat}{v:AV}{ps:List Prop}(h0:aI4 P h tm o zs n=some (v,h',ps))(hp:∀p∈ps,p) :kL P h tm o=some (.val v h') :=by
 unfold aI4 at h0;split at h0
 · rename_i c hop;split at h0
   · rename_i d e1 ys ex st xt hcal hargs hst hxt;split at h0
     · rename_i el el' hu hu';split at h0
       · rename_i e inf z dd hsz hinf hz hd;cases hc: (beq z.cells.length e&&ble e 40&&ble inf.bytes 1000&&ble 1 inf.bytes&&ble 1 e)
         case false=>rw [hc]at h0;cases h0
         cases he:beq e1 e
         case false=>rw [hc,he]at h0;cases h0
         rw [hc,he]at h0;simp only [Bool.and_true,cond]at h0;have hadd:lT P h el e (.ilst e1 ys ex) =some ys:=by
          simp only [lT,hd,he,cond]
         split at h0
         · cases h0;have q0:=hp _ (cQ ..);have q1:=hp _ (cH _ (cQ ..));have q2:=hp _ (cH _ (cH _ (cQ ..)));subst q1;subst q2;refine dH ?_ ?_
           ·simp only [hQ,hop,pR,hargs,hcal,fD,oO]
           · simp only [vop,hop,hcal,hargs,kU,hst,hxt,hu,hu',hsz,hinf,hz,hadd,hc,cond,aAA];rw [if_pos q0]
         · rename_i b e' off len ex';split at h0
           · rename_i e2 xs hb;cases hc2: (beq e' e&&beq e2 e)
             case false=>rw [hc2]at h0;cases h0
             rw [hc2]at h0;simp only at h0;cases h0;simp only [cP]at hc2;have ee1:=fQ hc2.1;have ee2:=fQ hc2.2;have y2:=hp _ (cQ ..);have y3:=hp _ (cH _ (cQ ..));have y4:=hp _ (cH _ (cH _ (cQ ..)));have y5:=hp _ (cH _ (cH _ (cH _ (cQ ..))));subst y4 y5;refine dH ?_ ?_
             ·simp only [hQ,hop,pR,hargs,hcal,fD,oO]
             · simp only [vop,hop,hcal,hargs,kU,hst,hxt,hu,hu',hsz,hinf,hz,hadd,hc,cond,hb,aAA];rw [if_pos ⟨ee1,ee2,y2,y3⟩]
           ·cases h0
         · rename_i e2 y xs;cases he2:beq e2 e
           case false=>rw [he2]at h0;cases h0
           rw [he2]at h0;simp only [cond]at h0;cases h0;have q0:=hp _ (cQ ..);have q1:=hp _ (cH _ (cQ ..));have q2:=hp _ (cH _ (cH _ (cQ ..)));subst q2;refine dH ?_ ?_
           ·simp only [hQ,hop,pR,hargs,hcal,fD,oO]
           · simp only [vop,hop,hcal,hargs,kU,hst,hxt,hu,hu',hsz,hinf,hz,hadd,hc,cond,aAA];rw [if_pos ⟨fQ he2,q0,q1⟩]
         ·cases h0
       ·cases h0
     ·cases h0
   ·cases h0
 ·cases h0
theorem aHg {h h':Hp}{tm:T AV}{o:Oper}{zs:List AV}{n:Nat}{v:AV}{ps:List Prop}(h0:aI5 P h tm o zs n=some (v,h',ps))(hp:∀p∈ps,p) :kL P h tm o=some (.val v h') :=by
 unfold aI5 at h0;split at h0
 · rename_i c hop;split at h0
   · rename_i b e' off len ex x st xt hcal hargs hst hxt;split at h0
     · rename_i el el' hu hu';split at h0
       · rename_i e inf z hsz hinf hz;cases hc: (beq z.cells.length e&&ble e 40&&ble inf.bytes 1000&&ble 1 inf.bytes&&ble 1 e)
         case false=>rw [hc]at h0;cases h0
         rw [hc]at h0;simp only [cond]at h0;split at h0
         · rename_i e2 xs ys hb hadd;cases hc2: (beq e' e&&beq e2 e)
           case false=>rw [hc2]at h0;cases h0
           rw [hc2]at h0;simp only at h0;cases h0;simp only [cP]at hc2;have ee1:=fQ hc2.1;have ee2:=fQ hc2.2;have y2:=hp _ (cQ ..);have y3:=hp _ (cH _ (cQ ..));have y4:=hp _ (cH _ (cH _ (cQ ..)));have y5:=hp _ (cH _ (cH _ (cH _ (cQ ..))));subst y4 y5;refine dH ?_ ?_
           ·simp only [hQ,hop,pR,hargs,hcal,fD,aHe]
           · simp only [vop,hop,hcal,hargs,kU,hst,hxt,hu,hu',hsz,hinf,hz,hadd,hc,cond,hb,aAA];rw [if_pos ⟨ee1,ee2,y2,y3⟩]
         ·cases h0
       ·cases h0
     ·cases h0
   ·cases h0
 ·cases h0
theorem aHh {h h':Hp}{tm:T AV}{o:Oper}{zs:List AV}{n:Nat}{v:AV}{ps:List Prop}(h0:aI6 P h tm o zs n=some (v,h',ps))(hp:∀p∈ps,p) :kL P h tm o=some (.val v h') :=by
 unfold aI6 at h0;split at h0
 · rename_i c hop;split at h0
   · rename_i d b2 e1 off2 len2 ex st xt hcal hargs hst hxt;split at h0
     · rename_i el el' hu hu';split at h0
       · rename_i e inf z dd e3 ys hsz hinf hz hd hb2;cases hc: (beq z.cells.length e&&ble e 40&&ble inf.bytes 1000&&ble 1 inf.bytes&&ble 1 e)
         case false=>rw [hc]at h0;cases h0
         cases hc1: (beq e1 e&&beq e3 e)
         case false=>rw [hc,hc1]at h0;cases h0
         rw [hc,hc1]at h0;simp only [Bool.and_self,cond]at h0;simp only [cP]at hc1;have f1:=fQ hc1.1;have f2:=fQ hc1.2;split at h0
         · cases h0;have y1:=hp _ (cQ ..);have y2:=hp _ (cH _ (cQ ..));have y3:=hp _ (cH _ (cH _ (cQ ..)));have y4:=hp _ (cH _ (cH _ (cH _ (cQ ..))));have y5: ((ys.drop off2).take len2).length=n:=by simp;omega
           subst y3;refine dH ?_ ?_
           ·simp only [hQ,hop,pR,hargs,hcal,fD,xI]
           · have ha:lT P h el e (.gl b2 e1 off2 len2 ex) =some ((ys.drop off2).take len2) :=by
              unfold lT;subst f1 f2;simp only [hd,hb2,beq_refl,cond];rw [if_pos ⟨trivial,y1⟩]
             simp only [vop,hop,hcal,hargs,kU,hst,hxt,hu,hu',hsz,hinf,hz,ha,hc,cond,aAA];rw [if_pos (by omega),y5]
         · rename_i b e' off len ex2;split at h0
           · rename_i e2 xs hb;cases hc2: (beq e' e&&beq e2 e)
             case false=>rw [hc2]at h0;cases h0
             rw [hc2]at h0;simp only at h0;cases h0;simp only [cP]at hc2;have ee1:=fQ hc2.1;have ee2:=fQ hc2.2;have y1:=hp _ (cQ ..);have y2:=hp _ (cH _ (cQ ..));have y3:=hp _ (cH _ (cH _ (cQ ..)));have y4:=hp _ (cH _ (cH _ (cH _ (cQ ..))));have y5:=hp _ (cH _ (cH _ (cH _ (cH _ (cQ ..)))));have y6: ((ys.drop off2).take len2).length=len2:=by simp;omega
             subst y4;refine dH ?_ ?_
             ·simp only [hQ,hop,pR,hargs,hcal,fD,xI]
             · have ha:lT P h el e (.gl b2 e1 off2 len2 ex) =some ((ys.drop off2).take len2) :=by
                unfold lT;subst f1 f2;simp only [hd,hb2,beq_refl,cond];rw [if_pos ⟨trivial,y1⟩]
               simp only [vop,hop,hcal,hargs,kU,hst,hxt,hu,hu',hsz,hinf,hz,ha,hc,cond,hb,aAA];rw [if_pos ⟨ee1,ee2,y2,by omega⟩,y6,y5]
           ·cases h0
         ·cases h0
       ·cases h0
     ·cases h0
   ·cases h0
 ·cases h0
theorem aHi {h h':Hp}{tm:T AV}{o:Oper}{zs:List AV}{n:Nat}{v:AV}{ps:List Prop}(h0:aI7 P h tm o zs n=some (v,h',ps))(hp:∀p∈ps,p) :kL P h tm o=some (.val v h') :=by
 unfold aI7 at h0;split at h0
 · rename_i c hop;split at h0
   · rename_i k st xt hcal hargs hst hxt;split at h0
     · rename_i el kk hu hu';split at h0
       · rename_i e inf z hsz hinf hz;cases hc: (beq z.cells.length e&&ble e 40&&ble inf.bytes 1000&&ble 1 inf.bytes&&ble 1 e)
         case false=>rw [hc]at h0;cases h0
         rw [hc]at h0;simp only [cond]at h0;cases h0;have y1:=hp _ (cQ ..);have y2:=hp _ (cH _ (cQ ..));have y3:=hp _ (cH _ (cH _ (cQ ..)));have y4:=hp _ (cH _ (cH _ (cH _ (cQ ..))));have y5:=hp _ (cH _ (cH _ (cH _ (cH _ (cQ ..)))));subst y1 y4;have hc':=hc;simp only [cP]at hc';obtain⟨⟨⟨⟨c1,c2⟩,c3⟩,c4⟩,c5⟩ :=hc';have he:beq e 0=false:=by
          have:=Nat.le_of_ble_eq_true c5;cases q:beq e 0
          case false=>rfl
          have:=fQ q;omega
         have hadd:aBg P h c.argTypes el e (.int .i64 (n:Int)) =some (lP z.cells n,n) :=by
          unfold aBg;rw [hxt];simp only [hu',hz];rw [if_pos ⟨by omega,by omega⟩];simp only [c1,he,Bool.not_false,Bool.and_true,cond,kZ]
         have hn:beq n 0=false:=by
          cases q:beq n 0
          case false=>rfl
          have:=fQ q;omega
         have hb:ble n 1000000=true:=Nat.ble_eq_true_of_le (by omega);unfold kL;have:hQ P h tm o=some (.val (.slice h.nb 0 n n e false) (h.newCells (lP z.cells n))) :=by
          simp only [hQ,hop,pR,hargs,hcal,fD,aappend,hst,hu,hsz,hinf,hz,hadd,c1,c2,c3,c4,c5,y5,hb,hn,Bool.and_self,cond]
         rw [this]
       ·cases h0
     ·cases h0
   ·cases h0
 ·cases h0
theorem aBB {h h':Hp}{tm:T AV}{o:Oper}{zs:List AV}{n:Nat}{v:AV}{ps:List Prop}(h0:aI8 P h tm o zs n=some (v,h',ps))(hp:∀p∈ps,p) :kL P h tm o=some (.val v h') :=by
 unfold aI8 at h0;split at h0
 ·rename_i r hr;cases h0;exact aHf hr hp
 · split at h0
   ·rename_i r hr;cases h0;exact aHh hr hp
   · split at h0
     ·rename_i r hr;cases h0;exact aHg hr hp
     ·exact aHi h0 hp
def aAJ (es:List (AV×AV×Nat))(clock:Nat)(k v:AV) :Option (List (AV×AV×Nat) ×Nat) :=
 match pN k es 0 with
 |some (some (i,_)) =>some (setE k v es i,clock)
 |some none=>some (es++ [(k,v,clock)],Nat.succ clock)
 |none=>none
def aOi (P:Program)(h:Hp)(tm:T AV)(o:Oper)(es':List (AV×AV×Nat))(clock':Nat) :Option (Hp×List Prop) :=
 match o.op with
 | .mapUpdate t m k x=>match bO tm m,bO tm k,bO tm x with
  | some (.map r),some kv,some v=>match P.underlying t,h.look r with
   | some (.map kt _),some (.map es clock) =>match P.underlying kt with
    |some kd=>bif plainKey kd kv then some (h.set r (.map es' clock'),[aAJ es clock kv v=some (es',clock')])else none
    |none=>none
   |_,_=>none
  |_,_,_=>none
 |_=>none
theorem aI9 {h h':Hp}{tm:T AV}{o:Oper}{es':List (AV×AV×Nat)}{clock':Nat}{ps:List Prop}(h0:aOi P h tm o es' clock'=some (h',ps))(hp:∀p∈ps,p) :kL P h tm o=some (.val .undef h') :=by
 unfold aOi at h0;split at h0
 · rename_i t m k x hop;split at h0
   · rename_i r kv v hm hk hx;split at h0
     · rename_i kt et es clock hu hb;split at h0
       · rename_i kd hkd;cases hc:plainKey kd kv
         case false=>rw [hc]at h0;cases h0
         rw [hc]at h0;simp only [cond]at h0;cases h0;have q:=hp _ (cQ ..);unfold aAJ at q;unfold kL;simp only [hQ,hop,ev2,vQ,hm,hk,hx,pO,hu,hkd,hb,hc,cond];split at q
         · rename_i i w hfk;cases q;simp only [hfk,aAd]
         · rename_i hfk;cases q;simp only [hfk,aAd]
         ·cases q
       ·cases h0
     ·cases h0
   ·cases h0
 ·cases h0
def aVi (es:List (AV×AV×Nat))(clock:Nat)(k z:AV) :Option (AV×List (AV×AV×Nat) ×Nat) :=
 match pN k es 0 with
 |some (some (i,v)) =>some (.tup [v,.int .i64 (aEO es i)],setE k v es i,clock)
 |some none=>some (.tup [z,.int .i64 clock],es++ [(k,z,clock)],Nat.succ clock)
 |none=>none
def aOj (P:Program)(h:Hp)(tm:T AV)(o:Oper)(v:AV)(es':List (AV×AV×Nat))(clock':Nat) :Option (Hp×List Prop) :=
 match o.op with
 | .mapEntry t m k=>match bO tm m,bO tm k with
  | some (.map r),some kv=>match P.underlying t,h.look r with
   | some (.map kt et),some (.map es clock) =>match P.underlying kt,zeroOf P et with
    |some kd,some z=>bif plainKey kd kv then some (h.set r (.map es' clock'),[aVi es clock kv z=some (v,es',clock')])else none
    |_,_=>none
   |_,_=>none
  |_,_=>none
 | .entryStore _ m s x=>match bO tm m,bO tm s,bO tm x with
  | some (.map r),some (.int _ n),some xv=>match h.look r with
   |some (.map es clock) =>some (h.set r (.map es' clock'),[0≤n,yM xv n.toNat es=some es',clock=clock',v= .undef])
   |_=>none
  |_,_,_=>none
 |_=>none
theorem aJa {h h':Hp}{tm:T AV}{o:Oper}{v:AV}{es':List (AV×AV×Nat)}{clock':Nat}{ps:List Prop}(h0:aOj P h tm o v es' clock'=some (h',ps))(hp:∀p∈ps,p) :kL P h tm o=some (.val v h') :=by
 unfold aOj at h0;split at h0
 · rename_i t m k hop;split at h0
   · rename_i r kv hm hk;split at h0
     · rename_i kt et es clock hu hb;split at h0
       · rename_i kd z hkd hz;cases hc:plainKey kd kv
         case false=>rw [hc]at h0;cases h0
         rw [hc]at h0;simp only [cond]at h0;cases h0;have q:=hp _ (cQ ..);unfold aVi at q;unfold kL;simp only [hQ,hop,ev2,vQ,hm,hk,yN,hu,hkd,hb,hz,hc,cond];split at q
         · rename_i i w hfk;cases q;simp only [hfk,aAA]
         · rename_i hfk;cases q;simp only [hfk,aAA]
         ·cases q
       ·cases h0
     ·cases h0
   ·cases h0
 · rename_i t m s x hop;split at h0
   · rename_i r kk n xv hm hs hx;split at h0
     · rename_i es clock hb;cases h0;have q0:=hp _ (cQ ..);have q1:=hp _ (cH _ (cQ ..));have q2:=hp _ (cH _ (cH _ (cQ ..)));have q3:=hp _ (cH _ (cH _ (cH _ (cQ ..))));subst q2 q3;unfold kL;simp only [hQ,hop,ev2,vQ,hm,hs,hx,qO];rw [if_pos q0];simp only [hb,q1,aAd]
     ·cases h0
   ·cases h0
 ·cases h0
def aVj (P:Program)(h:Hp)(tm:T AV)(o:Oper)(y y':AV) :Option (Hp×List Prop) :=
 match o.op with
 | .store t a x=>match bO tm a,bO tm x with
  | some (.ep b e i k),some v=>match h.look b,aY P t with
   | some (.lst e' xs),some n=>bif beq e' e&&beq v.cells.length n&&ble (k+n) e&&dE v.cells then
     some (h.set b (.lst e (xs.set i y')),[xs[i]?=some y,kT y k v.cells=some y'])else none
   |_,_=>none
  |_,_=>none
 |_=>none
theorem aLr {h h':Hp}{tm:T AV}{o:Oper}{y y':AV}{ps:List Prop}(h0:aVj P h tm o y y'=some (h',ps))(hp:∀p∈ps,p) :kL P h tm o=some (.val .undef h') :=by
 unfold aVj at h0;split at h0
 · rename_i t a x hop;split at h0
   · rename_i b e i k v ha hx;split at h0
     · rename_i e' xs n hb hn;cases hc: (beq e' e&&beq v.cells.length n&&ble (k+n) e&&dE v.cells)
       case false=>rw [hc]at h0;cases h0
       rw [hc]at h0;simp only [cond]at h0;cases h0;have q0:=hp _ (cQ ..);have q1:=hp _ (cH _ (cQ ..));refine dH ?_ ?_
       ·simp only [hQ,hop,ev2,ha,hx]
       ·simp only [vop,hop,ev2,ha,hx,hb,hn,hc,cond,q0,q1]
     ·cases h0
   ·cases h0
 ·cases h0
abbrev Rec :=Nat×AIn×Hp×AV×Hp
theorem uG {α:Type}{v:α}:∀ (f k:Nat) (t:T α),1≤k→k<2 ^ f→t.get k=some v→T.setF (some v) f k t=t
 |0,k,t,h1,h2,_=>by simp at h2;omega
 |f+1,k,.leaf,_,_,h=>by cases h
 | f +1,k,.node l u r,h1,h2,h=>by
  rw [T.setF_node];rw [T.get_node]at h;have h2':k / 2<2 ^ f:=by rw [Nat.pow_succ]at h2;omega
  by_cases hk:k=1
  ·rw [if_pos hk]at h ⊢;rw [h]
  · rw [if_neg hk]at h ⊢;by_cases hm:k % 2=0
    ·rw [if_pos hm]at h ⊢;rw [uG f (k / 2) l (by omega) h2' h]
    ·rw [if_neg hm]at h ⊢;rw [uG f (k / 2) r (by omega) h2' h]
theorem put_eq {α:Type}{t:T α}{k:Nat}{v:α}(h:t.at k=some v) :t.put k v=t:=
 uG _ _ t (by simp) (by have:=aAE (k+1);simpa using this) h
def fS (P:Program)(nt:Nat)(ops:List Oper)(p:Plan)(i:RIns)(r:RS) :Option (RS×List Prop×List Rec) :=
 match i with
 | .d=>match lW P pW nt ops p r with
  |some r'=>some (r',[],[])
  |none=>none
 | .b _ _=>none
 | .pure v=>match bU r.tm ops p.o,p.kd with
  | some true,.eff=>
   match kL P (aO r.h r.s r.pend) r.tm p.o with
   | some (.call (.enter f args)) =>match iR r.tm nt p.o.dst v with
    |some tm=>some ({r with tm,h:=aO r.h r.s r.pend,stages:=r.h::r.stages,s:=Nat.succ r.s},[aM P f args v],[(r.s,.enter f args,aO r.h r.s r.pend,v,aO r.h r.s r.pend)])
    |none=>none
   |_=>none
  |_,_=>none
 | .ans a=>match bU r.tm ops p.o,p.kd with
  | some true,.pure=>match rV P r.h r.tm p.o a with
   | some (v,ps) =>match iR r.tm nt p.o.dst v with
    |some tm=>some ({r with tm},ps,[])
    |none=>none
   |none=>none
  | some true,.read=>match rV P r.h r.tm p.o a with
   | some (v,ps) =>match iR r.tm nt p.o.dst v with
    |some tm=>some ({r with tm,again:=bif beq p.lo p.hi then r.again else⟨p.o,r.tm,p.lo,p.hi,v⟩ ::r.again},ps,[])
    |none=>none
   |none=>none
  |_,_=>none
 | .call v h'=>match bU r.tm ops p.o,p.kd with
  | some true,.eff=>
   match kL P (aO r.h r.s r.pend) r.tm p.o with
   | some (.call c) =>match iR r.tm nt p.o.dst v with
    |some tm=>some ({r with tm,h:=h',stages:=r.h::r.stages,s:=Nat.succ r.s},[Spec P c (aO r.h r.s r.pend) (.ret v) h'],[(r.s,c,aO r.h r.s r.pend,v,h')])
    |none=>none
   |_=>none
  |_,_=>none
 | .st y y'=>match bU r.tm ops p.o,p.kd with
  | some true,.eff=>
   match aVj P (aO r.h r.s r.pend) r.tm p.o y y' with
   | some (h',ps) =>match iR r.tm nt p.o.dst .undef with
    |some tm=>some ({r with tm,h:=h',stages:=r.h::r.stages,s:=Nat.succ r.s},ps,[])
    |none=>none
   |none=>none
  |_,_=>none
 | .mput es c=>match bU r.tm ops p.o,p.kd with
  | some true,.eff=>
   match aOi P (aO r.h r.s r.pend) r.tm p.o es c with
   | some (h',ps) =>match iR r.tm nt p.o.dst .undef with
    |some tm=>some ({r with tm,h:=h',stages:=r.h::r.stages,s:=Nat.succ r.s},ps,[])
    |none=>none
   |none=>none
  |_,_=>none
 | .mval v es c=>match bU r.tm ops p.o,p.kd with
  | some true,.eff=>
   match aOj P (aO r.h r.s r.pend) r.tm p.o v es c with
   | some (h',ps) =>match iR r.tm nt p.o.dst v with
    |some tm=>some ({r with tm,h:=h',stages:=r.h::r.stages,s:=Nat.succ r.s},ps,[])
    |none=>none
   |none=>none
  |_,_=>none
 | .app zs n=>match bU r.tm ops p.o,p.kd with
  | some true,.eff=>
   match aI8 P (aO r.h r.s r.pend) r.tm p.o zs n with
   | some (v,h',ps) =>match iR r.tm nt p.o.dst v with
    |some tm=>some ({r with tm,h:=h',stages:=r.h::r.stages,s:=Nat.succ r.s},ps,[])
    |none=>none
   |none=>none
  |_,_=>none
 | .own v=>match bU r.tm ops p.o,p.kd with
  | some true,.read=>
   match kL P r.h r.tm p.o,sE P r.tm r.pend p.hi p.o with
   | none,some vs=>match iR r.tm nt p.o.dst v with
    |some tm=>some ({r with tm},[sD vs=some v],[])
    |none=>none
   |_,_=>none
  |_,_=>none
def iK (P:Program)(nt:Nat)(ops:List Oper) :List RIns→List Plan→RS→Option (RS×List Prop×List Rec)
 | [],[],r=>some (r,[],[])
 | .b j v::is,ps,r=>match r.tm.at j with
  | some (.bool b) =>match iK P nt ops is ps {r with tm:=r.tm.put j (.bool v)} with
   |some (r',qs,rs) =>some (r',(b=v) ::qs,rs)
   |none=>none
  |_=>none
 | i::is,p::ps,r=>match fS P nt ops p i r with
  |none=>none
  | some (r1,qs,rs) =>match iK P nt ops is ps r1 with
   |none=>none
   |some (r2,qs2,rs2) =>some (r2,qs++qs2,rs++rs2)
 |_,_,_=>none
def keysOf :List Rec→List Nat
 | [] =>[]
 |r::rs=>r.1::keysOf rs
def aFi :List Nat→Bool
 | [] =>true
 |k::ks=> !(wC k ks) &&aFi ks
def aJb (P:Program)(a:Again)(h:Hp) :Option Ans→List Prop
 | none=>[match kL P h a.tm a.o with
  |some (.val v _) =>v=a.v
  |_=>False]
 | some an=>match rV P h a.tm a.o an with
  |some (v,ps) => (v=a.v) ::ps
  |none=>[False]
def lN (P:Program)(a:Again)(oa:Option Ans) :List Hp→Nat→List Prop
 | [],_=>[]
 | h::hs,k=>bif ble a.lo k&&ble k a.hi then aJb P a h oa++lN P a oa hs (k-1)
  else lN P a oa hs (k-1)
def yV (P:Program)(hs:List Hp)(k:Nat) :List Again→List (Option Ans) →List Prop
 | [],_=>[]
 |a::aS,[] =>lN P a none hs k++yV P hs k aS []
 |a::aS,oa::os=>lN P a oa hs k++yV P hs k aS os
theorem aJc {a:Again}{h:Hp}{oa:Option Ans}(h0:∀p∈aJb P a h oa,p) :∃hx,kL P h a.tm a.o=some (.val a.v hx) :=by
 cases oa with
 | none=>
  have:=h0 _ (mem_singleton_self _);split at this
  ·rename_i v hx hv;exact⟨hx,by rw [hv,this]⟩
  ·exact this.elim
 | some an=>
  simp only [aJb]at h0;split at h0
  · rename_i v ps hv;have e:v=a.v:=h0 _ (cQ ..);subst e;exact⟨h,oZ hv (fun p hp=>h0 p (cH _ hp))⟩
  ·exact(h0 _ (mem_singleton_self _)).elim
theorem mZ {a:Again}{oa:Option Ans}:∀ {hs:List Hp} {k:Nat},(∀p∈lN P a oa hs k,p) →∀ (x:Nat) (h:Hp),hs[x]?=some h→x≤k→a.lo≤k-x→k-x≤a.hi→∃hx,kL P h a.tm a.o=some (.val a.v hx)
 | [],k,_,x,h,hx,_,_,_=>by simp at hx
 | y::ys,k,h0,x,h,hx,hk,h1,h2=>by
  simp only [lN]at h0;cases x with
  | zero=>
   simp at hx;subst hx;rw [Nat.sub_zero]at h1 h2;simp only [jF,h1,h2,decide_true,Bool.and_self,cond]at h0;exact aJc (fun p hp=>h0 p (aEP _ hp))
  | succ x=>
   have hx':ys[x]?=some h:=by simpa using hx
   refine mZ (oa:=oa) (k:=k-1) (fun p hp=>h0 p ?_) x h hx' (by omega) (by omega) (by omega);cases (ble a.lo k&&ble k a.hi)
   case true=>exact aIy _ hp
   exact hp
theorem uH {hs:List Hp}{k:Nat}:∀ {aS:List Again} {os:List (Option Ans)},(∀p∈yV P hs k aS os,p) →yU P hs k aS
 | [],_,_=>fun a ha=>by cases ha
 | b::aS,[],h0=>fun a ha=>by
  simp only [yV]at h0;cases ha with
  |head=>exact mZ (fun p hp=>h0 p (aEP _ hp))
  |tail _ ha=>exact uH (os:=[]) (fun p hp=>h0 p (aIy _ hp)) a ha
 | b::aS,oa::os,h0=>fun a ha=>by
  simp only [yV]at h0;cases ha with
  |head=>exact mZ (fun p hp=>h0 p (aEP _ hp))
  |tail _ ha=>exact uH (os:=os) (fun p hp=>h0 p (aIy _ hp)) a ha
def aD8 (P:Program)(nt:Nat)(ops:Array Oper)(tm:T AV)(h:Hp)(is:List RIns)(os:List (Option Ans)) :Option (T AV×Hp×List Prop) :=
 let pl:=kM ops
 bif pl.ok then
  match iK P nt pl.ops is pl.plans {tm,h:={h with nb:=h.nb+pl.fresh},stages:=[],s:=0,pend:=[],next:=h.nb,again:=[]} with
  | some (r,ps,rs) =>bif aFi (keysOf rs)then
    some (r.tm,aO r.h r.s r.pend,ps++yV P (r.h::r.stages) r.s r.again os)else none
  |none=>none
 else none
open Classical in
def aLs (rs:List Rec) :bP:=fun k c h=>match rs.find? (fun r=>beq r.1 k)with
 |some r=>if r.2.1=c∧r.2.2.1=h then some r.2.2.2 else none
 |none=>none
theorem aHG :∀ {rs:List Rec},aFi (keysOf rs) =true→∀r∈rs,aLs rs r.1 r.2.1 r.2.2.1=some r.2.2.2
 | r0 ::rs,hn,r,hr=>by
  simp only [keysOf,aFi,cP,Bool.not_eq_true']at hn;unfold aLs;rw [List.find?_cons];rcases zq7.1 hr with rfl|hr'
  ·simp
  · have hne:beq r0.1 r.1=false:=by
     cases hb:beq r0.1 r.1
     case false=>rfl
     have e:=fQ hb;exfalso;have:wC r0.1 (keysOf rs) =true:=by
      rw [e];clear hn hr hb e
      induction rs with
      |nil=>cases hr'
      | cons x xs ih=>
       simp only [keysOf,wC,Bool.or_eq_true];rcases zq7.1 hr' with rfl|h
       ·exact .inl (by simp)
       ·exact .inr (ih h)
     rw [this]at hn;cases hn.1
    rw [hne];exact aHG hn.2 r hr'
theorem aLt {rs:List Rec}(h0:∀r∈rs,Spec P r.2.1 r.2.2.1 (.ret r.2.2.2.1) r.2.2.2.2) :eP P (aLs rs) :=fun k c h v h' e=>by
 unfold aLs at e;split at e
 · rename_i r hr;split at e
   · rename_i hc;obtain⟨rfl,rfl⟩ :=hc;have:=h0 r (List.mem_of_find?_eq_some hr);simp only [Option.some.injEq]at e;rw [e]at this;exact this.sound
   ·cases e
 ·cases e
theorem aJd {call:bP}{nt:Nat}{ops:List Oper}{p:Plan}{r r':RS}(h0:lW P pW nt ops p r=some r') :lW P call nt ops p r=some r':=by
 unfold lW at h0 ⊢;split at h0
 ·cases h0
 ·rename_i hw;exact h0
 · rename_i hw;split at h0
   ·exact h0
   ·exact h0
   ·exact h0
   · simp only at h0 ⊢;split at h0
     ·exact h0
     · rename_i c hv;simp only [pW]at h0;cases h0
     ·cases h0
theorem aJe {call:bP}{nt:Nat}{ops:List Oper}{p:Plan}{i:RIns}{r r':RS}{ps:List Prop}{rs:List Rec}(h0:fS P nt ops p i r=some (r',ps,rs))(hp:∀q∈ps,q)(hc:∀x∈rs,call x.1 x.2.1 x.2.2.1=some x.2.2.2) :lW P call nt ops p r=some r':=by
 cases i with
 | d=>
  simp only [fS]at h0;split at h0
  ·rename_i r1 h1;cases h0;exact aJd h1
  ·cases h0
 |b j v=>cases h0
 | pure v=>
  simp only [fS]at h0;split at h0
  · rename_i hw hk;split at h0
    · rename_i f args ha;split at h0
      · rename_i tm htm;cases h0;have:=hc _ (mem_singleton_self _);simp only at this;simp only [lW,hw,hk,ha,this,htm]
      ·cases h0
    ·cases h0
  ·cases h0
 | ans a =>
  simp only [fS]at h0;split at h0
  · rename_i hw hk;split at h0
    · rename_i v qs hv;split at h0
      · rename_i tm htm;cases h0;simp only [lW,hw,hk,oZ hv hp,htm]
      ·cases h0
    ·cases h0
  · rename_i hw hk;split at h0
    · rename_i v qs hv;split at h0
      · rename_i tm htm;cases h0;simp only [lW,hw,hk,oZ hv hp,htm]
      ·cases h0
    ·cases h0
  ·cases h0
 | call v h'=>
  simp only [fS]at h0;split at h0
  · rename_i hw hk;split at h0
    · rename_i c ha;split at h0
      · rename_i tm htm;cases h0;have:=hc _ (mem_singleton_self _);simp only at this;simp only [lW,hw,hk,ha,this,htm]
      ·cases h0
    ·cases h0
  ·cases h0
 | st y y'=>
  simp only [fS]at h0;split at h0
  · rename_i hw hk;split at h0
    · rename_i h' qs hv;split at h0
      · rename_i tm htm;cases h0;simp only [lW,hw,hk,aLr hv hp,htm]
      ·cases h0
    ·cases h0
  ·cases h0
 | mput es c=>
  simp only [fS]at h0;split at h0
  · rename_i hw hk;split at h0
    · rename_i h' qs hv;split at h0
      · rename_i tm htm;cases h0;simp only [lW,hw,hk,aI9 hv hp,htm]
      ·cases h0
    ·cases h0
  ·cases h0
 | mval v es c=>
  simp only [fS]at h0;split at h0
  · rename_i hw hk;split at h0
    · rename_i h' qs hv;split at h0
      · rename_i tm htm;cases h0;simp only [lW,hw,hk,aJa hv hp,htm]
      ·cases h0
    ·cases h0
  ·cases h0
 | app zs n=>
  simp only [fS]at h0;split at h0
  · rename_i hw hk;split at h0
    · rename_i v h' qs hv;split at h0
      · rename_i tm htm;cases h0;simp only [lW,hw,hk,aBB hv hp,htm]
      ·cases h0
    ·cases h0
  ·cases h0
 | own v =>
  simp only [fS]at h0;split at h0
  · rename_i hw hk;split at h0
    · rename_i vs ha hvs;split at h0
      · rename_i tm htm;cases h0;simp only [lW,hw,hk,ha,hvs,mem1 hp,htm]
      ·cases h0
    ·cases h0
  ·cases h0
theorem rW {call:bP}{nt:Nat}{ops:List Oper}:∀ {is:List RIns} {pl:List Plan} {r r':RS} {ps:List Prop} {rs:List Rec},iK P nt ops is pl r=some (r',ps,rs) → (∀q∈ps,q) → (∀x∈rs,call x.1 x.2.1 x.2.2.1=some x.2.2.2) →oK P call nt ops pl r=some r'
 | [],[],r,r',ps,rs,h0,_,_=>by simp only [iK]at h0;cases h0;rfl
 | [],_::_,_,_,_,_,h0,_,_=>by simp [iK]at h0
 | i :: is,pl,r,r',ps,rs,h0,hp,hc=>by
  by_cases hb:∃j v,i= .b j v
  · obtain⟨j,v,rfl⟩ :=hb;simp only [iK]at h0;split at h0
    · rename_i b hj;split at h0
      · rename_i r1 qs rs1 h1;cases h0;have:=mem1 hp;subst this;rw [put_eq hj]at h1;exact rW h1 (fun q hq=>hp q (cH _ hq)) hc
      ·cases h0
    ·cases h0
  · cases pl with
    |nil=>cases i<;>simp [iK]at h0<;>exact absurd ⟨_,_,rfl⟩ hb
    | cons p pl=>
     have h0': (match fS P nt ops p i r with
      |none=>none
      | some (r1,qs,rs) =>match iK P nt ops is pl r1 with
       |none=>none
       |some (r2,qs2,rs2) =>some (r2,qs++qs2,rs++rs2)) =some (r',ps,rs) :=by
      cases i<;>first|exact h0|exact absurd ⟨_,_,rfl⟩ hb
     split at h0'
     ·cases h0'
     · rename_i r1 qs rs1 h1;split at h0'
       ·cases h0'
       · rename_i r2 qs2 rs2 h2;cases h0';simp only [oK,aJe (call:=call) h1 (fun q hq=>hp q (aEP _ hq)) (fun x hx=>hc x (aEP _ hx))];exact rW h2 (fun q hq=>hp q (aIy _ hq)) (fun x hx=>hc x (aIy _ hx))
theorem uI {nt:Nat}{ops:List Oper}:∀ {is:List RIns} {pl:List Plan} {r r':RS} {ps:List Prop} {rs:List Rec},iK P nt ops is pl r=some (r',ps,rs) → (∀q∈ps,q) →∀x∈rs,Spec P x.2.1 x.2.2.1 (.ret x.2.2.2.1) x.2.2.2.2
 | [],[],r,r',ps,rs,h0,_=>by simp only [iK]at h0;cases h0;intro x hx;cases hx
 | [],_::_,_,_,_,_,h0,_=>by simp [iK]at h0
 | i :: is, pl, r, r',ps,rs,h0,hp=>by
  by_cases hb:∃j v,i= .b j v
  · obtain⟨j,v,rfl⟩ :=hb;simp only [iK]at h0;split at h0
    · split at h0
      · rename_i r1 qs rs1 h1;cases h0;exact uI h1 (fun q hq=>hp q (cH _ hq))
      ·cases h0
    ·cases h0
  · cases pl with
    |nil=>cases i<;>simp [iK]at h0<;>exact absurd ⟨_,_,rfl⟩ hb
    | cons p pl =>
     have h0': (match fS P nt ops p i r with
      |none=>none
      | some (r1,qs,rs) =>match iK P nt ops is pl r1 with
       |none=>none
       |some (r2,qs2,rs2) =>some (r2,qs++qs2,rs++rs2)) =some (r',ps,rs) :=by
      cases i<;>first|exact h0|exact absurd ⟨_,_,rfl⟩ hb
     split at h0'
     ·cases h0'
     · rename_i r1 qs rs1 h1;split at h0'
       ·cases h0'
       · rename_i r2 qs2 rs2 h2;cases h0';intro x hx;rcases zq28.1 hx with g|g
         · cases i with
           | d=>
            simp only [fS]at h1;split at h1
            ·cases h1;cases g
            ·cases h1
           |b j v=>cases h1
           | pure v=>
            simp only [fS]at h1;split at h1
            · split at h1
              · rename_i f args ha;split at h1
                · cases h1;rw [zq32]at g;subst g;exact hp _ (aEP _ (mem_singleton_self _)) _
                ·cases h1
              ·cases h1
            ·cases h1
           | ans a=>
            simp only [fS]at h1;split at h1
            · split at h1
              · split at h1
                ·cases h1;cases g
                ·cases h1
              ·cases h1
            · split at h1
              · split at h1
                ·cases h1;cases g
                ·cases h1
              ·cases h1
            ·cases h1
           | call v h'=>
            simp only [fS]at h1;split at h1
            · split at h1
              · rename_i c ha;split at h1
                · cases h1;rw [zq32]at g;subst g;exact hp _ (aEP _ (mem_singleton_self _))
                ·cases h1
              ·cases h1
            ·cases h1
           | app zs n=>
            simp only [fS]at h1;split at h1
            · split at h1
              · split at h1
                ·cases h1;cases g
                ·cases h1
              ·cases h1
            ·cases h1
           | mval v es c=>
            simp only [fS]at h1;split at h1
            · split at h1
              · split at h1
                ·cases h1;cases g
                ·cases h1
              ·cases h1
            ·cases h1
           | mput es c=>
            simp only [fS]at h1;split at h1
            · split at h1
              · split at h1
                ·cases h1;cases g
                ·cases h1
              ·cases h1
            ·cases h1
           | own v=>
            simp only [fS]at h1;split at h1
            · split at h1
              · split at h1
                ·cases h1;cases g
                ·cases h1
              ·cases h1
            ·cases h1
           | st y y'=>
            simp only [fS]at h1;split at h1
            · split at h1
              · split at h1
                ·cases h1;cases g
                ·cases h1
              ·cases h1
            ·cases h1
         ·exact uI h2 (fun q hq=>hp q (aIy _ hq)) x g
theorem aBC {m:Nat}{s:AS}{id:Nat}{ops:Array Oper}{k:List AItem}(hm:s.fr.mode= .run)(htd:s.fr.todo= .code (.region id ops true) ::k){is:List RIns}{os:List (Option Ans)}{tm:T AV}{h':Hp}{ps:List Prop}(h0:aD8 P s.fr.nt ops s.fr.tm s.h is os=some (tm,h',ps))(hp:∀p∈ps,p) :
  LeadsM P m s ⟨{s.fr with tm,todo:=k},s.cs,h'⟩ :=by
 unfold aD8 at h0;simp only at h0;cases hok: (kM ops).ok
 case false=>rw [hok]at h0;cases h0
 rw [hok]at h0;simp only [cond]at h0;split at h0
 · rename_i r qs rs hr;cases hn:aFi (keysOf rs)
   case false=>rw [hn]at h0;cases h0
   rw [hn]at h0;simp only at h0;cases h0;have hq:∀q∈qs,q:=fun q hq=>hp q (aEP _ hq);have hst:=rW (call:=aLs rs) hr hq (aHG hn);have hck:yU P (r.h::r.stages) r.s r.again:=uH (fun q hq=>hp q (aIy _ hq));intro hm0 E fr ccs w base f fs rl;obtain⟨afr,cs,h⟩ :=s;simp only at hm htd hr hst f fs rl ⊢;have e:=f.run hm;generalize fr.fn=fn at e;generalize fr.tmps=tmps at e;generalize fr.todo=todo at e;generalize fr.defers=ds at e;generalize fr.kind=kd at e;generalize fr.roundOf=ro at e;subst e;have ft:=f.todo;simp only [htd]at ft;obtain⟨i,ck,e1,i1,i2⟩ :=ft.cons_inv;subst e1;simp only [IR]at i1;subst i1;obtain⟨E',w',tmps',s1,t1,r1,x1⟩ :=aAo (aLt (uI hr hq)) hok hst hck rl f.tm id fn ds kd ro ck (ccs++base);exact⟨E',_,ccs,w',s1,⟨f.fn,t1,i2.mono x1.le,f.defers.mono x1.le,by simp only [hm];exact rfl,f.kind,f.round.mono x1.le⟩,fs.mono x1.le,r1,x1.toM hm0⟩
 ·cases h0
theorem aBD :∀ (l:List AV) (t:T AV) (i:Nat),(∀j,j<l.length→t.at (i+j) =l[j]?) →getCells t i l.length=some l
 | [],_,_,_=>rfl
 | a::aS,t,i,h=>by
  have h0:=h 0 (by simp);simp only [Nat.add_zero,jK]at h0;simp only [mO,getCells,h0]
  rw [aBD aS t (Nat.succ i) (fun j hj=>by
   have:=h (j+1) (by simp;omega);rw [show Nat.succ i+j=i+ (j+1)by omega,this];simp)]
theorem aFj (g:Bool){zc:List AV}{e:Nat}(he:zc.length=e) :∀n,vR g e n (lP zc n) =replicate n (bif g then .agg zc else zc.headD .undef)
 |0=>rfl
 | n+1=>by
  have h1: (zc++lP zc n).take e=zc:=by rw [←he,List.take_left]
  have h2: (zc++lP zc n).drop e=lP zc n:=by rw [←he,List.drop_left]
  rw [lP,vR,h1,h2,aFj g he n,List.replicate_succ];congr 1;cases g
  case true=>rfl
  have rn:∀n,lP ([] :List AV) n= [] :=fun n=>by
   induction n with
   |zero=>rfl
   |succ n ih=>simpa [lP]using ih
  cases zc with
  |nil=>simp [rn]
  |cons z zs=>rfl
theorem aDs {zc:List AV}(h:dE zc=true) :∀n,dE (lP zc n) =true
 |0=>rfl
 | n +1=>by
  have app:∀ (xs ys:List AV),dE xs=true→dE ys=true→dE (xs++ys) =true:=by
   intro xs
   induction xs with
   |nil=>intro ys _ h;exact h
   | cons x xs ih=>
    intro ys h1 h2;simp only [dE,cP]at h1;simp only [vV,dE,cP];exact⟨h1.1,ih ys h1.2 h2⟩
  exact app _ _ h (aDs h n)
end
section
variable {P :Program}
theorem aRa {E:Emb}{h:Hp}{H:Array Obj}(r:Rel E h H){b e:Nat}{u:Value}{xs:List AV}(hb:h.look b=some (.lstv u e xs)) :VR E (.gl b e 0 xs.length false) u:=by
 obtain⟨L,hE,C,l,k,j,m,n,o,i,a,c,f,g,d⟩ :=r.obj b _ hb;simp only [VR];exact .inr ⟨L,a,c,hE,f,g,fun e=> (by cases e),fun hc=>by have:=d hc;exact⟨by omega,this.2⟩⟩
theorem Rel.unview {E:Emb}{h:Hp}{H:Array Obj}(r:Rel E h H){b e:Nat}{u:Value}{xs:List AV}(hb:h.look b=some (.lstv u e xs)) :Rel E (h.set b (.lst e xs)) H:=
 r.reobj hb rfl (fun L j=>by
  obtain⟨C,g,d,c,f,i,k,a,_⟩ :=r.objL hb j;exact⟨C,g,d,c,f,i,k,a⟩) rfl rfl rfl
theorem aFk {m:Nat}{h:Hp}{b e o l:Nat}:m≤h.nb→oS m h h (.gl b e o l true) (.gl b e o l false) :=fun hm E w r=>
 ⟨E,Emb.le.refl E,r,ExtM.refl hm,fun k f=>by
  simp only [VR]at f ⊢;rcases f with c| ⟨L,a,d,c,j,g,_,i⟩
  ·exact .inl c
  ·exact .inr ⟨L,a,d,c,j,g,(fun e=>by cases e),i⟩⟩
theorem aLu {m:Nat}{h:Hp}{e:Nat}{xs:List AV}:m≤h.nb→oS m h h (.ilst e xs true) (.ilst e xs false) :=fun hm E w r=>
 ⟨E,Emb.le.refl E,r,ExtM.refl hm,fun t g=>by
  simp only [VR]at g ⊢;obtain⟨p,l,q,i⟩ :=g;refine⟨p,l,q,?_⟩;rcases i with⟨c,a,n,d,b,j⟩ | ⟨k,o,f,C,c,d,b,j,s⟩
  ·exact .inl ⟨c,a,n,d,b,(fun e=>by cases e)⟩
  ·exact .inr ⟨k,o,f,C,c,d,b,(fun e=>by cases e),s⟩⟩
theorem aBE {m:Nat}{h:Hp}{b e:Nat}{u:Value}{xs:List AV}(hb:h.look b=some (.lstv u e xs)) :m≤h.nb→oS m h (h.set b (.lst e xs)) (.val u) (.gl b e 0 xs.length false) :=fun hm E w r=>
 ⟨E,Emb.le.refl E,r.unview hb,jZ (ExtM.refl hm) hb,fun c a=>by
  simp only [VR]at a;subst a;exact aRa r hb⟩
theorem aVk {m:Nat}{E E':Emb}{h h1 h2:Hp}{w w':World}(x:ExtM m E h w E' h1 w')(c:∀b o,h2.look b=some o→h1.look b=some o)(f:h2.nb=h1.nb) :ExtM m E h w E' h2 w':=
 ⟨x.low,x.imm,x.size,x.keep,fun g i d e k a=>x.own g i d (c _ _ e) k a,by rw [f];exact x.nb,x.os,x.tape,x.output,x.froz,x.immo,fun b o e hb=>x.keys b o (c _ _ e) hb⟩
theorem aOk {m:Nat}{fr:AFrame}{cs:List AFrame}{h:Hp}{b e o j:Nat}{u:Value}{xs c ys:List AV}(hb:h.look b=some (.lstv u e xs))(N:h.look o=some (.lst j c))(l:o≠b)(hz:c≠ [])(hk:keylessL xs=true)
  (I:∀ (E:Emb) (g:List Value),VR E (.ilst e xs false) u→VRs E c g→VRs E ys g) :LeadsM P m ⟨fr,cs,h⟩ ⟨fr,cs,(h.del b).set o (.lst j ys)⟩ :=fun hm E y q w s f fs r=>by
 have R:=r.unview hb;have p: (h.set b (.lst e xs)).look b=some (.lst e xs) :=by rw [aZ,if_pos rfl]
 have n:frzOk b e xs xs (.gl b e 0 xs.length false) :=by
  simp only [frzOk];intro _;simp
 obtain⟨d,i,D,G,O⟩ :=sN (m:=m) p hk n hm E w R;have B:VR d (.ilst e xs false) u:=by
  have:=O u (by
   have:=aRa r hb;exact this)
  simpa [AV.frz]using this
 have same:∀x ob,(h.del b).look x=some ob→ ((h.set b (.lst e xs)).del b).look x=some ob:=fun x ob e=>by
  rw [lZ]at e ⊢;split at e
  ·cases e
  ·rename_i t;rw [if_neg t,aZ,if_neg t];exact e
 have v:Rel d (h.del b) w.heap:=D.sub same (le_refl _);have A:ExtM m E h w d (h.del b) w:=aVk ((jZ (ExtM.refl hm) hb).trans G) same rfl;have a: (h.del b).look o=some (.lst j c) :=by rw [lZ,if_neg l];exact N
 have k:kN (.lst j c) =false:=by
  cases c with
  |nil=>exact absurd rfl hz
  |cons _ _=>rfl
 refine⟨d,y,q,w,Steps.refl _ _,f.mono i,fs.mono i,v.reobj a k (fun L Q=>?_) rfl rfl rfl,jZ A a⟩;obtain⟨C,K,g,H,J,F,M,z⟩ :=v.objL a Q;exact⟨C,K,g,H,J,I d g B F,M,z⟩
theorem aVl {m:Nat}{fr:AFrame}{cs:List AFrame}{h:Hp}{b e:Nat}{xs ys:List AV}(hb:h.look b=some (.lst e xs))(hz:xs≠ [])
  (l:∀ (E:Emb) (a:List Value),VRs E xs a→VRs E ys a) :LeadsM P m ⟨fr,cs,h⟩ ⟨fr,cs,h.set b (.lst e ys)⟩ :=fun hm E i d w g f fs r=>by
 have c:kN (.lst e xs) =false:=by
  cases xs with
  |nil=>exact absurd rfl hz
  |cons _ _=>rfl
 refine⟨E,i,d,w,Steps.refl _ _,f,fs,r.reobj hb c (fun L s=>?_) rfl rfl rfl,jZ (ExtM.refl hm) hb⟩;obtain⟨C,o,a,k,n,q,p,j⟩ :=r.objL hb s;exact⟨C,o,a,k,n,l E a q,p,j⟩
theorem aSz {m:Nat}{fr:AFrame}{cs:List AFrame}{h:Hp}{j b e n:Nat}{ex:Bool}{xs:List AV}{k:Res}{h':Hp}(S:fr.tm.at j=some (.gl b e 0 n ex))(hb:h.look b=some (.lst e xs))(s:xs.length=n)(Y:0<n)
  (hk:∀y u q,Ends P m ⟨{fr with tm:=fr.tm.put j (.val (Value.slice y u q))},cs,h.set b (.lstv (Value.slice y u q) e xs)⟩ k h') :Ends P m ⟨fr,cs,h⟩ k h':=fun hm E cf o w f fs r A i=>by
 obtain⟨cv,B,x⟩ :=f.tm.2 _ _ S;simp only [VR]at x;rcases x with⟨z,_⟩ | ⟨L,a,c,hE,rfl,Z,_,R⟩
 ·omega
 · have p:kN (.lst e xs) =false:=by
    cases xs with
    |nil=>simp at s;omega
    |cons _ _=>rfl
   have G:FR E {fr with tm:=fr.tm.put j (.val (.slice (some ⟨L.blk,a,none⟩) n c))} cf:=by
    refine⟨f.fn,⟨f.tm.1,fun t v e=>?_⟩,f.todo,f.defers,f.mode,f.kind,f.round⟩;rw [T.at_put]at e;split at e
    · rename_i M;cases e;subst M;exact⟨_,B,by simp only [VR]⟩
    ·exact f.tm.2 t v e
   have U:Rel E (h.set b (.lstv (.slice (some ⟨L.blk,a,none⟩) n c) e xs)) w.heap:=r.reobj hb p (fun L' d=>by
    obtain⟨C,W,I,Q,V,K,X,F⟩ :=r.objL hb d;rw [hE]at d;cases d;exact⟨C,W,I,Q,V,K,X,F,a,c,by rw [s],by omega,fun hc=>by have:=R hc;exact⟨by omega,this.2⟩⟩) rfl rfl rfl
   obtain⟨l,D,H,N,g,J,O⟩ :=hk _ _ _ hm E cf o w G fs U A i;exact⟨l,D,H,N,g,J,(jZ (ExtM.refl hm) hb).trans O⟩
theorem aVm {m:Nat}{fr:AFrame}{cs:List AFrame}{h:Hp}{j e:Nat}{ex:Bool}{xs:List AV}{g:Res}{h':Hp}(A:fr.tm.at j=some (.ilst e xs ex))
  (h1:xs= [] →Ends P m ⟨{fr with tm:=fr.tm.put j .nils},cs,h⟩ g h')
  (h2:∀a n c,Ends P m ⟨{fr with tm:=fr.tm.put j (.val (.slice (some a) n c))},cs,h⟩ g h') :Ends P m ⟨fr,cs,h⟩ g h':=fun hm E cf i w f fs r l b=>by
 obtain⟨F,p,o⟩ :=f.tm.2 _ _ A
 have put:∀ {v:AV},VR E v F→FR E {fr with tm:=fr.tm.put j v} cf:=fun {v} hv=>by
  refine⟨f.fn,⟨f.tm.1,fun t q e=>?_⟩,f.todo,f.defers,f.mode,f.kind,f.round⟩;rw [T.at_put]at e;split at e
  · rename_i y;cases e;subst y;exact⟨_,p,hv⟩
  ·exact f.tm.2 t q e
 simp only [VR]at o;obtain⟨s,B,D⟩ :=o;rcases D.2 with⟨rfl,a,d,rfl,z,_⟩ | ⟨k,a,d,C,rfl,_⟩
 · have u:xs= [] :=by
    cases xs with
    |nil=>rfl
    |cons x xs=>simp [VRs]at B
   cases a with
   | none=>
    have:=z rfl;subst this;exact h1 u hm E cf i w (put (by simp only [VR])) fs r l b
   |some a=>exact h2 a 0 d hm E cf i w (put (by simp only [VR])) fs r l b
 ·exact h2 ⟨k,a,none⟩ s.length d hm E cf i w (put (by simp only [VR])) fs r l b
def KL (es:List (AV×AV×Nat)) :Prop:=∀e∈es,keyless e.1=true∧keyless e.2.1=true
theorem aVn {E E':Emb}(he:E.imm=E'.imm) :∀ {a:List (AV×AV×Nat)} {f:List MapEntry},KL a→ERs E a f→ERs E' a f
 | [],_,_,r=>by simpa [ERs]using r
 | e::a,_,hk,r=>by
  simp only [ERs]at r ⊢;obtain⟨u,b,j,m,h,g,i⟩ :=r;have n:E.p=E'.p:=by simp [Emb.p,he]
  have k:=hk e (cQ ..);have c:=eS k.1 m;have d:=eS k.2 h;rw [n]at c d;exact⟨u,b,j,VR.of_p c,VR.of_p d,g,aVn he (fun x l=>hk x (cH _ l)) i⟩
theorem aJf {m:Nat}{fr:AFrame}{cs:List AFrame}{h:Hp}{b c i:Nat}{d a:List (AV×AV×Nat)}{k v:AV}(hb:h.look b=some (.map a i))(he:a=d++ [(k,v,c)])(hc:i=Nat.succ c)(hk:KL d) :
  LeadsM P m ⟨fr,cs,h⟩ ⟨fr,cs,h.set b (.mapx d c k v)⟩ :=fun hm E l g w j f fs r=>by
 refine⟨E,l,g,w,Steps.refl _ _,f,fs,r.reobj hb rfl (fun L q=>?_) rfl rfl rfl,jZ (ExtM.refl hm) hb⟩;obtain⟨o,n,p⟩ :=r.objL hb q;subst he hc;exact⟨o,n,p,fun u t s e=>aVn e hk⟩
theorem aOl {m:Nat}{fr:AFrame}{cs:List AFrame}{h h1:Hp}{b c:Nat}{g:List (AV×AV×Nat)}{k v v':AV}(hb:h.look b=some (.mapx g c k v))(d:h1.look b=some (.mapx g c k v))(y:m≤h.nb→oS m h h1 v v')(s:keyless k=true) :
  LeadsM P m ⟨fr,cs,h⟩ ⟨fr,cs,h1.set b (.map (g++ [(k,v',c)]) (Nat.succ c))⟩ :=fun hm E p i w l f fs r=>by
 obtain⟨q,a,H,t,j⟩ :=y hm E w r;refine⟨q,p,i,w,Steps.refl _ _,f.mono a,fs.mono a,H.reobj d rfl (fun L J=>?_) rfl rfl rfl,jZ t d⟩;obtain⟨K,hE,C,z,I,N⟩ :=r.obj _ _ hb rfl;have:=a.1 _ _ hE;rw [J]at this;cases this;refine⟨C,z,?_⟩;obtain⟨M,O,o,D,n⟩ :=ERs.split I;rw [o];refine ERs.join (D.mono a) ?_;simp only [ERs]at n ⊢;obtain⟨u,e,F,G,B,A,x⟩ :=n;exact⟨u,e,F,G.mono a,j _ B,A,x⟩
theorem aOm {m:Nat}{fr:AFrame}{cs:List AFrame}{h h1:Hp}{k e:Nat}{xs ys:List AV}(hb:h.look k=some (.lst e xs))(c:h1.look k=some (.lst e xs))(hz:xs≠ [])(t:m≤h.nb→oS m h h1 (.tup xs) (.tup ys)) :
  LeadsM P m ⟨fr,cs,h⟩ ⟨fr,cs,h1.set k (.lst e ys)⟩ :=fun hm E n g w j f fs r=>by
 obtain⟨p,a,x,s,i⟩ :=t hm E w r;have b:kN (.lst e xs) =false:=by
  cases xs with
  |nil=>exact absurd rfl hz
  |cons _ _=>rfl
 refine⟨p,n,g,w,Steps.refl _ _,f.mono a,fs.mono a,x.reobj c b (fun L B=>?_) rfl rfl rfl,jZ s c⟩;obtain⟨D,hE,C,y,d,u,z,q,A,o⟩ :=r.obj _ _ hb b;have:=a.1 _ _ hE;rw [B]at this;cases this;refine⟨C,y,d,u,z,?_,A,o⟩;have:=i (.tuple ⟨d⟩) (by simp only [VR];exact⟨d,rfl,q⟩);simp only [VR]at this;obtain⟨F,l,v⟩ :=this;cases l;exact v
section
variable (P :Program)
inductive Ins where
 |run (n:Nat)
 |b (j:Nat) (v:Bool)
 |set (j:Nat) (v:AV)
 |call (v:AV) (h':Hp)
 |callP (ch:List (AV×Bool)) (h':Hp)
 |ans (a:Ans)
 |st (y y':AV)
 |app (zs:List AV) (n:Nat)
 |nilL (j e:Nat)
 |nilI (j e:Nat)
 |frz (j b:Nat) (ys:List AV)
 |cnil (k o e:Nat)
 |cnilI (k o e:Nat)
 |cfrz (k o b:Nat) (ys:List AV)
 |toL (j:Nat) (g:Bool) (cs:List AV)
 |cset (k o:Nat) (v:AV)
 |ctoL (k o:Nat) (g:Bool) (cs:List AV)
 |lset (b:Nat) (xs:List AV)
 |pure (v:AV)
 |throws (ch:List (AV×Bool))
 |mk (n:Nat)
 |reg (is:List RIns)
 |regA (is:List RIns) (os:List (Option Ans))
 |nxt (c d:Nat)
 |nxtE
 |mput (es:List (AV×AV×Nat)) (clock:Nat)
 |mset (b:Nat) (es:List (AV×AV×Nat)) (clock:Nat)
 |lkeep (b:Nat) (js:List Nat)
 |unname (j b:Nat)
 |weak (j:Nat)
 |cweak (k o:Nat)
 |vfrz (b o:Nat) (ys:List AV)
 |lw (b:Nat) (ys:List AV)
 |lfrz (k b:Nat) (ys:List AV)
 |mclose (b:Nat) (es:List (AV×AV×Nat)) (c:Nat) (k v:AV)
 |mfrz (b n:Nat) (ys:List AV)
 |appN (zs:List AV) (n:Nat)
def VQ (u:Value)(e:Nat)(xs zs ys:List AV) :Prop:=∀ (E:Emb) (vs:List Value),VR E (.ilst e xs false) u→VRs E zs vs→VRs E ys vs
def VW (xs ys:List AV) :Prop:=∀ (E:Emb) (vs:List Value),VRs E xs vs→VRs E ys vs
def mP (s:AS) :Option Oper:=
 match s.fr.mode,s.fr.todo with
 | .run,.ops all _ (o::_) ::_=>match bU s.fr.tm all.toList o with
  |some true=>some o
  |_=>none
 |_,_=>none
def aCK (s:AS)(v:AV)(h':Hp)(obl:List Prop) :Option (AS×List Prop) :=
 match s.fr.finish v with
 |some fr=>some (⟨fr,s.cs,h'⟩,obl)
 |none=>none
def aFl {α:Type}(t:T α) :List Nat→List (Nat×α)
 | [] =>[]
 | j::js=>match t.at j with
  |some v=> (j,v) ::aFl t js
  |none=>aFl t js
def aJg {α:Type}:List (Nat×α) →T α
 | [] =>.leaf
 |p::r=> (aJg r).put p.1 p.2
def xstep (P :Program)(i:Ins)(s:AS) :Option (AS×List Prop) :=
 match i with
 | .run n=>match nO P pW n s with
  |some s'=>some (s',[])
  |none=>none
 | .b j v=>match s.fr.tm.at j with
  |some (.bool b) =>some (⟨{s.fr with tm:=s.fr.tm.put j (.bool v)},s.cs,s.h⟩,[b=v])
  |_=>none
 | .set j v=>match s.fr.tm.at j with
  |some u=>some (⟨{s.fr with tm:=s.fr.tm.put j v},s.cs,s.h⟩,[u=v])
  |none=>none
 | .cset k o v=>match s.h.look k with
  | some (.cells t n ol sup) =>match t.at o with
   |some u=>some (⟨s.fr,s.cs,s.h.set k (.cells (t.put o v) n ol sup)⟩,[u=v])
   |none=>none
  |_=>none
 | .lset b xs=>match s.h.look b with
  |some (.lst e ys) =>some (⟨s.fr,s.cs,s.h.set b (.lst e xs)⟩,[ys=xs])
  |_=>none
 | .call v h'=>match mP s with
  | some o=>match kL P s.h s.fr.tm o with
   |some (.call c) =>aCK s v h' [Spec P c s.h (.ret v) h']
   |_=>none
  |none=>none
 | .callP ch h'=>match mP s with
  | some o=>match kL P s.h s.fr.tm o with
   |some (.call c) =>some (⟨s.fr.raise ch,s.cs,h'⟩,[Spec P c s.h (.pan ch) h'])
   |_=>none
  |none=>none
 | .ans a=>match mP s with
  | some o=>match rV P s.h s.fr.tm o a with
   |some (v,ps) =>aCK s v s.h ps
   |none=>none
  |none=>none
 | .pure v=>match mP s with
  | some o=>match kL P s.h s.fr.tm o with
   |some (.call (.enter f args)) =>aCK s v s.h [aM P f args v]
   |_=>none
  |none=>none
 | .throws ch=>match mP s with
  | some o=>match kL P s.h s.fr.tm o with
   |some (.call (.enter f args)) =>some (⟨s.fr.raise ch,s.cs,s.h⟩,[bEw P f args ch])
   |_=>none
  |none=>none
 | .mk n =>match mP s with
  | some o=>match o.op,o.dst with
   | .makeSlice t l c,some d=>match bO s.fr.tm l,bO s.fr.tm c with
    | some (.int _ l),some (.int _ c) =>match P.underlying t with
     | some (.slice el) =>match aY P el,zeroOf P el,P.info? el,P.underlying el with
      | some e,some z,some inf,some ed=>bif ble e 40&&ble 1 e&&beq z.cells.length e&&ble inf.bytes 1000&&dE z.cells&& (isAggD ed||beq e 1)then
        match s.fr.finish (.gl s.h.nb e 0 n true)with
        |some fr=>some (⟨fr,s.cs,s.h.new (.lst e (replicate n (bif isAggD ed then .agg z.cells else z.cells.headD .undef)))⟩,[l= (n:Int),c= (n:Int),n<100000])
        |none=>none else none
      |_,_,_,_=>none
     |_=>none
    |_,_=>none
   |_,_=>none
  |none=>none
 | .reg is=>match s.fr.mode,s.fr.todo with
  | .run,.code (.region _ ops true) ::k=>match aD8 P s.fr.nt ops s.fr.tm s.h is []with
   |some (tm,h',ps) =>some (⟨{s.fr with tm,todo:=k},s.cs,h'⟩,ps)
   |none=>none
  |_,_=>none
 | .regA is os=>match s.fr.mode,s.fr.todo with
  | .run,.code (.region _ ops true) ::k=>match aD8 P s.fr.nt ops s.fr.tm s.h is os with
   |some (tm,h',ps) =>some (⟨{s.fr with tm,todo:=k},s.cs,h'⟩,ps)
   |none=>none
  |_,_=>none
 | .nxt c d=>match mP s with
  | some o=>match o.op with
   | .next it true=>match bO s.fr.tm it with
    | some (.ptr r 0) =>match s.h.look r with
     |some (.siter l n pos) =>aCK s (.tup [.bool true,.int .i64 pos,.int .i32 c]) (s.h.set r (.siter l n (Nat.add pos d))) [pos<l,aNX l n pos=some (c,d)]
     |_=>none
    |_=>none
   |_=>none
  |none=>none
 | .nxtE=>match mP s with
  | some o=>match o.op with
   | .next it true=>match bO s.fr.tm it with
    | some (.ptr r 0) =>match s.h.look r with
     |some (.siter l n pos) =>aCK s (.tup [.bool false]) s.h [l≤pos]
     |_=>none
    |_=>none
   |_=>none
  |none=>none
 | .mput es' clock'=>match mP s with
  | some o=>match o.op with
   | .mapUpdate t m k x=>match bO s.fr.tm m,bO s.fr.tm k,bO s.fr.tm x with
    | some (.map r),some k,some v=>match P.underlying t,s.h.look r with
     | some (.map kt _),some (.map es clock) =>match P.underlying kt with
      |some kd=>bif plainKey kd k then aCK s .undef (s.h.set r (.map es' clock')) [aAJ es clock k v=some (es',clock')]else none
      |none=>none
     |_,_=>none
    |_,_,_=>none
   |_=>none
  |none=>none
 | .mset b es' clock'=>match s.h.look b with
  |some (.map es clock) =>some (⟨s.fr,s.cs,s.h.set b (.map es' clock')⟩,[es=es',clock=clock'])
  |_=>none
 | .st y y'=>match mP s with
  | some o=>match o.op with
   | .store t a x=>match bO s.fr.tm a,bO s.fr.tm x with
    | some (.ep b e i k),some v=>match s.h.look b,aY P t with
     | some (.lst e' xs),some n=>bif beq e' e&&beq v.cells.length n&&ble (k+n) e&&dE v.cells then
       match s.fr.finish .undef with
       |some fr=>some (⟨fr,s.cs,s.h.set b (.lst e (xs.set i y'))⟩,[xs[i]?=some y,kT y k v.cells=some y'])
       |none=>none else none
     |_,_=>none
    |_,_=>none
   |_=>none
  |none=>none
 | .app zs n =>match mP s with
  | some o => match o.op with
   | .call c =>match c.callee,iG s.fr.tm c.args.toList,c.argTypes[0]?,c.argTypes[1]? with
    | .builtin .append,some [d,x],some st,some xt=>match P.underlying st,P.underlying xt with
     | some (.slice el),some (.slice _) =>match aY P el,P.info? el,zeroOf P el with
      | some e,some inf,some z=>bif beq z.cells.length e&&ble e 40&&ble inf.bytes 1000&&ble 1 inf.bytes&&ble 1 e then
       match d with
       | .gl b e' off len _=>match s.h.look b with
        | some (.lst e2 xs) =>bif beq e' e&&beq e2 e then
          match x with
          | .gl b2 e1 off2 len2 _=>match s.h.look b2,P.underlying el with
           | some (.lst e3 ys),some _=>bif beq e1 e&&beq e3 e then
             aCK s (.gl s.h.nb e 0 n false) ((s.h.del b).new (.lst e zs)) [off2+len2≤ys.length,off+len≤xs.length,n≤1000000,(xs.drop off).take len++ (ys.drop off2).take len2=zs,len+len2=n]else none
           |_,_=>none
          | x=>match lT P s.h el e x with
           |some ys=>aCK s (.gl s.h.nb e 0 n false) ((s.h.del b).new (.lst e zs)) [off+len≤xs.length,n≤1000000,(xs.drop off).take len++ys=zs,len+ys.length=n]
           |none=>none
          else none
        |_=>none
       | .ilst e' [] true=>bif beq e' e then match lT P s.h el e x with
        |some ys=>aCK s (.gl s.h.nb e 0 n false) (s.h.new (.lst e zs)) [n≤1000000,ys=zs,ys.length=n]
        |none=>none
        else none
       |_=>none
       else none
      |_,_,_=>none
     |_,_=>none
    |_,_,_,_=>none
   |_=>none
  |none=>none
 | .nilL j e=>match s.fr.tm.at j with
  |some .nils=>some (⟨{s.fr with tm:=s.fr.tm.put j (.gl s.h.nb e 0 0 false)},s.cs,s.h.new (.lst e [])⟩,[])
  |_=>none
 | .nilI j e=>match s.fr.tm.at j with
  |some .nils=>some (⟨{s.fr with tm:=s.fr.tm.put j (.ilst e [] true)},s.cs,s.h⟩,[])
  |_=>none
 | .frz j b ys=>match s.fr.tm.at j,s.h.look b with
  |some v,some (.lst e xs) =>some (⟨{s.fr with tm:=s.fr.tm.put j (AV.frz b ys v)},s.cs,s.h.del b⟩,[keylessL xs=true,frzOk b e xs ys v])
  |_,_=>none
 | .cnil k o e=>match s.h.look k with
  | some (.cells t n ol sup) =>match t.at o with
   |some .nils=>bif blt k s.h.nb then some (⟨s.fr,s.cs,(s.h.new (.lst e [])).set k (.cells (t.put o (.gl s.h.nb e 0 0 false)) n ol sup)⟩,[])else none
   |_=>none
  |_=>none
 | .cnilI k o e=>match s.h.look k with
  | some (.cells t n ol sup) =>match t.at o with
   |some .nils=>some (⟨s.fr,s.cs,s.h.set k (.cells (t.put o (.ilst e [] true)) n ol sup)⟩,[])
   |_=>none
  |_=>none
 | .cfrz k o b ys=>bif beq k b then none else match s.h.look k,s.h.look b with
  | some (.cells t n ol sup),some (.lst e xs) =>match t.at o with
   |some v=>some (⟨s.fr,s.cs,(s.h.del b).set k (.cells (t.put o (AV.frz b ys v)) n ol sup)⟩,[keylessL xs=true,frzOk b e xs ys v])
   |none=>none
  |_,_=>none
 | .lkeep b js=>match s.h.look b with
  |some (.loop st pe fn tm nt ps aS bd df) =>some (⟨s.fr,s.cs,s.h.set b (.loop st pe fn (aJg (aFl tm js)) nt ps aS bd df)⟩,[])
  |_=>none
 | .cweak k o=>match s.h.look k with
  | some (.cells t n ol sup) =>match t.at o with
   |some (.gl b e off l true) =>some (⟨s.fr,s.cs,s.h.set k (.cells (t.put o (.gl b e off l false)) n ol sup)⟩,[])
   |some (.ilst e xs true) =>some (⟨s.fr,s.cs,s.h.set k (.cells (t.put o (.ilst e xs false)) n ol sup)⟩,[])
   |_=>none
  |_=>none
 | .weak j=>match s.fr.tm.at j with
  |some (.gl b e o l true) =>some (⟨{s.fr with tm:=s.fr.tm.put j (.gl b e o l false)},s.cs,s.h⟩,[])
  |_=>none
 | .unname j b=>match s.fr.tm.at j,s.h.look b with
  |some (.val u),some (.lstv u' e xs) =>some (⟨{s.fr with tm:=s.fr.tm.put j (.gl b e 0 xs.length false)},s.cs,s.h.set b (.lst e xs)⟩,[u=u'])
  |_,_=>none
 | .vfrz b o ys=>match s.h.look b,s.h.look o with
  |some (.lstv u e xs),some (.lst eo zs) =>bif beq o b then none else some (⟨s.fr,s.cs,(s.h.del b).set o (.lst eo ys)⟩,[zs≠ [],keylessL xs=true,VQ u e xs zs ys])
  |_,_=>none
 | .mclose b es c k v=>match s.h.look b with
  |some (.map es' c') =>some (⟨s.fr,s.cs,s.h.set b (.mapx es c k v)⟩,[es'=es++ [(k,v,c)],c'=Nat.succ c,KL es])
  |_=>none
 | .mfrz b n ys=>bif beq b n then none else match s.h.look b,s.h.look n with
  |some (.mapx es c k v),some (.lst e xs) =>some (⟨s.fr,s.cs,(s.h.del n).set b (.map (es++ [(k,AV.frz n ys v,c)]) (Nat.succ c))⟩,[keyless k=true,keylessL xs=true,frzOk n e xs ys v])
  |_,_=>none
 | .appN zs n=>match mP s with
  | some o=>match aI8 P s.h s.fr.tm o zs n with
   |some (v,h',ps) =>aCK s v h' ps
   |none=>none
  |none=>none
 | .lfrz k b ys=>bif beq k b then none else match s.h.look k,s.h.look b with
  |some (.lst e xs),some (.lst e1 zs) =>some (⟨s.fr,s.cs,(s.h.del b).set k (.lst e (frzL b ys xs))⟩,[xs≠ [],keylessL zs=true,AV.frzOkL b e1 zs ys xs])
  |_,_=>none
 | .lw b ys=>match s.h.look b with
  |some (.lst e xs) =>some (⟨s.fr,s.cs,s.h.set b (.lst e ys)⟩,[xs≠ [],VW xs ys])
  |_=>none
 | .toL j g cs=>match s.fr.tm.at j with
  | some (.slice b 0 n c e x) =>match s.h.look b with
   | some (.cells t _ [] false) =>bif g||beq e 1 then
     some (⟨{s.fr with tm:=s.fr.tm.put j (.gl b e 0 n (x&&beq c n))},s.cs,s.h.set b (.lst e (vR g e n cs))⟩,[getCells t 0 (n*e) =some cs,dE cs=true])else none
   |_=>none
  |_=>none
 | .ctoL k o g cs=>match s.h.look k with
  | some (.cells t n ol sup) =>match t.at o with
   | some (.slice b 0 n2 c e x) =>bif beq k b then none else match s.h.look b with
    | some (.cells t2 _ [] false) =>bif g||beq e 1 then
      some (⟨s.fr,s.cs,(s.h.set b (.lst e (vR g e n2 cs))).set k (.cells (t.put o (.gl b e 0 n2 (x&&beq c n2))) n ol sup)⟩,[getCells t2 0 (n2*e) =some cs,dE cs=true])else none
    |_=>none
   |_=>none
  |_=>none
def qZ (P:Program) :List Ins→AS→Option (AS×List Prop)
 | [],s=>some (s,[])
 | i::is,s=>match xstep P i s with
  |none=>none
  | some (s',ps) =>match qZ P is s' with
   |none=>none
   |some (s'',qs) =>some (s'',ps++qs)
end
def AllP :List Prop→Prop
 | [] =>True
 | [p] =>p
 |p::ps=>p∧AllP ps
theorem AllP.mem :∀ {b:List Prop},AllP b→∀p∈b,p
 | [p],h,q,a=>by rw [zq32]at a;rw [a];exact h
 | p::c::b,h,q,a=>by
  rcases zq7.1 a with rfl|a
  ·exact h.1
  ·exact AllP.mem h.2 q a
theorem jB {call:bP}{s:AS}{o:Oper}(a:mP s=some o){v:AV}{h':Hp}(l:kL P s.h s.fr.tm o=some (.val v h')){fr:AFrame}(b:s.fr.finish v=some fr) :lY P call s=some ⟨fr,s.cs,h'⟩ :=by
 obtain⟨e,u,h⟩ :=s;obtain⟨fn,r,q,j,c,g,f,t⟩ :=e;simp only at l b ⊢;unfold mP at a;simp only at a;split at a
 · rename_i all i w m k;split at a
   · rename_i p;cases a;simp only [AFrame.finish]at b;split at b
     · rename_i n d;cases b;simp only [lY,p,l,d]
     ·cases b
   ·cases a
 ·cases a
theorem uJ {call:bP}{s:AS}{o:Oper}(a:mP s=some o){c:AIn}(m:kL P s.h s.fr.tm o=some (.call c)){g:AFrame}(l:dW P s.h c=some g) :lY P call s=some ⟨g,s.fr::s.cs,s.h⟩ :=by
 obtain⟨d,u,h⟩ :=s;obtain⟨fn,r,q,j,b,f,e,t⟩ :=d;simp only at m l ⊢;unfold mP at a;simp only at a;split at a
 · rename_i all i v n k;split at a
   · rename_i p;cases a;simp only [lY,p,m,rQ,l]
   ·cases a
 ·cases a
theorem kA {s b:AS}{v:AV}{h':Hp}{obl ps:List Prop}(a:aCK s v h' obl=some (b,ps)) :∃fr,s.fr.finish v=some fr∧b= ⟨fr,s.cs,h'⟩ ∧ps=obl:=by
 unfold aCK at a;split at a
 ·rename_i fr c;cases a;exact⟨fr,c,rfl,rfl⟩
 ·cases a
theorem put_same {a:Type}{t:T a}{k:Nat}{v:a}(h:t.at k=some v) :∀j,(t.put k v).at j=t.at j:=fun j=>by
 rw [T.at_put];split
 ·rename_i e;rw [e,h]
 ·rfl
theorem aZO {E:Emb}{fr:AFrame}{c:Frame}(f:FR E fr c){j:Nat}{v:AV}(h:fr.tm.at j=some v) :FR E {fr with tm:=fr.tm.put j v} c:=
 ⟨f.fn,⟨f.tm.1,fun t a e=>f.tm.2 t a (by rw [←put_same h t];exact e)⟩,f.todo,f.defers,f.mode,f.kind,f.round⟩
theorem aFm {m:Nat}{fr:AFrame}{cs:List AFrame}{h:Hp}{j:Nat}{v:AV}(c:fr.tm.at j=some v) :LeadsM P m ⟨fr,cs,h⟩ ⟨{fr with tm:=fr.tm.put j v},cs,h⟩ :=
 fun hm E b a w _ f fs r=> ⟨E,b,a,w,Steps.refl _ _,aZO f c,fs,r,ExtM.refl hm⟩
theorem aAr {h:Hp}{b:Nat}{o:AObj}(hb:h.look b=some o) :∀x,(h.set b o).look x=h.look x:=fun x=>by
 rw [aZ];split
 ·rename_i e;rw [e,hb]
 ·rfl
theorem aAK {m:Nat}{fr:AFrame}{cs:List AFrame}{h h':Hp}(hl:∀x o,h'.look x=some o→h.look x=some o)(c:h'.nb=h.nb) :LeadsM P m ⟨fr,cs,h⟩ ⟨fr,cs,h'⟩ :=
 fun hm E d a w _ f fs r=> ⟨E,d,a,w,Steps.refl _ _,f,fs,r.sub hl (Nat.le_of_eq c.symm),⟨fun _ _=>rfl,fun _ _ e=>e,le_refl _,fun _ _ _=>rfl,fun b o L e k i g _=> ⟨b,o,L,hl b o e,k,g⟩,by rw [c];exact hm,rfl,rfl,rfl,fun _ _=>rfl,fun _ _ e _=>.inl e,fun b o e _=> ⟨o,hl b o e⟩⟩⟩
theorem aVo {m:Nat}{fr:AFrame}{cs:List AFrame}{h:Hp}{tm':T AV}(d:∀t a,tm'.at t=some a→fr.tm.at t=some a) :LeadsM P m ⟨fr,cs,h⟩ ⟨{fr with tm:=tm'},cs,h⟩ :=
 fun hm E c b w _ f fs r=> ⟨E,c,b,w,Steps.refl _ _,⟨f.fn,⟨f.tm.1,fun t a e=>f.tm.2 t a (d t a e)⟩,f.todo,f.defers,f.mode,f.kind,f.round⟩,fs,r,ExtM.refl hm⟩
theorem aVp {m n:Nat}{s:AS}{o:Oper}(y:mP s=some o){t:TypeId}{l c:Operand}{d:Nat}(Q:o.op= .makeSlice t l c)(G:o.dst=some d){k1 k2:IntKind}(hl:bO s.fr.tm l=some (.int k1 n))(hc:bO s.fr.tm c=some (.int k2 n)){J:TypeId}(Z:P.underlying t=some (.slice J))
  {e:Nat} (U:aY P J=some e) {z:AV} (hz:zeroOf P J=some z) {u:TypeInfo} (I:P.info? J=some u) {A:TypeDesc} (_hed:P.underlying J=some A) (q: (ble e 40&&ble 1 e&&beq z.cells.length e&&ble u.bytes 1000) =true) (h1:dE z.cells=true) (Y:isAggD A=true∨beq e 1=true) (hn:n<100000)
  {fr:AFrame} (p:s.fr.finish (.gl s.h.nb e 0 n true) =some fr) :LeadsM P m s ⟨fr,s.cs,s.h.new (.lst e (replicate n (bif isAggD A then .agg z.cells else z.cells.headD .undef)))⟩ :=by
 have H:z.cells.length=e:=by simp only [cP]at q;exact fQ q.1.2
 have hv:kL P s.h s.fr.tm o=some (.val (.slice s.h.nb 0 n n e true) (s.h.newCells (lP z.cells n))) :=by
  unfold kL;have F: (ble e 40&&ble 1 e&&beq z.cells.length e&&ble u.bytes 1000) =true:=q;simp only [hQ,Q,ev2,hl,hc,Z,U,hz,I,F,cond];rw [if_pos ⟨by omega,Int.le_refl _,by omega⟩];rfl
 obtain⟨b,S,M⟩ :∃b,s.fr.finish (.slice s.h.nb 0 n n e true) =some b∧∃f,d<s.fr.nt∧f=s.fr.tm∧b.tm=f.put d (.slice s.h.nb 0 n n e true) ∧fr= {b with tm:=f.put d (.gl s.h.nb e 0 n true)}:=by
  unfold mP at y;split at y
  · rename_i all i o' X k hm O;split at y
    · cases y;unfold AFrame.finish at p ⊢;rw [O]at p ⊢;simp only [G,iR]at p ⊢;cases hb:blt d s.fr.nt
      case false=>rw [hb]at p;cases p
      rw [hb]at p;simp only [cond]at p ⊢;cases p;exact⟨_,rfl,s.fr.tm,by rw [cY]at hb;exact of_decide_eq_true hb,rfl,rfl,rfl⟩
    ·cases y
  ·cases y
 obtain⟨f,hd,_,W,e2⟩ :=M;have R: (lP z.cells n).length=n*e:=by rw [oD,H]
 have v: (s.h.newCells (lP z.cells n)).look s.h.nb=some (.cells (putCells .leaf 0 (lP z.cells n)) (lP z.cells n).length [] false) :=by
  unfold Hp.newCells;rw [cS,if_pos rfl]
 have C:getCells (putCells .leaf 0 (lP z.cells n)) 0 (n*e) =some (lP z.cells n) :=by
  rw [←R];exact aBD _ _ _ (fun j hj=>by rw [eM,bF,if_pos hj])
 have r:=dM (P:=P) (m:=m) bW (jB (call:=pW) y hv S)
 have w:=jP (P:=P) (m:=m) (fr:=b) (cs:=s.cs) (h:=s.h.newCells (lP z.cells n)) (j:=d) (by rw [W,T.at_put,if_pos rfl]) (aCJ (m:=m) (c:=n) (x:=true) (g:=isAggD A) v C (aDs h1 n) (fun V=>by
  rcases Y with g|g
  ·rw [V]at g;cases g
  ·exact fQ g))
 refine(r.trans w).trans ?_;rw [aFj (isAggD A) H n];have D: (true&&beq n n) =true:=by simp
 rw [D]
 have a:=aAK (P:=P) (m:=m) (fr:={b with tm:=b.tm.put d (.gl s.h.nb e 0 n true)}) (cs:=s.cs) (h:= (s.h.newCells (lP z.cells n)).set s.h.nb (.lst e (replicate n (bif isAggD A then .agg z.cells else z.cells.headD .undef)))) (h':=s.h.new (.lst e (replicate n (bif isAggD A then .agg z.cells else z.cells.headD .undef)))) (fun x ox B=>by
  rw [cS]at B;rw [aZ];unfold Hp.newCells;rw [cS];by_cases N:x=s.h.nb
  ·rw [if_pos N]at B ⊢;exact B
  ·rw [if_neg N]at B ⊢;rw [if_neg N];exact B) rfl
 refine a.trans ?_;rw [e2]
 exact aVo (P:=P) (fr:={b with tm:=b.tm.put d (.gl s.h.nb e 0 n true)}) (tm':=f.put d (.gl s.h.nb e 0 n true)) (fun t a K=>by
  show(b.tm.put d (.gl s.h.nb e 0 n true)).at t=some a;rw [W,T.at_put];rw [T.at_put]at K;split at K
  ·rename_i L;rw [if_pos L];exact K
  ·rename_i L;rw [if_neg L,T.at_put,if_neg L];exact K)
theorem aFn {h:Hp}{a:Array TypeId}{b e off len:Nat}{ex:Bool}{x:AV}:aappend P h a (.gl b e off len ex) x=none:=by
 unfold aappend;simp only [cond_eq_ite]
 repeat' split
 all_goals first|rfl| (split<;>rfl)
theorem aJh {h:Hp}{a:Array TypeId}{e:Nat}{xs:List AV}{ex:Bool}{x:AV}:aappend P h a (.ilst e xs ex) x=none:=by
 unfold aappend;simp only [cond_eq_ite]
 repeat' split
 all_goals first|rfl| (split<;>rfl)
set_option maxHeartbeats 2000000 in
theorem aD9 {a:Type}:∀ {l:List (Nat×a)} {k:Nat} {v:a},(aJg l).at k=some v→ (k,v) ∈l
 | [],k,v,h=>by rw [aJg,T.at_leaf]at h;cases h
 | (j,u) ::r,k,v,h=>by
  rw [aJg,T.at_put]at h;split at h
  ·rename_i hk;cases h;subst hk;exact cQ ..
  ·exact cH _ (aD9 h)
theorem sO {a:Type}{t:T a}:∀ {b:List Nat} {k:Nat} {v:a},(k,v) ∈aFl t b→t.at k=some v
 | [],_,_,h=>by cases h
 | j ::b,k,v,h=>by
  simp only [aFl]at h;split at h
  · rename_i u c;rcases zq7.1 h with e|h
    ·cases e;exact c
    ·exact sO h
  ·exact sO h
theorem xstep_sound {i:Ins}{s s':AS}{ps:List Prop}{m:Nat}(A:xstep P i s=some (s',ps))(hp:∀p∈ps,p) :LeadsM P m s s':=by
 cases i with
 | run n=>
  simp only [xstep]at A;split at A
  · rename_i s1 h1;cases A;rw [uE]at h1;exact(qY bW h1).toM
  ·cases A
 | cweak k o=>
  simp only [xstep]at A;split at A
  · rename_i t n ol Q hk;split at A
    ·rename_i K;cases A;exact jQ hk hk K aFk
    ·rename_i K;cases A;exact jQ hk hk K aLu
    ·cases A
  ·cases A
 | weak j=>
  simp only [xstep]at A;split at A
  · rename_i b e o l S;cases A;exact jP S aFk
  ·cases A
 | unname j b=>
  simp only [xstep]at A;split at A
  · rename_i u u' e R S hb;cases A;have M:=mem1 hp;subst M;exact jP S (aBE hb)
  ·cases A
 | vfrz b o N=>
  simp only [xstep]at A;split at A
  · rename_i u e R eo zs hb D;cases F:beq o b
    case true=>rw [F]at A;cases A
    rw [F]at A;simp only [cond]at A;cases A;have M:=hp _ (cQ ..);have O:=hp _ (cH _ (cQ ..));have q2:=hp _ (cH _ (cH _ (cQ ..)));refine aOk hb D (fun e=>?_) M O q2;rw [e,beq_refl]at F;cases F
  ·cases A
 | appN zs n=>
  simp only [xstep]at A;split at A
  · rename_i o D;split at A
    · rename_i v h' qs K;obtain⟨fr,G,rfl,rfl⟩ :=kA A;exact dM bW (jB D (aBB K hp) G)
    ·cases A
  ·cases A
 | mclose b es c k v=>
  simp only [xstep]at A;split at A
  · rename_i es' c' hb;cases A;exact aJf hb (hp _ (cQ ..)) (hp _ (cH _ (cQ ..))) (hp _ (cH _ (cH _ (cQ ..))))
  ·cases A
 | mfrz b n N=>
  simp only [xstep]at A;cases hc:beq b n
  case true=>rw [hc]at A;cases A
  rw [hc]at A;simp only [cond]at A;have F:b≠n:=fun e=>by subst e;simp at hc
  split at A
  · rename_i es c k v e R hb hn;cases A;exact aOl hb (by rw [lZ,if_neg F];exact hb) (sN hn (hp _ (cH _ (cQ ..))) (hp _ (cH _ (cH _ (cQ ..))))) (hp _ (cQ ..))
  ·cases A
 | lfrz k b N=>
  simp only [xstep]at A;cases hc:beq k b
  case true=>rw [hc]at A;cases A
  rw [hc]at A;simp only [cond]at A;have F:k≠b:=fun e=>by subst e;simp at hc
  split at A
  · rename_i e R e1 zs hk hb;cases A;have M:=hp _ (cQ ..);have O:=hp _ (cH _ (cQ ..));have q2:=hp _ (cH _ (cH _ (cQ ..)));have e2:AV.frz b N (.tup R) = .tup (frzL b N R) :=by simp only [AV.frz]
    exact aOm hk (by rw [lZ,if_neg F];exact hk) M (fun hm=>e2 ▸ sN hb O (by simp only [frzOk];exact q2) hm)
  ·cases A
 | lw b N=>
  simp only [xstep]at A;split at A
  · rename_i e R hb;cases A;have M:=hp _ (cQ ..);have O:=hp _ (cH _ (cQ ..));exact aVl hb M O
  ·cases A
 | lkeep b js=>
  simp only [xstep]at A;split at A
  · rename_i st pe fn tm nt ps aS bd df hb;cases A;intro hm E cf ccs w base f fs r;refine⟨E,cf,ccs,w,Steps.refl _ _,f,fs,r.reobj hb rfl (fun L hL=>?_) rfl rfl rfl,jZ (ExtM.refl hm) hb⟩;obtain⟨tmps,Ld,h1,h2,h3⟩ :=r.objL hb hL;exact⟨tmps,Ld,h1,h2,h3.1,fun t a e=>h3.2 t a (sO (aD9 e))⟩
  ·cases A
 | b j v=>
  simp only [xstep]at A;split at A
  · rename_i b hb;cases A;have:=mem1 hp;subst this;exact aFm hb
  ·cases A
 | set j v=>
  simp only [xstep]at A;split at A
  · rename_i u V;cases A;have:=mem1 hp;subst this;exact aFm V
  ·cases A
 | cset k o v=>
  simp only [xstep]at A;split at A
  · rename_i t n ol Q hk;split at A
    · rename_i u V;cases A;have:=mem1 hp;subst this;exact jQ hk hk V (aHF fun _ _ h=>h)
    ·cases A
  ·cases A
 | lset b R=>
  simp only [xstep]at A;split at A
  · rename_i e N hb;cases A;have:=mem1 hp;subst this;exact aAK (fun x o e=>by rw [aAr hb]at e;exact e) rfl
  ·cases A
 | call v h'=>
  simp only [xstep]at A;split at A
  · rename_i o D;split at A
    · rename_i c hc;unfold aCK at A;split at A
      · rename_i fr G;cases A;obtain⟨g,T,he⟩ :=mem1 hp;exact aAq (dM bW (uJ D hc T)) he G
      ·cases A
    ·cases A
  ·cases A
 | callP ch h'=>
  simp only [xstep]at A;split at A
  · rename_i o D;split at A
    · rename_i c hc;cases A;obtain⟨g,T,he⟩ :=mem1 hp;exact xH (dM bW (uJ D hc T)) he
    ·cases A
  ·cases A
 | ans a=>
  simp only [xstep]at A;split at A
  · rename_i o D;split at A
    · rename_i v qs K;obtain⟨fr,G,rfl,rfl⟩ :=kA A;exact dM bW (jB D (oZ K hp) G)
    ·cases A
  ·cases A
 | pure v=>
  simp only [xstep]at A;split at A
  · rename_i o D;split at A
    · rename_i f args hc;obtain⟨fr,G,rfl,rfl⟩ :=kA A;obtain⟨g,T,he⟩ :=mem1 hp s.h;exact aAq (dM bW (uJ D hc T)) he G
    ·cases A
  ·cases A
 | throws ch=>
  simp only [xstep]at A;split at A
  · rename_i o D;split at A
    · rename_i f args hc;cases A;obtain⟨g,T,he⟩ :=mem1 hp s.h;exact xH (dM bW (uJ D hc T)) he
    ·cases A
  ·cases A
 | mk n =>
  simp only [xstep]at A;split at A
  · rename_i o D;split at A
    · rename_i t l c d B hdst;split at A
      · rename_i k1 l' k2 c' hl hc;split at A
        · rename_i el V;split at A
          · rename_i e z inf ed W hz J hed;cases Y: (ble e 40&&ble 1 e&&beq z.cells.length e&&ble inf.bytes 1000&&dE z.cells&& (isAggD ed||beq e 1))
            case false=>rw [Y]at A;cases A
            rw [Y]at A;simp only [cond]at A;split at A
            · rename_i fr G;cases A;have O:=hp _ (cQ ..);have q2:=hp _ (cH _ (cQ ..));have q3:=hp _ (cH _ (cH _ (cQ ..)));subst O q2;simp only [cP,Bool.or_eq_true]at Y;obtain⟨⟨⟨⟨⟨c1,c2⟩,c3⟩,c4⟩,c5⟩,c6⟩ :=Y;exact aVp D B hdst hl hc V W hz J hed (by simp [c1,c2,c3,c4]) c5 c6 q3 G
            ·cases A
          ·cases A
        ·cases A
      ·cases A
    ·cases A
  ·cases A
 | reg is=>
  simp only [xstep]at A;split at A
  · rename_i id ops k hm htd;split at A
    · rename_i tm h' qs hr;cases A;exact aBC hm htd hr hp
    ·cases A
  ·cases A
 | regA is os=>
  simp only [xstep]at A;split at A
  · rename_i id ops k hm htd;split at A
    · rename_i tm h' qs hr;cases A;exact aBC hm htd hr hp
    ·cases A
  ·cases A
 | nxt c d =>
  simp only [xstep]at A;split at A
  · rename_i o D;split at A
    · rename_i it B;split at A
      · rename_i r hr;split at A
        · rename_i l n pos hb;obtain⟨fr,G,rfl,rfl⟩ :=kA A;have M:=hp _ (cQ ..);have O:=hp _ (cH _ (cQ ..));refine dM bW (jB D ?_ G);have hbl:blt pos l=true:=by rw [cY];exact decide_eq_true M
          unfold kL;simp only [hQ,B,vQ,hr,hb,hbl,cond,O]
        ·cases A
      ·cases A
    ·cases A
  ·cases A
 | nxtE =>
  simp only [xstep]at A;split at A
  · rename_i o D;split at A
    · rename_i it B;split at A
      · rename_i r hr;split at A
        · rename_i l n pos hb;obtain⟨fr,G,rfl,rfl⟩ :=kA A;have M:=mem1 hp;refine dM bW (jB D ?_ G);have hbl:blt pos l=false:=by rw [cY];exact decide_eq_false (by omega)
          unfold kL;simp only [hQ,B,vQ,hr,hb,hbl,cond]
        ·cases A
      ·cases A
    ·cases A
  ·cases A
 | mput es' Z =>
  simp only [xstep]at A;split at A
  · rename_i o D;split at A
    · rename_i t m k x B;split at A
      · rename_i r kv v hm hk hx;split at A
        · rename_i kt et es clock V hb;split at A
          · rename_i kd hkd;cases hc:plainKey kd kv
            case false=>rw [hc]at A;cases A
            rw [hc]at A;simp only [cond]at A;obtain⟨fr,G,rfl,rfl⟩ :=kA A;have q:=mem1 hp;refine dM bW (jB D ?_ G);unfold aAJ at q;unfold kL;simp only [hQ,B,ev2,vQ,hm,hk,hx,pO,V,hkd,hb,hc,cond];split at q
            · rename_i i w hfk;cases q;simp only [hfk,aAd]
            · rename_i hfk;cases q;simp only [hfk,aAd]
            ·cases q
          ·cases A
        ·cases A
      ·cases A
    ·cases A
  ·cases A
 | mset b es' Z=>
  simp only [xstep]at A;split at A
  · rename_i es clock hb;cases A;have M:=hp _ (cQ ..);have O:=hp _ (cH _ (cQ ..));subst M O;exact aAK (fun x o e=>by rw [aAr hb]at e;exact e) rfl
  ·cases A
 | st y y' =>
  simp only [xstep]at A;split at A
  · rename_i o D;split at A
    · rename_i t a x B;split at A
      · rename_i b e i k v ha hx;split at A
        · rename_i e' R n hb hn;cases hc: (beq e' e&&beq v.cells.length n&&ble (k+n) e&&dE v.cells)
          case false=>rw [hc]at A;cases A
          rw [hc]at A;simp only [cond]at A;split at A
          · rename_i fr G;cases A;have M:=hp _ (cQ ..);have O:=hp _ (cH _ (cQ ..));refine dM bW (jB D (dH ?_ ?_) G)
            ·simp only [hQ,B,ev2,ha,hx]
            ·simp only [vop,B,ev2,ha,hx,hb,hn,hc,cond,M,O]
          ·cases A
        ·cases A
      ·cases A
    ·cases A
  ·cases A
 | app zs n =>
  simp only [xstep]at A;split at A
  · rename_i o D;split at A
    · rename_i c B;split at A
      · rename_i d x st xt H C hst hxt;split at A
        · rename_i el el' V hu';split at A
          · rename_i e inf z W J hz;cases hc: (beq z.cells.length e&&ble e 40&&ble inf.bytes 1000&&ble 1 inf.bytes&&ble 1 e)
            case false=>rw [hc]at A;cases A
            rw [hc]at A;simp only [cond]at A;split at A
            · rename_i b e' off len ex;split at A
              · rename_i e2 R hb;cases I: (beq e' e&&beq e2 e)
                case false=>rw [I]at A;cases A
                rw [I]at A;simp only at A;simp only [cP]at I;have ee1:=fQ I.1;have ee2:=fQ I.2;split at A
                · rename_i b2 e1 X len2 ex2;split at A
                  · rename_i e3 N dd hb2 hu3;cases U: (beq e1 e&&beq e3 e)
                    case false=>rw [U]at A;cases A
                    rw [U]at A;simp only at A;simp only [cP]at U;have ee3:=fQ U.2;obtain⟨fr,G,rfl,rfl⟩ :=kA A;have y0:=hp _ (cQ ..);have y2:=hp _ (cH _ (cQ ..));have y3:=hp _ (cH _ (cH _ (cQ ..)));have y4:=hp _ (cH _ (cH _ (cH _ (cQ ..))));have y5:=hp _ (cH _ (cH _ (cH _ (cH _ (cQ ..)))));subst y4 y5;have yl: ((N.drop X).take len2).length=len2:=by rw [List.length_take,List.length_drop];omega
                    have y1:lT P s.h el e (.gl b2 e1 X len2 ex2) =some ((N.drop X).take len2) :=by
                     simp only [lT,hu3,U.1,cond,hb2];rw [if_pos ⟨ee3,y0⟩]
                    refine dM bW (jB D (dH ?_ ?_) G)
                    ·simp only [hQ,B,pR,C,H,fD,aFn]
                    · simp only [vop,B,H,C,kU,hst,hxt,V,hu',W,J,hz,y1,hc,cond,hb,aAA,yl];rw [if_pos ⟨ee1,ee2,y2,y3⟩]
                  ·cases A
                · split at A
                  · rename_i N y1;obtain⟨fr,G,rfl,rfl⟩ :=kA A;have y2:=hp _ (cQ ..);have y3:=hp _ (cH _ (cQ ..));have y4:=hp _ (cH _ (cH _ (cQ ..)));have y5:=hp _ (cH _ (cH _ (cH _ (cQ ..))));subst y4 y5;refine dM bW (jB D (dH ?_ ?_) G)
                    ·simp only [hQ,B,pR,C,H,fD,aFn]
                    · simp only [vop,B,H,C,kU,hst,hxt,V,hu',W,J,hz,y1,hc,cond,hb,aAA];rw [if_pos ⟨ee1,ee2,y2,y3⟩]
                  ·cases A
              ·cases A
            · rename_i e';cases I:beq e' e
              case false=>rw [I]at A;cases A
              rw [I]at A;simp only at A;have ee1:=fQ I;split at A
              · rename_i N y1;obtain⟨fr,G,rfl,rfl⟩ :=kA A;have y2:=hp _ (cQ ..);have y3:=hp _ (cH _ (cQ ..));have y4:=hp _ (cH _ (cH _ (cQ ..)));subst y3 y4;refine dM bW (jB D (dH ?_ ?_) G)
                ·simp only [hQ,B,pR,C,H,fD,aJh]
                · simp only [vop,B,H,C,kU,hst,hxt,V,hu',W,J,hz,y1,hc,cond,aAA];rw [if_pos ⟨ee1,y2⟩]
              ·cases A
            ·cases A
          ·cases A
        ·cases A
      ·cases A
    ·cases A
  ·cases A
 | nilL j e=>
  simp only [xstep]at A;split at A
  ·rename_i S;cases A;exact jP S (aCH e)
  ·cases A
 | nilI j e=>
  simp only [xstep]at A;split at A
  ·rename_i S;cases A;exact jP S (aFh e)
  ·cases A
 | frz j b N=>
  simp only [xstep]at A;split at A
  · rename_i v e R S hb;cases A;exact jP S (sN hb (hp _ (cQ ..)) (hp _ (cH _ (cQ ..))))
  ·cases A
 | cnil k o e=>
  simp only [xstep]at A;split at A
  · rename_i t n ol Q hk;split at A
    · rename_i K;cases hc:blt k s.h.nb
      case false=>rw [hc]at A;cases A
      rw [hc]at A;simp only [cond]at A;cases A;rw [cY]at hc;have:=of_decide_eq_true hc;exact jQ hk (by rw [cS,if_neg (by omega)];exact hk) K (aCH e)
    ·cases A
  ·cases A
 | cnilI k o e=>
  simp only [xstep]at A;split at A
  · rename_i t n ol Q hk;split at A
    ·rename_i K;cases A;exact jQ hk hk K (aFh e)
    ·cases A
  ·cases A
 | cfrz k o b N=>
  simp only [xstep]at A;cases hc:beq k b
  case true=>rw [hc]at A;cases A
  rw [hc]at A;simp only [cond]at A;have F:k≠b:=fun e=>by subst e;simp at hc
  split at A
  · rename_i t n ol Q e R hk hb;split at A
    · rename_i v K;cases A;exact jQ hk (by rw [lZ,if_neg F];exact hk) K (sN hb (hp _ (cQ ..)) (hp _ (cH _ (cQ ..))))
    ·cases A
  ·cases A
 | ctoL k o g cs=>
  simp only [xstep]at A;split at A
  · rename_i t n ol Q hk;split at A
    · rename_i b n2 c e x K;cases hkb:beq k b
      case true=>rw [hkb]at A;cases A
      rw [hkb]at A;simp only [cond]at A;have F:k≠b:=fun e=>by subst e;simp at hkb
      split at A
      · rename_i t2 k2 hb;cases hc: (g||beq e 1)
        case false=>rw [hc]at A;cases A
        rw [hc]at A;simp only at A;cases A;exact jQ hk (by rw [aZ,if_neg F];exact hk) K (aCJ hb (hp _ (cQ ..)) (hp _ (cH _ (cQ ..))) (fun T=>by subst T;simp only [Bool.false_or]at hc;exact fQ hc))
      ·cases A
    ·cases A
  ·cases A
 | toL j g cs=>
  simp only [xstep]at A;split at A
  · rename_i b n c e x S;split at A
    · rename_i t k hb;cases hc: (g||beq e 1)
      case false=>rw [hc]at A;cases A
      rw [hc]at A;simp only [cond]at A;cases A;exact jP S (aCJ hb (hp _ (cQ ..)) (hp _ (cH _ (cQ ..))) (fun T=>by subst T;simp only [Bool.false_or]at hc;exact fQ hc))
    ·cases A
  ·cases A
theorem gG {m:Nat}:∀ {e:List Ins} {s c:AS} {d:List Prop},qZ P e s=some (c,d) → (∀p∈d,p) →LeadsM P m s c
 | [],s,c,d,a,_=>by simp only [qZ]at a;cases a;exact LeadsM.refl s
 | i ::e,s,c,d,a,f=>by
  simp only [qZ]at a;split at a
  ·cases a
  · rename_i j l g;split at a
    ·cases a
    · rename_i n k h;cases a;exact(xstep_sound g (fun p b=>f p (aEP _ b))).trans (gG h (fun p b=>f p (aIy _ b)))
def dN {α:Type}:List (Nat×α) →T α
 | [] =>.leaf
 | (k,v) ::r=> (dN r).put k v
theorem aAL {a:Type}:∀ {l:List (Nat×a)} {k:Nat} {v:a},(dN l).at k=some v→ (k,v) ∈l
 | [],k,v,h=>by rw [dN,T.at_leaf]at h;cases h
 | (j,u) ::r,k,v,h=>by
  rw [dN,T.at_put]at h;split at h
  ·rename_i hk;cases h;subst hk;exact cQ ..
  ·exact cH _ (aAL h)
structure TF where
 fn:Nat
 nt:Nat
 sl:List (Nat×AV)
 todo:List AItem
 defers:List ADef:=[]
 mode:AMode:=.run
 kind:CallKind:=.normal
 roundOf:Option Nat:=none
def TF.fr (f:TF) :AFrame:= ⟨f.fn,dN f.sl,f.nt,f.todo,f.defers,f.mode,f.kind,f.roundOf⟩
structure TS where
 fr:TF
 cs:List TF
 hp:List (Nat×AObj×Bool)
 nb:Nat
def aA (l:List (Nat×AObj×Bool))(nb:Nat) :Hp:= ⟨dN (l.map fun p=> (p.1,p.2.1)),nb⟩
def TS.as (s:TS) :AS:= ⟨s.fr.fr,s.cs.map TF.fr,aA s.hp s.nb⟩
def T.mapT {α β:Type}(f:α→β) :T α→T β
 | .leaf=>.leaf
 | .node l v r=>.node (T.mapT f l) (v.map f) (T.mapT f r)
theorem aFo {a b:Type}(f:a→b) :∀ (t:T a) (k:Nat),(t.mapT f).get k= (t.get k).map f
 | .leaf,k=>rfl
 | .node l v r,k=>by
  rw [T.mapT,T.get_node,T.get_node,aFo f l,aFo f r];split
  ·rfl
  ·split<;>rfl
theorem aEa {a b:Type}(f:a→b)(t:T a)(k:Nat) : (t.mapT f).at k= (t.at k).map f:=aFo f t _
def AObj.ren (τ:Nat→Nat) :AObj→AObj
 | .cells t n ol sup=>.cells (t.mapT (AV.ren τ)) n (ol.map τ) sup
 | .map es c=>.map (es.map fun p=> (AV.ren τ p.1,AV.ren τ p.2.1,p.2.2)) c
 | .siter l n p=>.siter l n p
 | .mapx es c k v=>.mapx es c (AV.ren τ k) (AV.ren τ v)
 | .loop st pe fn tm nt ps aS bd df=>.loop st pe fn (tm.mapT (AV.ren τ)) nt ps aS bd (τ df)
 | .defd t=>.defd t
 | .lst e xs=>.lst e (renL τ xs)
 | .lstv u e xs=>.lstv u e (renL τ xs)
 | .miter m s l n=>.miter (τ m) s l n
 | .zone w rs Z=>.zone w (List.map τ rs) Z
def AItem.ren (τ:Nat→Nat) :AItem→AItem
 | .inRF l=>.inRF (τ l)
 | .junk=>.junk
 | .endRF l=>.endRF (τ l)
 |i=>i
def ADef.ren (τ:Nat→Nat) :ADef→ADef
 | .fn f args=>.fn f (renL τ args)
 | .col r=>.col (τ r)
def AMode.ren (τ:Nat→Nat) :AMode→AMode
 | .pan ch=>.pan (ch.map fun p=> (AV.ren τ p.1,p.2))
 |m=>m
theorem bEx {b:Nat→Nat}{E:Emb}{tm:T AV}{c:Nat}{tmps:Array Value}(r:TR E (tm.mapT (AV.ren b)) c tmps) :TR (E.ren b) tm c tmps:=
 ⟨r.1,fun t a e=>by
  obtain⟨v,d,f⟩ :=r.2 t (AV.ren b a) (by rw [aEa,e];rfl);exact⟨v,d,(eT b E a v).1 f⟩⟩
theorem aRb {a:Nat→Nat}{E:Emb}:∀ {c:List (AV×AV×Nat)} {d:List MapEntry},ERs E (c.map fun p=> (AV.ren a p.1,AV.ren a p.2.1,p.2.2)) d→ERs (E.ren a) c d
 | [],_,r=>by simpa [ERs]using r
 | p::c,_,r=>by
  simp only [eI,ERs]at r ⊢;obtain⟨u,b,e,h,g,f,i⟩ :=r;exact⟨u,b,e,(eT a E _ _).1 h,(eT a E _ _).1 g,f,aRb i⟩
theorem bEy {g:Nat→Nat}{E:Emb}{H:Array Obj}{L:Loc}{o:AObj}(r:OR E H L (o.ren g)) :OR (E.ren g) H L o:=by
 cases o with
 | cells t n ol J=>
  obtain⟨C,q,d,f,b⟩ :=r;refine⟨C,q,d,f,fun i a e=>?_⟩;obtain⟨F,v,W,M⟩ :=b i (AV.ren g a) (by rw [aEa,e];rfl);exact⟨F,v,W,(eT g E a v).1 M⟩
 |map R c=>obtain⟨z,d,f⟩ :=r;exact⟨z,d,aRb f⟩
 |siter l n p=>exact r
 | mapx R c k v=>
  obtain⟨z,d,f,b⟩ :=r;refine⟨z,d,?_,b⟩;obtain⟨G,h,X,Y,B⟩ :=ERs.split f;rw [X];refine ERs.join (b E _ G rfl Y) ?_;simp only [ERs]at B ⊢;obtain⟨u,y,S,U,Q,O,K⟩ :=B;exact⟨u,y,S,(eT g E _ _).1 U,(eT g E _ _).1 Q,O,K⟩
 |loop st pe fn tm nt ps aS bd df=>obtain⟨w,I,d,f,b⟩ :=r;exact⟨w,I,d,f,bEx b⟩
 |defd t=>exact r
 |lst e j=>obtain⟨C,q,h,d,f,b,x⟩ :=r;exact⟨C,q,h,d,f,(nQ g E j h).1 b,x⟩
 |miter m s l n=>obtain⟨Lm,d,f,b⟩ :=r;exact⟨Lm,d,f,b⟩
 | zone w0 r0 Z=>
  obtain⟨r1,N,A,V⟩ :=r;exact⟨r1,N,by rw [List.map_map]at A;exact A,V⟩
 | lstv u e j=>
  obtain⟨C,q,h,d,f,b,x,T,D⟩ :=r;have hl: (renL g j).length=j.length:=by rw [←b.length,((nQ g E j h).1 b).length]
  exact⟨C,q,h,d,f,(nQ g E j h).1 b,x,T,by rw [hl]at D;exact D⟩
def AObj.kl :AObj→Prop
 | .lst _ xs=>keylessL xs=true
 | .lstv _ _ xs=>keylessL xs=true
 | .map es _=>∀e∈es,keyless e.1=true∧keyless e.2.1=true
 |_=>False
theorem aVq {E E':Emb}(he:E.imm=E'.imm) :∀ {a:List (AV×AV×Nat)} {c:List MapEntry},(∀e∈a,keyless e.1=true∧keyless e.2.1=true) →ERs E a c→ERs E' a c
 | [],_,_,r=>by simpa [ERs]using r
 | e::a,_,hk,r=>by
  simp only [ERs]at r ⊢;obtain⟨u,b,h,m,j,g,l⟩ :=r;have n:E.p=E'.p:=by simp [Emb.p,he]
  have k:=hk e (cQ ..);have d:=eS k.1 m;have f:=eS k.2 j;rw [n]at d f;exact⟨u,b,h,VR.of_p d,VR.of_p f,g,aVq he (fun x i=>hk x (cH _ i)) l⟩
theorem aVr {E E':Emb}(he:E.imm=E'.imm){H:Array Obj}{L:Loc}{o:AObj}(hk:o.kl)(r:OR E H L o) :OR E' H L o:=by
 cases o with
 | lst e k=>
  obtain⟨C,h,g,a,b,f,d⟩ :=r;refine⟨C,h,g,a,b,?_,d⟩;have:=gC hk f;have i:E.p=E'.p:=by simp [Emb.p,he]
  rw [i]at this;exact this.of_p
 | lstv u e k=>
  obtain⟨C,h,g,a,b,f,d⟩ :=r;refine⟨C,h,g,a,b,?_,d⟩;have:=gC hk f;have i:E.p=E'.p:=by simp [Emb.p,he]
  rw [i]at this;exact this.of_p
 |map l c=>obtain⟨j,a,b⟩ :=r;exact⟨j,a,aVq he hk b⟩
 |_=>exact hk.elim
theorem bEz {b:Nat→Nat}{E:Emb}{a:AItem}{i:Item}(r:IR E (a.ren b) i) :IR (E.ren b) a i:=by cases a<;>exact r
theorem aRc {b:Nat→Nat}{E:Emb}:∀ {c:List AItem} {d:List Item},IRs E (c.map (AItem.ren b)) d→IRs (E.ren b) c d
 | [],_,r=>by simpa [IRs]using r
 |_::_,_,r=>by simp only [eI,IRs]at r ⊢;obtain⟨i,a,e,g,f⟩ :=r;exact⟨i,a,e,bEz g,aRc f⟩
theorem bEA {c:Nat→Nat}{E:Emb}{a:ADef}{d:Deferred}(r:DR E (a.ren c) d) :DR (E.ren c) a d:=by
 cases a with
 |fn f e=>obtain⟨b,a,g,h⟩ :=r;exact⟨b,a,g,(nQ c E _ _).1 h⟩
 |col i=>exact r
theorem aOn {b:Nat→Nat}{E:Emb}:∀ {c:List (AV×Bool)} {d:List PanicEntry},CR E (c.map fun p=> (AV.ren b p.1,p.2)) d→CR (E.ren b) c d
 | [],_,r=>by simpa [CR]using r
 |_::_,_,r=>by simp only [eI,CR]at r ⊢;obtain⟨i,a,e,g,f⟩ :=r;exact⟨i,a,e,(eT b E _ _).1 g,aOn f⟩
theorem bEB {b:Nat→Nat}{E:Emb}{a:AMode}{m:FrameMode}(r:MR E (a.ren b) m) :MR (E.ren b) a m:=by
 cases a with
 |pan f=>simp only [AMode.ren,MR]at r ⊢;obtain⟨d,c,e⟩ :=r;exact⟨d,c,aOn e⟩
 |_=>exact r
theorem bEC {c:Nat→Nat}{E:Emb}{a b:Option Nat}(r:RR E (a.map c) b) :RR (E.ren c) a b:=by cases a<;>exact r
theorem own_ren {a:Nat→Nat}{o:AObj}{L:Loc}{i:Nat}:Own (o.ren a) L i↔Own o L i:=by cases o<;>exact Iff.rfl
theorem uK {a:Nat→Nat}{o:AObj}{f:Bool}{L:Loc}{i:Nat}(h:Own o L i) :Own (bif f then o else o.ren a) L i:=by
 cases f
 case true=>exact h
 exact own_ren.2 h
theorem sP {a:Nat→Nat}{o q:AObj}{f:Bool}{L:Loc}{i:Nat}(e:o= (bif f then q else q.ren a))(h:Own o L i) :Own q L i:=by
 subst e;cases f
 case true=>exact h
 exact own_ren.1 h
structure SumF where
 fn:Nat
 nt:Nat
 kind:CallKind
 ro:Option Nat
 mode:AMode
 todo:List AItem
 defers:List ADef
 sl:List (Option AV)
def slotsOf (tm:T AV) :List (Nat×AV) →List (Option AV)
 | [] =>[]
 |p::r=>tm.at p.1::slotsOf tm r
def aRd (τ:Nat→Nat) :List (Nat×AV) →List (Option AV)
 | [] =>[]
 |p::r=>some (AV.ren τ p.2) ::aRd τ r
def sumF (a:AFrame)(f:TF) :SumF:= ⟨a.fn,a.nt,a.kind,a.roundOf,a.mode,a.todo,a.defers,slotsOf a.tm f.sl⟩
def aFp (τ:Nat→Nat)(f:TF) :SumF:= ⟨f.fn,f.nt,f.kind,f.roundOf.map τ,f.mode.ren τ,f.todo.map (AItem.ren τ),f.defers.map (ADef.ren τ),aRd τ f.sl⟩
def aRe :List AFrame→List TF→List SumF
 |a::aS,f::fs=>sumF a f::aRe aS fs
 |_,_=>[]
def sQ (h:Hp)(τ:Nat→Nat) :List (Nat×AObj×Bool) →List (Option AObj)
 | [] =>[]
 |p::r=>h.look (τ p.1) ::sQ h τ r
def iF (τ:Nat→Nat) :List (Nat×AObj×Bool) →List (Option AObj)
 | [] =>[]
 |p::r=>some (bif p.2.2 then p.2.1 else p.2.1.ren τ) ::iF τ r
structure Sum where
 fr:SumF
 n:Nat
 cs:List SumF
 hp:List (Option AObj)
def AS.sum (s:AS)(τ:Nat→Nat)(t:TS) :Sum:= ⟨sumF s.fr t.fr,s.cs.length,aRe s.cs t.cs,sQ s.h τ t.hp⟩
def TS.want (t:TS)(τ:Nat→Nat) :Sum:= ⟨aFp τ t.fr,t.cs.length,t.cs.map (aFp τ),iF τ t.hp⟩
def fA (m nb n1:Nat)(ks:List Nat)(b:Nat) :Nat:=bif blt b m then b else bif blt b nb then ks.getD (b-m) 0 else n1+b
def aRf :List Nat→Bool
 | [] =>true
 |k::ks=> !(wC k ks) &&aRf ks
def aRg (m:Nat) :List Nat→Bool
 | [] =>true
 |k::ks=>ble m k&&aRg m ks
def aRh :AObj→Bool
 | .cells _ _ [] _=>true
 | .cells .. =>false
 |_=>true
theorem aJi {o:AObj}(h:aRh o=true) :bQ o= [] :=by
 cases o with
 | cells t n a b=>cases a with
  |nil=>rfl
  |cons x c=>cases h
 |_=>rfl
def fU (nb:Nat) :List (Nat×AObj×Bool) →Bool
 | [] =>true
 |p::r=>blt p.1 nb&&aRh p.2.1&&fU nb r
def cR (m:Nat)(t:TS)(ks:List Nat) :Bool:=ble m t.nb&&beq (m+ks.length) t.nb&&aRf ks&&aRg m ks&&fU t.nb t.hp
def fG :List (Nat×AObj×Bool) →Prop
 | [] =>True
 | (_,o,true) ::r=>o.kl∧fG r
 | (_,_,false) ::r=>fG r
theorem xJ (t:Nat) :∀l:List Nat,wC t l=true↔t∈l
 | [] =>by simp [wC]
 | x ::a=>by
  rw [wC,Bool.or_eq_true,xJ t a,bM,decide_eq_true_eq,zq7];constructor
  · rintro(h|h)
    ·exact .inl h.symm
    ·exact .inr h
  · rintro(h|h)
    ·exact .inl h.symm
    ·exact .inr h
theorem aHH :∀ {l:List Nat},aRf l=true→∀i j,i<l.length→j<l.length→l.getD i 0=l.getD j 0→i=j
 | [],_,i,j,a,_,_=>by simp at a
 | x ::xs,h,i,j,a,c,e=>by
  simp only [aRf,cP,Bool.not_eq_true']at h;have b:x∉xs:=fun hm=>by rw [(xJ x xs).2 hm]at h;cases h.1
  cases i with
  | zero=>
   cases j with
   |zero=>rfl
   | succ j=>
    simp only [mO]at c;simp only [List.getD_cons_zero,List.getD_cons_succ]at e;exact absurd (e ▸ (by rw [nY,kR (by omega)];exact List.getElem_mem ..)) b
  | succ i=>
   cases j with
   | zero=>
    simp only [mO]at a;simp only [List.getD_cons_zero,List.getD_cons_succ]at e;exact absurd (e ▸ (by rw [nY,kR (by omega)];exact List.getElem_mem ..)) b
   | succ j=>
    simp only [mO]at a c;simp only [List.getD_cons_succ]at e;rw [aHH h.2 i j (by omega) (by omega) e]
theorem aCL {m:Nat}:∀ {l:List Nat},aRg m l=true→∀i,i<l.length→m≤l.getD i 0
 | [],_,i,a=>by simp at a
 | x::b,h,i,a=>by
  simp only [aRg,cP]at h;cases i with
  |zero=>simpa using Nat.le_of_ble_eq_true h.1
  |succ i=>simp only [mO]at a;simpa using aCL h.2 i (by omega)
theorem dY {nb:Nat}:∀ {l:List (Nat×AObj×Bool)},fU nb l=true→∀p∈l,p.1<nb∧bQ p.2.1= []
 | p::r,h,q,a=>by
  simp only [fU,cP,cY,decide_eq_true_eq]at h;rcases zq7.1 a with rfl|a
  ·exact⟨h.1.1,aJi h.1.2⟩
  ·exact dY h.2 q a
theorem nA :∀ {l:List (Nat×AObj×Bool)},fG l→∀k o,(k,o,true) ∈l→o.kl
 | (c,b,true) ::r,h,k,o,a=>by
  rcases zq7.1 a with e|a
  ·cases e;exact h.1
  ·exact nA h.2 k o a
 | (c,b,false) ::r,h,k,o,a=>by
  rcases zq7.1 a with e|a
  ·cases e
  ·exact nA (l:=r) h k o a
theorem aHI {b:Nat→Nat}{tm:T AV}:∀ {l:List (Nat×AV)},slotsOf tm l=aRd b l→∀p∈l,tm.at p.1=some (AV.ren b p.2)
 | p::r,h,q,a=>by
  simp only [slotsOf,aRd,List.cons.injEq]at h;rcases zq7.1 a with rfl|a
  ·exact h.1
  ·exact aHI h.2 q a
theorem pI {a:Nat→Nat}{c:Hp}:∀ {l:List (Nat×AObj×Bool)},sQ c a l=iF a l→∀p∈l,c.look (a p.1) =some (bif p.2.2 then p.2.1 else p.2.1.ren a)
 | p::r,h,q,b=>by
  simp only [sQ,iF,List.cons.injEq]at h;rcases zq7.1 b with rfl|b
  ·exact h.1
  ·exact pI h.2 q b
theorem aEb {b:Nat→Nat}{E:Emb}{a:AFrame}{f:TF}(h:sumF a f=aFp b f){c:Frame}(r:FR E a c) :FR (E.ren b) f.fr c:=by
 simp only [sumF,aFp,SumF.mk.injEq]at h;obtain⟨x,A,p,m,u,s,q,w⟩ :=h;refine⟨r.fn.trans x,⟨r.tm.1.trans A,fun t v e=>?_⟩,aRc (show IRs E (f.todo.map (AItem.ren b)) c.todo by rw [←s];exact r.todo),?_,bEB (show MR E (f.mode.ren b) c.mode by rw [←u];exact r.mode),r.kind.trans p,bEC (show RR E (f.roundOf.map b) c.roundOf by rw [←m];exact r.round)⟩
 · obtain⟨j,l,y⟩ :=r.tm.2 t (AV.ren b v) (aHI w (t,v) (aAL e));exact⟨j,l,(eT b E v j).1 y⟩
 · have i:=r.defers;rw [q]at i;have:∀ {g:List ADef} {ds:List Deferred},DRs E (g.map (ADef.ren b)) ds→DRs (E.ren b) g ds:=by
    intro g
    induction g with
    |nil=>intro ds h;simpa [DRs]using h
    | cons a g o=>
     intro ds h;obtain⟨d,k,rfl,z,n⟩ :=h.cons_inv;exact DRs.cons (bEA z) (o n)
   exact this i
theorem yW {e:Nat→Nat}{E:Emb}:∀ {d:List AFrame} {fs:List TF},d.length=fs.length→aRe d fs=fs.map (aFp e) →∀ {b:List Frame},FRs E d b→FRs (E.ren e) (fs.map TF.fr) b
 | [],[],_,_,b,r=>by rw [r.nil_inv];rfl
 | a::d,f::fs,hl,h,b,r=>by
  simp only [aRe,eI,List.cons.injEq]at h;obtain⟨c,j,rfl,i,g⟩ :=r.cons_inv;exact FRs.cons (aEb h.1 i) (yW (by simpa using hl) h.2 g)
 | [],_::_,hl,_,_,_=>by simp at hl
 |_::_,[],hl,_,_,_=>by simp at hl
theorem uL {m nb n1:Nat}{ks:List Nat}{b:Nat}(h:b<m) :fA m nb n1 ks b=b:=by simp [fA,cY,h]
theorem aBF {m nb n1:Nat}{ks:List Nat}{b:Nat}(h1:m≤b)(h2:b<nb) :fA m nb n1 ks b=ks.getD (b-m) 0:=by simp [fA,cY,h2,show ¬b<m by omega]
theorem aVs {m nb n1:Nat}{ks:List Nat}{b:Nat}(h1:m≤b)(h2:nb≤b) :fA m nb n1 ks b=n1+b:=by simp [fA,cY,show ¬b<m by omega,show ¬b<nb by omega]
theorem kO {m:Nat}{l:List (Nat×AObj×Bool)}{nb:Nat}{ks:List Nat}{h:Hp}(A:cR m ⟨⟨0,0,[],[],[],.run,.normal,none⟩,[],l,nb⟩ ks=true)(hh:sQ h (fA m nb h.nb ks) l=iF (fA m nb h.nb ks) l)(t:fG l){E:Emb}{w:World}(r:Rel E h w.heap) :
  Rel (E.ren (fA m nb h.nb ks)) (aA l nb) w.heap∧ExtM m E h w (E.ren (fA m nb h.nb ks)) (aA l nb) w:=by
 simp only [cR,cP]at A;obtain⟨⟨⟨⟨o1,o2⟩,Z⟩,T⟩,O⟩ :=A;have hm:=Nat.le_of_ble_eq_true o1;have S:=fQ o2
 have a:∀ {b o},(aA l nb).look b=some o→b<nb∧bQ o= [] ∧∃f,(b,o,f) ∈l∧h.look (fA m nb h.nb ks b) =some (bif f then o else o.ren (fA m nb h.nb ks)) :=fun {b o} e=>by
  have: (b,o) ∈l.map fun p=> (p.1,p.2.1) :=aAL e;obtain⟨p,D,H⟩ :=zq24.1 this;obtain⟨pb,po,pf⟩ :=p;cases H;exact⟨(dY O _ D).1,(dY O _ D).2,pf,D,pI hh _ D⟩
 have inj:∀ {b b'},b<nb→b'<nb→fA m nb h.nb ks b=fA m nb h.nb ks b'→b=b':=fun {b b'} h1 h2 e=>by
  rcases lt_or_ge b m with v|v
  · rw [uL v]at e;rcases lt_or_ge b' m with n|n
    ·rw [uL n]at e;exact e
    · rw [aBF n h2]at e;have:=aCL T (b'-m) (by omega);omega
  · rw [aBF v h1]at e;rcases lt_or_ge b' m with n|n
    · rw [uL n]at e;have:=aCL T (b-m) (by omega);omega
    · rw [aBF n h2]at e;have:=aHH Z _ _ (by omega) (by omega) e;omega
 refine⟨⟨fun b o e=>?_,fun b b' o N L J e e' k k' F G=>?_,fun b hb=>?_,r.imm,fun b o L e k i M=>?_,fun b o e=> (a e).1⟩,
  ⟨fun b hb=>by show E.loc (fA m nb h.nb ks b) =E.loc b;rw [uL hb],fun _ _ e=>e,le_refl _,fun _ _ _=>rfl,fun b' N J e k i M _=>?_,hm,rfl,rfl,rfl,fun _ _=>rfl,fun _ _ e _=>.inl e,fun b o e hb=>?_⟩⟩
 · obtain⟨hb,d,f,s,c⟩ :=a e;cases f
   case true=>
    simp only [cond]at c;rcases r.obj0 _ _ c with u| ⟨L,v,n⟩
    ·exact .inl u
    ·exact .inr ⟨L,v,aVr (E:=E) (E':=E.ren (fA m nb h.nb ks)) rfl (nA t b o s) n⟩
   simp only [cond]at c;rcases r.obj0 _ _ c with⟨Q,W⟩ | ⟨L,v,n⟩
   · refine .inl ⟨?_,W⟩;cases o with
     | lst e R=>cases R with
      |nil=>rfl
      |cons x R=>simp [AObj.ren,renL,kN]at Q
     |_=>cases Q
   ·exact .inr ⟨L,v,bEy n⟩
 · obtain⟨hb,d,f,s,c⟩ :=a e;obtain⟨y,C,U,K,B⟩ :=a e';have z:fA m nb h.nb ks b≠fA m nb h.nb ks b':=fun ee=>G (inj hb y ee);obtain⟨i,i1,i2⟩ :=F;have j:=r.kin _ _ _ _ L J c B k k' ⟨i,uK i1,uK i2⟩ z
   have q:∀ (o:AObj) (f:Bool),(f=true→o.kl) →bQ (bif f then o else o.ren (fA m nb h.nb ks)) = (bQ o).map (fA m nb h.nb ks) ∧jL (bif f then o else o.ren (fA m nb h.nb ks)) =jL o∧nOf (bif f then o else o.ren (fA m nb h.nb ks)) =nOf o:=fun o f s=>by
    cases f
    case true=>cases o<;>first|exact⟨rfl,rfl,rfl⟩ |exact(s rfl).elim
    cases o<;>exact⟨rfl,rfl,rfl⟩
   obtain⟨a1,a2,Y⟩ :=q o f (fun I=>by subst I;exact nA t b o s);obtain⟨V,b2,X⟩ :=q N U (fun I=>by subst I;exact nA t b' N K);unfold Kin at j;rw [a1,a2,Y,V,b2,X,d,C]at j;rcases j with⟨g,_⟩ | ⟨g,_⟩ <;>simp at g
 · show E.loc (fA m nb h.nb ks b) =none;have hb:nb≤b:=hb;rw [aVs (by omega) hb];exact r.fresh _ (by omega)
 · obtain⟨hb,d,f,s,c⟩ :=a e;exact r.apart _ _ L c k i (uK M)
 · obtain⟨hb,d,f,s,c⟩ :=a e;exact⟨_,_,J,c,k,uK M⟩
 · obtain⟨y,d,f,s,c⟩ :=a e;rw [uL hb]at c;exact⟨_,c⟩
end
end
end Go.Hb
