/- A machine on abstract values, its soundness, ways, plain laws. -/
import Derived.Test.YtnljmgihoioocaaGreatHD
set_option linter.defProp false
set_option linter.unusedVariables false
set_option linter.unusedSimpArgs false
set_option linter.unusedSectionVars false
set_option maxRecDepth 100000
namespace Go.Hb
open AV (frzOk keyless keylessL renL)
open List (mem_singleton_self replicate)
open Nat (beq ble blt le_refl lt_or_ge)
noncomputable section
section
variable {P :Program}
theorem mem1 {p:Prop}{ps:List Prop}(h:∀q∈p::ps,q) :p:=h p (dT ..)
theorem dY {h:Hp}{tm:T AV}{o:Oper}{out:AOut}(h0:kA P h tm o=none)(h1:vop P h tm o=some out) :mS P h tm o=some out:=by unfold mS;rw [h0];exact h1
theorem uS {k:IntKind}{n:Int}{len:Nat}(h0:0≤n)(h1:n<len) :iY (.int k n) len=some n.toNat:=by simp [iY,h0,h1]
inductive Ans where
 |idx (y:AV)
 |ix
 |ev (v:AV)
 |look (r:Option (Nat×AV))
 |len (n:Int)
def aJ1 (z:AV)(ok:Bool)(r:Option (Nat×AV)) :AV:=match r with
 |some (_,v) =>bif ok then .tup [v,.bool true]else v
 |none=>bif ok then .tup [z,.bool false]else z
def sH (P:Program)(h:Hp)(tm:T AV)(o:Oper)(a:Ans) :Option (AV×List Prop) :=
 match a with
 | .idx y=>match o.op with
  | .indexAddr t x i=>match cE tm x,cE tm i with
   |some (.ilst e xs _),some (.int _ n) =>bif aAu P t e then some (.iptr y.cells,[0≤n,xs[n.toNat]?=some y])else none
   |_,_=>none
  | .load t a=>match cE tm a with
   | some (.ep b e i k) =>match h.look b with
    | some (.lst e' xs) =>bif beq e' e then match aMi P t (y.cells.drop k)with
     |some v=>some (v,[xs[i]?=some y])
     |none=>none else none
    |_=>none
   |_=>none
  |_=>none
 | .ix=>match o.op with
  | .indexAddr t x i=>match cE tm x,cE tm i with
   |some (.gl b e off len _),some (.int _ n) =>bif aAu P t e then some (.ep b e (off+n.toNat) 0,[0≤n,n<len])else none
   |_,_=>none
  |_=>none
 | .ev v=>match o.op with
  | .slice t x lo hi mx=>match cE tm x,pY tm lo,pY tm hi,pY tm mx with
   |some a,some lo,some hi,some mx=>some (v,[∃l u m,hM lo=some l∧hM hi=some u∧hM mx=some m∧ (tW P t a l u m=some v∨ (tW P t a l u m=none∧aCX P t a l u m=some v))])
   |_,_,_,_=>none
  | .binOp op t x y _=>match cE tm x,cE tm y with
   |some a,some b=>some (v,[bAF P op t a b (isLit x) (isLit y) =some v])
   |_,_=>none
  | .index t x i=>match cE tm x,cE tm i with
   | some (.str l n),some (.int _ k) =>match P.underlying t with
    |some .string=>some (v,[0≤k,k<l,.int .u8 (Nat.mod (Nat.div n (Nat.pow 256 k.toNat)) 256) =v])
    |_=>none
   |_,_=>none
  | .convert sr d x=>match cE tm x with
   | some (.slice b off len _ _ _) =>match P.underlying sr,P.underlying d,h.loadN b off len with
    | some (.slice e),some .string,some vs=>match P.underlying e with
     |some (.int .u8) =>some (v,[wU vs=some v])
     |_=>none
    |_,_,_=>none
   |_=>none
  |_=>none
 | .look r=>match o.op with
  | .lookup t x k ok=>match cE tm x,cE tm k with
   | some (.map b),some k=>match P.underlying t,h.look b with
    | some (.map kt et),some (.map es _) =>match P.underlying kt,zeroOf P et with
     |some kd,some z=>bif plainKey kd k then some (aJ1 z ok r,[rC k es 0=some r])else none
     |_,_=>none
    |_,_=>none
   |_,_=>none
  |_=>none
 | .len n=>match o.op with
  | .call c=>match c.callee,jM tm c.args.toList,c.argTypes[0]? with
   | .builtin .len,some [.ilst _ xs _],some t=>match P.underlying t with
    |some (.slice _) =>some (.int .i64 n,[(xs.length:Int) =n])
    |_=>none
   |_,_,_=>none
  |_=>none
theorem pJ {h:Hp}{tm:T AV}{o:Oper}{a:Ans}{v:AV}{ps:List Prop}(h0:sH P h tm o a=some (v,ps))(hp:∀p∈ps,p) :mS P h tm o=some (.val v h) :=by
 cases a with
 | idx y =>
  simp only [sH]at h0;split at h0
  · rename_i t x i hop;split at h0
    · rename_i e xs ex k n hx hi;cases hc:aAu P t e
      case false=>rw [hc]at h0;cases h0
      rw [hc]at h0;simp only [cond]at h0;cases h0;have q0:=hp _ (dT ..);have q1:=hp _ (eD _ (dT ..));have hlt:= (zq0.1 q1).1;refine dY ?_ ?_
      ·simp only [kA,hop,ev2,hx,hi];split<;>simp_all
      ·simp only [vop,hop,ev2,hx,hi,hc,cond,uS q0 (show n< (xs.length:Int)by omega),q1]
    ·cases h0
  · rename_i t a hop;split at h0
    · rename_i b e i k ha;split at h0
      · rename_i e' xs hb;cases hc:beq e' e
        case false=>rw [hc]at h0;cases h0
        rw [hc]at h0;simp only [cond]at h0;split at h0
        · rename_i v' hv;cases h0;have q1:=mem1 hp;refine dY ?_ ?_
          ·simp only [kA,hop,ev1,ha]
          ·simp only [vop,hop,ev1,ha,hb,hc,cond,q1,val,hv]
        ·cases h0
      ·cases h0
    ·cases h0
  ·cases h0
 | ix =>
  simp only [sH]at h0;split at h0
  · rename_i t x i hop;split at h0
    · rename_i b e off len ex k n hx hi;cases hc:aAu P t e
      case false=>rw [hc]at h0;cases h0
      rw [hc]at h0;simp only [cond]at h0;cases h0;have q0:=hp _ (dT ..);have q1:=hp _ (eD _ (dT ..));refine dY ?_ ?_
      ·simp only [kA,hop,ev2,hx,hi];split<;>simp_all
      ·simp only [vop,hop,ev2,hx,hi,hc,cond,uS q0 q1]
    ·cases h0
  ·cases h0
 | ev v0 =>
  simp only [sH]at h0;split at h0
  · rename_i t x lo hi mx hop;split at h0
    · rename_i a l1 l2 l3 hx e1 e2 e3;cases h0;obtain⟨l,u,m',d1,d2,d3,d4| ⟨d4,d5⟩⟩ :=mem1 hp
      ·unfold mS;simp only [kA,hop,ev1,hx,e1,e2,e3,d1,d2,d3,d4,val]
      · refine dY ?_ ?_
        ·simp only [kA,hop,ev1,hx,e1,e2,e3,d1,d2,d3,d4,val]
        ·simp only [vop,hop,ev1,hx,e1,e2,e3,d1,d2,d3,d5,val]
    ·cases h0
  · rename_i op t x y yt hop;split at h0
    · rename_i a b hx hy;cases h0;have q:=mem1 hp;unfold mS;simp only [kA,hop,ev2,hx,hy,q,val]
    ·cases h0
  · rename_i t x i hop;split at h0
    · rename_i l n kk k hx hi;split at h0
      · rename_i hu;cases h0;have q1:=hp _ (dT ..);have q2:=hp _ (eD _ (dT ..));have q3:=hp _ (eD _ (eD _ (dT ..)));unfold mS;simp only [kA,hop,ev2,hx,hi,hu,uS q1 q2,q3]
      ·cases h0
    ·cases h0
  · rename_i sr d x hop;split at h0
    · rename_i b off len cp ez ex hx;split at h0
      · rename_i e vs hs hd hl;split at h0
        · rename_i hu;cases h0;have q:=mem1 hp;unfold mS;simp only [kA,hop,ev1,hx,wV,hs,hd,hl,hu,q,val]
        ·cases h0
      ·cases h0
    ·cases h0
  ·cases h0
 | look r =>
  simp only [sH]at h0;split at h0
  · rename_i t x k ok hop;split at h0
    · rename_i b kv hx hk;split at h0
      · rename_i kt et es clock hu hb;split at h0
        · rename_i kd z hkd hz;cases hc:plainKey kd kv
          case false=>rw [hc]at h0;cases h0
          rw [hc]at h0;simp only [cond]at h0;cases h0;have q:=mem1 hp;unfold mS;simp only [kA,hop,ev2,hx,hk,aEL,hu,hkd,hz,hc,cond,hb,q];cases r with
          |none=>cases ok<;>simp [val,aJ1]
          |some p=>obtain⟨i,v⟩ :=p;cases ok<;>simp [val,aJ1]
        ·cases h0
      ·cases h0
    ·cases h0
  ·cases h0
 | len n =>
  simp only [sH]at h0;split at h0
  · rename_i c hop;split at h0
    · rename_i e xs ex t hcal hargs ht;split at h0
      · rename_i el hu;cases h0;have q:=mem1 hp;subst q;refine dY ?_ ?_
        ·simp only [kA,hop,wM,hargs,hcal,iR,ht,bAG,hu]
        ·simp only [vop,hop,hcal,hargs,ht,hu]
      ·cases h0
    ·cases h0
  ·cases h0
inductive RIns where
 |d
 |b (j:Nat) (v:Bool)
 |pure (v:AV)
 |ans (a:Ans)
 |call (v:AV) (h':Hp)
 |st (y y':AV)
 |app (zs:List AV) (n:Nat)
def aJ2 (P:Program)(h:Hp)(tm:T AV)(o:Oper)(zs:List AV)(n:Nat) :Option (AV×Hp×List Prop) :=
 match o.op with
 | .call c=>match c.callee,jM tm c.args.toList,c.argTypes[0]?,c.argTypes[1]? with
  | .builtin .append,some [d,.ilst e1 ys ex],some st,some xt=>match P.underlying st,P.underlying xt with
   | some (.slice el),some (.slice _) =>match bA P el,P.info? el,zeroOf P el,P.underlying el with
    | some e,some inf,some z,some _=>bif (beq z.cells.length e&&ble e 40&&ble inf.bytes 1000&&ble 1 inf.bytes&&ble 1 e) &&beq e1 e then
      match d with
      | .nils=>some (.gl h.nb e 0 n false,h.new (.lst e zs),[n≤1000000,ys=zs,ys.length=n])
      | .gl b e' off len _=>match h.look b with
       | some (.lst e2 xs) =>bif beq e' e&&beq e2 e then
         some (.gl h.nb e 0 n false,(h.del b).new (.lst e zs),[off+len≤xs.length,n≤1000000,(xs.drop off).take len++ys=zs,len+ys.length=n])else none
       |_=>none
      | .ilst e2 (y::xs) true=>bif beq e2 e then some (.ilst e zs false,h,[keylessL ys=true,(y::xs).length+ys.length≤1000000,y::xs++ys=zs])else none
      |_=>none
      else none
    |_,_,_,_=>none
   |_,_=>none
  |_,_,_,_=>none
 |_=>none
def aJ3 (P:Program)(h:Hp)(tm:T AV)(o:Oper)(zs:List AV)(n:Nat) :Option (AV×Hp×List Prop) :=
 match o.op with
 | .call c=>match c.callee,jM tm c.args.toList,c.argTypes[0]?,c.argTypes[1]? with
  | .builtin .append,some [.gl b e' off len _,x],some st,some xt=>match P.underlying st,P.underlying xt with
   | some (.slice el),some (.slice _) =>match bA P el,P.info? el,zeroOf P el with
    | some e,some inf,some z=>bif beq z.cells.length e&&ble e 40&&ble inf.bytes 1000&&ble 1 inf.bytes&&ble 1 e then
      match h.look b,sB P h el e x with
      | some (.lst e2 xs),some ys=>bif beq e' e&&beq e2 e then
         some (.gl h.nb e 0 n false,(h.del b).new (.lst e zs),[off+len≤xs.length,n≤1000000,(xs.drop off).take len++ys=zs,len+ys.length=n])else none
      |_,_=>none
      else none
    |_,_,_=>none
   |_,_=>none
  |_,_,_,_=>none
 |_=>none
def aJ4 (P:Program)(h:Hp)(tm:T AV)(o:Oper)(zs:List AV)(n:Nat) :Option (AV×Hp×List Prop) :=
 match aJ2 P h tm o zs n with
 |some r=>some r
 |none=>aJ3 P h tm o zs n
theorem aIa {h:Hp}{ats:Array TypeId}{b e off len:Nat}{ex:Bool}{x:AV}:aappend P h ats (.gl b e off len ex) x=none:=by
 unfold aappend;simp only [cond_eq_ite]
 repeat' split
 all_goals first|rfl| (split<;>rfl)
theorem aPA {h:Hp}{ats:Array TypeId}{e:TypeId}{sz e1:Nat}{ys:List AV}{ex:Bool}:aMg P h ats e sz (.ilst e1 ys ex) =none:=by
 unfold aMg;split
 ·rfl
 ·split<;>simp_all
theorem oZ {h:Hp}{ats:Array TypeId}{s:AV}{e1:Nat}{ys:List AV}{ex:Bool}:aappend P h ats s (.ilst e1 ys ex) =none:=by
 unfold aappend;simp only [aPA]
 repeat' split
 all_goals first|rfl| (simp_all;done)
theorem aIb {h h':Hp}{tm:T AV}{o:Oper}{zs:List AV}{n:Nat}{v:AV}{ps:List Prop}(h0:aJ2 P h tm o zs n=some (v,h',ps))(hp:∀p∈ps,p) :mS P h tm o=some (.val v h') :=by
 unfold aJ2 at h0;split at h0
 · rename_i c hop;split at h0
   · rename_i d e1 ys ex st xt hcal hargs hst hxt;split at h0
     · rename_i el el' hu hu';split at h0
       · rename_i e inf z dd hsz hinf hz hd;cases hc: (beq z.cells.length e&&ble e 40&&ble inf.bytes 1000&&ble 1 inf.bytes&&ble 1 e)
         case false=>rw [hc]at h0;cases h0
         cases he:beq e1 e
         case false=>rw [hc,he]at h0;cases h0
         rw [hc,he]at h0;simp only [Bool.and_true,cond]at h0;have hadd:sB P h el e (.ilst e1 ys ex) =some ys:=by
          simp only [sB,hd,he,cond]
         split at h0
         · cases h0;have q0:=hp _ (dT ..);have q1:=hp _ (eD _ (dT ..));have q2:=hp _ (eD _ (eD _ (dT ..)));subst q1;subst q2;refine dY ?_ ?_
           ·simp only [kA,hop,wM,hargs,hcal,iR,oZ]
           · simp only [vop,hop,hcal,hargs,nR,hst,hxt,hu,hu',hsz,hinf,hz,hadd,hc,cond,aFs];rw [if_pos q0]
         · rename_i b e' off len ex';split at h0
           · rename_i e2 xs hb;cases hc2: (beq e' e&&beq e2 e)
             case false=>rw [hc2]at h0;cases h0
             rw [hc2]at h0;simp only at h0;cases h0;simp only [cF]at hc2;have ee1:=iF hc2.1;have ee2:=iF hc2.2;have y2:=hp _ (dT ..);have y3:=hp _ (eD _ (dT ..));have y4:=hp _ (eD _ (eD _ (dT ..)));have y5:=hp _ (eD _ (eD _ (eD _ (dT ..))));subst y4 y5;refine dY ?_ ?_
             ·simp only [kA,hop,wM,hargs,hcal,iR,oZ]
             · simp only [vop,hop,hcal,hargs,nR,hst,hxt,hu,hu',hsz,hinf,hz,hadd,hc,cond,hb,aFs];rw [if_pos ⟨ee1,ee2,y2,y3⟩]
           ·cases h0
         · rename_i e2 y xs;cases he2:beq e2 e
           case false=>rw [he2]at h0;cases h0
           rw [he2]at h0;simp only [cond]at h0;cases h0;have q0:=hp _ (dT ..);have q1:=hp _ (eD _ (dT ..));have q2:=hp _ (eD _ (eD _ (dT ..)));subst q2;refine dY ?_ ?_
           ·simp only [kA,hop,wM,hargs,hcal,iR,oZ]
           · simp only [vop,hop,hcal,hargs,nR,hst,hxt,hu,hu',hsz,hinf,hz,hadd,hc,cond,aFs];rw [if_pos ⟨iF he2,q0,q1⟩]
         ·cases h0
       ·cases h0
     ·cases h0
   ·cases h0
 ·cases h0
theorem aIc {h h':Hp}{tm:T AV}{o:Oper}{zs:List AV}{n:Nat}{v:AV}{ps:List Prop}(h0:aJ3 P h tm o zs n=some (v,h',ps))(hp:∀p∈ps,p) :mS P h tm o=some (.val v h') :=by
 unfold aJ3 at h0;split at h0
 · rename_i c hop;split at h0
   · rename_i b e' off len ex x st xt hcal hargs hst hxt;split at h0
     · rename_i el el' hu hu';split at h0
       · rename_i e inf z hsz hinf hz;cases hc: (beq z.cells.length e&&ble e 40&&ble inf.bytes 1000&&ble 1 inf.bytes&&ble 1 e)
         case false=>rw [hc]at h0;cases h0
         rw [hc]at h0;simp only [cond]at h0;split at h0
         · rename_i e2 xs ys hb hadd;cases hc2: (beq e' e&&beq e2 e)
           case false=>rw [hc2]at h0;cases h0
           rw [hc2]at h0;simp only at h0;cases h0;simp only [cF]at hc2;have ee1:=iF hc2.1;have ee2:=iF hc2.2;have y2:=hp _ (dT ..);have y3:=hp _ (eD _ (dT ..));have y4:=hp _ (eD _ (eD _ (dT ..)));have y5:=hp _ (eD _ (eD _ (eD _ (dT ..))));subst y4 y5;refine dY ?_ ?_
           ·simp only [kA,hop,wM,hargs,hcal,iR,aIa]
           · simp only [vop,hop,hcal,hargs,nR,hst,hxt,hu,hu',hsz,hinf,hz,hadd,hc,cond,hb,aFs];rw [if_pos ⟨ee1,ee2,y2,y3⟩]
         ·cases h0
       ·cases h0
     ·cases h0
   ·cases h0
 ·cases h0
theorem aBQ {h h':Hp}{tm:T AV}{o:Oper}{zs:List AV}{n:Nat}{v:AV}{ps:List Prop}(h0:aJ4 P h tm o zs n=some (v,h',ps))(hp:∀p∈ps,p) :mS P h tm o=some (.val v h') :=by
 unfold aJ4 at h0;split at h0
 · rename_i r hr;cases h0;exact aIb hr hp
 ·exact aIc h0 hp
def aFX (es:List (AV×AV×Nat))(clock:Nat)(k v:AV) :Option (List (AV×AV×Nat) ×Nat) :=
 match rC k es 0 with
 |some (some (i,_)) =>some (setE k v es i,clock)
 |some none=>some (es++ [(k,v,clock)],Nat.succ clock)
 |none=>none
def aWo (P:Program)(h:Hp)(tm:T AV)(o:Oper)(y y':AV) :Option (Hp×List Prop) :=
 match o.op with
 | .store t a x=>match cE tm a,cE tm x with
  | some (.ep b e i k),some v=>match h.look b,bA P t with
   | some (.lst e' xs),some n=>bif beq e' e&&beq v.cells.length n&&ble (k+n) e&&dF v.cells then
     some (h.set b (.lst e (xs.set i y')),[xs[i]?=some y,kY y k v.cells=some y'])else none
   |_,_=>none
  |_,_=>none
 |_=>none
theorem aMA {h h':Hp}{tm:T AV}{o:Oper}{y y':AV}{ps:List Prop}(h0:aWo P h tm o y y'=some (h',ps))(hp:∀p∈ps,p) :mS P h tm o=some (.val .undef h') :=by
 unfold aWo at h0;split at h0
 · rename_i t a x hop;split at h0
   · rename_i b e i k v ha hx;split at h0
     · rename_i e' xs n hb hn;cases hc: (beq e' e&&beq v.cells.length n&&ble (k+n) e&&dF v.cells)
       case false=>rw [hc]at h0;cases h0
       rw [hc]at h0;simp only [cond]at h0;cases h0;have q0:=hp _ (dT ..);have q1:=hp _ (eD _ (dT ..));refine dY ?_ ?_
       ·simp only [kA,hop,ev2,ha,hx]
       ·simp only [vop,hop,ev2,ha,hx,hb,hn,hc,cond,q0,q1]
     ·cases h0
   ·cases h0
 ·cases h0
abbrev Rec :=Nat×AIn×Hp×AV×Hp
theorem uT {α:Type}{v:α}:∀ (f k:Nat) (t:T α),1≤k→k<2 ^ f→t.get k=some v→T.setF (some v) f k t=t
 |0,k,t,h1,h2,_=>by simp at h2;omega
 |f+1,k,.leaf,_,_,h=>by cases h
 | f +1,k,.node l u r,h1,h2,h=>by
  rw [T.setF_node];rw [T.get_node]at h;have h2':k / 2<2 ^ f:=by rw [Nat.pow_succ]at h2;omega
  by_cases hk:k=1
  ·rw [if_pos hk]at h ⊢;rw [h]
  · rw [if_neg hk]at h ⊢;by_cases hm:k % 2=0
    ·rw [if_pos hm]at h ⊢;rw [uT f (k / 2) l (by omega) h2' h]
    ·rw [if_neg hm]at h ⊢;rw [uT f (k / 2) r (by omega) h2' h]
theorem put_eq {α:Type}{t:T α}{k:Nat}{v:α}(h:t.at k=some v) :t.put k v=t:=
 uT _ _ t (by simp) (by have:=aAV (k+1);simpa using this) h
def kK (P:Program)(nt:Nat)(ops:List Oper)(p:Plan)(i:RIns)(r:RS) :Option (RS×List Prop×List Rec) :=
 match i with
 | .d=>match pF P qE nt ops p r with
  |some r'=>some (r',[],[])
  |none=>none
 | .b _ _=>none
 | .pure v=>match cM r.tm ops p.o,p.kd with
  | some true,.eff=>
   match mS P (aQ r.h r.s r.pend) r.tm p.o with
   | some (.call (.enter f args)) =>match kJ r.tm nt p.o.dst v with
    |some tm=>some ({r with tm,h:=aQ r.h r.s r.pend,stages:=r.h::r.stages,s:=Nat.succ r.s},[aJ P f args v],[(r.s,.enter f args,aQ r.h r.s r.pend,v,aQ r.h r.s r.pend)])
    |none=>none
   |_=>none
  |_,_=>none
 | .ans a=>match cM r.tm ops p.o,p.kd with
  | some true,.pure=>match sH P r.h r.tm p.o a with
   | some (v,ps) =>match kJ r.tm nt p.o.dst v with
    |some tm=>some ({r with tm},ps,[])
    |none=>none
   |none=>none
  | some true,.read=>match sH P r.h r.tm p.o a with
   | some (v,ps) =>match kJ r.tm nt p.o.dst v with
    |some tm=>some ({r with tm,again:=bif beq p.lo p.hi then r.again else⟨p.o,r.tm,p.lo,p.hi,v⟩ ::r.again},ps,[])
    |none=>none
   |none=>none
  |_,_=>none
 | .call v h'=>match cM r.tm ops p.o,p.kd with
  | some true,.eff=>
   match mS P (aQ r.h r.s r.pend) r.tm p.o with
   | some (.call c) =>match kJ r.tm nt p.o.dst v with
    |some tm=>some ({r with tm,h:=h',stages:=r.h::r.stages,s:=Nat.succ r.s},[Spec P c (aQ r.h r.s r.pend) (.ret v) h'],[(r.s,c,aQ r.h r.s r.pend,v,h')])
    |none=>none
   |_=>none
  |_,_=>none
 | .st y y'=>match cM r.tm ops p.o,p.kd with
  | some true,.eff=>
   match aWo P (aQ r.h r.s r.pend) r.tm p.o y y' with
   | some (h',ps) =>match kJ r.tm nt p.o.dst .undef with
    |some tm=>some ({r with tm,h:=h',stages:=r.h::r.stages,s:=Nat.succ r.s},ps,[])
    |none=>none
   |none=>none
  |_,_=>none
 | .app zs n=>match cM r.tm ops p.o,p.kd with
  | some true,.eff=>
   match aJ4 P (aQ r.h r.s r.pend) r.tm p.o zs n with
   | some (v,h',ps) =>match kJ r.tm nt p.o.dst v with
    |some tm=>some ({r with tm,h:=h',stages:=r.h::r.stages,s:=Nat.succ r.s},ps,[])
    |none=>none
   |none=>none
  |_,_=>none
def iJ (P:Program)(nt:Nat)(ops:List Oper) :List RIns→List Plan→RS→Option (RS×List Prop×List Rec)
 | [],[],r=>some (r,[],[])
 | .b j v::is,ps,r=>match r.tm.at j with
  | some (.bool b) =>match iJ P nt ops is ps {r with tm:=r.tm.put j (.bool v)} with
   |some (r',qs,rs) =>some (r',(b=v) ::qs,rs)
   |none=>none
  |_=>none
 | i::is,p::ps,r=>match kK P nt ops p i r with
  |none=>none
  | some (r1,qs,rs) =>match iJ P nt ops is ps r1 with
   |none=>none
   |some (r2,qs2,rs2) =>some (r2,qs++qs2,rs++rs2)
 |_,_,_=>none
def keysOf :List Rec→List Nat
 | [] =>[]
 |r::rs=>r.1::keysOf rs
def aFY :List Nat→Bool
 | [] =>true
 |k::ks=> !(xA k ks) &&aFY ks
def aJ5 (P:Program)(a:Again)(h:Hp) :Option Ans→List Prop
 | none=>[match mS P h a.tm a.o with
  |some (.val v _) =>v=a.v
  |_=>False]
 | some an=>match sH P h a.tm a.o an with
  |some (v,ps) => (v=a.v) ::ps
  |none=>[False]
def lS (P:Program)(a:Again)(oa:Option Ans) :List Hp→Nat→List Prop
 | [],_=>[]
 | h::hs,k=>bif ble a.lo k&&ble k a.hi then aJ5 P a h oa++lS P a oa hs (k-1)
  else lS P a oa hs (k-1)
def zO (P:Program)(hs:List Hp)(k:Nat) :List Again→List (Option Ans) →List Prop
 | [],_=>[]
 |a::aS,[] =>lS P a none hs k++zO P hs k aS []
 |a::aS,oa::os=>lS P a oa hs k++zO P hs k aS os
theorem aJ6 {a:Again}{h:Hp}{oa:Option Ans}(h0:∀p∈aJ5 P a h oa,p) :∃hx,mS P h a.tm a.o=some (.val a.v hx) :=by
 cases oa with
 | none=>
  have:=h0 _ (mem_singleton_self _);split at this
  ·rename_i v hx hv;exact⟨hx,by rw [hv,this]⟩
  ·exact this.elim
 | some an=>
  simp only [aJ5]at h0;split at h0
  · rename_i v ps hv;have e:v=a.v:=h0 _ (dT ..);subst e;exact⟨h,pJ hv (fun p hp=>h0 p (eD _ hp))⟩
  ·exact(h0 _ (mem_singleton_self _)).elim
theorem nH {a:Again}{oa:Option Ans}:∀ {hs:List Hp} {k:Nat},(∀p∈lS P a oa hs k,p) →∀ (x:Nat) (h:Hp),hs[x]?=some h→x≤k→a.lo≤k-x→k-x≤a.hi→∃hx,mS P h a.tm a.o=some (.val a.v hx)
 | [],k,_,x,h,hx,_,_,_=>by simp at hx
 | y::ys,k,h0,x,h,hx,hk,h1,h2=>by
  simp only [lS]at h0;cases x with
  | zero=>
   simp at hx;subst hx;rw [Nat.sub_zero]at h1 h2;simp only [jG,h1,h2,decide_true,Bool.and_self,cond]at h0;exact aJ6 (fun p hp=>h0 p (aEC _ hp))
  | succ x=>
   have hx':ys[x]?=some h:=by simpa using hx
   refine nH (oa:=oa) (k:=k-1) (fun p hp=>h0 p ?_) x h hx' (by omega) (by omega) (by omega);cases (ble a.lo k&&ble k a.hi)
   case true=>exact aFr _ hp
   exact hp
theorem uU {hs:List Hp}{k:Nat}:∀ {aS:List Again} {os:List (Option Ans)},(∀p∈zO P hs k aS os,p) →zN P hs k aS
 | [],_,_=>fun a ha=>by cases ha
 | b::aS,[],h0=>fun a ha=>by
  simp only [zO]at h0;cases ha with
  |head=>exact nH (fun p hp=>h0 p (aEC _ hp))
  |tail _ ha=>exact uU (os:=[]) (fun p hp=>h0 p (aFr _ hp)) a ha
 | b::aS,oa::os,h0=>fun a ha=>by
  simp only [zO]at h0;cases ha with
  |head=>exact nH (fun p hp=>h0 p (aEC _ hp))
  |tail _ ha=>exact uU (os:=os) (fun p hp=>h0 p (aFr _ hp)) a ha
def aEP (P:Program)(nt:Nat)(ops:Array Oper)(tm:T AV)(h:Hp)(is:List RIns)(os:List (Option Ans)) :Option (T AV×Hp×List Prop) :=
 let pl:=kS ops
 bif pl.ok then
  match iJ P nt pl.ops is pl.plans {tm,h:={h with nb:=h.nb+pl.fresh},stages:=[],s:=0,pend:=[],next:=h.nb,again:=[]} with
  | some (r,ps,rs) =>bif aFY (keysOf rs)then
    some (r.tm,aQ r.h r.s r.pend,ps++zO P (r.h::r.stages) r.s r.again os)else none
  |none=>none
 else none
open Classical in
def aMB (rs:List Rec) :bR:=fun k c h=>match rs.find? (fun r=>beq r.1 k)with
 |some r=>if r.2.1=c∧r.2.2.1=h then some r.2.2.2 else none
 |none=>none
theorem aIB :∀ {rs:List Rec},aFY (keysOf rs) =true→∀r∈rs,aMB rs r.1 r.2.1 r.2.2.1=some r.2.2.2
 | r0 ::rs,hn,r,hr=>by
  simp only [keysOf,aFY,cF,Bool.not_eq_true']at hn;unfold aMB;rw [List.find?_cons];rcases zq7.1 hr with rfl|hr'
  ·simp
  · have hne:beq r0.1 r.1=false:=by
     cases hb:beq r0.1 r.1
     case false=>rfl
     have e:=iF hb;exfalso;have:xA r0.1 (keysOf rs) =true:=by
      rw [e];clear hn hr hb e
      induction rs with
      |nil=>cases hr'
      | cons x xs ih=>
       simp only [keysOf,xA,Bool.or_eq_true];rcases zq7.1 hr' with rfl|h
       ·exact .inl (by simp)
       ·exact .inr (ih h)
     rw [this]at hn;cases hn.1
    rw [hne];exact aIB hn.2 r hr'
theorem aMC {rs:List Rec}(h0:∀r∈rs,Spec P r.2.1 r.2.2.1 (.ret r.2.2.2.1) r.2.2.2.2) :eP P (aMB rs) :=fun k c h v h' e=>by
 unfold aMB at e;split at e
 · rename_i r hr;split at e
   · rename_i hc;obtain⟨rfl,rfl⟩ :=hc;have:=h0 r (List.mem_of_find?_eq_some hr);simp only [Option.some.injEq]at e;rw [e]at this;exact this.sound
   ·cases e
 ·cases e
theorem aJ7 {call:bR}{nt:Nat}{ops:List Oper}{p:Plan}{r r':RS}(h0:pF P qE nt ops p r=some r') :pF P call nt ops p r=some r':=by
 unfold pF at h0 ⊢;split at h0
 ·cases h0
 ·rename_i hw;exact h0
 · rename_i hw;split at h0
   ·exact h0
   ·exact h0
   ·exact h0
   · simp only at h0 ⊢;split at h0
     ·exact h0
     · rename_i c hv;simp only [qE]at h0;cases h0
     ·cases h0
theorem aJ8 {call:bR}{nt:Nat}{ops:List Oper}{p:Plan}{i:RIns}{r r':RS}{ps:List Prop}{rs:List Rec}(h0:kK P nt ops p i r=some (r',ps,rs))(hp:∀q∈ps,q)(hc:∀x∈rs,call x.1 x.2.1 x.2.2.1=some x.2.2.2) :pF P call nt ops p r=some r':=by
 cases i with
 | d=>
  simp only [kK]at h0;split at h0
  ·rename_i r1 h1;cases h0;exact aJ7 h1
  ·cases h0
 |b j v=>cases h0
 | pure v=>
  simp only [kK]at h0;split at h0
  · rename_i hw hk;split at h0
    · rename_i f args ha;split at h0
      · rename_i tm htm;cases h0;have:=hc _ (mem_singleton_self _);simp only at this;simp only [pF,hw,hk,ha,this,htm]
      ·cases h0
    ·cases h0
  ·cases h0
 | ans a =>
  simp only [kK]at h0;split at h0
  · rename_i hw hk;split at h0
    · rename_i v qs hv;split at h0
      · rename_i tm htm;cases h0;simp only [pF,hw,hk,pJ hv hp,htm]
      ·cases h0
    ·cases h0
  · rename_i hw hk;split at h0
    · rename_i v qs hv;split at h0
      · rename_i tm htm;cases h0;simp only [pF,hw,hk,pJ hv hp,htm]
      ·cases h0
    ·cases h0
  ·cases h0
 | call v h'=>
  simp only [kK]at h0;split at h0
  · rename_i hw hk;split at h0
    · rename_i c ha;split at h0
      · rename_i tm htm;cases h0;have:=hc _ (mem_singleton_self _);simp only at this;simp only [pF,hw,hk,ha,this,htm]
      ·cases h0
    ·cases h0
  ·cases h0
 | st y y'=>
  simp only [kK]at h0;split at h0
  · rename_i hw hk;split at h0
    · rename_i h' qs hv;split at h0
      · rename_i tm htm;cases h0;simp only [pF,hw,hk,aMA hv hp,htm]
      ·cases h0
    ·cases h0
  ·cases h0
 | app zs n=>
  simp only [kK]at h0;split at h0
  · rename_i hw hk;split at h0
    · rename_i v h' qs hv;split at h0
      · rename_i tm htm;cases h0;simp only [pF,hw,hk,aBQ hv hp,htm]
      ·cases h0
    ·cases h0
  ·cases h0
theorem sJ {call:bR}{nt:Nat}{ops:List Oper}:∀ {is:List RIns} {pl:List Plan} {r r':RS} {ps:List Prop} {rs:List Rec},iJ P nt ops is pl r=some (r',ps,rs) → (∀q∈ps,q) → (∀x∈rs,call x.1 x.2.1 x.2.2.1=some x.2.2.2) →oV P call nt ops pl r=some r'
 | [],[],r,r',ps,rs,h0,_,_=>by simp only [iJ]at h0;cases h0;rfl
 | [],_::_,_,_,_,_,h0,_,_=>by simp [iJ]at h0
 | i :: is,pl,r,r',ps,rs,h0,hp,hc=>by
  by_cases hb:∃j v,i= .b j v
  · obtain⟨j,v,rfl⟩ :=hb;simp only [iJ]at h0;split at h0
    · rename_i b hj;split at h0
      · rename_i r1 qs rs1 h1;cases h0;have:=mem1 hp;subst this;rw [put_eq hj]at h1;exact sJ h1 (fun q hq=>hp q (eD _ hq)) hc
      ·cases h0
    ·cases h0
  · cases pl with
    |nil=>cases i<;>simp [iJ]at h0<;>exact absurd ⟨_,_,rfl⟩ hb
    | cons p pl=>
     have h0': (match kK P nt ops p i r with
      |none=>none
      | some (r1,qs,rs) =>match iJ P nt ops is pl r1 with
       |none=>none
       |some (r2,qs2,rs2) =>some (r2,qs++qs2,rs++rs2)) =some (r',ps,rs) :=by
      cases i<;>first|exact h0|exact absurd ⟨_,_,rfl⟩ hb
     split at h0'
     ·cases h0'
     · rename_i r1 qs rs1 h1;split at h0'
       ·cases h0'
       · rename_i r2 qs2 rs2 h2;cases h0';simp only [oV,aJ8 (call:=call) h1 (fun q hq=>hp q (aEC _ hq)) (fun x hx=>hc x (aEC _ hx))];exact sJ h2 (fun q hq=>hp q (aFr _ hq)) (fun x hx=>hc x (aFr _ hx))
theorem uV {nt:Nat}{ops:List Oper}:∀ {is:List RIns} {pl:List Plan} {r r':RS} {ps:List Prop} {rs:List Rec},iJ P nt ops is pl r=some (r',ps,rs) → (∀q∈ps,q) →∀x∈rs,Spec P x.2.1 x.2.2.1 (.ret x.2.2.2.1) x.2.2.2.2
 | [],[],r,r',ps,rs,h0,_=>by simp only [iJ]at h0;cases h0;intro x hx;cases hx
 | [],_::_,_,_,_,_,h0,_=>by simp [iJ]at h0
 | i :: is, pl, r, r',ps,rs,h0,hp=>by
  by_cases hb:∃j v,i= .b j v
  · obtain⟨j,v,rfl⟩ :=hb;simp only [iJ]at h0;split at h0
    · split at h0
      · rename_i r1 qs rs1 h1;cases h0;exact uV h1 (fun q hq=>hp q (eD _ hq))
      ·cases h0
    ·cases h0
  · cases pl with
    |nil=>cases i<;>simp [iJ]at h0<;>exact absurd ⟨_,_,rfl⟩ hb
    | cons p pl =>
     have h0': (match kK P nt ops p i r with
      |none=>none
      | some (r1,qs,rs) =>match iJ P nt ops is pl r1 with
       |none=>none
       |some (r2,qs2,rs2) =>some (r2,qs++qs2,rs++rs2)) =some (r',ps,rs) :=by
      cases i<;>first|exact h0|exact absurd ⟨_,_,rfl⟩ hb
     split at h0'
     ·cases h0'
     · rename_i r1 qs rs1 h1;split at h0'
       ·cases h0'
       · rename_i r2 qs2 rs2 h2;cases h0';intro x hx;rcases zq28.1 hx with g|g
         · cases i with
           | d=>
            simp only [kK]at h1;split at h1
            ·cases h1;cases g
            ·cases h1
           |b j v=>cases h1
           | pure v=>
            simp only [kK]at h1;split at h1
            · split at h1
              · rename_i f args ha;split at h1
                · cases h1;rw [zq32]at g;subst g;exact hp _ (aEC _ (mem_singleton_self _)) _
                ·cases h1
              ·cases h1
            ·cases h1
           | ans a=>
            simp only [kK]at h1;split at h1
            · split at h1
              · split at h1
                ·cases h1;cases g
                ·cases h1
              ·cases h1
            · split at h1
              · split at h1
                ·cases h1;cases g
                ·cases h1
              ·cases h1
            ·cases h1
           | call v h'=>
            simp only [kK]at h1;split at h1
            · split at h1
              · rename_i c ha;split at h1
                · cases h1;rw [zq32]at g;subst g;exact hp _ (aEC _ (mem_singleton_self _))
                ·cases h1
              ·cases h1
            ·cases h1
           | app zs n=>
            simp only [kK]at h1;split at h1
            · split at h1
              · split at h1
                ·cases h1;cases g
                ·cases h1
              ·cases h1
            ·cases h1
           | st y y'=>
            simp only [kK]at h1;split at h1
            · split at h1
              · split at h1
                ·cases h1;cases g
                ·cases h1
              ·cases h1
            ·cases h1
         ·exact uV h2 (fun q hq=>hp q (aFr _ hq)) x g
theorem aBR {m:Nat}{s:AS}{id:Nat}{ops:Array Oper}{k:List AItem}(hm:s.fr.mode= .run)(htd:s.fr.todo= .code (.region id ops true) ::k){is:List RIns}{os:List (Option Ans)}{tm:T AV}{h':Hp}{ps:List Prop}(h0:aEP P s.fr.nt ops s.fr.tm s.h is os=some (tm,h',ps))(hp:∀p∈ps,p) :
  LeadsM P m s ⟨{s.fr with tm,todo:=k},s.cs,h'⟩ :=by
 unfold aEP at h0;simp only at h0;cases hok: (kS ops).ok
 case false=>rw [hok]at h0;cases h0
 rw [hok]at h0;simp only [cond]at h0;split at h0
 · rename_i r qs rs hr;cases hn:aFY (keysOf rs)
   case false=>rw [hn]at h0;cases h0
   rw [hn]at h0;simp only at h0;cases h0;have hq:∀q∈qs,q:=fun q hq=>hp q (aEC _ hq);have hst:=sJ (call:=aMB rs) hr hq (aIB hn);have hck:zN P (r.h::r.stages) r.s r.again:=uU (fun q hq=>hp q (aFr _ hq));intro hm0 E fr ccs w base f fs rl;obtain⟨afr,cs,h⟩ :=s;simp only at hm htd hr hst f fs rl ⊢;have e:=f.run hm;generalize fr.fn=fn at e;generalize fr.tmps=tmps at e;generalize fr.todo=todo at e;generalize fr.defers=ds at e;generalize fr.kind=kd at e;generalize fr.roundOf=ro at e;subst e;have ft:=f.todo;simp only [htd]at ft;obtain⟨i,ck,e1,i1,i2⟩ :=ft.cons_inv;subst e1;simp only [IR]at i1;subst i1;obtain⟨E',w',tmps',s1,t1,r1,x1⟩ :=aAG (aMC (uV hr hq)) hok hst hck rl f.tm id fn ds kd ro ck (ccs++base);exact⟨E',_,ccs,w',s1,⟨f.fn,t1,i2.mono x1.le,f.defers.mono x1.le,by simp only [hm];exact rfl,f.kind,f.round.mono x1.le⟩,fs.mono x1.le,r1,x1.toM hm0⟩
 ·cases h0
theorem aBS :∀ (l:List AV) (t:T AV) (i:Nat),(∀j,j<l.length→t.at (i+j) =l[j]?) →getCells t i l.length=some l
 | [],_,_,_=>rfl
 | a::aS,t,i,h=>by
  have h0:=h 0 (by simp);simp only [Nat.add_zero,lF]at h0;simp only [oK,getCells,h0]
  rw [aBS aS t (Nat.succ i) (fun j hj=>by
   have:=h (j+1) (by simp;omega);rw [show Nat.succ i+j=i+ (j+1)by omega,this];simp)]
theorem aFZ (g:Bool){zc:List AV}{e:Nat}(he:zc.length=e) :∀n,wN g e n (mX zc n) =replicate n (bif g then .agg zc else zc.headD .undef)
 |0=>rfl
 | n+1=>by
  have h1: (zc++mX zc n).take e=zc:=by rw [←he,List.take_left]
  have h2: (zc++mX zc n).drop e=mX zc n:=by rw [←he,List.drop_left]
  rw [mX,wN,h1,h2,aFZ g he n,List.replicate_succ];congr 1;cases g
  case true=>rfl
  have rn:∀n,mX ([] :List AV) n= [] :=fun n=>by
   induction n with
   |zero=>rfl
   |succ n ih=>simpa [mX]using ih
  cases zc with
  |nil=>simp [rn]
  |cons z zs=>rfl
theorem aD3 {zc:List AV}(h:dF zc=true) :∀n,dF (mX zc n) =true
 |0=>rfl
 | n +1=>by
  have app:∀ (xs ys:List AV),dF xs=true→dF ys=true→dF (xs++ys) =true:=by
   intro xs
   induction xs with
   |nil=>intro ys _ h;exact h
   | cons x xs ih=>
    intro ys h1 h2;simp only [dF,cF]at h1;simp only [sT,dF,cF];exact⟨h1.1,ih ys h1.2 h2⟩
  exact app _ _ h (aD3 h n)
end
section
variable {P :Program}
theorem aSl {E:Emb}{h:Hp}{H:Array Obj}(r:Rel E h H){b e:Nat}{u:Value}{xs:List AV}(hb:h.look b=some (.lstv u e xs)) :VR E (.gl b e 0 xs.length false) u:=by
 obtain⟨L,hE,C,m,i,n,l,o,k,j,a,c,d,g,f⟩ :=r.obj b _ hb;simp only [VR];exact .inr ⟨L,a,c,hE,d,g,fun e=> (by cases e),fun hc=>by have:=f hc;exact⟨by omega,this.2⟩⟩
theorem Rel.unview {E:Emb}{h:Hp}{H:Array Obj}(r:Rel E h H){b e:Nat}{u:Value}{xs:List AV}(hb:h.look b=some (.lstv u e xs)) :Rel E (h.set b (.lst e xs)) H:=
 r.reobj hb rfl (fun L g=>by
  obtain⟨C,f,k,i,d,j,c,a,_⟩ :=r.objL hb g;exact⟨C,f,k,i,d,j,c,a⟩) rfl rfl rfl
theorem aF0 {m:Nat}{h:Hp}{b e o l:Nat}:m≤h.nb→rN m h h (.gl b e o l true) (.gl b e o l false) :=fun hm E w r=>
 ⟨E,Emb.le.refl E,r,ExtM.refl hm,fun k f=>by
  simp only [VR]at f ⊢;rcases f with d| ⟨L,a,c,d,j,i,_,g⟩
  ·exact .inl d
  ·exact .inr ⟨L,a,c,d,j,i,(fun e=>by cases e),g⟩⟩
theorem aMD {m:Nat}{h:Hp}{e:Nat}{xs:List AV}:m≤h.nb→rN m h h (.ilst e xs true) (.ilst e xs false) :=fun hm E w r=>
 ⟨E,Emb.le.refl E,r,ExtM.refl hm,fun t g=>by
  simp only [VR]at g ⊢;obtain⟨p,q,l,i⟩ :=g;refine⟨p,q,l,?_⟩;rcases i with⟨b,a,n,d,c,j⟩ | ⟨k,o,f,C,b,d,c,j,s⟩
  ·exact .inl ⟨b,a,n,d,c,(fun e=>by cases e)⟩
  ·exact .inr ⟨k,o,f,C,b,d,c,(fun e=>by cases e),s⟩⟩
theorem aBT {m:Nat}{h:Hp}{b e:Nat}{u:Value}{xs:List AV}(hb:h.look b=some (.lstv u e xs)) :m≤h.nb→rN m h (h.set b (.lst e xs)) (.val u) (.gl b e 0 xs.length false) :=fun hm E w r=>
 ⟨E,Emb.le.refl E,r.unview hb,nY (ExtM.refl hm) hb,fun c a=>by
  simp only [VR]at a;subst a;exact aSl r hb⟩
theorem aWp {m:Nat}{E E':Emb}{h h1 h2:Hp}{w w':World}(x:ExtM m E h w E' h1 w')(c:∀b o,h2.look b=some o→h1.look b=some o)(f:h2.nb=h1.nb) :ExtM m E h w E' h2 w':=
 ⟨x.low,x.imm,x.size,x.keep,fun g i d e k a=>x.own g i d (c _ _ e) k a,by rw [f];exact x.nb,x.os,x.tape,x.output,x.froz,x.immo,fun b o e hb=>x.keys b o (c _ _ e) hb⟩
theorem aPB {m:Nat}{fr:AFrame}{cs:List AFrame}{h:Hp}{b e o j:Nat}{u:Value}{xs c ys:List AV}(hb:h.look b=some (.lstv u e xs))(Q:h.look o=some (.lst j c))(k:o≠b)(hz:c≠ [])(hk:keylessL xs=true)
  (B:∀ (E:Emb) (i:List Value),VR E (.ilst e xs false) u→VRs E c i→VRs E ys i) :LeadsM P m ⟨fr,cs,h⟩ ⟨fr,cs,(h.del b).set o (.lst j ys)⟩ :=fun hm E y l w s f fs r=>by
 have H:=r.unview hb;have q: (h.set b (.lst e xs)).look b=some (.lst e xs) :=by rw [aY,if_pos rfl]
 have n:frzOk b e xs xs (.gl b e 0 xs.length false) :=by
  simp only [frzOk];intro _;simp
 obtain⟨d,g,K,I,G⟩ :=aDc (m:=m) q hk n hm E w H;have N:VR d (.ilst e xs false) u:=by
  have:=G u (by
   have:=aSl r hb;exact this)
  simpa [AV.frz]using this
 have same:∀x ob,(h.del b).look x=some ob→ ((h.set b (.lst e xs)).del b).look x=some ob:=fun x ob e=>by
  rw [qB]at e ⊢;split at e
  ·cases e
  ·rename_i t;rw [if_neg t,aY,if_neg t];exact e
 have v:Rel d (h.del b) w.heap:=K.sub same (le_refl _);have z:ExtM m E h w d (h.del b) w:=aWp ((nY (ExtM.refl hm) hb).trans I) same rfl;have a: (h.del b).look o=some (.lst j c) :=by rw [qB,if_neg k];exact Q
 have p:lN (.lst j c) =false:=by
  cases c with
  |nil=>exact absurd rfl hz
  |cons _ _=>rfl
 refine⟨d,y,l,w,Steps.refl _ _,f.mono g,fs.mono g,v.reobj a p (fun L O=>?_) rfl rfl rfl,nY z a⟩;obtain⟨C,M,i,F,D,R,J,A⟩ :=v.objL a O;exact⟨C,M,i,F,D,B d i N R,J,A⟩
theorem aWq {m:Nat}{fr:AFrame}{cs:List AFrame}{h:Hp}{b e:Nat}{xs ys:List AV}(hb:h.look b=some (.lst e xs))(hz:xs≠ [])
  (k:∀ (E:Emb) (a:List Value),VRs E xs a→VRs E ys a) :LeadsM P m ⟨fr,cs,h⟩ ⟨fr,cs,h.set b (.lst e ys)⟩ :=fun hm E i c w g f fs r=>by
 have d:lN (.lst e xs) =false:=by
  cases xs with
  |nil=>exact absurd rfl hz
  |cons _ _=>rfl
 refine⟨E,i,c,w,Steps.refl _ _,f,fs,r.reobj hb d (fun L p=>?_) rfl rfl rfl,nY (ExtM.refl hm) hb⟩;obtain⟨C,o,a,q,n,s,l,j⟩ :=r.objL hb p;exact⟨C,o,a,q,n,k E a s,l,j⟩
theorem aT1 {m:Nat}{fr:AFrame}{cs:List AFrame}{h:Hp}{j b e n:Nat}{ex:Bool}{xs:List AV}{k:Res}{h':Hp}(S:fr.tm.at j=some (.gl b e 0 n ex))(hb:h.look b=some (.lst e xs))(q:xs.length=n)(Y:0<n)
  (hk:∀x s u,Ends P m ⟨{fr with tm:=fr.tm.put j (.val (Value.slice x s u))},cs,h.set b (.lstv (Value.slice x s u) e xs)⟩ k h') :Ends P m ⟨fr,cs,h⟩ k h':=fun hm E cf l w f fs r U i=>by
 obtain⟨cv,H,y⟩ :=f.tm.2 _ _ S;simp only [VR]at y;rcases y with⟨z,_⟩ | ⟨L,a,d,hE,rfl,Z,_,Q⟩
 ·omega
 · have p:lN (.lst e xs) =false:=by
    cases xs with
    |nil=>simp at q;omega
    |cons _ _=>rfl
   have J:FR E {fr with tm:=fr.tm.put j (.val (.slice (some ⟨L.blk,a,none⟩) n d))} cf:=by
    refine⟨f.fn,⟨f.tm.1,fun t v e=>?_⟩,f.todo,f.defers,f.mode,f.kind,f.round⟩;rw [T.at_put]at e;split at e
    · rename_i N;cases e;subst N;exact⟨_,H,by simp only [VR]⟩
    ·exact f.tm.2 t v e
   have X:Rel E (h.set b (.lstv (.slice (some ⟨L.blk,a,none⟩) n d) e xs)) w.heap:=r.reobj hb p (fun L' c=>by
    obtain⟨C,R,W,I,G,V,M,B⟩ :=r.objL hb c;rw [hE]at c;cases c;exact⟨C,R,W,I,G,V,M,B,a,d,by rw [q],by omega,fun hc=>by have:=Q hc;exact⟨by omega,this.2⟩⟩) rfl rfl rfl
   obtain⟨o,F,A,D,g,O,K⟩ :=hk _ _ _ hm E cf l w J fs X U i;exact⟨o,F,A,D,g,O,(nY (ExtM.refl hm) hb).trans K⟩
theorem aWr {m:Nat}{fr:AFrame}{cs:List AFrame}{h:Hp}{j e:Nat}{ex:Bool}{xs:List AV}{i:Res}{h':Hp}(z:fr.tm.at j=some (.ilst e xs ex))
  (h1:xs= [] →Ends P m ⟨{fr with tm:=fr.tm.put j .nils},cs,h⟩ i h')
  (h2:∀a n c,Ends P m ⟨{fr with tm:=fr.tm.put j (.val (.slice (some a) n c))},cs,h⟩ i h') :Ends P m ⟨fr,cs,h⟩ i h':=fun hm E cf d w f fs r l b=>by
 obtain⟨A,q,o⟩ :=f.tm.2 _ _ z
 have put:∀ {v:AV},VR E v A→FR E {fr with tm:=fr.tm.put j v} cf:=fun {v} hv=>by
  refine⟨f.fn,⟨f.tm.1,fun t y e=>?_⟩,f.todo,f.defers,f.mode,f.kind,f.round⟩;rw [T.at_put]at e;split at e
  · rename_i s;cases e;subst s;exact⟨_,q,hv⟩
  ·exact f.tm.2 t y e
 simp only [VR]at o;obtain⟨F,p,B⟩ :=o;rcases B.2 with⟨rfl,a,g,rfl,u,_⟩ | ⟨k,a,g,C,rfl,_⟩
 · have D:xs= [] :=by
    cases xs with
    |nil=>rfl
    |cons x xs=>simp [VRs]at p
   cases a with
   | none=>
    have:=u rfl;subst this;exact h1 D hm E cf d w (put (by simp only [VR])) fs r l b
   |some a=>exact h2 a 0 g hm E cf d w (put (by simp only [VR])) fs r l b
 ·exact h2 ⟨k,a,none⟩ F.length g hm E cf d w (put (by simp only [VR])) fs r l b
section
variable (P :Program)
inductive Ins where
 |run (n:Nat)
 |b (j:Nat) (v:Bool)
 |set (j:Nat) (v:AV)
 |call (v:AV) (h':Hp)
 |callP (ch:List (AV×Bool)) (h':Hp)
 |ans (a:Ans)
 |st (y y':AV)
 |app (zs:List AV) (n:Nat)
 |nilL (j e:Nat)
 |nilI (j e:Nat)
 |frz (j b:Nat) (ys:List AV)
 |cnil (k o e:Nat)
 |cnilI (k o e:Nat)
 |cfrz (k o b:Nat) (ys:List AV)
 |toL (j:Nat) (g:Bool) (cs:List AV)
 |cset (k o:Nat) (v:AV)
 |ctoL (k o:Nat) (g:Bool) (cs:List AV)
 |lset (b:Nat) (xs:List AV)
 |pure (v:AV)
 |mk (n:Nat)
 |reg (is:List RIns)
 |regA (is:List RIns) (os:List (Option Ans))
 |nxt (c d:Nat)
 |nxtE
 |mput (es:List (AV×AV×Nat)) (clock:Nat)
 |mset (b:Nat) (es:List (AV×AV×Nat)) (clock:Nat)
 |lkeep (b:Nat) (js:List Nat)
 |unname (j b:Nat)
 |weak (j:Nat)
 |cweak (k o:Nat)
 |vfrz (b o:Nat) (ys:List AV)
 |lw (b:Nat) (ys:List AV)
 |appN (zs:List AV) (n:Nat)
def VQ (u:Value)(e:Nat)(xs zs ys:List AV) :Prop:=∀ (E:Emb) (vs:List Value),VR E (.ilst e xs false) u→VRs E zs vs→VRs E ys vs
def VW (xs ys:List AV) :Prop:=∀ (E:Emb) (vs:List Value),VRs E xs vs→VRs E ys vs
def oQ (s:AS) :Option Oper:=
 match s.fr.mode,s.fr.todo with
 | .run,.ops all _ (o::_) ::_=>match cM s.fr.tm all.toList o with
  |some true=>some o
  |_=>none
 |_,_=>none
def aDe (s:AS)(v:AV)(h':Hp)(obl:List Prop) :Option (AS×List Prop) :=
 match s.fr.finish v with
 |some fr=>some (⟨fr,s.cs,h'⟩,obl)
 |none=>none
def aF1 {α:Type}(t:T α) :List Nat→List (Nat×α)
 | [] =>[]
 | j::js=>match t.at j with
  |some v=> (j,v) ::aF1 t js
  |none=>aF1 t js
def aJ9 {α:Type}:List (Nat×α) →T α
 | [] =>.leaf
 |p::r=> (aJ9 r).put p.1 p.2
def xstep (P :Program)(i:Ins)(s:AS) :Option (AS×List Prop) :=
 match i with
 | .run n=>match nV P qE n s with
  |some s'=>some (s',[])
  |none=>none
 | .b j v=>match s.fr.tm.at j with
  |some (.bool b) =>some (⟨{s.fr with tm:=s.fr.tm.put j (.bool v)},s.cs,s.h⟩,[b=v])
  |_=>none
 | .set j v=>match s.fr.tm.at j with
  |some u=>some (⟨{s.fr with tm:=s.fr.tm.put j v},s.cs,s.h⟩,[u=v])
  |none=>none
 | .cset k o v=>match s.h.look k with
  | some (.cells t n ol sup) =>match t.at o with
   |some u=>some (⟨s.fr,s.cs,s.h.set k (.cells (t.put o v) n ol sup)⟩,[u=v])
   |none=>none
  |_=>none
 | .lset b xs=>match s.h.look b with
  |some (.lst e ys) =>some (⟨s.fr,s.cs,s.h.set b (.lst e xs)⟩,[ys=xs])
  |_=>none
 | .call v h'=>match oQ s with
  | some o=>match mS P s.h s.fr.tm o with
   |some (.call c) =>aDe s v h' [Spec P c s.h (.ret v) h']
   |_=>none
  |none=>none
 | .callP ch h'=>match oQ s with
  | some o=>match mS P s.h s.fr.tm o with
   |some (.call c) =>some (⟨s.fr.raise ch,s.cs,h'⟩,[Spec P c s.h (.pan ch) h'])
   |_=>none
  |none=>none
 | .ans a=>match oQ s with
  | some o=>match sH P s.h s.fr.tm o a with
   |some (v,ps) =>aDe s v s.h ps
   |none=>none
  |none=>none
 | .pure v=>match oQ s with
  | some o=>match mS P s.h s.fr.tm o with
   |some (.call (.enter f args)) =>aDe s v s.h [aJ P f args v]
   |_=>none
  |none=>none
 | .mk n =>match oQ s with
  | some o=>match o.op,o.dst with
   | .makeSlice t l c,some d=>match cE s.fr.tm l,cE s.fr.tm c with
    | some (.int _ l),some (.int _ c) =>match P.underlying t with
     | some (.slice el) =>match bA P el,zeroOf P el,P.info? el,P.underlying el with
      | some e,some z,some inf,some ed=>bif ble e 40&&ble 1 e&&beq z.cells.length e&&ble inf.bytes 1000&&dF z.cells&& (isAggD ed||beq e 1)then
        match s.fr.finish (.gl s.h.nb e 0 n true)with
        |some fr=>some (⟨fr,s.cs,s.h.new (.lst e (replicate n (bif isAggD ed then .agg z.cells else z.cells.headD .undef)))⟩,[l= (n:Int),c= (n:Int),n<100000])
        |none=>none else none
      |_,_,_,_=>none
     |_=>none
    |_,_=>none
   |_,_=>none
  |none=>none
 | .reg is=>match s.fr.mode,s.fr.todo with
  | .run,.code (.region _ ops true) ::k=>match aEP P s.fr.nt ops s.fr.tm s.h is []with
   |some (tm,h',ps) =>some (⟨{s.fr with tm,todo:=k},s.cs,h'⟩,ps)
   |none=>none
  |_,_=>none
 | .regA is os=>match s.fr.mode,s.fr.todo with
  | .run,.code (.region _ ops true) ::k=>match aEP P s.fr.nt ops s.fr.tm s.h is os with
   |some (tm,h',ps) =>some (⟨{s.fr with tm,todo:=k},s.cs,h'⟩,ps)
   |none=>none
  |_,_=>none
 | .nxt c d=>match oQ s with
  | some o=>match o.op with
   | .next it true=>match cE s.fr.tm it with
    | some (.ptr r 0) =>match s.h.look r with
     |some (.siter l n pos) =>aDe s (.tup [.bool true,.int .i64 pos,.int .i32 c]) (s.h.set r (.siter l n (Nat.add pos d))) [pos<l,aPh l n pos=some (c,d)]
     |_=>none
    |_=>none
   |_=>none
  |none=>none
 | .nxtE=>match oQ s with
  | some o=>match o.op with
   | .next it true=>match cE s.fr.tm it with
    | some (.ptr r 0) =>match s.h.look r with
     |some (.siter l n pos) =>aDe s (.tup [.bool false]) s.h [l≤pos]
     |_=>none
    |_=>none
   |_=>none
  |none=>none
 | .mput es' clock'=>match oQ s with
  | some o=>match o.op with
   | .mapUpdate t m k x=>match cE s.fr.tm m,cE s.fr.tm k,cE s.fr.tm x with
    | some (.map r),some k,some v=>match P.underlying t,s.h.look r with
     | some (.map kt _),some (.map es clock) =>match P.underlying kt with
      |some kd=>bif plainKey kd k then aDe s .undef (s.h.set r (.map es' clock')) [aFX es clock k v=some (es',clock')]else none
      |none=>none
     |_,_=>none
    |_,_,_=>none
   |_=>none
  |none=>none
 | .mset b es' clock'=>match s.h.look b with
  |some (.map es clock) =>some (⟨s.fr,s.cs,s.h.set b (.map es' clock')⟩,[es=es',clock=clock'])
  |_=>none
 | .st y y'=>match oQ s with
  | some o=>match o.op with
   | .store t a x=>match cE s.fr.tm a,cE s.fr.tm x with
    | some (.ep b e i k),some v=>match s.h.look b,bA P t with
     | some (.lst e' xs),some n=>bif beq e' e&&beq v.cells.length n&&ble (k+n) e&&dF v.cells then
       match s.fr.finish .undef with
       |some fr=>some (⟨fr,s.cs,s.h.set b (.lst e (xs.set i y'))⟩,[xs[i]?=some y,kY y k v.cells=some y'])
       |none=>none else none
     |_,_=>none
    |_,_=>none
   |_=>none
  |none=>none
 | .app zs n =>match oQ s with
  | some o => match o.op with
   | .call c =>match c.callee,jM s.fr.tm c.args.toList,c.argTypes[0]?,c.argTypes[1]? with
    | .builtin .append,some [d,x],some st,some xt=>match P.underlying st,P.underlying xt with
     | some (.slice el),some (.slice _) =>match bA P el,P.info? el,zeroOf P el with
      | some e,some inf,some z=>bif beq z.cells.length e&&ble e 40&&ble inf.bytes 1000&&ble 1 inf.bytes&&ble 1 e then
       match d with
       | .gl b e' off len _=>match s.h.look b with
        | some (.lst e2 xs) =>bif beq e' e&&beq e2 e then
          match x with
          | .gl b2 e1 off2 len2 _=>match s.h.look b2,P.underlying el with
           | some (.lst e3 ys),some _=>bif beq e1 e&&beq e3 e then
             aDe s (.gl s.h.nb e 0 n false) ((s.h.del b).new (.lst e zs)) [off2+len2≤ys.length,off+len≤xs.length,n≤1000000,(xs.drop off).take len++ (ys.drop off2).take len2=zs,len+len2=n]else none
           |_,_=>none
          | x=>match sB P s.h el e x with
           |some ys=>aDe s (.gl s.h.nb e 0 n false) ((s.h.del b).new (.lst e zs)) [off+len≤xs.length,n≤1000000,(xs.drop off).take len++ys=zs,len+ys.length=n]
           |none=>none
          else none
        |_=>none
       | .ilst e' [] true=>bif beq e' e then match sB P s.h el e x with
        |some ys=>aDe s (.gl s.h.nb e 0 n false) (s.h.new (.lst e zs)) [n≤1000000,ys=zs,ys.length=n]
        |none=>none
        else none
       |_=>none
       else none
      |_,_,_=>none
     |_,_=>none
    |_,_,_,_=>none
   |_=>none
  |none=>none
 | .nilL j e=>match s.fr.tm.at j with
  |some .nils=>some (⟨{s.fr with tm:=s.fr.tm.put j (.gl s.h.nb e 0 0 false)},s.cs,s.h.new (.lst e [])⟩,[])
  |_=>none
 | .nilI j e=>match s.fr.tm.at j with
  |some .nils=>some (⟨{s.fr with tm:=s.fr.tm.put j (.ilst e [] true)},s.cs,s.h⟩,[])
  |_=>none
 | .frz j b ys=>match s.fr.tm.at j,s.h.look b with
  |some v,some (.lst e xs) =>some (⟨{s.fr with tm:=s.fr.tm.put j (AV.frz b ys v)},s.cs,s.h.del b⟩,[keylessL xs=true,frzOk b e xs ys v])
  |_,_=>none
 | .cnil k o e=>match s.h.look k with
  | some (.cells t n ol sup) =>match t.at o with
   |some .nils=>bif blt k s.h.nb then some (⟨s.fr,s.cs,(s.h.new (.lst e [])).set k (.cells (t.put o (.gl s.h.nb e 0 0 false)) n ol sup)⟩,[])else none
   |_=>none
  |_=>none
 | .cnilI k o e=>match s.h.look k with
  | some (.cells t n ol sup) =>match t.at o with
   |some .nils=>some (⟨s.fr,s.cs,s.h.set k (.cells (t.put o (.ilst e [] true)) n ol sup)⟩,[])
   |_=>none
  |_=>none
 | .cfrz k o b ys=>bif beq k b then none else match s.h.look k,s.h.look b with
  | some (.cells t n ol sup),some (.lst e xs) =>match t.at o with
   |some v=>some (⟨s.fr,s.cs,(s.h.del b).set k (.cells (t.put o (AV.frz b ys v)) n ol sup)⟩,[keylessL xs=true,frzOk b e xs ys v])
   |none=>none
  |_,_=>none
 | .lkeep b js=>match s.h.look b with
  |some (.loop st pe fn tm nt ps aS bd df) =>some (⟨s.fr,s.cs,s.h.set b (.loop st pe fn (aJ9 (aF1 tm js)) nt ps aS bd df)⟩,[])
  |_=>none
 | .cweak k o=>match s.h.look k with
  | some (.cells t n ol sup) =>match t.at o with
   |some (.gl b e off l true) =>some (⟨s.fr,s.cs,s.h.set k (.cells (t.put o (.gl b e off l false)) n ol sup)⟩,[])
   |some (.ilst e xs true) =>some (⟨s.fr,s.cs,s.h.set k (.cells (t.put o (.ilst e xs false)) n ol sup)⟩,[])
   |_=>none
  |_=>none
 | .weak j=>match s.fr.tm.at j with
  |some (.gl b e o l true) =>some (⟨{s.fr with tm:=s.fr.tm.put j (.gl b e o l false)},s.cs,s.h⟩,[])
  |_=>none
 | .unname j b=>match s.fr.tm.at j,s.h.look b with
  |some (.val u),some (.lstv u' e xs) =>some (⟨{s.fr with tm:=s.fr.tm.put j (.gl b e 0 xs.length false)},s.cs,s.h.set b (.lst e xs)⟩,[u=u'])
  |_,_=>none
 | .vfrz b o ys=>match s.h.look b,s.h.look o with
  |some (.lstv u e xs),some (.lst eo zs) =>bif beq o b then none else some (⟨s.fr,s.cs,(s.h.del b).set o (.lst eo ys)⟩,[zs≠ [],keylessL xs=true,VQ u e xs zs ys])
  |_,_=>none
 | .appN zs n=>match oQ s with
  | some o=>match aJ4 P s.h s.fr.tm o zs n with
   |some (v,h',ps) =>aDe s v h' ps
   |none=>none
  |none=>none
 | .lw b ys=>match s.h.look b with
  |some (.lst e xs) =>some (⟨s.fr,s.cs,s.h.set b (.lst e ys)⟩,[xs≠ [],VW xs ys])
  |_=>none
 | .toL j g cs=>match s.fr.tm.at j with
  | some (.slice b 0 n c e x) =>match s.h.look b with
   | some (.cells t _ [] false) =>bif g||beq e 1 then
     some (⟨{s.fr with tm:=s.fr.tm.put j (.gl b e 0 n (x&&beq c n))},s.cs,s.h.set b (.lst e (wN g e n cs))⟩,[getCells t 0 (n*e) =some cs,dF cs=true])else none
   |_=>none
  |_=>none
 | .ctoL k o g cs=>match s.h.look k with
  | some (.cells t n ol sup) =>match t.at o with
   | some (.slice b 0 n2 c e x) =>bif beq k b then none else match s.h.look b with
    | some (.cells t2 _ [] false) =>bif g||beq e 1 then
      some (⟨s.fr,s.cs,(s.h.set b (.lst e (wN g e n2 cs))).set k (.cells (t.put o (.gl b e 0 n2 (x&&beq c n2))) n ol sup)⟩,[getCells t2 0 (n2*e) =some cs,dF cs=true])else none
    |_=>none
   |_=>none
  |_=>none
def rO (P:Program) :List Ins→AS→Option (AS×List Prop)
 | [],s=>some (s,[])
 | i::is,s=>match xstep P i s with
  |none=>none
  | some (s',ps) =>match rO P is s' with
   |none=>none
   |some (s'',qs) =>some (s'',ps++qs)
end
def AllP :List Prop→Prop
 | [] =>True
 | [p] =>p
 |p::ps=>p∧AllP ps
theorem AllP.mem :∀ {b:List Prop},AllP b→∀p∈b,p
 | [p],h,q,a=>by rw [zq32]at a;rw [a];exact h
 | p::c::b,h,q,a=>by
  rcases zq7.1 a with rfl|a
  ·exact h.1
  ·exact AllP.mem h.2 q a
theorem jB {call:bR}{s:AS}{o:Oper}(a:oQ s=some o){v:AV}{h':Hp}(f:mS P s.h s.fr.tm o=some (.val v h')){fr:AFrame}(b:s.fr.finish v=some fr) :mB P call s=some ⟨fr,s.cs,h'⟩ :=by
 obtain⟨e,q,h⟩ :=s;obtain⟨fn,w,r,j,c,l,m,u⟩ :=e;simp only at f b ⊢;unfold oQ at a;simp only at a;split at a
 · rename_i all i t g k;split at a
   · rename_i p;cases a;simp only [AFrame.finish]at b;split at b
     · rename_i n d;cases b;simp only [mB,p,f,d]
     ·cases b
   ·cases a
 ·cases a
theorem aAZ {call:bR}{s:AS}{o:Oper}(a:oQ s=some o){c:AIn}(f:mS P s.h s.fr.tm o=some (.call c)){g:AFrame}(e:dW P s.h c=some g) :mB P call s=some ⟨g,s.fr::s.cs,s.h⟩ :=by
 obtain⟨d,q,h⟩ :=s;obtain⟨fn,v,r,l,b,m,n,u⟩ :=d;simp only at f e ⊢;unfold oQ at a;simp only at a;split at a
 · rename_i all i t j k;split at a
   · rename_i p;cases a;simp only [mB,p,f,sD,e]
   ·cases a
 ·cases a
theorem kF {s b:AS}{v:AV}{h':Hp}{obl ps:List Prop}(a:aDe s v h' obl=some (b,ps)) :∃fr,s.fr.finish v=some fr∧b= ⟨fr,s.cs,h'⟩ ∧ps=obl:=by
 unfold aDe at a;split at a
 ·rename_i fr c;cases a;exact⟨fr,c,rfl,rfl⟩
 ·cases a
theorem put_same {a:Type}{t:T a}{k:Nat}{v:a}(h:t.at k=some v) :∀j,(t.put k v).at j=t.at j:=fun j=>by
 rw [T.at_put];split
 ·rename_i e;rw [e,h]
 ·rfl
theorem bAP {E:Emb}{fr:AFrame}{c:Frame}(f:FR E fr c){j:Nat}{v:AV}(h:fr.tm.at j=some v) :FR E {fr with tm:=fr.tm.put j v} c:=
 ⟨f.fn,⟨f.tm.1,fun t a e=>f.tm.2 t a (by rw [←put_same h t];exact e)⟩,f.todo,f.defers,f.mode,f.kind,f.round⟩
theorem aF2 {m:Nat}{fr:AFrame}{cs:List AFrame}{h:Hp}{j:Nat}{v:AV}(b:fr.tm.at j=some v) :LeadsM P m ⟨fr,cs,h⟩ ⟨{fr with tm:=fr.tm.put j v},cs,h⟩ :=
 fun hm E c a w _ f fs r=> ⟨E,c,a,w,Steps.refl _ _,bAP f b,fs,r,ExtM.refl hm⟩
theorem aAJ {h:Hp}{b:Nat}{o:AObj}(hb:h.look b=some o) :∀x,(h.set b o).look x=h.look x:=fun x=>by
 rw [aY];split
 ·rename_i e;rw [e,hb]
 ·rfl
theorem aA0 {m:Nat}{fr:AFrame}{cs:List AFrame}{h h':Hp}(hl:∀x o,h'.look x=some o→h.look x=some o)(c:h'.nb=h.nb) :LeadsM P m ⟨fr,cs,h⟩ ⟨fr,cs,h'⟩ :=
 fun hm E g a w _ f fs r=> ⟨E,g,a,w,Steps.refl _ _,f,fs,r.sub hl (Nat.le_of_eq c.symm),⟨fun _ _=>rfl,fun _ _ e=>e,le_refl _,fun _ _ _=>rfl,fun b o L e k i d _=> ⟨b,o,L,hl b o e,k,d⟩,by rw [c];exact hm,rfl,rfl,rfl,fun _ _=>rfl,fun _ _ e _=>.inl e,fun b o e _=> ⟨o,hl b o e⟩⟩⟩
theorem aWs {m:Nat}{fr:AFrame}{cs:List AFrame}{h:Hp}{tm':T AV}(d:∀t a,tm'.at t=some a→fr.tm.at t=some a) :LeadsM P m ⟨fr,cs,h⟩ ⟨{fr with tm:=tm'},cs,h⟩ :=
 fun hm E c b w _ f fs r=> ⟨E,c,b,w,Steps.refl _ _,⟨f.fn,⟨f.tm.1,fun t a e=>f.tm.2 t a (d t a e)⟩,f.todo,f.defers,f.mode,f.kind,f.round⟩,fs,r,ExtM.refl hm⟩
theorem aWt {m n:Nat}{s:AS}{o:Oper}(A:oQ s=some o){t:TypeId}{l c:Operand}{d:Nat}(S:o.op= .makeSlice t l c)(G:o.dst=some d){k1 Z:IntKind}(hl:cE s.fr.tm l=some (.int k1 n))(hc:cE s.fr.tm c=some (.int Z n)){I:TypeId}(hu:P.underlying t=some (.slice I))
  {e:Nat} (N:bA P I=some e) {z:AV} (hz:zeroOf P I=some z) {q:TypeInfo} (F:P.info? I=some q) {v:TypeDesc} (_hed:P.underlying I=some v) (u: (ble e 40&&ble 1 e&&beq z.cells.length e&&ble q.bytes 1000) =true) (h1:dF z.cells=true) (Y:isAggD v=true∨beq e 1=true) (hn:n<100000)
  {fr:AFrame} (p:s.fr.finish (.gl s.h.nb e 0 n true) =some fr) :LeadsM P m s ⟨fr,s.cs,s.h.new (.lst e (replicate n (bif isAggD v then .agg z.cells else z.cells.headD .undef)))⟩ :=by
 have C:z.cells.length=e:=by simp only [cF]at u;exact iF u.1.2
 have hv:mS P s.h s.fr.tm o=some (.val (.slice s.h.nb 0 n n e true) (s.h.newCells (mX z.cells n))) :=by
  unfold mS;have J: (ble e 40&&ble 1 e&&beq z.cells.length e&&ble q.bytes 1000) =true:=u;simp only [kA,S,ev2,hl,hc,hu,N,hz,F,J,cond];rw [if_pos ⟨by omega,Int.le_refl _,by omega⟩];rfl
 obtain⟨b,V,M⟩ :∃b,s.fr.finish (.slice s.h.nb 0 n n e true) =some b∧∃f,d<s.fr.nt∧f=s.fr.tm∧b.tm=f.put d (.slice s.h.nb 0 n n e true) ∧fr= {b with tm:=f.put d (.gl s.h.nb e 0 n true)}:=by
  unfold oQ at A;split at A
  · rename_i all i o' X k hm R;split at A
    · cases A;unfold AFrame.finish at p ⊢;rw [R]at p ⊢;simp only [G,kJ]at p ⊢;cases hb:blt d s.fr.nt
      case false=>rw [hb]at p;cases p
      rw [hb]at p;simp only [cond]at p ⊢;cases p;exact⟨_,rfl,s.fr.tm,by rw [dK]at hb;exact of_decide_eq_true hb,rfl,rfl,rfl⟩
    ·cases A
  ·cases A
 obtain⟨f,hd,_,W,e2⟩ :=M;have O: (mX z.cells n).length=n*e:=by rw [oO,C]
 have y: (s.h.newCells (mX z.cells n)).look s.h.nb=some (.cells (putCells .leaf 0 (mX z.cells n)) (mX z.cells n).length [] false) :=by
  unfold Hp.newCells;rw [cS,if_pos rfl]
 have H:getCells (putCells .leaf 0 (mX z.cells n)) 0 (n*e) =some (mX z.cells n) :=by
  rw [←O];exact aBS _ _ _ (fun j hj=>by rw [eX,bH,if_pos hj])
 have r:=dX (P:=P) (m:=m) cH (jB (call:=qE) A hv V)
 have w:=jS (P:=P) (m:=m) (fr:=b) (cs:=s.cs) (h:=s.h.newCells (mX z.cells n)) (j:=d) (by rw [W,T.at_put,if_pos rfl]) (aDd (m:=m) (c:=n) (x:=true) (g:=isAggD v) y H (aD3 h1 n) (fun Q=>by
  rcases Y with g|g
  ·rw [Q]at g;cases g
  ·exact iF g))
 refine(r.trans w).trans ?_;rw [aFZ (isAggD v) C n];have D: (true&&beq n n) =true:=by simp
 rw [D]
 have a:=aA0 (P:=P) (m:=m) (fr:={b with tm:=b.tm.put d (.gl s.h.nb e 0 n true)}) (cs:=s.cs) (h:= (s.h.newCells (mX z.cells n)).set s.h.nb (.lst e (replicate n (bif isAggD v then .agg z.cells else z.cells.headD .undef)))) (h':=s.h.new (.lst e (replicate n (bif isAggD v then .agg z.cells else z.cells.headD .undef)))) (fun x ox B=>by
  rw [cS]at B;rw [aY];unfold Hp.newCells;rw [cS];by_cases U:x=s.h.nb
  ·rw [if_pos U]at B ⊢;exact B
  ·rw [if_neg U]at B ⊢;rw [if_neg U];exact B) rfl
 refine a.trans ?_;rw [e2]
 exact aWs (P:=P) (fr:={b with tm:=b.tm.put d (.gl s.h.nb e 0 n true)}) (tm':=f.put d (.gl s.h.nb e 0 n true)) (fun t a L=>by
  show(b.tm.put d (.gl s.h.nb e 0 n true)).at t=some a;rw [W,T.at_put];rw [T.at_put]at L;split at L
  ·rename_i K;rw [if_pos K];exact L
  ·rename_i K;rw [if_neg K,T.at_put,if_neg K];exact L)
theorem aF3 {h:Hp}{a:Array TypeId}{b e off len:Nat}{ex:Bool}{x:AV}:aappend P h a (.gl b e off len ex) x=none:=by
 unfold aappend;simp only [cond_eq_ite]
 repeat' split
 all_goals first|rfl| (split<;>rfl)
theorem aKa {h:Hp}{a:Array TypeId}{e:Nat}{xs:List AV}{ex:Bool}{x:AV}:aappend P h a (.ilst e xs ex) x=none:=by
 unfold aappend;simp only [cond_eq_ite]
 repeat' split
 all_goals first|rfl| (split<;>rfl)
set_option maxHeartbeats 2000000 in
theorem aEQ {a:Type}:∀ {l:List (Nat×a)} {k:Nat} {v:a},(aJ9 l).at k=some v→ (k,v) ∈l
 | [],k,v,h=>by rw [aJ9,T.at_leaf]at h;cases h
 | (j,u) ::r,k,v,h=>by
  rw [aJ9,T.at_put]at h;split at h
  ·rename_i hk;cases h;subst hk;exact dT ..
  ·exact eD _ (aEQ h)
theorem tC {b:Type}{t:T b}:∀ {a:List Nat} {k:Nat} {v:b},(k,v) ∈aF1 t a→t.at k=some v
 | [],_,_,h=>by cases h
 | j ::a,k,v,h=>by
  simp only [aF1]at h;split at h
  · rename_i u c;rcases zq7.1 h with e|h
    ·cases e;exact c
    ·exact tC h
  ·exact tC h
theorem xstep_sound {i:Ins}{s s':AS}{ps:List Prop}{m:Nat}(A:xstep P i s=some (s',ps))(hp:∀p∈ps,p) :LeadsM P m s s':=by
 cases i with
 | run n=>
  simp only [xstep]at A;split at A
  · rename_i s1 h1;cases A;rw [uR]at h1;exact(rM cH h1).toM
  ·cases A
 | cweak k o=>
  simp only [xstep]at A;split at A
  · rename_i t n ol S hk;split at A
    ·rename_i K;cases A;exact jT hk hk K aF0
    ·rename_i K;cases A;exact jT hk hk K aMD
    ·cases A
  ·cases A
 | weak j=>
  simp only [xstep]at A;split at A
  · rename_i b e o l T;cases A;exact jS T aF0
  ·cases A
 | unname j b=>
  simp only [xstep]at A;split at A
  · rename_i u u' e xs T hb;cases A;have M:=mem1 hp;subst M;exact jS T (aBT hb)
  ·cases A
 | vfrz b o X=>
  simp only [xstep]at A;split at A
  · rename_i u e xs eo zs hb D;cases I:beq o b
    case true=>rw [I]at A;cases A
    rw [I]at A;simp only [cond]at A;cases A;have M:=hp _ (dT ..);have R:=hp _ (eD _ (dT ..));have q2:=hp _ (eD _ (eD _ (dT ..)));refine aPB hb D (fun e=>?_) M R q2;rw [e,Nat.beq_refl]at I;cases I
  ·cases A
 | appN zs n=>
  simp only [xstep]at A;split at A
  · rename_i o D;split at A
    · rename_i v h' qs K;obtain⟨fr,F,rfl,rfl⟩ :=kF A;exact dX cH (jB D (aBQ K hp) F)
    ·cases A
  ·cases A
 | lw b X=>
  simp only [xstep]at A;split at A
  · rename_i e xs hb;cases A;have M:=hp _ (dT ..);have R:=hp _ (eD _ (dT ..));exact aWq hb M R
  ·cases A
 | lkeep b js=>
  simp only [xstep]at A;split at A
  · rename_i st pe fn tm nt ps aS bd df hb;cases A;intro hm E cf ccs w base f fs r;refine⟨E,cf,ccs,w,Steps.refl _ _,f,fs,r.reobj hb rfl (fun L hL=>?_) rfl rfl rfl,nY (ExtM.refl hm) hb⟩;obtain⟨tmps,Ld,h1,h2,h3⟩ :=r.objL hb hL;exact⟨tmps,Ld,h1,h2,h3.1,fun t a e=>h3.2 t a (tC (aEQ e))⟩
  ·cases A
 | b j v=>
  simp only [xstep]at A;split at A
  · rename_i b hb;cases A;have:=mem1 hp;subst this;exact aF2 hb
  ·cases A
 | set j v=>
  simp only [xstep]at A;split at A
  · rename_i u U;cases A;have:=mem1 hp;subst this;exact aF2 U
  ·cases A
 | cset k o v=>
  simp only [xstep]at A;split at A
  · rename_i t n ol S hk;split at A
    · rename_i u U;cases A;have:=mem1 hp;subst this;exact jT hk hk U (aIA fun _ _ h=>h)
    ·cases A
  ·cases A
 | lset b xs=>
  simp only [xstep]at A;split at A
  · rename_i e X hb;cases A;have:=mem1 hp;subst this;exact aA0 (fun x o e=>by rw [aAJ hb]at e;exact e) rfl
  ·cases A
 | call v h'=>
  simp only [xstep]at A;split at A
  · rename_i o D;split at A
    · rename_i c hc;unfold aDe at A;split at A
      · rename_i fr F;cases A;obtain⟨g,Y,he⟩ :=mem1 hp;exact aAI (dX cH (aAZ D hc Y)) he F
      ·cases A
    ·cases A
  ·cases A
 | callP ch h'=>
  simp only [xstep]at A;split at A
  · rename_i o D;split at A
    · rename_i c hc;cases A;obtain⟨g,Y,he⟩ :=mem1 hp;exact aFV (dX cH (aAZ D hc Y)) he
    ·cases A
  ·cases A
 | ans a=>
  simp only [xstep]at A;split at A
  · rename_i o D;split at A
    · rename_i v qs K;obtain⟨fr,F,rfl,rfl⟩ :=kF A;exact dX cH (jB D (pJ K hp) F)
    ·cases A
  ·cases A
 | pure v=>
  simp only [xstep]at A;split at A
  · rename_i o D;split at A
    · rename_i f args hc;obtain⟨fr,F,rfl,rfl⟩ :=kF A;obtain⟨g,Y,he⟩ :=mem1 hp s.h;exact aAI (dX cH (aAZ D hc Y)) he F
    ·cases A
  ·cases A
 | mk n =>
  simp only [xstep]at A;split at A
  · rename_i o D;split at A
    · rename_i t l c d B hdst;split at A
      · rename_i k1 l' k2 c' hl hc;split at A
        · rename_i el U;split at A
          · rename_i e z V ed Q hz J hed;cases W: (ble e 40&&ble 1 e&&beq z.cells.length e&&ble V.bytes 1000&&dF z.cells&& (isAggD ed||beq e 1))
            case false=>rw [W]at A;cases A
            rw [W]at A;simp only [cond]at A;split at A
            · rename_i fr F;cases A;have R:=hp _ (dT ..);have q2:=hp _ (eD _ (dT ..));have q3:=hp _ (eD _ (eD _ (dT ..)));subst R q2;simp only [cF,Bool.or_eq_true]at W;obtain⟨⟨⟨⟨⟨c1,c2⟩,c3⟩,c4⟩,c5⟩,c6⟩ :=W;exact aWt D B hdst hl hc U Q hz J hed (by simp [c1,c2,c3,c4]) c5 c6 q3 F
            ·cases A
          ·cases A
        ·cases A
      ·cases A
    ·cases A
  ·cases A
 | reg is=>
  simp only [xstep]at A;split at A
  · rename_i id ops k hm htd;split at A
    · rename_i tm h' qs hr;cases A;exact aBR hm htd hr hp
    ·cases A
  ·cases A
 | regA is os=>
  simp only [xstep]at A;split at A
  · rename_i id ops k hm htd;split at A
    · rename_i tm h' qs hr;cases A;exact aBR hm htd hr hp
    ·cases A
  ·cases A
 | nxt c d =>
  simp only [xstep]at A;split at A
  · rename_i o D;split at A
    · rename_i it B;split at A
      · rename_i r hr;split at A
        · rename_i l n pos hb;obtain⟨fr,F,rfl,rfl⟩ :=kF A;have M:=hp _ (dT ..);have R:=hp _ (eD _ (dT ..));refine dX cH (jB D ?_ F);have hbl:blt pos l=true:=by rw [dK];exact decide_eq_true M
          unfold mS;simp only [kA,B,ev1,hr,hb,hbl,cond,R]
        ·cases A
      ·cases A
    ·cases A
  ·cases A
 | nxtE =>
  simp only [xstep]at A;split at A
  · rename_i o D;split at A
    · rename_i it B;split at A
      · rename_i r hr;split at A
        · rename_i l n pos hb;obtain⟨fr,F,rfl,rfl⟩ :=kF A;have M:=mem1 hp;refine dX cH (jB D ?_ F);have hbl:blt pos l=false:=by rw [dK];exact decide_eq_false (by omega)
          unfold mS;simp only [kA,B,ev1,hr,hb,hbl,cond]
        ·cases A
      ·cases A
    ·cases A
  ·cases A
 | mput es' clock'=>
  simp only [xstep]at A;split at A
  · rename_i o D;split at A
    · rename_i t m k x B;split at A
      · rename_i r kv v hm hk hx;split at A
        · rename_i kt et es clock U hb;split at A
          · rename_i kd hkd;cases hc:plainKey kd kv
            case false=>rw [hc]at A;cases A
            rw [hc]at A;simp only [cond]at A;obtain⟨fr,F,rfl,rfl⟩ :=kF A;have q:=mem1 hp;refine dX cH (jB D ?_ F);unfold aFX at q;unfold mS;simp only [kA,B,ev2,ev1,hm,hk,hx,tX,U,hkd,hb,hc,cond];split at q
            · rename_i i w hfk;cases q;simp only [hfk,aFt]
            · rename_i hfk;cases q;simp only [hfk,aFt]
            ·cases q
          ·cases A
        ·cases A
      ·cases A
    ·cases A
  ·cases A
 | mset b es' clock'=>
  simp only [xstep]at A;split at A
  · rename_i es clock hb;cases A;have M:=hp _ (dT ..);have R:=hp _ (eD _ (dT ..));subst M R;exact aA0 (fun x o e=>by rw [aAJ hb]at e;exact e) rfl
  ·cases A
 | st y y' =>
  simp only [xstep]at A;split at A
  · rename_i o D;split at A
    · rename_i t a x B;split at A
      · rename_i b e i k v ha hx;split at A
        · rename_i e' xs n hb hn;cases hc: (beq e' e&&beq v.cells.length n&&ble (k+n) e&&dF v.cells)
          case false=>rw [hc]at A;cases A
          rw [hc]at A;simp only [cond]at A;split at A
          · rename_i fr F;cases A;have M:=hp _ (dT ..);have R:=hp _ (eD _ (dT ..));refine dX cH (jB D (dY ?_ ?_) F)
            ·simp only [kA,B,ev2,ha,hx]
            ·simp only [vop,B,ev2,ha,hx,hb,hn,hc,cond,M,R]
          ·cases A
        ·cases A
      ·cases A
    ·cases A
  ·cases A
 | app zs n =>
  simp only [xstep]at A;split at A
  · rename_i o D;split at A
    · rename_i c B;split at A
      · rename_i d x st xt G C hst hxt;split at A
        · rename_i el el' U hu';split at A
          · rename_i e V z Q J hz;cases hc: (beq z.cells.length e&&ble e 40&&ble V.bytes 1000&&ble 1 V.bytes&&ble 1 e)
            case false=>rw [hc]at A;cases A
            rw [hc]at A;simp only [cond]at A;split at A
            · rename_i b e' off len ex;split at A
              · rename_i e2 xs hb;cases H: (beq e' e&&beq e2 e)
                case false=>rw [H]at A;cases A
                rw [H]at A;simp only at A;simp only [cF]at H;have Z:=iF H.1;have ee2:=iF H.2;split at A
                · rename_i b2 e1 N len2 ex2;split at A
                  · rename_i e3 X dd hb2 hu3;cases O: (beq e1 e&&beq e3 e)
                    case false=>rw [O]at A;cases A
                    rw [O]at A;simp only at A;simp only [cF]at O;have ee3:=iF O.2;obtain⟨fr,F,rfl,rfl⟩ :=kF A;have y0:=hp _ (dT ..);have y2:=hp _ (eD _ (dT ..));have y3:=hp _ (eD _ (eD _ (dT ..)));have y4:=hp _ (eD _ (eD _ (eD _ (dT ..))));have y5:=hp _ (eD _ (eD _ (eD _ (eD _ (dT ..)))));subst y4 y5;have yl: ((X.drop N).take len2).length=len2:=by rw [List.length_take,List.length_drop];omega
                    have y1:sB P s.h el e (.gl b2 e1 N len2 ex2) =some ((X.drop N).take len2) :=by
                     simp only [sB,hu3,O.1,cond,hb2];rw [if_pos ⟨ee3,y0⟩]
                    refine dX cH (jB D (dY ?_ ?_) F)
                    ·simp only [kA,B,wM,C,G,iR,aF3]
                    · simp only [vop,B,G,C,nR,hst,hxt,U,hu',Q,J,hz,y1,hc,cond,hb,aFs,yl];rw [if_pos ⟨Z,ee2,y2,y3⟩]
                  ·cases A
                · split at A
                  · rename_i X y1;obtain⟨fr,F,rfl,rfl⟩ :=kF A;have y2:=hp _ (dT ..);have y3:=hp _ (eD _ (dT ..));have y4:=hp _ (eD _ (eD _ (dT ..)));have y5:=hp _ (eD _ (eD _ (eD _ (dT ..))));subst y4 y5;refine dX cH (jB D (dY ?_ ?_) F)
                    ·simp only [kA,B,wM,C,G,iR,aF3]
                    · simp only [vop,B,G,C,nR,hst,hxt,U,hu',Q,J,hz,y1,hc,cond,hb,aFs];rw [if_pos ⟨Z,ee2,y2,y3⟩]
                  ·cases A
              ·cases A
            · rename_i e';cases H:beq e' e
              case false=>rw [H]at A;cases A
              rw [H]at A;simp only at A;have Z:=iF H;split at A
              · rename_i X y1;obtain⟨fr,F,rfl,rfl⟩ :=kF A;have y2:=hp _ (dT ..);have y3:=hp _ (eD _ (dT ..));have y4:=hp _ (eD _ (eD _ (dT ..)));subst y3 y4;refine dX cH (jB D (dY ?_ ?_) F)
                ·simp only [kA,B,wM,C,G,iR,aKa]
                · simp only [vop,B,G,C,nR,hst,hxt,U,hu',Q,J,hz,y1,hc,cond,aFs];rw [if_pos ⟨Z,y2⟩]
              ·cases A
            ·cases A
          ·cases A
        ·cases A
      ·cases A
    ·cases A
  ·cases A
 | nilL j e=>
  simp only [xstep]at A;split at A
  ·rename_i T;cases A;exact jS T (aDa e)
  ·cases A
 | nilI j e=>
  simp only [xstep]at A;split at A
  ·rename_i T;cases A;exact jS T (aFW e)
  ·cases A
 | frz j b X=>
  simp only [xstep]at A;split at A
  · rename_i v e xs T hb;cases A;exact jS T (aDc hb (hp _ (dT ..)) (hp _ (eD _ (dT ..))))
  ·cases A
 | cnil k o e=>
  simp only [xstep]at A;split at A
  · rename_i t n ol S hk;split at A
    · rename_i K;cases hc:blt k s.h.nb
      case false=>rw [hc]at A;cases A
      rw [hc]at A;simp only [cond]at A;cases A;rw [dK]at hc;have:=of_decide_eq_true hc;exact jT hk (by rw [cS,if_neg (by omega)];exact hk) K (aDa e)
    ·cases A
  ·cases A
 | cnilI k o e=>
  simp only [xstep]at A;split at A
  · rename_i t n ol S hk;split at A
    ·rename_i K;cases A;exact jT hk hk K (aFW e)
    ·cases A
  ·cases A
 | cfrz k o b X=>
  simp only [xstep]at A;cases hc:beq k b
  case true=>rw [hc]at A;cases A
  rw [hc]at A;simp only [cond]at A;have I:k≠b:=fun e=>by subst e;simp at hc
  split at A
  · rename_i t n ol S e xs hk hb;split at A
    · rename_i v K;cases A;exact jT hk (by rw [qB,if_neg I];exact hk) K (aDc hb (hp _ (dT ..)) (hp _ (eD _ (dT ..))))
    ·cases A
  ·cases A
 | ctoL k o g cs=>
  simp only [xstep]at A;split at A
  · rename_i t n ol S hk;split at A
    · rename_i b n2 c e x K;cases hkb:beq k b
      case true=>rw [hkb]at A;cases A
      rw [hkb]at A;simp only [cond]at A;have I:k≠b:=fun e=>by subst e;simp at hkb
      split at A
      · rename_i t2 k2 hb;cases hc: (g||beq e 1)
        case false=>rw [hc]at A;cases A
        rw [hc]at A;simp only at A;cases A;exact jT hk (by rw [aY,if_neg I];exact hk) K (aDd hb (hp _ (dT ..)) (hp _ (eD _ (dT ..))) (fun Y=>by subst Y;simp only [Bool.false_or]at hc;exact iF hc))
      ·cases A
    ·cases A
  ·cases A
 | toL j g cs=>
  simp only [xstep]at A;split at A
  · rename_i b n c e x T;split at A
    · rename_i t k hb;cases hc: (g||beq e 1)
      case false=>rw [hc]at A;cases A
      rw [hc]at A;simp only [cond]at A;cases A;exact jS T (aDd hb (hp _ (dT ..)) (hp _ (eD _ (dT ..))) (fun Y=>by subst Y;simp only [Bool.false_or]at hc;exact iF hc))
    ·cases A
  ·cases A
theorem iD {m:Nat}:∀ {e:List Ins} {s c:AS} {d:List Prop},rO P e s=some (c,d) → (∀p∈d,p) →LeadsM P m s c
 | [],s,c,d,a,_=>by simp only [rO]at a;cases a;exact LeadsM.refl s
 | i ::e,s,c,d,a,f=>by
  simp only [rO]at a;split at a
  ·cases a
  · rename_i l k h;split at a
    ·cases a
    · rename_i n j g;cases a;exact(xstep_sound h (fun p b=>f p (aEC _ b))).trans (iD g (fun p b=>f p (aFr _ b)))
def dO {α:Type}:List (Nat×α) →T α
 | [] =>.leaf
 | (k,v) ::r=> (dO r).put k v
theorem aDf {a:Type}:∀ {l:List (Nat×a)} {k:Nat} {v:a},(dO l).at k=some v→ (k,v) ∈l
 | [],k,v,h=>by rw [dO,T.at_leaf]at h;cases h
 | (j,u) ::r,k,v,h=>by
  rw [dO,T.at_put]at h;split at h
  ·rename_i hk;cases h;subst hk;exact dT ..
  ·exact eD _ (aDf h)
structure TF where
 fn:Nat
 nt:Nat
 sl:List (Nat×AV)
 todo:List AItem
 defers:List ADef:=[]
 mode:AMode:=.run
 kind:CallKind:=.normal
 roundOf:Option Nat:=none
def TF.fr (f:TF) :AFrame:= ⟨f.fn,dO f.sl,f.nt,f.todo,f.defers,f.mode,f.kind,f.roundOf⟩
structure TS where
 fr:TF
 cs:List TF
 hp:List (Nat×AObj×Bool)
 nb:Nat
def aA (l:List (Nat×AObj×Bool))(nb:Nat) :Hp:= ⟨dO (l.map fun p=> (p.1,p.2.1)),nb⟩
def TS.as (s:TS) :AS:= ⟨s.fr.fr,s.cs.map TF.fr,aA s.hp s.nb⟩
def T.mapT {α β:Type}(f:α→β) :T α→T β
 | .leaf=>.leaf
 | .node l v r=>.node (T.mapT f l) (v.map f) (T.mapT f r)
theorem aF4 {a b:Type}(f:a→b) :∀ (t:T a) (k:Nat),(t.mapT f).get k= (t.get k).map f
 | .leaf,k=>rfl
 | .node l v r,k=>by
  rw [T.mapT,T.get_node,T.get_node,aF4 f l,aF4 f r];split
  ·rfl
  ·split<;>rfl
theorem aER {a b:Type}(f:a→b)(t:T a)(k:Nat) : (t.mapT f).at k= (t.at k).map f:=aF4 f t _
def AObj.ren (τ:Nat→Nat) :AObj→AObj
 | .cells t n ol sup=>.cells (t.mapT (AV.ren τ)) n (ol.map τ) sup
 | .map es c=>.map (es.map fun p=> (AV.ren τ p.1,AV.ren τ p.2.1,p.2.2)) c
 | .siter l n p=>.siter l n p
 | .loop st pe fn tm nt ps aS bd df=>.loop st pe fn (tm.mapT (AV.ren τ)) nt ps aS bd (τ df)
 | .defd t=>.defd t
 | .lst e xs=>.lst e (renL τ xs)
 | .lstv u e xs=>.lstv u e (renL τ xs)
 | .zone w rs Z=>.zone w (List.map τ rs) Z
def AItem.ren (τ:Nat→Nat) :AItem→AItem
 | .inRF l=>.inRF (τ l)
 | .junk=>.junk
 | .endRF l=>.endRF (τ l)
 |i=>i
def ADef.ren (τ:Nat→Nat) :ADef→ADef
 | .fn f args=>.fn f (renL τ args)
 | .col r=>.col (τ r)
def AMode.ren (τ:Nat→Nat) :AMode→AMode
 | .pan ch=>.pan (ch.map fun p=> (AV.ren τ p.1,p.2))
 |m=>m
theorem bF5 {b:Nat→Nat}{E:Emb}{tm:T AV}{c:Nat}{tmps:Array Value}(r:TR E (tm.mapT (AV.ren b)) c tmps) :TR (E.ren b) tm c tmps:=
 ⟨r.1,fun t a e=>by
  obtain⟨v,f,d⟩ :=r.2 t (AV.ren b a) (by rw [aER,e];rfl);exact⟨v,f,(gU b E a v).1 d⟩⟩
theorem aSm {a:Nat→Nat}{E:Emb}:∀ {c:List (AV×AV×Nat)} {d:List MapEntry},ERs E (c.map fun p=> (AV.ren a p.1,AV.ren a p.2.1,p.2.2)) d→ERs (E.ren a) c d
 | [],_,r=>by simpa [ERs]using r
 | p::c,_,r=>by
  simp only [dJ,ERs]at r ⊢;obtain⟨u,b,i,e,h,f,g⟩ :=r;exact⟨u,b,i,(gU a E _ _).1 e,(gU a E _ _).1 h,f,aSm g⟩
theorem bF6 {g:Nat→Nat}{E:Emb}{H:Array Obj}{L:Loc}{o:AObj}(r:OR E H L (o.ren g)) :OR (E.ren g) H L o:=by
 cases o with
 | cells t n M D=>
  obtain⟨C,m,d,b,f⟩ :=r;refine⟨C,m,d,b,fun i a e=>?_⟩;obtain⟨z,v,G,y⟩ :=f i (AV.ren g a) (by rw [aER,e];rfl);exact⟨z,v,G,(gU g E a v).1 y⟩
 |map Q c=>obtain⟨A,d,b⟩ :=r;exact⟨A,d,aSm b⟩
 |siter l n p=>exact r
 |loop st W fn R T O K V U=>obtain⟨k,I,d,b,f⟩ :=r;exact⟨k,I,d,b,bF5 f⟩
 |defd t=>exact r
 |lst e h=>obtain⟨C,m,j,d,b,f,q⟩ :=r;exact⟨C,m,j,d,b,(nZ g E h j).1 f,q⟩
 | zone S N Z=>
  obtain⟨B,F,w,J⟩ :=r;exact⟨B,F,by rw [aMh]at w;exact w,J⟩
 | lstv u e h=>
  obtain⟨C,m,j,d,b,f,q,x,s⟩ :=r;have hl: (renL g h).length=h.length:=by rw [←f.length,((nZ g E h j).1 f).length]
  exact⟨C,m,j,d,b,(nZ g E h j).1 f,q,x,by rw [hl]at s;exact s⟩
def AObj.kl :AObj→Prop
 | .lst _ xs=>keylessL xs=true
 | .lstv _ _ xs=>keylessL xs=true
 | .map es _=>∀e∈es,keyless e.1=true∧keyless e.2.1=true
 |_=>False
theorem aWu {E E':Emb}(he:E.imm=E'.imm) :∀ {a:List (AV×AV×Nat)} {f:List MapEntry},(∀e∈a,keyless e.1=true∧keyless e.2.1=true) →ERs E a f→ERs E' a f
 | [],_,_,r=>by simpa [ERs]using r
 | e::a,_,hk,r=>by
  simp only [ERs]at r ⊢;obtain⟨u,b,i,h,j,m,g⟩ :=r;have l:E.p=E'.p:=by simp [Emb.p,he]
  have k:=hk e (dT ..);have c:=gR k.1 h;have d:=gR k.2 j;rw [l]at c d;exact⟨u,b,i,VR.of_p c,VR.of_p d,m,aWu he (fun x n=>hk x (eD _ n)) g⟩
theorem aWv {E E':Emb}(he:E.imm=E'.imm){H:Array Obj}{L:Loc}{o:AObj}(hk:o.kl)(r:OR E H L o) :OR E' H L o:=by
 cases o with
 | lst e k=>
  obtain⟨C,f,i,b,a,d,h⟩ :=r;refine⟨C,f,i,b,a,?_,h⟩;have:=gG hk d;have g:E.p=E'.p:=by simp [Emb.p,he]
  rw [g]at this;exact this.of_p
 | lstv u e k=>
  obtain⟨C,f,i,b,a,d,h⟩ :=r;refine⟨C,f,i,b,a,?_,h⟩;have:=gG hk d;have g:E.p=E'.p:=by simp [Emb.p,he]
  rw [g]at this;exact this.of_p
 |map l c=>obtain⟨j,b,a⟩ :=r;exact⟨j,b,aWu he hk a⟩
 |_=>exact hk.elim
theorem bF7 {b:Nat→Nat}{E:Emb}{a:AItem}{i:Item}(r:IR E (a.ren b) i) :IR (E.ren b) a i:=by cases a<;>exact r
theorem aSn {d:Nat→Nat}{E:Emb}:∀ {c:List AItem} {b:List Item},IRs E (c.map (AItem.ren d)) b→IRs (E.ren d) c b
 | [],_,r=>by simpa [IRs]using r
 |_::_,_,r=>by simp only [dJ,IRs]at r ⊢;obtain⟨i,a,g,e,f⟩ :=r;exact⟨i,a,g,bF7 e,aSn f⟩
theorem bF8 {b:Nat→Nat}{E:Emb}{a:ADef}{d:Deferred}(r:DR E (a.ren b) d) :DR (E.ren b) a d:=by
 cases a with
 |fn f e=>obtain⟨c,a,h,g⟩ :=r;exact⟨c,a,h,(nZ b E _ _).1 g⟩
 |col i=>exact r
theorem aPC {a:Nat→Nat}{E:Emb}:∀ {d:List (AV×Bool)} {c:List PanicEntry},CR E (d.map fun p=> (AV.ren a p.1,p.2)) c→CR (E.ren a) d c
 | [],_,r=>by simpa [CR]using r
 |_::_,_,r=>by simp only [dJ,CR]at r ⊢;obtain⟨i,b,g,e,f⟩ :=r;exact⟨i,b,g,(gU a E _ _).1 e,aPC f⟩
theorem bF9 {b:Nat→Nat}{E:Emb}{a:AMode}{m:FrameMode}(r:MR E (a.ren b) m) :MR (E.ren b) a m:=by
 cases a with
 |pan f=>simp only [AMode.ren,MR]at r ⊢;obtain⟨d,e,c⟩ :=r;exact⟨d,e,aPC c⟩
 |_=>exact r
theorem bGa {c:Nat→Nat}{E:Emb}{a b:Option Nat}(r:RR E (a.map c) b) :RR (E.ren c) a b:=by cases a<;>exact r
theorem own_ren {a:Nat→Nat}{o:AObj}{L:Loc}{i:Nat}:Own (o.ren a) L i↔Own o L i:=by cases o<;>exact Iff.rfl
theorem uW {a:Nat→Nat}{o:AObj}{f:Bool}{L:Loc}{i:Nat}(h:Own o L i) :Own (bif f then o else o.ren a) L i:=by
 cases f
 case true=>exact h
 exact own_ren.2 h
theorem tD {a:Nat→Nat}{o q:AObj}{f:Bool}{L:Loc}{i:Nat}(e:o= (bif f then q else q.ren a))(h:Own o L i) :Own q L i:=by
 subst e;cases f
 case true=>exact h
 exact own_ren.1 h
structure SumF where
 fn:Nat
 nt:Nat
 kind:CallKind
 ro:Option Nat
 mode:AMode
 todo:List AItem
 defers:List ADef
 sl:List (Option AV)
def slotsOf (tm:T AV) :List (Nat×AV) →List (Option AV)
 | [] =>[]
 |p::r=>tm.at p.1::slotsOf tm r
def aSo (τ:Nat→Nat) :List (Nat×AV) →List (Option AV)
 | [] =>[]
 |p::r=>some (AV.ren τ p.2) ::aSo τ r
def sumF (a:AFrame)(f:TF) :SumF:= ⟨a.fn,a.nt,a.kind,a.roundOf,a.mode,a.todo,a.defers,slotsOf a.tm f.sl⟩
def aF5 (τ:Nat→Nat)(f:TF) :SumF:= ⟨f.fn,f.nt,f.kind,f.roundOf.map τ,f.mode.ren τ,f.todo.map (AItem.ren τ),f.defers.map (ADef.ren τ),aSo τ f.sl⟩
def aSp :List AFrame→List TF→List SumF
 |a::aS,f::fs=>sumF a f::aSp aS fs
 |_,_=>[]
def tG (h:Hp)(τ:Nat→Nat) :List (Nat×AObj×Bool) →List (Option AObj)
 | [] =>[]
 |p::r=>h.look (τ p.1) ::tG h τ r
def iE (τ:Nat→Nat) :List (Nat×AObj×Bool) →List (Option AObj)
 | [] =>[]
 |p::r=>some (bif p.2.2 then p.2.1 else p.2.1.ren τ) ::iE τ r
structure Sum where
 fr:SumF
 n:Nat
 cs:List SumF
 hp:List (Option AObj)
def AS.sum (s:AS)(τ:Nat→Nat)(t:TS) :Sum:= ⟨sumF s.fr t.fr,s.cs.length,aSp s.cs t.cs,tG s.h τ t.hp⟩
def TS.want (t:TS)(τ:Nat→Nat) :Sum:= ⟨aF5 τ t.fr,t.cs.length,t.cs.map (aF5 τ),iE τ t.hp⟩
def fE (m nb n1:Nat)(ks:List Nat)(b:Nat) :Nat:=bif blt b m then b else bif blt b nb then ks.getD (b-m) 0 else n1+b
def aSq :List Nat→Bool
 | [] =>true
 |k::ks=> !(xA k ks) &&aSq ks
def aSr (m:Nat) :List Nat→Bool
 | [] =>true
 |k::ks=>ble m k&&aSr m ks
def aSs :AObj→Bool
 | .cells _ _ [] _=>true
 | .cells .. =>false
 |_=>true
theorem aKb {o:AObj}(h:aSs o=true) :bW o= [] :=by
 cases o with
 | cells t n b a=>cases b with
  |nil=>rfl
  |cons x c=>cases h
 |_=>rfl
def fS (nb:Nat) :List (Nat×AObj×Bool) →Bool
 | [] =>true
 |p::r=>blt p.1 nb&&aSs p.2.1&&fS nb r
def cR (m:Nat)(t:TS)(ks:List Nat) :Bool:=ble m t.nb&&beq (m+ks.length) t.nb&&aSq ks&&aSr m ks&&fS t.nb t.hp
def fJ :List (Nat×AObj×Bool) →Prop
 | [] =>True
 | (_,o,true) ::r=>o.kl∧fJ r
 | (_,_,false) ::r=>fJ r
theorem yJ (t:Nat) :∀l:List Nat,xA t l=true↔t∈l
 | [] =>by simp [xA]
 | x ::a=>by
  rw [xA,Bool.or_eq_true,yJ t a,bQ,decide_eq_true_eq,zq7];constructor
  · rintro(h|h)
    ·exact .inl h.symm
    ·exact .inr h
  · rintro(h|h)
    ·exact .inl h.symm
    ·exact .inr h
theorem aIC :∀ {l:List Nat},aSq l=true→∀i j,i<l.length→j<l.length→l.getD i 0=l.getD j 0→i=j
 | [],_,i,j,a,_,_=>by simp at a
 | x ::xs,h,i,j,a,c,e=>by
  simp only [aSq,cF,Bool.not_eq_true']at h;have b:x∉xs:=fun hm=>by rw [(yJ x xs).2 hm]at h;cases h.1
  cases i with
  | zero=>
   cases j with
   |zero=>rfl
   | succ j=>
    simp only [oK]at c;simp only [List.getD_cons_zero,List.getD_cons_succ]at e;exact absurd (e ▸ (by rw [hQ,kH (by omega)];exact List.getElem_mem ..)) b
  | succ i=>
   cases j with
   | zero=>
    simp only [oK]at a;simp only [List.getD_cons_zero,List.getD_cons_succ]at e;exact absurd (e ▸ (by rw [hQ,kH (by omega)];exact List.getElem_mem ..)) b
   | succ j=>
    simp only [oK]at a c;simp only [List.getD_cons_succ]at e;rw [aIC h.2 i j (by omega) (by omega) e]
theorem aDg {m:Nat}:∀ {l:List Nat},aSr m l=true→∀i,i<l.length→m≤l.getD i 0
 | [],_,i,a=>by simp at a
 | x::b,h,i,a=>by
  simp only [aSr,cF]at h;cases i with
  |zero=>simpa using Nat.le_of_ble_eq_true h.1
  |succ i=>simp only [oK]at a;simpa using aDg h.2 i (by omega)
theorem dZ {nb:Nat}:∀ {l:List (Nat×AObj×Bool)},fS nb l=true→∀p∈l,p.1<nb∧bW p.2.1= []
 | p::r,h,q,a=>by
  simp only [fS,cF,dK,decide_eq_true_eq]at h;rcases zq7.1 a with rfl|a
  ·exact⟨h.1.1,aKb h.1.2⟩
  ·exact dZ h.2 q a
theorem nJ :∀ {l:List (Nat×AObj×Bool)},fJ l→∀k o,(k,o,true) ∈l→o.kl
 | (c,b,true) ::r,h,k,o,a=>by
  rcases zq7.1 a with e|a
  ·cases e;exact h.1
  ·exact nJ h.2 k o a
 | (c,b,false) ::r,h,k,o,a=>by
  rcases zq7.1 a with e|a
  ·cases e
  ·exact nJ (l:=r) h k o a
theorem aID {b:Nat→Nat}{tm:T AV}:∀ {l:List (Nat×AV)},slotsOf tm l=aSo b l→∀p∈l,tm.at p.1=some (AV.ren b p.2)
 | p::r,h,q,a=>by
  simp only [slotsOf,aSo,List.cons.injEq]at h;rcases zq7.1 a with rfl|a
  ·exact h.1
  ·exact aID h.2 q a
theorem pT {a:Nat→Nat}{c:Hp}:∀ {l:List (Nat×AObj×Bool)},tG c a l=iE a l→∀p∈l,c.look (a p.1) =some (bif p.2.2 then p.2.1 else p.2.1.ren a)
 | p::r,h,q,b=>by
  simp only [tG,iE,List.cons.injEq]at h;rcases zq7.1 b with rfl|b
  ·exact h.1
  ·exact pT h.2 q b
theorem aES {b:Nat→Nat}{E:Emb}{a:AFrame}{f:TF}(h:sumF a f=aF5 b f){c:Frame}(r:FR E a c) :FR (E.ren b) f.fr c:=by
 simp only [sumF,aF5,SumF.mk.injEq]at h;obtain⟨y,p,m,u,k,z,n,x⟩ :=h;refine⟨r.fn.trans y,⟨r.tm.1.trans p,fun t v e=>?_⟩,aSn (show IRs E (f.todo.map (AItem.ren b)) c.todo by rw [←z];exact r.todo),?_,bF9 (show MR E (f.mode.ren b) c.mode by rw [←k];exact r.mode),r.kind.trans m,bGa (show RR E (f.roundOf.map b) c.roundOf by rw [←u];exact r.round)⟩
 · obtain⟨i,s,q⟩ :=r.tm.2 t (AV.ren b v) (aID x (t,v) (aDf e));exact⟨i,s,(gU b E v i).1 q⟩
 · have hd:=r.defers;rw [n]at hd;have:∀ {g:List ADef} {ds:List Deferred},DRs E (g.map (ADef.ren b)) ds→DRs (E.ren b) g ds:=by
    intro g
    induction g with
    |nil=>intro ds h;simpa [DRs]using h
    | cons a g w=>
     intro ds h;obtain⟨d,l,rfl,o,j⟩ :=h.cons_inv;exact DRs.cons (bF8 o) (w j)
   exact this hd
theorem zP {e:Nat→Nat}{E:Emb}:∀ {d:List AFrame} {fs:List TF},d.length=fs.length→aSp d fs=fs.map (aF5 e) →∀ {b:List Frame},FRs E d b→FRs (E.ren e) (fs.map TF.fr) b
 | [],[],_,_,b,r=>by rw [r.nil_inv];rfl
 | a::d,f::fs,hl,h,b,r=>by
  simp only [aSp,dJ,List.cons.injEq]at h;obtain⟨c,i,rfl,g,j⟩ :=r.cons_inv;exact FRs.cons (aES h.1 g) (zP (by simpa using hl) h.2 j)
 | [],_::_,hl,_,_,_=>by simp at hl
 |_::_,[],hl,_,_,_=>by simp at hl
theorem uX {m nb n1:Nat}{ks:List Nat}{b:Nat}(h:b<m) :fE m nb n1 ks b=b:=by simp [fE,dK,h]
theorem aBU {m nb n1:Nat}{ks:List Nat}{b:Nat}(h1:m≤b)(h2:b<nb) :fE m nb n1 ks b=ks.getD (b-m) 0:=by simp [fE,dK,h2,show ¬b<m by omega]
theorem aWw {m nb n1:Nat}{ks:List Nat}{b:Nat}(h1:m≤b)(h2:nb≤b) :fE m nb n1 ks b=n1+b:=by simp [fE,dK,show ¬b<m by omega,show ¬b<nb by omega]
theorem kT {m:Nat}{l:List (Nat×AObj×Bool)}{nb:Nat}{ks:List Nat}{h:Hp}(C:cR m ⟨⟨0,0,[],[],[],.run,.normal,none⟩,[],l,nb⟩ ks=true)(hh:tG h (fE m nb h.nb ks) l=iE (fE m nb h.nb ks) l)(v:fJ l){E:Emb}{w:World}(r:Rel E h w.heap) :
  Rel (E.ren (fE m nb h.nb ks)) (aA l nb) w.heap∧ExtM m E h w (E.ren (fE m nb h.nb ks)) (aA l nb) w:=by
 simp only [cR,cF]at C;obtain⟨⟨⟨⟨o1,Z⟩,o3⟩,S⟩,O⟩ :=C;have hm:=Nat.le_of_ble_eq_true o1;have T:=iF Z
 have a:∀ {b o},(aA l nb).look b=some o→b<nb∧bW o= [] ∧∃f,(b,o,f) ∈l∧h.look (fE m nb h.nb ks b) =some (bif f then o else o.ren (fE m nb h.nb ks)) :=fun {b o} e=>by
  have: (b,o) ∈l.map fun p=> (p.1,p.2.1) :=aDf e;obtain⟨p,D,N⟩ :=zq24.1 this;obtain⟨pb,po,pf⟩ :=p;cases N;exact⟨(dZ O _ D).1,(dZ O _ D).2,pf,D,pT hh _ D⟩
 have inj:∀ {b b'},b<nb→b'<nb→fE m nb h.nb ks b=fE m nb h.nb ks b'→b=b':=fun {b b'} h1 h2 e=>by
  rcases lt_or_ge b m with t|t
  · rw [uX t]at e;rcases lt_or_ge b' m with j|j
    ·rw [uX j]at e;exact e
    · rw [aBU j h2]at e;have:=aDg S (b'-m) (by omega);omega
  · rw [aBU t h1]at e;rcases lt_or_ge b' m with j|j
    · rw [uX j]at e;have:=aDg S (b-m) (by omega);omega
    · rw [aBU j h2]at e;have:=aIC o3 _ _ (by omega) (by omega) e;omega
 refine⟨⟨fun b o e=>?_,fun b b' o I L K e e' k k' J F=>?_,fun b hb=>?_,r.imm,fun b o L e k i G=>?_,fun b o e=> (a e).1⟩,
  ⟨fun b hb=>by show E.loc (fE m nb h.nb ks b) =E.loc b;rw [uX hb],fun _ _ e=>e,le_refl _,fun _ _ _=>rfl,fun b' I K e k i G _=>?_,hm,rfl,rfl,rfl,fun _ _=>rfl,fun _ _ e _=>.inl e,fun b o e hb=>?_⟩⟩
 · obtain⟨hb,d,f,s,c⟩ :=a e;cases f
   case true=>
    simp only [cond]at c;rcases r.obj0 _ _ c with u| ⟨L,t,j⟩
    ·exact .inl u
    ·exact .inr ⟨L,t,aWv (E:=E) (E':=E.ren (fE m nb h.nb ks)) rfl (nJ v b o s) j⟩
   simp only [cond]at c;rcases r.obj0 _ _ c with⟨R,X⟩ | ⟨L,t,j⟩
   · refine .inl ⟨?_,X⟩;cases o with
     | lst e Q=>cases Q with
      |nil=>rfl
      |cons x Q=>simp [AObj.ren,renL,lN]at R
     |_=>cases R
   ·exact .inr ⟨L,t,bF6 j⟩
 · obtain⟨hb,d,f,s,c⟩ :=a e;obtain⟨B,y,f',H,A⟩ :=a e';have z:fE m nb h.nb ks b≠fE m nb h.nb ks b':=fun ee=>F (inj hb B ee);obtain⟨i,i1,i2⟩ :=J;have n:=r.kin _ _ _ _ L K c A k k' ⟨i,uW i1,uW i2⟩ z
   have q:∀ (o:AObj) (f:Bool),(f=true→o.kl) →bW (bif f then o else o.ren (fE m nb h.nb ks)) = (bW o).map (fE m nb h.nb ks) ∧jO (bif f then o else o.ren (fE m nb h.nb ks)) =jO o∧nOf (bif f then o else o.ren (fE m nb h.nb ks)) =nOf o:=fun o f s=>by
    cases f
    case true=>cases o<;>first|exact⟨rfl,rfl,rfl⟩ |exact(s rfl).elim
    cases o<;>exact⟨rfl,rfl,rfl⟩
   obtain⟨a1,a2,V⟩ :=q o f (fun M=>by subst M;exact nJ v b o s);obtain⟨Y,W,U⟩ :=q I f' (fun M=>by subst M;exact nJ v b' I H);unfold Kin at n;rw [a1,a2,V,Y,W,U,d,y]at n;rcases n with⟨g,_⟩ | ⟨g,_⟩ <;>simp at g
 · show E.loc (fE m nb h.nb ks b) =none;have hb:nb≤b:=hb;rw [aWw (by omega) hb];exact r.fresh _ (by omega)
 · obtain⟨hb,d,f,s,c⟩ :=a e;exact r.apart _ _ L c k i (uW G)
 · obtain⟨hb,d,f,s,c⟩ :=a e;exact⟨_,_,K,c,k,uW G⟩
 · obtain⟨B,d,f,s,c⟩ :=a e;rw [uX hb]at c;exact⟨_,c⟩
end
end
end Go.Hb
