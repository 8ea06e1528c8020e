/- A machine on abstract values, its soundness, ways, plain laws. -/
import Derived.Test.YtnljmgihoioocaaGreatHD
set_option linter.defProp false
set_option linter.unusedVariables false
set_option linter.unusedSimpArgs false
set_option linter.unusedSectionVars false
set_option maxRecDepth 100000
namespace Go.Hb
open AV (frzL frzOk keyless keylessL renL)
open List (mem_singleton_self replicate)
open Nat (beq beq_refl ble blt le_refl lt_or_ge)
noncomputable section
section
variable {P :Program}
theorem mem1 {p:Prop}{ps:List Prop}(h:∀q∈p::ps,q) :p:=h p (cQ ..)
theorem dB {h:Hp}{tm:T AV}{o:Oper}{out:AOut}(h0:gQ P h tm o=none)(h1:vop P h tm o=some out) :kH P h tm o=some out:=by unfold kH;rw [h0];exact h1
theorem uG {k:IntKind}{n:Int}{len:Nat}(h0:0≤n)(h1:n<len) :iQ (.int k n) len=some n.toNat:=by simp [iQ,h0,h1]
inductive Ans where
 |idx (y:AV)
 |ix
 |ev (v:AV)
 |look (r:Option (Nat×AV))
 |len (n:Int)
def aI2 (z:AV)(ok:Bool)(r:Option (Nat×AV)) :AV:=match r with
 |some (_,v) =>bif ok then .tup [v,.bool true]else v
 |none=>bif ok then .tup [z,.bool false]else z
def rZ (P:Program)(h:Hp)(tm:T AV)(o:Oper)(a:Ans) :Option (AV×List Prop) :=
 match a with
 | .idx y=>match o.op with
  | .indexAddr t x i=>match bN tm x,bN tm i with
   |some (.ilst e xs _),some (.int _ n) =>bif aAd P t e then some (.iptr y.cells,[0≤n,xs[n.toNat]?=some y])else none
   |_,_=>none
  | .load t a=>match bN tm a with
   | some (.ep b e i k) =>match h.look b with
    | some (.lst e' xs) =>bif beq e' e then match aLi P t (y.cells.drop k)with
     |some v=>some (v,[xs[i]?=some y])
     |none=>none else none
    |_=>none
   |_=>none
  |_=>none
 | .ix=>match o.op with
  | .indexAddr t x i=>match bN tm x,bN tm i with
   |some (.gl b e off len _),some (.int _ n) =>bif aAd P t e then some (.ep b e (off+n.toNat) 0,[0≤n,n<len])else none
   |_,_=>none
  |_=>none
 | .ev v=>match o.op with
  | .slice t x lo hi mx=>match bN tm x,pR tm lo,pR tm hi,pR tm mx with
   |some a,some lo,some hi,some mx=>some (v,[∃l u m,gI lo=some l∧gI hi=some u∧gI mx=some m∧ (tH P t a l u m=some v∨ (tH P t a l u m=none∧aCx P t a l u m=some v))])
   |_,_,_,_=>none
  | .binOp op t x y _=>match bN tm x,bN tm y with
   |some a,some b=>some (v,[bA6 P op t a b (isLit x) (isLit y) =some v])
   |_,_=>none
  | .index t x i=>match bN tm x,bN tm i with
   | some (.str l n),some (.int _ k) =>match P.underlying t with
    |some .string=>some (v,[0≤k,k<l,.int .u8 (Nat.mod (Nat.div n (Nat.pow 256 k.toNat)) 256) =v])
    |_=>none
   |_,_=>none
  | .convert sr d x=>match bN tm x with
   | some (.slice b off len _ _ _) =>match P.underlying sr,P.underlying d,h.loadN b off len with
    | some (.slice e),some .string,some vs=>match P.underlying e with
     |some (.int .u8) =>some (v,[sF vs=some v])
     |_=>none
    |_,_,_=>none
   |_=>none
  |_=>none
 | .look r=>match o.op with
  | .lookup t x k ok=>match bN tm x,bN tm k with
   | some (.map b),some k=>match P.underlying t,h.look b with
    | some (.map kt et),some (.map es _) =>match P.underlying kt,zeroOf P et with
     |some kd,some z=>bif plainKey kd k then some (aI2 z ok r,[pO k es 0=some r])else none
     |_,_=>none
    |_,_=>none
   |_,_=>none
  |_=>none
 | .len n=>match o.op with
  | .call c=>match c.callee,hP tm c.args.toList,c.argTypes[0]? with
   | .builtin .len,some [.ilst _ xs _],some t=>match P.underlying t with
    |some (.slice _) =>some (.int .i64 n,[(xs.length:Int) =n])
    |_=>none
   |_,_,_=>none
  |_=>none
theorem pA {h:Hp}{tm:T AV}{o:Oper}{a:Ans}{v:AV}{ps:List Prop}(h0:rZ P h tm o a=some (v,ps))(hp:∀p∈ps,p) :kH P h tm o=some (.val v h) :=by
 cases a with
 | idx y =>
  simp only [rZ]at h0;split at h0
  · rename_i t x i hop;split at h0
    · rename_i e xs ex k n hx hi;cases hc:aAd P t e
      case false=>rw [hc]at h0;cases h0
      rw [hc]at h0;simp only [cond]at h0;cases h0;have q0:=hp _ (cQ ..);have q1:=hp _ (cL _ (cQ ..));have hlt:= (zq0.1 q1).1;refine dB ?_ ?_
      ·simp only [gQ,hop,ev2,hx,hi];split<;>simp_all
      ·simp only [vop,hop,ev2,hx,hi,hc,cond,uG q0 (show n< (xs.length:Int)by omega),q1]
    ·cases h0
  · rename_i t a hop;split at h0
    · rename_i b e i k ha;split at h0
      · rename_i e' xs hb;cases hc:beq e' e
        case false=>rw [hc]at h0;cases h0
        rw [hc]at h0;simp only [cond]at h0;split at h0
        · rename_i v' hv;cases h0;have q1:=mem1 hp;refine dB ?_ ?_
          ·simp only [gQ,hop,vT,ha]
          ·simp only [vop,hop,vT,ha,hb,hc,cond,q1,val,hv]
        ·cases h0
      ·cases h0
    ·cases h0
  ·cases h0
 | ix =>
  simp only [rZ]at h0;split at h0
  · rename_i t x i hop;split at h0
    · rename_i b e off len ex k n hx hi;cases hc:aAd P t e
      case false=>rw [hc]at h0;cases h0
      rw [hc]at h0;simp only [cond]at h0;cases h0;have q0:=hp _ (cQ ..);have q1:=hp _ (cL _ (cQ ..));refine dB ?_ ?_
      ·simp only [gQ,hop,ev2,hx,hi];split<;>simp_all
      ·simp only [vop,hop,ev2,hx,hi,hc,cond,uG q0 q1]
    ·cases h0
  ·cases h0
 | ev v0 =>
  simp only [rZ]at h0;split at h0
  · rename_i t x lo hi mx hop;split at h0
    · rename_i a l1 l2 l3 hx e1 e2 e3;cases h0;obtain⟨l,u,m',d1,d2,d3,d4| ⟨d4,d5⟩⟩ :=mem1 hp
      ·unfold kH;simp only [gQ,hop,vT,hx,e1,e2,e3,d1,d2,d3,d4,val]
      · refine dB ?_ ?_
        ·simp only [gQ,hop,vT,hx,e1,e2,e3,d1,d2,d3,d4,val]
        ·simp only [vop,hop,vT,hx,e1,e2,e3,d1,d2,d3,d5,val]
    ·cases h0
  · rename_i op t x y yt hop;split at h0
    · rename_i a b hx hy;cases h0;have q:=mem1 hp;unfold kH;simp only [gQ,hop,ev2,hx,hy,q,val]
    ·cases h0
  · rename_i t x i hop;split at h0
    · rename_i l n kk k hx hi;split at h0
      · rename_i hu;cases h0;have q1:=hp _ (cQ ..);have q2:=hp _ (cL _ (cQ ..));have q3:=hp _ (cL _ (cL _ (cQ ..)));unfold kH;simp only [gQ,hop,ev2,hx,hi,hu,uG q1 q2,q3]
      ·cases h0
    ·cases h0
  · rename_i sr d x hop;split at h0
    · rename_i b off len cp ez ex hx;split at h0
      · rename_i e vs hs hd hl;split at h0
        · rename_i hu;cases h0;have q:=mem1 hp;unfold kH;simp only [gQ,hop,vT,hx,vZ,hs,hd,hl,hu,q,val]
        ·cases h0
      ·cases h0
    ·cases h0
  ·cases h0
 | look r =>
  simp only [rZ]at h0;split at h0
  · rename_i t x k ok hop;split at h0
    · rename_i b kv hx hk;split at h0
      · rename_i kt et es clock hu hb;split at h0
        · rename_i kd z hkd hz;cases hc:plainKey kd kv
          case false=>rw [hc]at h0;cases h0
          rw [hc]at h0;simp only [cond]at h0;cases h0;have q:=mem1 hp;unfold kH;simp only [gQ,hop,ev2,hx,hk,aD6,hu,hkd,hz,hc,cond,hb,q];cases r with
          |none=>cases ok<;>simp [val,aI2]
          |some p=>obtain⟨i,v⟩ :=p;cases ok<;>simp [val,aI2]
        ·cases h0
      ·cases h0
    ·cases h0
  ·cases h0
 | len n =>
  simp only [rZ]at h0;split at h0
  · rename_i c hop;split at h0
    · rename_i e xs ex t hcal hargs ht;split at h0
      · rename_i el hu;cases h0;have q:=mem1 hp;subst q;refine dB ?_ ?_
        ·simp only [gQ,hop,pT,hargs,hcal,eW,ht,bA7,hu]
        ·simp only [vop,hop,hcal,hargs,ht,hu]
      ·cases h0
    ·cases h0
  ·cases h0
inductive RIns where
 |d
 |b (j:Nat) (v:Bool)
 |pure (v:AV)
 |ans (a:Ans)
 |call (v:AV) (h':Hp)
 |st (y y':AV)
 |app (zs:List AV) (n:Nat)
 |mput (es:List (AV×AV×Nat)) (clock:Nat)
 |mval (v:AV) (es:List (AV×AV×Nat)) (clock:Nat)
 |own (v:AV)
def aI3 (P:Program)(h:Hp)(tm:T AV)(o:Oper)(zs:List AV)(n:Nat) :Option (AV×Hp×List Prop) :=
 match o.op with
 | .call c=>match c.callee,hP tm c.args.toList,c.argTypes[0]?,c.argTypes[1]? with
  | .builtin .append,some [d,.ilst e1 ys ex],some st,some xt=>match P.underlying st,P.underlying xt with
   | some (.slice el),some (.slice _) =>match aZ P el,P.info? el,zeroOf P el,P.underlying el with
    | some e,some inf,some z,some _=>bif (beq z.cells.length e&&ble e 40&&ble inf.bytes 1000&&ble 1 inf.bytes&&ble 1 e) &&beq e1 e then
      match d with
      | .nils=>some (.gl h.nb e 0 n false,h.new (.lst e zs),[n≤1000000,ys=zs,ys.length=n])
      | .gl b e' off len _=>match h.look b with
       | some (.lst e2 xs) =>bif beq e' e&&beq e2 e then
         some (.gl h.nb e 0 n false,(h.del b).new (.lst e zs),[off+len≤xs.length,n≤1000000,(xs.drop off).take len++ys=zs,len+ys.length=n])else none
       |_=>none
      | .ilst e2 (y::xs) true=>bif beq e2 e then some (.ilst e zs false,h,[keylessL ys=true,(y::xs).length+ys.length≤1000000,y::xs++ys=zs])else none
      |_=>none
      else none
    |_,_,_,_=>none
   |_,_=>none
  |_,_,_,_=>none
 |_=>none
def aI4 (P:Program)(h:Hp)(tm:T AV)(o:Oper)(zs:List AV)(n:Nat) :Option (AV×Hp×List Prop) :=
 match o.op with
 | .call c=>match c.callee,hP tm c.args.toList,c.argTypes[0]?,c.argTypes[1]? with
  | .builtin .append,some [.gl b e' off len _,x],some st,some xt=>match P.underlying st,P.underlying xt with
   | some (.slice el),some (.slice _) =>match aZ P el,P.info? el,zeroOf P el with
    | some e,some inf,some z=>bif beq z.cells.length e&&ble e 40&&ble inf.bytes 1000&&ble 1 inf.bytes&&ble 1 e then
      match h.look b,lN P h el e x with
      | some (.lst e2 xs),some ys=>bif beq e' e&&beq e2 e then
         some (.gl h.nb e 0 n false,(h.del b).new (.lst e zs),[off+len≤xs.length,n≤1000000,(xs.drop off).take len++ys=zs,len+ys.length=n])else none
      |_,_=>none
      else none
    |_,_,_=>none
   |_,_=>none
  |_,_,_,_=>none
 |_=>none
def aI5 (P:Program)(h:Hp)(tm:T AV)(o:Oper)(zs:List AV)(n:Nat) :Option (AV×Hp×List Prop) :=
 match o.op with
 | .call c=>match c.callee,hP tm c.args.toList,c.argTypes[0]?,c.argTypes[1]? with
  | .builtin .append,some [d,.gl b2 e1 off2 len2 _],some st,some xt=>match P.underlying st,P.underlying xt with
   | some (.slice el),some (.slice _) =>match aZ P el,P.info? el,zeroOf P el,P.underlying el,h.look b2 with
    | some e,some inf,some z,some _,some (.lst e3 ys) =>bif (beq z.cells.length e&&ble e 40&&ble inf.bytes 1000&&ble 1 inf.bytes&&ble 1 e) && (beq e1 e&&beq e3 e)then
      match d with
      | .nils=>some (.gl h.nb e 0 n false,h.new (.lst e zs),[off2+len2≤ys.length,n≤1000000,(ys.drop off2).take len2=zs,len2=n])
      | .gl b e' off len _=>match h.look b with
       | some (.lst e2 xs) =>bif beq e' e&&beq e2 e then
         some (.gl h.nb e 0 n false,(h.del b).new (.lst e zs),[off2+len2≤ys.length,off+len≤xs.length,n≤1000000,(xs.drop off).take len++ (ys.drop off2).take len2=zs,len+len2=n])else none
       |_=>none
      |_=>none
      else none
    |_,_,_,_,_=>none
   |_,_=>none
  |_,_,_,_=>none
 |_=>none
def aI6 (P:Program)(h:Hp)(tm:T AV)(o:Oper)(zs:List AV)(n:Nat) :Option (AV×Hp×List Prop) :=
 match o.op with
 | .call c=>match c.callee,hP tm c.args.toList,c.argTypes[0]?,c.argTypes[1]? with
  | .builtin .append,some [.nils,.int .i64 k],some st,some xt=>match P.underlying st,P.underlying xt with
   | some (.slice el),some (.int _) =>match aZ P el,P.info? el,zeroOf P el with
    | some e,some inf,some z=>bif beq z.cells.length e&&ble e 40&&ble inf.bytes 1000&&ble 1 inf.bytes&&ble 1 e then
      some (.slice h.nb 0 n n e false,h.newCells zs,[k= (n:Int),0<n,n<100000,lM z.cells n=zs,cY zs=true])else none
    |_,_,_=>none
   |_,_=>none
  |_,_,_,_=>none
 |_=>none
def aI7 (P:Program)(h:Hp)(tm:T AV)(o:Oper)(zs:List AV)(n:Nat) :Option (AV×Hp×List Prop) :=
 match aI3 P h tm o zs n with
 |some r=>some r
 | none=>match aI5 P h tm o zs n with
  |some r=>some r
  | none=>match aI4 P h tm o zs n with
   |some r=>some r
   |none=>aI6 P h tm o zs n
theorem aVK {h:Hp}{ats:Array TypeId}{e:TypeId}{sz:Nat}{b e1 off len:Nat}{ex:Bool}:aBk P h ats e sz (.gl b e1 off len ex) =none:=by
 unfold aBk;split
 ·rfl
 ·split<;>simp_all
theorem xJ {h:Hp}{ats:Array TypeId}{s:AV}{b e1 off len:Nat}{ex:Bool}:aappend P h ats s (.gl b e1 off len ex) =none:=by
 unfold aappend;simp only [aVK]
 repeat' split
 all_goals first|rfl| (simp_all;done)
theorem aG8 {h:Hp}{ats:Array TypeId}{b e off len:Nat}{ex:Bool}{x:AV}:aappend P h ats (.gl b e off len ex) x=none:=by
 unfold aappend;simp only [cond_eq_ite]
 repeat' split
 all_goals first|rfl| (split<;>rfl)
theorem aOF {h:Hp}{ats:Array TypeId}{e:TypeId}{sz e1:Nat}{ys:List AV}{ex:Bool}:aBk P h ats e sz (.ilst e1 ys ex) =none:=by
 unfold aBk;split
 ·rfl
 ·split<;>simp_all
theorem oO {h:Hp}{ats:Array TypeId}{s:AV}{e1:Nat}{ys:List AV}{ex:Bool}:aappend P h ats s (.ilst e1 ys ex) =none:=by
 unfold aappend;simp only [aOF]
 repeat' split
 all_goals first|rfl| (simp_all;done)
theorem aG9 {h h':Hp}{tm:T AV}{o:Oper}{zs:List AV}{n:Nat}{v:AV}{ps:List Prop}(h0:aI3 P h tm o zs n=some (v,h',ps))(hp:∀p∈ps,p) :kH P h tm o=some (.val v h') :=by
 unfold aI3 at h0;split at h0
 · rename_i c hop;split at h0
   · rename_i d e1 ys ex st xt hcal hargs hst hxt;split at h0
     · rename_i el el' hu hu';split at h0
       · rename_i e inf z dd hsz hinf hz hd;cases hc: (beq z.cells.length e&&ble e 40&&ble inf.bytes 1000&&ble 1 inf.bytes&&ble 1 e)
         case false=>rw [hc]at h0;cases h0
         cases he:beq e1 e
         case false=>rw [hc,he]at h0;cases h0
         rw [hc,he]at h0;simp only [Bool.and_true,cond]at h0;have hadd:lN P h el e (.ilst e1 ys ex) =some ys:=by
          simp only [lN,hd,he,cond]
         split at h0
         · cases h0;have q0:=hp _ (cQ ..);have q1:=hp _ (cL _ (cQ ..));have q2:=hp _ (cL _ (cL _ (cQ ..)));subst q1;subst q2;refine dB ?_ ?_
           ·simp only [gQ,hop,pT,hargs,hcal,eW,oO]
           · simp only [vop,hop,hcal,hargs,kR,hst,hxt,hu,hu',hsz,hinf,hz,hadd,hc,cond,aAK];rw [if_pos q0]
         · rename_i b e' off len ex';split at h0
           · rename_i e2 xs hb;cases hc2: (beq e' e&&beq e2 e)
             case false=>rw [hc2]at h0;cases h0
             rw [hc2]at h0;simp only at h0;cases h0;simp only [dS]at hc2;have ee1:=fM hc2.1;have ee2:=fM hc2.2;have y2:=hp _ (cQ ..);have y3:=hp _ (cL _ (cQ ..));have y4:=hp _ (cL _ (cL _ (cQ ..)));have y5:=hp _ (cL _ (cL _ (cL _ (cQ ..))));subst y4 y5;refine dB ?_ ?_
             ·simp only [gQ,hop,pT,hargs,hcal,eW,oO]
             · simp only [vop,hop,hcal,hargs,kR,hst,hxt,hu,hu',hsz,hinf,hz,hadd,hc,cond,hb,aAK];rw [if_pos ⟨ee1,ee2,y2,y3⟩]
           ·cases h0
         · rename_i e2 y xs;cases he2:beq e2 e
           case false=>rw [he2]at h0;cases h0
           rw [he2]at h0;simp only [cond]at h0;cases h0;have q0:=hp _ (cQ ..);have q1:=hp _ (cL _ (cQ ..));have q2:=hp _ (cL _ (cL _ (cQ ..)));subst q2;refine dB ?_ ?_
           ·simp only [gQ,hop,pT,hargs,hcal,eW,oO]
           · simp only [vop,hop,hcal,hargs,kR,hst,hxt,hu,hu',hsz,hinf,hz,hadd,hc,cond,aAK];rw [if_pos ⟨fM he2,q0,q1⟩]
         ·cases h0
       ·cases h0
     ·cases h0
   ·cases h0
 ·cases h0
theorem aHa {h h':Hp}{tm:T AV}{o:Oper}{zs:List AV}{n:Nat}{v:AV}{ps:List Prop}(h0:aI4 P h tm o zs n=some (v,h',ps))(hp:∀p∈ps,p) :kH P h tm o=some (.val v h') :=by
 unfold aI4 at h0;split at h0
 · rename_i c hop;split at h0
   · rename_i b e' off len ex x st xt hcal hargs hst hxt;split at h0
     · rename_i el el' hu hu';split at h0
       · rename_i e inf z hsz hinf hz;cases hc: (beq z.cells.length e&&ble e 40&&ble inf.bytes 1000&&ble 1 inf.bytes&&ble 1 e)
         case false=>rw [hc]at h0;cases h0
         rw [hc]at h0;simp only [cond]at h0;split at h0
         · rename_i e2 xs ys hb hadd;cases hc2: (beq e' e&&beq e2 e)
           case false=>rw [hc2]at h0;cases h0
           rw [hc2]at h0;simp only at h0;cases h0;simp only [dS]at hc2;have ee1:=fM hc2.1;have ee2:=fM hc2.2;have y2:=hp _ (cQ ..);have y3:=hp _ (cL _ (cQ ..));have y4:=hp _ (cL _ (cL _ (cQ ..)));have y5:=hp _ (cL _ (cL _ (cL _ (cQ ..))));subst y4 y5;refine dB ?_ ?_
           ·simp only [gQ,hop,pT,hargs,hcal,eW,aG8]
           · simp only [vop,hop,hcal,hargs,kR,hst,hxt,hu,hu',hsz,hinf,hz,hadd,hc,cond,hb,aAK];rw [if_pos ⟨ee1,ee2,y2,y3⟩]
         ·cases h0
       ·cases h0
     ·cases h0
   ·cases h0
 ·cases h0
theorem aHb {h h':Hp}{tm:T AV}{o:Oper}{zs:List AV}{n:Nat}{v:AV}{ps:List Prop}(h0:aI5 P h tm o zs n=some (v,h',ps))(hp:∀p∈ps,p) :kH P h tm o=some (.val v h') :=by
 unfold aI5 at h0;split at h0
 · rename_i c hop;split at h0
   · rename_i d b2 e1 off2 len2 ex st xt hcal hargs hst hxt;split at h0
     · rename_i el el' hu hu';split at h0
       · rename_i e inf z dd e3 ys hsz hinf hz hd hb2;cases hc: (beq z.cells.length e&&ble e 40&&ble inf.bytes 1000&&ble 1 inf.bytes&&ble 1 e)
         case false=>rw [hc]at h0;cases h0
         cases hc1: (beq e1 e&&beq e3 e)
         case false=>rw [hc,hc1]at h0;cases h0
         rw [hc,hc1]at h0;simp only [Bool.and_self,cond]at h0;simp only [dS]at hc1;have f1:=fM hc1.1;have f2:=fM hc1.2;split at h0
         · cases h0;have y1:=hp _ (cQ ..);have y2:=hp _ (cL _ (cQ ..));have y3:=hp _ (cL _ (cL _ (cQ ..)));have y4:=hp _ (cL _ (cL _ (cL _ (cQ ..))));have y5: ((ys.drop off2).take len2).length=n:=by simp;omega
           subst y3;refine dB ?_ ?_
           ·simp only [gQ,hop,pT,hargs,hcal,eW,xJ]
           · have ha:lN P h el e (.gl b2 e1 off2 len2 ex) =some ((ys.drop off2).take len2) :=by
              unfold lN;subst f1 f2;simp only [hd,hb2,beq_refl,cond];rw [if_pos ⟨trivial,y1⟩]
             simp only [vop,hop,hcal,hargs,kR,hst,hxt,hu,hu',hsz,hinf,hz,ha,hc,cond,aAK];rw [if_pos (by omega),y5]
         · rename_i b e' off len ex2;split at h0
           · rename_i e2 xs hb;cases hc2: (beq e' e&&beq e2 e)
             case false=>rw [hc2]at h0;cases h0
             rw [hc2]at h0;simp only at h0;cases h0;simp only [dS]at hc2;have ee1:=fM hc2.1;have ee2:=fM hc2.2;have y1:=hp _ (cQ ..);have y2:=hp _ (cL _ (cQ ..));have y3:=hp _ (cL _ (cL _ (cQ ..)));have y4:=hp _ (cL _ (cL _ (cL _ (cQ ..))));have y5:=hp _ (cL _ (cL _ (cL _ (cL _ (cQ ..)))));have y6: ((ys.drop off2).take len2).length=len2:=by simp;omega
             subst y4;refine dB ?_ ?_
             ·simp only [gQ,hop,pT,hargs,hcal,eW,xJ]
             · have ha:lN P h el e (.gl b2 e1 off2 len2 ex) =some ((ys.drop off2).take len2) :=by
                unfold lN;subst f1 f2;simp only [hd,hb2,beq_refl,cond];rw [if_pos ⟨trivial,y1⟩]
               simp only [vop,hop,hcal,hargs,kR,hst,hxt,hu,hu',hsz,hinf,hz,ha,hc,cond,hb,aAK];rw [if_pos ⟨ee1,ee2,y2,by omega⟩,y6,y5]
           ·cases h0
         ·cases h0
       ·cases h0
     ·cases h0
   ·cases h0
 ·cases h0
theorem aHc {h h':Hp}{tm:T AV}{o:Oper}{zs:List AV}{n:Nat}{v:AV}{ps:List Prop}(h0:aI6 P h tm o zs n=some (v,h',ps))(hp:∀p∈ps,p) :kH P h tm o=some (.val v h') :=by
 unfold aI6 at h0;split at h0
 · rename_i c hop;split at h0
   · rename_i k st xt hcal hargs hst hxt;split at h0
     · rename_i el kk hu hu';split at h0
       · rename_i e inf z hsz hinf hz;cases hc: (beq z.cells.length e&&ble e 40&&ble inf.bytes 1000&&ble 1 inf.bytes&&ble 1 e)
         case false=>rw [hc]at h0;cases h0
         rw [hc]at h0;simp only [cond]at h0;cases h0;have y1:=hp _ (cQ ..);have y2:=hp _ (cL _ (cQ ..));have y3:=hp _ (cL _ (cL _ (cQ ..)));have y4:=hp _ (cL _ (cL _ (cL _ (cQ ..))));have y5:=hp _ (cL _ (cL _ (cL _ (cL _ (cQ ..)))));subst y1 y4;have hc':=hc;simp only [dS]at hc';obtain⟨⟨⟨⟨c1,c2⟩,c3⟩,c4⟩,c5⟩ :=hc';have he:beq e 0=false:=by
          have:=Nat.le_of_ble_eq_true c5;cases q:beq e 0
          case false=>rfl
          have:=fM q;omega
         have hadd:aBk P h c.argTypes el e (.int .i64 (n:Int)) =some (lM z.cells n,n) :=by
          unfold aBk;rw [hxt];simp only [hu',hz];rw [if_pos ⟨by omega,by omega⟩];simp only [c1,he,Bool.not_false,Bool.and_true,cond,tI]
         have hn:beq n 0=false:=by
          cases q:beq n 0
          case false=>rfl
          have:=fM q;omega
         have hb:ble n 1000000=true:=Nat.ble_eq_true_of_le (by omega);unfold kH;have:gQ P h tm o=some (.val (.slice h.nb 0 n n e false) (h.newCells (lM z.cells n))) :=by
          simp only [gQ,hop,pT,hargs,hcal,eW,aappend,hst,hu,hsz,hinf,hz,hadd,c1,c2,c3,c4,c5,y5,hb,hn,Bool.and_self,cond]
         rw [this]
       ·cases h0
     ·cases h0
   ·cases h0
 ·cases h0
theorem aBG {h h':Hp}{tm:T AV}{o:Oper}{zs:List AV}{n:Nat}{v:AV}{ps:List Prop}(h0:aI7 P h tm o zs n=some (v,h',ps))(hp:∀p∈ps,p) :kH P h tm o=some (.val v h') :=by
 unfold aI7 at h0;split at h0
 ·rename_i r hr;cases h0;exact aG9 hr hp
 · split at h0
   ·rename_i r hr;cases h0;exact aHb hr hp
   · split at h0
     ·rename_i r hr;cases h0;exact aHa hr hp
     ·exact aHc h0 hp
def aAS (es:List (AV×AV×Nat))(clock:Nat)(k v:AV) :Option (List (AV×AV×Nat) ×Nat) :=
 match pO k es 0 with
 |some (some (i,_)) =>some (setE k v es i,clock)
 |some none=>some (es++ [(k,v,clock)],Nat.succ clock)
 |none=>none
def aOG (P:Program)(h:Hp)(tm:T AV)(o:Oper)(es':List (AV×AV×Nat))(clock':Nat) :Option (Hp×List Prop) :=
 match o.op with
 | .mapUpdate t m k x=>match bN tm m,bN tm k,bN tm x with
  | some (.map r),some kv,some v=>match P.underlying t,h.look r with
   | some (.map kt _),some (.map es clock) =>match P.underlying kt with
    |some kd=>bif plainKey kd kv then some (h.set r (.map es' clock'),[aAS es clock kv v=some (es',clock')])else none
    |none=>none
   |_,_=>none
  |_,_,_=>none
 |_=>none
theorem aI8 {h h':Hp}{tm:T AV}{o:Oper}{es':List (AV×AV×Nat)}{clock':Nat}{ps:List Prop}(h0:aOG P h tm o es' clock'=some (h',ps))(hp:∀p∈ps,p) :kH P h tm o=some (.val .undef h') :=by
 unfold aOG at h0;split at h0
 · rename_i t m k x hop;split at h0
   · rename_i r kv v hm hk hx;split at h0
     · rename_i kt et es clock hu hb;split at h0
       · rename_i kd hkd;cases hc:plainKey kd kv
         case false=>rw [hc]at h0;cases h0
         rw [hc]at h0;simp only [cond]at h0;cases h0;have q:=hp _ (cQ ..);unfold aAS at q;unfold kH;simp only [gQ,hop,ev2,vT,hm,hk,hx,pP,hu,hkd,hb,hc,cond];split at q
         · rename_i i w hfk;cases q;simp only [hfk,aAm]
         · rename_i hfk;cases q;simp only [hfk,aAm]
         ·cases q
       ·cases h0
     ·cases h0
   ·cases h0
 ·cases h0
def aVL (es:List (AV×AV×Nat))(clock:Nat)(k z:AV) :Option (AV×List (AV×AV×Nat) ×Nat) :=
 match pO k es 0 with
 |some (some (i,v)) =>some (.tup [v,.int .i64 (aES es i)],setE k v es i,clock)
 |some none=>some (.tup [z,.int .i64 clock],es++ [(k,z,clock)],Nat.succ clock)
 |none=>none
def aOH (P:Program)(h:Hp)(tm:T AV)(o:Oper)(v:AV)(es':List (AV×AV×Nat))(clock':Nat) :Option (Hp×List Prop) :=
 match o.op with
 | .mapEntry t m k=>match bN tm m,bN tm k with
  | some (.map r),some kv=>match P.underlying t,h.look r with
   | some (.map kt et),some (.map es clock) =>match P.underlying kt,zeroOf P et with
    |some kd,some z=>bif plainKey kd kv then some (h.set r (.map es' clock'),[aVL es clock kv z=some (v,es',clock')])else none
    |_,_=>none
   |_,_=>none
  |_,_=>none
 | .entryStore _ m s x=>match bN tm m,bN tm s,bN tm x with
  | some (.map r),some (.int _ n),some xv=>match h.look r with
   |some (.map es clock) =>some (h.set r (.map es' clock'),[0≤n,yN xv n.toNat es=some es',clock=clock',v= .undef])
   |_=>none
  |_,_,_=>none
 |_=>none
theorem aI9 {h h':Hp}{tm:T AV}{o:Oper}{v:AV}{es':List (AV×AV×Nat)}{clock':Nat}{ps:List Prop}(h0:aOH P h tm o v es' clock'=some (h',ps))(hp:∀p∈ps,p) :kH P h tm o=some (.val v h') :=by
 unfold aOH at h0;split at h0
 · rename_i t m k hop;split at h0
   · rename_i r kv hm hk;split at h0
     · rename_i kt et es clock hu hb;split at h0
       · rename_i kd z hkd hz;cases hc:plainKey kd kv
         case false=>rw [hc]at h0;cases h0
         rw [hc]at h0;simp only [cond]at h0;cases h0;have q:=hp _ (cQ ..);unfold aVL at q;unfold kH;simp only [gQ,hop,ev2,vT,hm,hk,yO,hu,hkd,hb,hz,hc,cond];split at q
         · rename_i i w hfk;cases q;simp only [hfk,aAK]
         · rename_i hfk;cases q;simp only [hfk,aAK]
         ·cases q
       ·cases h0
     ·cases h0
   ·cases h0
 · rename_i t m s x hop;split at h0
   · rename_i r kk n xv hm hs hx;split at h0
     · rename_i es clock hb;cases h0;have q0:=hp _ (cQ ..);have q1:=hp _ (cL _ (cQ ..));have q2:=hp _ (cL _ (cL _ (cQ ..)));have q3:=hp _ (cL _ (cL _ (cL _ (cQ ..))));subst q2 q3;unfold kH;simp only [gQ,hop,ev2,vT,hm,hs,hx,qS];rw [if_pos q0];simp only [hb,q1,aAm]
     ·cases h0
   ·cases h0
 ·cases h0
def aVM (P:Program)(h:Hp)(tm:T AV)(o:Oper)(y y':AV) :Option (Hp×List Prop) :=
 match o.op with
 | .store t a x=>match bN tm a,bN tm x with
  | some (.ep b e i k),some v=>match h.look b,aZ P t with
   | some (.lst e' xs),some n=>bif beq e' e&&beq v.cells.length n&&ble (k+n) e&&cY v.cells then
     some (h.set b (.lst e (xs.set i y')),[xs[i]?=some y,kQ y k v.cells=some y'])else none
   |_,_=>none
  |_,_=>none
 |_=>none
theorem aLz {h h':Hp}{tm:T AV}{o:Oper}{y y':AV}{ps:List Prop}(h0:aVM P h tm o y y'=some (h',ps))(hp:∀p∈ps,p) :kH P h tm o=some (.val .undef h') :=by
 unfold aVM at h0;split at h0
 · rename_i t a x hop;split at h0
   · rename_i b e i k v ha hx;split at h0
     · rename_i e' xs n hb hn;cases hc: (beq e' e&&beq v.cells.length n&&ble (k+n) e&&cY v.cells)
       case false=>rw [hc]at h0;cases h0
       rw [hc]at h0;simp only [cond]at h0;cases h0;have q0:=hp _ (cQ ..);have q1:=hp _ (cL _ (cQ ..));refine dB ?_ ?_
       ·simp only [gQ,hop,ev2,ha,hx]
       ·simp only [vop,hop,ev2,ha,hx,hb,hn,hc,cond,q0,q1]
     ·cases h0
   ·cases h0
 ·cases h0
abbrev Rec :=Nat×AIn×Hp×AV×Hp
theorem uH {α:Type}{v:α}:∀ (f k:Nat) (t:T α),1≤k→k<2 ^ f→t.get k=some v→T.setF (some v) f k t=t
 |0,k,t,h1,h2,_=>by simp at h2;omega
 |f+1,k,.leaf,_,_,h=>by cases h
 | f +1,k,.node l u r,h1,h2,h=>by
  rw [T.setF_node];rw [T.get_node]at h;have h2':k / 2<2 ^ f:=by rw [Nat.pow_succ]at h2;omega
  by_cases hk:k=1
  ·rw [if_pos hk]at h ⊢;rw [h]
  · rw [if_neg hk]at h ⊢;by_cases hm:k % 2=0
    ·rw [if_pos hm]at h ⊢;rw [uH f (k / 2) l (by omega) h2' h]
    ·rw [if_neg hm]at h ⊢;rw [uH f (k / 2) r (by omega) h2' h]
theorem put_eq {α:Type}{t:T α}{k:Nat}{v:α}(h:t.at k=some v) :t.put k v=t:=
 uH _ _ t (by simp) (by have:=aAN (k+1);simpa using this) h
def fH (P:Program)(nt:Nat)(ops:List Oper)(p:Plan)(i:RIns)(r:RS) :Option (RS×List Prop×List Rec) :=
 match i with
 | .d=>match lQ P pY nt ops p r with
  |some r'=>some (r',[],[])
  |none=>none
 | .b _ _=>none
 | .pure v=>match bX r.tm ops p.o,p.kd with
  | some true,.eff=>
   match kH P (aP r.h r.s r.pend) r.tm p.o with
   | some (.call (.enter f args)) =>match iG r.tm nt p.o.dst v with
    |some tm=>some ({r with tm,h:=aP r.h r.s r.pend,stages:=r.h::r.stages,s:=Nat.succ r.s},[aK P f args v],[(r.s,.enter f args,aP r.h r.s r.pend,v,aP r.h r.s r.pend)])
    |none=>none
   |_=>none
  |_,_=>none
 | .ans a=>match bX r.tm ops p.o,p.kd with
  | some true,.pure=>match rZ P r.h r.tm p.o a with
   | some (v,ps) =>match iG r.tm nt p.o.dst v with
    |some tm=>some ({r with tm},ps,[])
    |none=>none
   |none=>none
  | some true,.read=>match rZ P r.h r.tm p.o a with
   | some (v,ps) =>match iG r.tm nt p.o.dst v with
    |some tm=>some ({r with tm,again:=bif beq p.lo p.hi then r.again else⟨p.o,r.tm,p.lo,p.hi,v⟩ ::r.again},ps,[])
    |none=>none
   |none=>none
  |_,_=>none
 | .call v h'=>match bX r.tm ops p.o,p.kd with
  | some true,.eff=>
   match kH P (aP r.h r.s r.pend) r.tm p.o with
   | some (.call c) =>match iG r.tm nt p.o.dst v with
    |some tm=>some ({r with tm,h:=h',stages:=r.h::r.stages,s:=Nat.succ r.s},[Spec P c (aP r.h r.s r.pend) (.ret v) h'],[(r.s,c,aP r.h r.s r.pend,v,h')])
    |none=>none
   |_=>none
  |_,_=>none
 | .st y y'=>match bX r.tm ops p.o,p.kd with
  | some true,.eff=>
   match aVM P (aP r.h r.s r.pend) r.tm p.o y y' with
   | some (h',ps) =>match iG r.tm nt p.o.dst .undef with
    |some tm=>some ({r with tm,h:=h',stages:=r.h::r.stages,s:=Nat.succ r.s},ps,[])
    |none=>none
   |none=>none
  |_,_=>none
 | .mput es c=>match bX r.tm ops p.o,p.kd with
  | some true,.eff=>
   match aOG P (aP r.h r.s r.pend) r.tm p.o es c with
   | some (h',ps) =>match iG r.tm nt p.o.dst .undef with
    |some tm=>some ({r with tm,h:=h',stages:=r.h::r.stages,s:=Nat.succ r.s},ps,[])
    |none=>none
   |none=>none
  |_,_=>none
 | .mval v es c=>match bX r.tm ops p.o,p.kd with
  | some true,.eff=>
   match aOH P (aP r.h r.s r.pend) r.tm p.o v es c with
   | some (h',ps) =>match iG r.tm nt p.o.dst v with
    |some tm=>some ({r with tm,h:=h',stages:=r.h::r.stages,s:=Nat.succ r.s},ps,[])
    |none=>none
   |none=>none
  |_,_=>none
 | .app zs n=>match bX r.tm ops p.o,p.kd with
  | some true,.eff=>
   match aI7 P (aP r.h r.s r.pend) r.tm p.o zs n with
   | some (v,h',ps) =>match iG r.tm nt p.o.dst v with
    |some tm=>some ({r with tm,h:=h',stages:=r.h::r.stages,s:=Nat.succ r.s},ps,[])
    |none=>none
   |none=>none
  |_,_=>none
 | .own v=>match bX r.tm ops p.o,p.kd with
  | some true,.read=>
   match kH P r.h r.tm p.o,sG P r.tm r.pend p.hi p.o with
   | none,some vs=>match iG r.tm nt p.o.dst v with
    |some tm=>some ({r with tm},[sF vs=some v],[])
    |none=>none
   |_,_=>none
  |_,_=>none
def hU (P:Program)(nt:Nat)(ops:List Oper) :List RIns→List Plan→RS→Option (RS×List Prop×List Rec)
 | [],[],r=>some (r,[],[])
 | .b j v::is,ps,r=>match r.tm.at j with
  | some (.bool b) =>match hU P nt ops is ps {r with tm:=r.tm.put j (.bool v)} with
   |some (r',qs,rs) =>some (r',(b=v) ::qs,rs)
   |none=>none
  |_=>none
 | i::is,p::ps,r=>match fH P nt ops p i r with
  |none=>none
  | some (r1,qs,rs) =>match hU P nt ops is ps r1 with
   |none=>none
   |some (r2,qs2,rs2) =>some (r2,qs++qs2,rs++rs2)
 |_,_,_=>none
def keysOf :List Rec→List Nat
 | [] =>[]
 |r::rs=>r.1::keysOf rs
def aFk :List Nat→Bool
 | [] =>true
 |k::ks=> !(aAf k ks) &&aFk ks
def aJa (P:Program)(a:Again)(h:Hp) :Option Ans→List Prop
 | none=>[match kH P h a.tm a.o with
  |some (.val v _) =>v=a.v
  |_=>False]
 | some an=>match rZ P h a.tm a.o an with
  |some (v,ps) => (v=a.v) ::ps
  |none=>[False]
def lL (P:Program)(a:Again)(oa:Option Ans) :List Hp→Nat→List Prop
 | [],_=>[]
 | h::hs,k=>bif ble a.lo k&&ble k a.hi then aJa P a h oa++lL P a oa hs (k-1)
  else lL P a oa hs (k-1)
def yX (P:Program)(hs:List Hp)(k:Nat) :List Again→List (Option Ans) →List Prop
 | [],_=>[]
 |a::aS,[] =>lL P a none hs k++yX P hs k aS []
 |a::aS,oa::os=>lL P a oa hs k++yX P hs k aS os
theorem aJb {a:Again}{h:Hp}{oa:Option Ans}(h0:∀p∈aJa P a h oa,p) :∃hx,kH P h a.tm a.o=some (.val a.v hx) :=by
 cases oa with
 | none=>
  have:=h0 _ (mem_singleton_self _);split at this
  ·rename_i v hx hv;exact⟨hx,by rw [hv,this]⟩
  ·exact this.elim
 | some an=>
  simp only [aJa]at h0;split at h0
  · rename_i v ps hv;have e:v=a.v:=h0 _ (cQ ..);subst e;exact⟨h,pA hv (fun p hp=>h0 p (cL _ hp))⟩
  ·exact(h0 _ (mem_singleton_self _)).elim
theorem nA {a:Again}{oa:Option Ans}:∀ {hs:List Hp} {k:Nat},(∀p∈lL P a oa hs k,p) →∀ (x:Nat) (h:Hp),hs[x]?=some h→x≤k→a.lo≤k-x→k-x≤a.hi→∃hx,kH P h a.tm a.o=some (.val a.v hx)
 | [],k,_,x,h,hx,_,_,_=>by simp at hx
 | y::ys,k,h0,x,h,hx,hk,h1,h2=>by
  simp only [lL]at h0;cases x with
  | zero=>
   simp at hx;subst hx;rw [Nat.sub_zero]at h1 h2;simp only [jR,h1,h2,decide_true,Bool.and_self,cond]at h0;exact aJb (fun p hp=>h0 p (aGX _ hp))
  | succ x=>
   have hx':ys[x]?=some h:=by simpa using hx
   refine nA (oa:=oa) (k:=k-1) (fun p hp=>h0 p ?_) x h hx' (by omega) (by omega) (by omega);cases (ble a.lo k&&ble k a.hi)
   case true=>exact aIw _ hp
   exact hp
theorem uI {hs:List Hp}{k:Nat}:∀ {aS:List Again} {os:List (Option Ans)},(∀p∈yX P hs k aS os,p) →yV P hs k aS
 | [],_,_=>fun a ha=>by cases ha
 | b::aS,[],h0=>fun a ha=>by
  simp only [yX]at h0;cases ha with
  |head=>exact nA (fun p hp=>h0 p (aGX _ hp))
  |tail _ ha=>exact uI (os:=[]) (fun p hp=>h0 p (aIw _ hp)) a ha
 | b::aS,oa::os,h0=>fun a ha=>by
  simp only [yX]at h0;cases ha with
  |head=>exact nA (fun p hp=>h0 p (aGX _ hp))
  |tail _ ha=>exact uI (os:=os) (fun p hp=>h0 p (aIw _ hp)) a ha
def aEa (P:Program)(nt:Nat)(ops:Array Oper)(tm:T AV)(h:Hp)(is:List RIns)(os:List (Option Ans)) :Option (T AV×Hp×List Prop) :=
 let pl:=kK ops
 bif pl.ok then
  match hU P nt pl.ops is pl.plans {tm,h:={h with nb:=h.nb+pl.fresh},stages:=[],s:=0,pend:=[],next:=h.nb,again:=[]} with
  | some (r,ps,rs) =>bif aFk (keysOf rs)then
    some (r.tm,aP r.h r.s r.pend,ps++yX P (r.h::r.stages) r.s r.again os)else none
  |none=>none
 else none
open Classical in
def aLA (rs:List Rec) :bP:=fun k c h=>match rs.find? (fun r=>beq r.1 k)with
 |some r=>if r.2.1=c∧r.2.2.1=h then some r.2.2.2 else none
 |none=>none
theorem aHB :∀ {rs:List Rec},aFk (keysOf rs) =true→∀r∈rs,aLA rs r.1 r.2.1 r.2.2.1=some r.2.2.2
 | r0 ::rs,hn,r,hr=>by
  simp only [keysOf,aFk,dS,Bool.not_eq_true']at hn;unfold aLA;rw [List.find?_cons];rcases zq7.1 hr with rfl|hr'
  ·simp
  · have hne:beq r0.1 r.1=false:=by
     cases hb:beq r0.1 r.1
     case false=>rfl
     have e:=fM hb;exfalso;have:aAf r0.1 (keysOf rs) =true:=by
      rw [e];clear hn hr hb e
      induction rs with
      |nil=>cases hr'
      | cons x xs ih=>
       simp only [keysOf,aAf,Bool.or_eq_true];rcases zq7.1 hr' with rfl|h
       ·exact .inl (by simp)
       ·exact .inr (ih h)
     rw [this]at hn;cases hn.1
    rw [hne];exact aHB hn.2 r hr'
theorem aLB {rs:List Rec}(h0:∀r∈rs,Spec P r.2.1 r.2.2.1 (.ret r.2.2.2.1) r.2.2.2.2) :eF P (aLA rs) :=fun k c h v h' e=>by
 unfold aLA at e;split at e
 · rename_i r hr;split at e
   · rename_i hc;obtain⟨rfl,rfl⟩ :=hc;have:=h0 r (List.mem_of_find?_eq_some hr);simp only [Option.some.injEq]at e;rw [e]at this;exact this.sound
   ·cases e
 ·cases e
theorem aJc {call:bP}{nt:Nat}{ops:List Oper}{p:Plan}{r r':RS}(h0:lQ P pY nt ops p r=some r') :lQ P call nt ops p r=some r':=by
 unfold lQ at h0 ⊢;split at h0
 ·cases h0
 ·rename_i hw;exact h0
 · rename_i hw;split at h0
   ·exact h0
   ·exact h0
   ·exact h0
   · simp only at h0 ⊢;split at h0
     ·exact h0
     · rename_i c hv;simp only [pY]at h0;cases h0
     ·cases h0
theorem aJd {call:bP}{nt:Nat}{ops:List Oper}{p:Plan}{i:RIns}{r r':RS}{ps:List Prop}{rs:List Rec}(h0:fH P nt ops p i r=some (r',ps,rs))(hp:∀q∈ps,q)(hc:∀x∈rs,call x.1 x.2.1 x.2.2.1=some x.2.2.2) :lQ P call nt ops p r=some r':=by
 cases i with
 | d=>
  simp only [fH]at h0;split at h0
  ·rename_i r1 h1;cases h0;exact aJc h1
  ·cases h0
 |b j v=>cases h0
 | pure v=>
  simp only [fH]at h0;split at h0
  · rename_i hw hk;split at h0
    · rename_i f args ha;split at h0
      · rename_i tm htm;cases h0;have:=hc _ (mem_singleton_self _);simp only at this;simp only [lQ,hw,hk,ha,this,htm]
      ·cases h0
    ·cases h0
  ·cases h0
 | ans a =>
  simp only [fH]at h0;split at h0
  · rename_i hw hk;split at h0
    · rename_i v qs hv;split at h0
      · rename_i tm htm;cases h0;simp only [lQ,hw,hk,pA hv hp,htm]
      ·cases h0
    ·cases h0
  · rename_i hw hk;split at h0
    · rename_i v qs hv;split at h0
      · rename_i tm htm;cases h0;simp only [lQ,hw,hk,pA hv hp,htm]
      ·cases h0
    ·cases h0
  ·cases h0
 | call v h'=>
  simp only [fH]at h0;split at h0
  · rename_i hw hk;split at h0
    · rename_i c ha;split at h0
      · rename_i tm htm;cases h0;have:=hc _ (mem_singleton_self _);simp only at this;simp only [lQ,hw,hk,ha,this,htm]
      ·cases h0
    ·cases h0
  ·cases h0
 | st y y'=>
  simp only [fH]at h0;split at h0
  · rename_i hw hk;split at h0
    · rename_i h' qs hv;split at h0
      · rename_i tm htm;cases h0;simp only [lQ,hw,hk,aLz hv hp,htm]
      ·cases h0
    ·cases h0
  ·cases h0
 | mput es c=>
  simp only [fH]at h0;split at h0
  · rename_i hw hk;split at h0
    · rename_i h' qs hv;split at h0
      · rename_i tm htm;cases h0;simp only [lQ,hw,hk,aI8 hv hp,htm]
      ·cases h0
    ·cases h0
  ·cases h0
 | mval v es c=>
  simp only [fH]at h0;split at h0
  · rename_i hw hk;split at h0
    · rename_i h' qs hv;split at h0
      · rename_i tm htm;cases h0;simp only [lQ,hw,hk,aI9 hv hp,htm]
      ·cases h0
    ·cases h0
  ·cases h0
 | app zs n=>
  simp only [fH]at h0;split at h0
  · rename_i hw hk;split at h0
    · rename_i v h' qs hv;split at h0
      · rename_i tm htm;cases h0;simp only [lQ,hw,hk,aBG hv hp,htm]
      ·cases h0
    ·cases h0
  ·cases h0
 | own v =>
  simp only [fH]at h0;split at h0
  · rename_i hw hk;split at h0
    · rename_i vs ha hvs;split at h0
      · rename_i tm htm;cases h0;simp only [lQ,hw,hk,ha,hvs,mem1 hp,htm]
      ·cases h0
    ·cases h0
  ·cases h0
theorem sA {call:bP}{nt:Nat}{ops:List Oper}:∀ {is:List RIns} {pl:List Plan} {r r':RS} {ps:List Prop} {rs:List Rec},hU P nt ops is pl r=some (r',ps,rs) → (∀q∈ps,q) → (∀x∈rs,call x.1 x.2.1 x.2.2.1=some x.2.2.2) →oK P call nt ops pl r=some r'
 | [],[],r,r',ps,rs,h0,_,_=>by simp only [hU]at h0;cases h0;rfl
 | [],_::_,_,_,_,_,h0,_,_=>by simp [hU]at h0
 | i :: is,pl,r,r',ps,rs,h0,hp,hc=>by
  by_cases hb:∃j v,i= .b j v
  · obtain⟨j,v,rfl⟩ :=hb;simp only [hU]at h0;split at h0
    · rename_i b hj;split at h0
      · rename_i r1 qs rs1 h1;cases h0;have:=mem1 hp;subst this;rw [put_eq hj]at h1;exact sA h1 (fun q hq=>hp q (cL _ hq)) hc
      ·cases h0
    ·cases h0
  · cases pl with
    |nil=>cases i<;>simp [hU]at h0<;>exact absurd ⟨_,_,rfl⟩ hb
    | cons p pl=>
     have h0': (match fH P nt ops p i r with
      |none=>none
      | some (r1,qs,rs) =>match hU P nt ops is pl r1 with
       |none=>none
       |some (r2,qs2,rs2) =>some (r2,qs++qs2,rs++rs2)) =some (r',ps,rs) :=by
      cases i<;>first|exact h0|exact absurd ⟨_,_,rfl⟩ hb
     split at h0'
     ·cases h0'
     · rename_i r1 qs rs1 h1;split at h0'
       ·cases h0'
       · rename_i r2 qs2 rs2 h2;cases h0';simp only [oK,aJd (call:=call) h1 (fun q hq=>hp q (aGX _ hq)) (fun x hx=>hc x (aGX _ hx))];exact sA h2 (fun q hq=>hp q (aIw _ hq)) (fun x hx=>hc x (aIw _ hx))
theorem uJ {nt:Nat}{ops:List Oper}:∀ {is:List RIns} {pl:List Plan} {r r':RS} {ps:List Prop} {rs:List Rec},hU P nt ops is pl r=some (r',ps,rs) → (∀q∈ps,q) →∀x∈rs,Spec P x.2.1 x.2.2.1 (.ret x.2.2.2.1) x.2.2.2.2
 | [],[],r,r',ps,rs,h0,_=>by simp only [hU]at h0;cases h0;intro x hx;cases hx
 | [],_::_,_,_,_,_,h0,_=>by simp [hU]at h0
 | i :: is, pl, r, r',ps,rs,h0,hp=>by
  by_cases hb:∃j v,i= .b j v
  · obtain⟨j,v,rfl⟩ :=hb;simp only [hU]at h0;split at h0
    · split at h0
      · rename_i r1 qs rs1 h1;cases h0;exact uJ h1 (fun q hq=>hp q (cL _ hq))
      ·cases h0
    ·cases h0
  · cases pl with
    |nil=>cases i<;>simp [hU]at h0<;>exact absurd ⟨_,_,rfl⟩ hb
    | cons p pl =>
     have h0': (match fH P nt ops p i r with
      |none=>none
      | some (r1,qs,rs) =>match hU P nt ops is pl r1 with
       |none=>none
       |some (r2,qs2,rs2) =>some (r2,qs++qs2,rs++rs2)) =some (r',ps,rs) :=by
      cases i<;>first|exact h0|exact absurd ⟨_,_,rfl⟩ hb
     split at h0'
     ·cases h0'
     · rename_i r1 qs rs1 h1;split at h0'
       ·cases h0'
       · rename_i r2 qs2 rs2 h2;cases h0';intro x hx;rcases zq28.1 hx with g|g
         · cases i with
           | d=>
            simp only [fH]at h1;split at h1
            ·cases h1;cases g
            ·cases h1
           |b j v=>cases h1
           | pure v=>
            simp only [fH]at h1;split at h1
            · split at h1
              · rename_i f args ha;split at h1
                · cases h1;rw [zq32]at g;subst g;exact hp _ (aGX _ (mem_singleton_self _)) _
                ·cases h1
              ·cases h1
            ·cases h1
           | ans a=>
            simp only [fH]at h1;split at h1
            · split at h1
              · split at h1
                ·cases h1;cases g
                ·cases h1
              ·cases h1
            · split at h1
              · split at h1
                ·cases h1;cases g
                ·cases h1
              ·cases h1
            ·cases h1
           | call v h'=>
            simp only [fH]at h1;split at h1
            · split at h1
              · rename_i c ha;split at h1
                · cases h1;rw [zq32]at g;subst g;exact hp _ (aGX _ (mem_singleton_self _))
                ·cases h1
              ·cases h1
            ·cases h1
           | app zs n=>
            simp only [fH]at h1;split at h1
            · split at h1
              · split at h1
                ·cases h1;cases g
                ·cases h1
              ·cases h1
            ·cases h1
           | mval v es c=>
            simp only [fH]at h1;split at h1
            · split at h1
              · split at h1
                ·cases h1;cases g
                ·cases h1
              ·cases h1
            ·cases h1
           | mput es c=>
            simp only [fH]at h1;split at h1
            · split at h1
              · split at h1
                ·cases h1;cases g
                ·cases h1
              ·cases h1
            ·cases h1
           | own v=>
            simp only [fH]at h1;split at h1
            · split at h1
              · split at h1
                ·cases h1;cases g
                ·cases h1
              ·cases h1
            ·cases h1
           | st y y'=>
            simp only [fH]at h1;split at h1
            · split at h1
              · split at h1
                ·cases h1;cases g
                ·cases h1
              ·cases h1
            ·cases h1
         ·exact uJ h2 (fun q hq=>hp q (aIw _ hq)) x g
theorem aBH {m:Nat}{s:AS}{id:Nat}{ops:Array Oper}{k:List AItem}(hm:s.fr.mode= .run)(htd:s.fr.todo= .code (.region id ops true) ::k){is:List RIns}{os:List (Option Ans)}{tm:T AV}{h':Hp}{ps:List Prop}(h0:aEa P s.fr.nt ops s.fr.tm s.h is os=some (tm,h',ps))(hp:∀p∈ps,p) :
  LeadsM P m s ⟨{s.fr with tm,todo:=k},s.cs,h'⟩ :=by
 unfold aEa at h0;simp only at h0;cases hok: (kK ops).ok
 case false=>rw [hok]at h0;cases h0
 rw [hok]at h0;simp only [cond]at h0;split at h0
 · rename_i r qs rs hr;cases hn:aFk (keysOf rs)
   case false=>rw [hn]at h0;cases h0
   rw [hn]at h0;simp only at h0;cases h0;have hq:∀q∈qs,q:=fun q hq=>hp q (aGX _ hq);have hst:=sA (call:=aLA rs) hr hq (aHB hn);have hck:yV P (r.h::r.stages) r.s r.again:=uI (fun q hq=>hp q (aIw _ hq));intro hm0 E fr ccs w base f fs rl;obtain⟨afr,cs,h⟩ :=s;simp only at hm htd hr hst f fs rl ⊢;have e:=f.run hm;generalize fr.fn=fn at e;generalize fr.tmps=tmps at e;generalize fr.todo=todo at e;generalize fr.defers=ds at e;generalize fr.kind=kd at e;generalize fr.roundOf=ro at e;subst e;have ft:=f.todo;simp only [htd]at ft;obtain⟨i,ck,e1,i1,i2⟩ :=ft.cons_inv;subst e1;simp only [IR]at i1;subst i1;obtain⟨E',w',tmps',s1,t1,r1,x1⟩ :=aAx (aLB (uJ hr hq)) hok hst hck rl f.tm id fn ds kd ro ck (ccs++base);exact⟨E',_,ccs,w',s1,⟨f.fn,t1,i2.mono x1.le,f.defers.mono x1.le,by simp only [hm];exact rfl,f.kind,f.round.mono x1.le⟩,fs.mono x1.le,r1,x1.toM hm0⟩
 ·cases h0
theorem aBI :∀ (l:List AV) (t:T AV) (i:Nat),(∀j,j<l.length→t.at (i+j) =l[j]?) →getCells t i l.length=some l
 | [],_,_,_=>rfl
 | a::aS,t,i,h=>by
  have h0:=h 0 (by simp);simp only [Nat.add_zero,mM]at h0;simp only [qN,getCells,h0]
  rw [aBI aS t (Nat.succ i) (fun j hj=>by
   have:=h (j+1) (by simp;omega);rw [show Nat.succ i+j=i+ (j+1)by omega,this];simp)]
theorem aFl (g:Bool){zc:List AV}{e:Nat}(he:zc.length=e) :∀n,vU g e n (lM zc n) =replicate n (bif g then .agg zc else zc.headD .undef)
 |0=>rfl
 | n+1=>by
  have h1: (zc++lM zc n).take e=zc:=by rw [←he,List.take_left]
  have h2: (zc++lM zc n).drop e=lM zc n:=by rw [←he,List.drop_left]
  rw [lM,vU,h1,h2,aFl g he n,List.replicate_succ];congr 1;cases g
  case true=>rfl
  have rn:∀n,lM ([] :List AV) n= [] :=fun n=>by
   induction n with
   |zero=>rfl
   |succ n ih=>simpa [lM]using ih
  cases zc with
  |nil=>simp [rn]
  |cons z zs=>rfl
theorem aDx {zc:List AV}(h:cY zc=true) :∀n,cY (lM zc n) =true
 |0=>rfl
 | n +1=>by
  have app:∀ (xs ys:List AV),cY xs=true→cY ys=true→cY (xs++ys) =true:=by
   intro xs
   induction xs with
   |nil=>intro ys _ h;exact h
   | cons x xs ih=>
    intro ys h1 h2;simp only [cY,dS]at h1;simp only [wA,cY,dS];exact⟨h1.1,ih ys h1.2 h2⟩
  exact app _ _ h (aDx h n)
end
section
variable {P :Program}
theorem aRD {E:Emb}{h:Hp}{H:Array Obj}(r:Rel E h H){b e:Nat}{u:Value}{xs:List AV}(hb:h.look b=some (.lstv u e xs)) :VR E (.gl b e 0 xs.length false) u:=by
 obtain⟨L,hE,C,l,m,k,i,j,o,n,a,c,g,d,f⟩ :=r.obj b _ hb;simp only [VR];exact .inr ⟨L,a,c,hE,g,d,fun e=> (by cases e),fun hc=>by have:=f hc;exact⟨by omega,this.2⟩⟩
theorem Rel.unview {E:Emb}{h:Hp}{H:Array Obj}(r:Rel E h H){b e:Nat}{u:Value}{xs:List AV}(hb:h.look b=some (.lstv u e xs)) :Rel E (h.set b (.lst e xs)) H:=
 r.reobj hb rfl (fun L j=>by
  obtain⟨C,f,g,d,a,c,k,i,_⟩ :=r.objL hb j;exact⟨C,f,g,d,a,c,k,i⟩) rfl rfl rfl
theorem aFm {m:Nat}{h:Hp}{b e o l:Nat}:m≤h.nb→lW m h h (.gl b e o l true) (.gl b e o l false) :=fun hm E w r=>
 ⟨E,Emb.le.refl E,r,ExtM.refl hm,fun k f=>by
  simp only [VR]at f ⊢;rcases f with c| ⟨L,a,d,c,i,g,_,j⟩
  ·exact .inl c
  ·exact .inr ⟨L,a,d,c,i,g,(fun e=>by cases e),j⟩⟩
theorem aLC {m:Nat}{h:Hp}{e:Nat}{xs:List AV}:m≤h.nb→lW m h h (.ilst e xs true) (.ilst e xs false) :=fun hm E w r=>
 ⟨E,Emb.le.refl E,r,ExtM.refl hm,fun t g=>by
  simp only [VR]at g ⊢;obtain⟨l,j,s,p⟩ :=g;refine⟨l,j,s,?_⟩;rcases p with⟨f,a,n,b,d,q⟩ | ⟨k,o,c,C,f,b,d,q,i⟩
  ·exact .inl ⟨f,a,n,b,d,(fun e=>by cases e)⟩
  ·exact .inr ⟨k,o,c,C,f,b,d,(fun e=>by cases e),i⟩⟩
theorem aBJ {m:Nat}{h:Hp}{b e:Nat}{u:Value}{xs:List AV}(hb:h.look b=some (.lstv u e xs)) :m≤h.nb→lW m h (h.set b (.lst e xs)) (.val u) (.gl b e 0 xs.length false) :=fun hm E w r=>
 ⟨E,Emb.le.refl E,r.unview hb,jW (ExtM.refl hm) hb,fun c a=>by
  simp only [VR]at a;subst a;exact aRD r hb⟩
theorem aVN {m:Nat}{E E':Emb}{h h1 h2:Hp}{w w':World}(x:ExtM m E h w E' h1 w')(c:∀b o,h2.look b=some o→h1.look b=some o)(f:h2.nb=h1.nb) :ExtM m E h w E' h2 w':=
 ⟨x.low,x.imm,x.size,x.keep,fun d i g e k a=>x.own d i g (c _ _ e) k a,by rw [f];exact x.nb,x.os,x.tape,x.output,x.froz,x.immo,fun b o e hb=>x.keys b o (c _ _ e) hb⟩
theorem aOI {m:Nat}{fr:AFrame}{cs:List AFrame}{h:Hp}{b e o j:Nat}{u:Value}{xs c ys:List AV}(hb:h.look b=some (.lstv u e xs))(y:h.look o=some (.lst j c))(p:o≠b)(hz:c≠ [])(hk:keylessL xs=true)
  (J:∀ (E:Emb) (d:List Value),VR E (.ilst e xs false) u→VRs E c d→VRs E ys d) :LeadsM P m ⟨fr,cs,h⟩ ⟨fr,cs,(h.del b).set o (.lst j ys)⟩ :=fun hm E B l w t f fs r=>by
 have H:=r.unview hb;have k: (h.set b (.lst e xs)).look b=some (.lst e xs) :=by rw [bA,if_pos rfl]
 have q:frzOk b e xs xs (.gl b e 0 xs.length false) :=by
  simp only [frzOk];intro _;simp
 obtain⟨i,g,O,M,I⟩ :=lK (m:=m) k hk q hm E w H;have N:VR i (.ilst e xs false) u:=by
  have:=I u (by
   have:=aRD r hb;exact this)
  simpa [AV.frz]using this
 have same:∀x ob,(h.del b).look x=some ob→ ((h.set b (.lst e xs)).del b).look x=some ob:=fun x ob e=>by
  rw [lT]at e ⊢;split at e
  ·cases e
  ·rename_i v;rw [if_neg v,bA,if_neg v];exact e
 have s:Rel i (h.del b) w.heap:=O.sub same (le_refl _);have R:ExtM m E h w i (h.del b) w:=aVN ((jW (ExtM.refl hm) hb).trans M) same rfl;have a: (h.del b).look o=some (.lst j c) :=by rw [lT,if_neg p];exact y
 have n:kL (.lst j c) =false:=by
  cases c with
  |nil=>exact absurd rfl hz
  |cons _ _=>rfl
 refine⟨i,B,l,w,Steps.refl _ _,f.mono g,fs.mono g,s.reobj a n (fun L F=>?_) rfl rfl rfl,jW R a⟩;obtain⟨C,Q,d,A,K,z,G,D⟩ :=s.objL a F;exact⟨C,Q,d,A,K,J i d N z,G,D⟩
theorem aVO {m:Nat}{fr:AFrame}{cs:List AFrame}{h:Hp}{b e:Nat}{xs ys:List AV}(hb:h.look b=some (.lst e xs))(hz:xs≠ [])
  (i:∀ (E:Emb) (a:List Value),VRs E xs a→VRs E ys a) :LeadsM P m ⟨fr,cs,h⟩ ⟨fr,cs,h.set b (.lst e ys)⟩ :=fun hm E n d w g f fs r=>by
 have c:kL (.lst e xs) =false:=by
  cases xs with
  |nil=>exact absurd rfl hz
  |cons _ _=>rfl
 refine⟨E,n,d,w,Steps.refl _ _,f,fs,r.reobj hb c (fun L q=>?_) rfl rfl rfl,jW (ExtM.refl hm) hb⟩;obtain⟨C,o,a,l,j,k,s,p⟩ :=r.objL hb q;exact⟨C,o,a,l,j,i E a k,s,p⟩
theorem aS5 {m:Nat}{fr:AFrame}{cs:List AFrame}{h:Hp}{j b e n:Nat}{ex:Bool}{xs:List AV}{i:Res}{h':Hp}(N:fr.tm.at j=some (.gl b e 0 n ex))(hb:h.look b=some (.lst e xs))(s:xs.length=n)(h0:0<n)
  (hk:∀y x u,Ends P m ⟨{fr with tm:=fr.tm.put j (.val (Value.slice y x u))},cs,h.set b (.lstv (Value.slice y x u) e xs)⟩ i h') :Ends P m ⟨fr,cs,h⟩ i h':=fun hm E cf o w f fs r J k=>by
 obtain⟨Y,R,q⟩ :=f.tm.2 _ _ N;simp only [VR]at q;rcases q with⟨z,_⟩ | ⟨L,a,c,hE,rfl,Z,_,I⟩
 ·omega
 · have p:kL (.lst e xs) =false:=by
    cases xs with
    |nil=>simp at s;omega
    |cons _ _=>rfl
   have D:FR E {fr with tm:=fr.tm.put j (.val (.slice (some ⟨L.blk,a,none⟩) n c))} cf:=by
    refine⟨f.fn,⟨f.tm.1,fun t v e=>?_⟩,f.todo,f.defers,f.mode,f.kind,f.round⟩;rw [T.at_put]at e;split at e
    · rename_i A;cases e;subst A;exact⟨_,R,by simp only [VR]⟩
    ·exact f.tm.2 t v e
   have B:Rel E (h.set b (.lstv (.slice (some ⟨L.blk,a,none⟩) n c) e xs)) w.heap:=r.reobj hb p (fun L' d=>by
    obtain⟨C,X,K,H,U,F,O,M⟩ :=r.objL hb d;rw [hE]at d;cases d;exact⟨C,X,K,H,U,F,O,M,a,c,by rw [s],by omega,fun hc=>by have:=I hc;exact⟨by omega,this.2⟩⟩) rfl rfl rfl
   obtain⟨l,Q,S,G,g,W,V⟩ :=hk _ _ _ hm E cf o w D fs B J k;exact⟨l,Q,S,G,g,W,(jW (ExtM.refl hm) hb).trans V⟩
theorem aVP {m:Nat}{fr:AFrame}{cs:List AFrame}{h:Hp}{j e:Nat}{ex:Bool}{xs:List AV}{i:Res}{h':Hp}(z:fr.tm.at j=some (.ilst e xs ex))
  (h1:xs= [] →Ends P m ⟨{fr with tm:=fr.tm.put j .nils},cs,h⟩ i h')
  (h2:∀a n c,Ends P m ⟨{fr with tm:=fr.tm.put j (.val (.slice (some a) n c))},cs,h⟩ i h') :Ends P m ⟨fr,cs,h⟩ i h':=fun hm E cf g w f fs r l b=>by
 obtain⟨A,B,o⟩ :=f.tm.2 _ _ z
 have put:∀ {v:AV},VR E v A→FR E {fr with tm:=fr.tm.put j v} cf:=fun {v} hv=>by
  refine⟨f.fn,⟨f.tm.1,fun t s e=>?_⟩,f.todo,f.defers,f.mode,f.kind,f.round⟩;rw [T.at_put]at e;split at e
  · rename_i p;cases e;subst p;exact⟨_,B,hv⟩
  ·exact f.tm.2 t s e
 simp only [VR]at o;obtain⟨y,F,q⟩ :=o;rcases q.2 with⟨rfl,a,d,rfl,u,_⟩ | ⟨k,a,d,C,rfl,_⟩
 · have D:xs= [] :=by
    cases xs with
    |nil=>rfl
    |cons x xs=>simp [VRs]at F
   cases a with
   | none=>
    have:=u rfl;subst this;exact h1 D hm E cf g w (put (by simp only [VR])) fs r l b
   |some a=>exact h2 a 0 d hm E cf g w (put (by simp only [VR])) fs r l b
 ·exact h2 ⟨k,a,none⟩ y.length d hm E cf g w (put (by simp only [VR])) fs r l b
def KL (es:List (AV×AV×Nat)) :Prop:=∀e∈es,keyless e.1=true∧keyless e.2.1=true
theorem aVQ {E E':Emb}(he:E.imm=E'.imm) :∀ {a:List (AV×AV×Nat)} {d:List MapEntry},KL a→ERs E a d→ERs E' a d
 | [],_,_,r=>by simpa [ERs]using r
 | e::a,_,hk,r=>by
  simp only [ERs]at r ⊢;obtain⟨u,b,g,l,h,j,m⟩ :=r;have n:E.p=E'.p:=by simp [Emb.p,he]
  have k:=hk e (cQ ..);have f:=eJ k.1 l;have c:=eJ k.2 h;rw [n]at f c;exact⟨u,b,g,VR.of_p f,VR.of_p c,j,aVQ he (fun x i=>hk x (cL _ i)) m⟩
theorem aJe {m:Nat}{fr:AFrame}{cs:List AFrame}{h:Hp}{b c i:Nat}{d a:List (AV×AV×Nat)}{k v:AV}(hb:h.look b=some (.map a i))(he:a=d++ [(k,v,c)])(hc:i=Nat.succ c)(hk:KL d) :
  LeadsM P m ⟨fr,cs,h⟩ ⟨fr,cs,h.set b (.mapx d c k v)⟩ :=fun hm E p g w j f fs r=>by
 refine⟨E,p,g,w,Steps.refl _ _,f,fs,r.reobj hb rfl (fun L q=>?_) rfl rfl rfl,jW (ExtM.refl hm) hb⟩;obtain⟨n,o,l⟩ :=r.objL hb q;subst he hc;exact⟨n,o,l,fun u t s e=>aVQ e hk⟩
theorem aOJ {m:Nat}{fr:AFrame}{cs:List AFrame}{h h1:Hp}{b c:Nat}{e:List (AV×AV×Nat)}{k v v':AV}(hb:h.look b=some (.mapx e c k v))(d:h1.look b=some (.mapx e c k v))(o:m≤h.nb→lW m h h1 v v')(B:keyless k=true) :
  LeadsM P m ⟨fr,cs,h⟩ ⟨fr,cs,h1.set b (.map (e++ [(k,v',c)]) (Nat.succ c))⟩ :=fun hm E z i w l f fs r=>by
 obtain⟨D,a,p,x,g⟩ :=o hm E w r;refine⟨D,z,i,w,Steps.refl _ _,f.mono a,fs.mono a,p.reobj d rfl (fun L A=>?_) rfl rfl rfl,jW x d⟩;obtain⟨N,hE,G,t,F,K⟩ :=r.obj _ _ hb rfl;have:=a.1 _ _ hE;rw [A]at this;cases this;refine⟨G,t,?_⟩;obtain⟨M,O,y,J,n⟩ :=ERs.split F;rw [y];refine ERs.join (J.mono a) ?_;simp only [ERs]at n ⊢;obtain⟨u,j,I,q,H,C,s⟩ :=n;exact⟨u,j,I,q.mono a,g _ H,C,s⟩
theorem aOK {m:Nat}{fr:AFrame}{cs:List AFrame}{h h1:Hp}{k e:Nat}{xs ys:List AV}(hb:h.look k=some (.lst e xs))(b:h1.look k=some (.lst e xs))(hz:xs≠ [])(l:m≤h.nb→lW m h h1 (.tup xs) (.tup ys)) :
  LeadsM P m ⟨fr,cs,h⟩ ⟨fr,cs,h1.set k (.lst e ys)⟩ :=fun hm E t g w j f fs r=>by
 obtain⟨y,a,n,q,d⟩ :=l hm E w r;have c:kL (.lst e xs) =false:=by
  cases xs with
  |nil=>exact absurd rfl hz
  |cons _ _=>rfl
 refine⟨y,t,g,w,Steps.refl _ _,f.mono a,fs.mono a,n.reobj b c (fun L v=>?_) rfl rfl rfl,jW q b⟩;obtain⟨F,hE,C,A,i,p,z,o,x,u⟩ :=r.obj _ _ hb c;have:=a.1 _ _ hE;rw [v]at this;cases this;refine⟨C,A,i,p,z,?_,x,u⟩;have:=d (.tuple ⟨i⟩) (by simp only [VR];exact⟨i,rfl,o⟩);simp only [VR]at this;obtain⟨D,s,B⟩ :=this;cases s;exact B
section
variable (P :Program)
inductive Ins where
 |run (n:Nat)
 |b (j:Nat) (v:Bool)
 |set (j:Nat) (v:AV)
 |call (v:AV) (h':Hp)
 |callP (ch:List (AV×Bool)) (h':Hp)
 |ans (a:Ans)
 |st (y y':AV)
 |app (zs:List AV) (n:Nat)
 |nilL (j e:Nat)
 |nilI (j e:Nat)
 |frz (j b:Nat) (ys:List AV)
 |cnil (k o e:Nat)
 |cnilI (k o e:Nat)
 |cfrz (k o b:Nat) (ys:List AV)
 |toL (j:Nat) (g:Bool) (cs:List AV)
 |cset (k o:Nat) (v:AV)
 |ctoL (k o:Nat) (g:Bool) (cs:List AV)
 |lset (b:Nat) (xs:List AV)
 |pure (v:AV)
 |throws (ch:List (AV×Bool))
 |mk (n:Nat)
 |reg (is:List RIns)
 |regA (is:List RIns) (os:List (Option Ans))
 |nxt (c d:Nat)
 |nxtE
 |mput (es:List (AV×AV×Nat)) (clock:Nat)
 |mset (b:Nat) (es:List (AV×AV×Nat)) (clock:Nat)
 |lkeep (b:Nat) (js:List Nat)
 |unname (j b:Nat)
 |weak (j:Nat)
 |cweak (k o:Nat)
 |vfrz (b o:Nat) (ys:List AV)
 |lw (b:Nat) (ys:List AV)
 |lfrz (k b:Nat) (ys:List AV)
 |mclose (b:Nat) (es:List (AV×AV×Nat)) (c:Nat) (k v:AV)
 |mfrz (b n:Nat) (ys:List AV)
 |appN (zs:List AV) (n:Nat)
def VQ (u:Value)(e:Nat)(xs zs ys:List AV) :Prop:=∀ (E:Emb) (vs:List Value),VR E (.ilst e xs false) u→VRs E zs vs→VRs E ys vs
def VW (xs ys:List AV) :Prop:=∀ (E:Emb) (vs:List Value),VRs E xs vs→VRs E ys vs
def mP (s:AS) :Option Oper:=
 match s.fr.mode,s.fr.todo with
 | .run,.ops all _ (o::_) ::_=>match bX s.fr.tm all.toList o with
  |some true=>some o
  |_=>none
 |_,_=>none
def aCL (s:AS)(v:AV)(h':Hp)(obl:List Prop) :Option (AS×List Prop) :=
 match s.fr.finish v with
 |some fr=>some (⟨fr,s.cs,h'⟩,obl)
 |none=>none
def aFn {α:Type}(t:T α) :List Nat→List (Nat×α)
 | [] =>[]
 | j::js=>match t.at j with
  |some v=> (j,v) ::aFn t js
  |none=>aFn t js
def aJf {α:Type}:List (Nat×α) →T α
 | [] =>.leaf
 |p::r=> (aJf r).put p.1 p.2
def xstep (P :Program)(i:Ins)(s:AS) :Option (AS×List Prop) :=
 match i with
 | .run n=>match nP P pY n s with
  |some s'=>some (s',[])
  |none=>none
 | .b j v=>match s.fr.tm.at j with
  |some (.bool b) =>some (⟨{s.fr with tm:=s.fr.tm.put j (.bool v)},s.cs,s.h⟩,[b=v])
  |_=>none
 | .set j v=>match s.fr.tm.at j with
  |some u=>some (⟨{s.fr with tm:=s.fr.tm.put j v},s.cs,s.h⟩,[u=v])
  |none=>none
 | .cset k o v=>match s.h.look k with
  | some (.cells t n ol sup) =>match t.at o with
   |some u=>some (⟨s.fr,s.cs,s.h.set k (.cells (t.put o v) n ol sup)⟩,[u=v])
   |none=>none
  |_=>none
 | .lset b xs=>match s.h.look b with
  |some (.lst e ys) =>some (⟨s.fr,s.cs,s.h.set b (.lst e xs)⟩,[ys=xs])
  |_=>none
 | .call v h'=>match mP s with
  | some o=>match kH P s.h s.fr.tm o with
   |some (.call c) =>aCL s v h' [Spec P c s.h (.ret v) h']
   |_=>none
  |none=>none
 | .callP ch h'=>match mP s with
  | some o=>match kH P s.h s.fr.tm o with
   |some (.call c) =>some (⟨s.fr.raise ch,s.cs,h'⟩,[Spec P c s.h (.pan ch) h'])
   |_=>none
  |none=>none
 | .ans a=>match mP s with
  | some o=>match rZ P s.h s.fr.tm o a with
   |some (v,ps) =>aCL s v s.h ps
   |none=>none
  |none=>none
 | .pure v=>match mP s with
  | some o=>match kH P s.h s.fr.tm o with
   |some (.call (.enter f args)) =>aCL s v s.h [aK P f args v]
   |_=>none
  |none=>none
 | .throws ch=>match mP s with
  | some o=>match kH P s.h s.fr.tm o with
   |some (.call (.enter f args)) =>some (⟨s.fr.raise ch,s.cs,s.h⟩,[bFL P f args ch])
   |_=>none
  |none=>none
 | .mk n =>match mP s with
  | some o=>match o.op,o.dst with
   | .makeSlice t l c,some d=>match bN s.fr.tm l,bN s.fr.tm c with
    | some (.int _ l),some (.int _ c) =>match P.underlying t with
     | some (.slice el) =>match aZ P el,zeroOf P el,P.info? el,P.underlying el with
      | some e,some z,some inf,some ed=>bif ble e 40&&ble 1 e&&beq z.cells.length e&&ble inf.bytes 1000&&cY z.cells&& (isAggD ed||beq e 1)then
        match s.fr.finish (.gl s.h.nb e 0 n true)with
        |some fr=>some (⟨fr,s.cs,s.h.new (.lst e (replicate n (bif isAggD ed then .agg z.cells else z.cells.headD .undef)))⟩,[l= (n:Int),c= (n:Int),n<100000])
        |none=>none else none
      |_,_,_,_=>none
     |_=>none
    |_,_=>none
   |_,_=>none
  |none=>none
 | .reg is=>match s.fr.mode,s.fr.todo with
  | .run,.code (.region _ ops true) ::k=>match aEa P s.fr.nt ops s.fr.tm s.h is []with
   |some (tm,h',ps) =>some (⟨{s.fr with tm,todo:=k},s.cs,h'⟩,ps)
   |none=>none
  |_,_=>none
 | .regA is os=>match s.fr.mode,s.fr.todo with
  | .run,.code (.region _ ops true) ::k=>match aEa P s.fr.nt ops s.fr.tm s.h is os with
   |some (tm,h',ps) =>some (⟨{s.fr with tm,todo:=k},s.cs,h'⟩,ps)
   |none=>none
  |_,_=>none
 | .nxt c d=>match mP s with
  | some o=>match o.op with
   | .next it true=>match bN s.fr.tm it with
    | some (.ptr r 0) =>match s.h.look r with
     |some (.siter l n pos) =>aCL s (.tup [.bool true,.int .i64 pos,.int .i32 c]) (s.h.set r (.siter l n (Nat.add pos d))) [pos<l,aOl l n pos=some (c,d)]
     |_=>none
    |_=>none
   |_=>none
  |none=>none
 | .nxtE=>match mP s with
  | some o=>match o.op with
   | .next it true=>match bN s.fr.tm it with
    | some (.ptr r 0) =>match s.h.look r with
     |some (.siter l n pos) =>aCL s (.tup [.bool false]) s.h [l≤pos]
     |_=>none
    |_=>none
   |_=>none
  |none=>none
 | .mput es' clock'=>match mP s with
  | some o=>match o.op with
   | .mapUpdate t m k x=>match bN s.fr.tm m,bN s.fr.tm k,bN s.fr.tm x with
    | some (.map r),some k,some v=>match P.underlying t,s.h.look r with
     | some (.map kt _),some (.map es clock) =>match P.underlying kt with
      |some kd=>bif plainKey kd k then aCL s .undef (s.h.set r (.map es' clock')) [aAS es clock k v=some (es',clock')]else none
      |none=>none
     |_,_=>none
    |_,_,_=>none
   |_=>none
  |none=>none
 | .mset b es' clock'=>match s.h.look b with
  |some (.map es clock) =>some (⟨s.fr,s.cs,s.h.set b (.map es' clock')⟩,[es=es',clock=clock'])
  |_=>none
 | .st y y'=>match mP s with
  | some o=>match o.op with
   | .store t a x=>match bN s.fr.tm a,bN s.fr.tm x with
    | some (.ep b e i k),some v=>match s.h.look b,aZ P t with
     | some (.lst e' xs),some n=>bif beq e' e&&beq v.cells.length n&&ble (k+n) e&&cY v.cells then
       match s.fr.finish .undef with
       |some fr=>some (⟨fr,s.cs,s.h.set b (.lst e (xs.set i y'))⟩,[xs[i]?=some y,kQ y k v.cells=some y'])
       |none=>none else none
     |_,_=>none
    |_,_=>none
   |_=>none
  |none=>none
 | .app zs n =>match mP s with
  | some o => match o.op with
   | .call c =>match c.callee,hP s.fr.tm c.args.toList,c.argTypes[0]?,c.argTypes[1]? with
    | .builtin .append,some [d,x],some st,some xt=>match P.underlying st,P.underlying xt with
     | some (.slice el),some (.slice _) =>match aZ P el,P.info? el,zeroOf P el with
      | some e,some inf,some z=>bif beq z.cells.length e&&ble e 40&&ble inf.bytes 1000&&ble 1 inf.bytes&&ble 1 e then
       match d with
       | .gl b e' off len _=>match s.h.look b with
        | some (.lst e2 xs) =>bif beq e' e&&beq e2 e then
          match x with
          | .gl b2 e1 off2 len2 _=>match s.h.look b2,P.underlying el with
           | some (.lst e3 ys),some _=>bif beq e1 e&&beq e3 e then
             aCL s (.gl s.h.nb e 0 n false) ((s.h.del b).new (.lst e zs)) [off2+len2≤ys.length,off+len≤xs.length,n≤1000000,(xs.drop off).take len++ (ys.drop off2).take len2=zs,len+len2=n]else none
           |_,_=>none
          | x=>match lN P s.h el e x with
           |some ys=>aCL s (.gl s.h.nb e 0 n false) ((s.h.del b).new (.lst e zs)) [off+len≤xs.length,n≤1000000,(xs.drop off).take len++ys=zs,len+ys.length=n]
           |none=>none
          else none
        |_=>none
       | .ilst e' [] true=>bif beq e' e then match lN P s.h el e x with
        |some ys=>aCL s (.gl s.h.nb e 0 n false) (s.h.new (.lst e zs)) [n≤1000000,ys=zs,ys.length=n]
        |none=>none
        else none
       |_=>none
       else none
      |_,_,_=>none
     |_,_=>none
    |_,_,_,_=>none
   |_=>none
  |none=>none
 | .nilL j e=>match s.fr.tm.at j with
  |some .nils=>some (⟨{s.fr with tm:=s.fr.tm.put j (.gl s.h.nb e 0 0 false)},s.cs,s.h.new (.lst e [])⟩,[])
  |_=>none
 | .nilI j e=>match s.fr.tm.at j with
  |some .nils=>some (⟨{s.fr with tm:=s.fr.tm.put j (.ilst e [] true)},s.cs,s.h⟩,[])
  |_=>none
 | .frz j b ys=>match s.fr.tm.at j,s.h.look b with
  |some v,some (.lst e xs) =>some (⟨{s.fr with tm:=s.fr.tm.put j (AV.frz b ys v)},s.cs,s.h.del b⟩,[keylessL xs=true,frzOk b e xs ys v])
  |_,_=>none
 | .cnil k o e=>match s.h.look k with
  | some (.cells t n ol sup) =>match t.at o with
   |some .nils=>bif blt k s.h.nb then some (⟨s.fr,s.cs,(s.h.new (.lst e [])).set k (.cells (t.put o (.gl s.h.nb e 0 0 false)) n ol sup)⟩,[])else none
   |_=>none
  |_=>none
 | .cnilI k o e=>match s.h.look k with
  | some (.cells t n ol sup) =>match t.at o with
   |some .nils=>some (⟨s.fr,s.cs,s.h.set k (.cells (t.put o (.ilst e [] true)) n ol sup)⟩,[])
   |_=>none
  |_=>none
 | .cfrz k o b ys=>bif beq k b then none else match s.h.look k,s.h.look b with
  | some (.cells t n ol sup),some (.lst e xs) =>match t.at o with
   |some v=>some (⟨s.fr,s.cs,(s.h.del b).set k (.cells (t.put o (AV.frz b ys v)) n ol sup)⟩,[keylessL xs=true,frzOk b e xs ys v])
   |none=>none
  |_,_=>none
 | .lkeep b js=>match s.h.look b with
  |some (.loop st pe fn tm nt ps aS bd df) =>some (⟨s.fr,s.cs,s.h.set b (.loop st pe fn (aJf (aFn tm js)) nt ps aS bd df)⟩,[])
  |_=>none
 | .cweak k o=>match s.h.look k with
  | some (.cells t n ol sup) =>match t.at o with
   |some (.gl b e off l true) =>some (⟨s.fr,s.cs,s.h.set k (.cells (t.put o (.gl b e off l false)) n ol sup)⟩,[])
   |some (.ilst e xs true) =>some (⟨s.fr,s.cs,s.h.set k (.cells (t.put o (.ilst e xs false)) n ol sup)⟩,[])
   |_=>none
  |_=>none
 | .weak j=>match s.fr.tm.at j with
  |some (.gl b e o l true) =>some (⟨{s.fr with tm:=s.fr.tm.put j (.gl b e o l false)},s.cs,s.h⟩,[])
  |_=>none
 | .unname j b=>match s.fr.tm.at j,s.h.look b with
  |some (.val u),some (.lstv u' e xs) =>some (⟨{s.fr with tm:=s.fr.tm.put j (.gl b e 0 xs.length false)},s.cs,s.h.set b (.lst e xs)⟩,[u=u'])
  |_,_=>none
 | .vfrz b o ys=>match s.h.look b,s.h.look o with
  |some (.lstv u e xs),some (.lst eo zs) =>bif beq o b then none else some (⟨s.fr,s.cs,(s.h.del b).set o (.lst eo ys)⟩,[zs≠ [],keylessL xs=true,VQ u e xs zs ys])
  |_,_=>none
 | .mclose b es c k v=>match s.h.look b with
  |some (.map es' c') =>some (⟨s.fr,s.cs,s.h.set b (.mapx es c k v)⟩,[es'=es++ [(k,v,c)],c'=Nat.succ c,KL es])
  |_=>none
 | .mfrz b n ys=>bif beq b n then none else match s.h.look b,s.h.look n with
  |some (.mapx es c k v),some (.lst e xs) =>some (⟨s.fr,s.cs,(s.h.del n).set b (.map (es++ [(k,AV.frz n ys v,c)]) (Nat.succ c))⟩,[keyless k=true,keylessL xs=true,frzOk n e xs ys v])
  |_,_=>none
 | .appN zs n=>match mP s with
  | some o=>match aI7 P s.h s.fr.tm o zs n with
   |some (v,h',ps) =>aCL s v h' ps
   |none=>none
  |none=>none
 | .lfrz k b ys=>bif beq k b then none else match s.h.look k,s.h.look b with
  |some (.lst e xs),some (.lst e1 zs) =>some (⟨s.fr,s.cs,(s.h.del b).set k (.lst e (frzL b ys xs))⟩,[xs≠ [],keylessL zs=true,AV.frzOkL b e1 zs ys xs])
  |_,_=>none
 | .lw b ys=>match s.h.look b with
  |some (.lst e xs) =>some (⟨s.fr,s.cs,s.h.set b (.lst e ys)⟩,[xs≠ [],VW xs ys])
  |_=>none
 | .toL j g cs=>match s.fr.tm.at j with
  | some (.slice b 0 n c e x) =>match s.h.look b with
   | some (.cells t _ [] false) =>bif g||beq e 1 then
     some (⟨{s.fr with tm:=s.fr.tm.put j (.gl b e 0 n (x&&beq c n))},s.cs,s.h.set b (.lst e (vU g e n cs))⟩,[getCells t 0 (n*e) =some cs,cY cs=true])else none
   |_=>none
  |_=>none
 | .ctoL k o g cs=>match s.h.look k with
  | some (.cells t n ol sup) =>match t.at o with
   | some (.slice b 0 n2 c e x) =>bif beq k b then none else match s.h.look b with
    | some (.cells t2 _ [] false) =>bif g||beq e 1 then
      some (⟨s.fr,s.cs,(s.h.set b (.lst e (vU g e n2 cs))).set k (.cells (t.put o (.gl b e 0 n2 (x&&beq c n2))) n ol sup)⟩,[getCells t2 0 (n2*e) =some cs,cY cs=true])else none
    |_=>none
   |_=>none
  |_=>none
def rD (P:Program) :List Ins→AS→Option (AS×List Prop)
 | [],s=>some (s,[])
 | i::is,s=>match xstep P i s with
  |none=>none
  | some (s',ps) =>match rD P is s' with
   |none=>none
   |some (s'',qs) =>some (s'',ps++qs)
end
def AllP :List Prop→Prop
 | [] =>True
 | [p] =>p
 |p::ps=>p∧AllP ps
theorem AllP.mem :∀ {b:List Prop},AllP b→∀p∈b,p
 | [p],h,q,a=>by rw [zq32]at a;rw [a];exact h
 | p::c::b,h,q,a=>by
  rcases zq7.1 a with rfl|a
  ·exact h.1
  ·exact AllP.mem h.2 q a
theorem iU {call:bP}{s:AS}{o:Oper}(a:mP s=some o){v:AV}{h':Hp}(f:kH P s.h s.fr.tm o=some (.val v h')){fr:AFrame}(b:s.fr.finish v=some fr) :lS P call s=some ⟨fr,s.cs,h'⟩ :=by
 obtain⟨e,q,h⟩ :=s;obtain⟨fn,u,t,m,c,g,l,r⟩ :=e;simp only at f b ⊢;unfold mP at a;simp only at a;split at a
 · rename_i all i w j k;split at a
   · rename_i p;cases a;simp only [AFrame.finish]at b;split at b
     · rename_i n d;cases b;simp only [lS,p,f,d]
     ·cases b
   ·cases a
 ·cases a
theorem uK {call:bP}{s:AS}{o:Oper}(a:mP s=some o){c:AIn}(e:kH P s.h s.fr.tm o=some (.call c)){g:AFrame}(m:dG P s.h c=some g) :lS P call s=some ⟨g,s.fr::s.cs,s.h⟩ :=by
 obtain⟨d,q,h⟩ :=s;obtain⟨fn,u,t,n,b,f,l,r⟩ :=d;simp only at e m ⊢;unfold mP at a;simp only at a;split at a
 · rename_i all i v j k;split at a
   · rename_i p;cases a;simp only [lS,p,e,rU,m]
   ·cases a
 ·cases a
theorem jX {s b:AS}{v:AV}{h':Hp}{obl ps:List Prop}(a:aCL s v h' obl=some (b,ps)) :∃fr,s.fr.finish v=some fr∧b= ⟨fr,s.cs,h'⟩ ∧ps=obl:=by
 unfold aCL at a;split at a
 ·rename_i fr c;cases a;exact⟨fr,c,rfl,rfl⟩
 ·cases a
theorem put_same {a:Type}{t:T a}{k:Nat}{v:a}(h:t.at k=some v) :∀j,(t.put k v).at j=t.at j:=fun j=>by
 rw [T.at_put];split
 ·rename_i e;rw [e,h]
 ·rfl
theorem bBg {E:Emb}{fr:AFrame}{c:Frame}(f:FR E fr c){j:Nat}{v:AV}(h:fr.tm.at j=some v) :FR E {fr with tm:=fr.tm.put j v} c:=
 ⟨f.fn,⟨f.tm.1,fun t a e=>f.tm.2 t a (by rw [←put_same h t];exact e)⟩,f.todo,f.defers,f.mode,f.kind,f.round⟩
theorem aFo {m:Nat}{fr:AFrame}{cs:List AFrame}{h:Hp}{j:Nat}{v:AV}(c:fr.tm.at j=some v) :LeadsM P m ⟨fr,cs,h⟩ ⟨{fr with tm:=fr.tm.put j v},cs,h⟩ :=
 fun hm E b a w _ f fs r=> ⟨E,b,a,w,Steps.refl _ _,bBg f c,fs,r,ExtM.refl hm⟩
theorem aAA {h:Hp}{b:Nat}{o:AObj}(hb:h.look b=some o) :∀x,(h.set b o).look x=h.look x:=fun x=>by
 rw [bA];split
 ·rename_i e;rw [e,hb]
 ·rfl
theorem aAT {m:Nat}{fr:AFrame}{cs:List AFrame}{h h':Hp}(hl:∀x o,h'.look x=some o→h.look x=some o)(c:h'.nb=h.nb) :LeadsM P m ⟨fr,cs,h⟩ ⟨fr,cs,h'⟩ :=
 fun hm E g a w _ f fs r=> ⟨E,g,a,w,Steps.refl _ _,f,fs,r.sub hl (Nat.le_of_eq c.symm),⟨fun _ _=>rfl,fun _ _ e=>e,le_refl _,fun _ _ _=>rfl,fun b o L e k i d _=> ⟨b,o,L,hl b o e,k,d⟩,by rw [c];exact hm,rfl,rfl,rfl,fun _ _=>rfl,fun _ _ e _=>.inl e,fun b o e _=> ⟨o,hl b o e⟩⟩⟩
theorem aVR {m:Nat}{fr:AFrame}{cs:List AFrame}{h:Hp}{tm':T AV}(c:∀t a,tm'.at t=some a→fr.tm.at t=some a) :LeadsM P m ⟨fr,cs,h⟩ ⟨{fr with tm:=tm'},cs,h⟩ :=
 fun hm E d b w _ f fs r=> ⟨E,d,b,w,Steps.refl _ _,⟨f.fn,⟨f.tm.1,fun t a e=>f.tm.2 t a (c t a e)⟩,f.todo,f.defers,f.mode,f.kind,f.round⟩,fs,r,ExtM.refl hm⟩
theorem aVS {m n:Nat}{s:AS}{o:Oper}(v:mP s=some o){t:TypeId}{l c:Operand}{d:Nat}(M:o.op= .makeSlice t l c)(C:o.dst=some d){k1 Y:IntKind}(hl:bN s.fr.tm l=some (.int k1 n))(hc:bN s.fr.tm c=some (.int Y n)){H:TypeId}(hu:P.underlying t=some (.slice H))
  {e:Nat} (O:aZ P H=some e) {z:AV} (hz:zeroOf P H=some z) {y:TypeInfo} (B:P.info? H=some y) {w:TypeDesc} (_hed:P.underlying H=some w) (q: (ble e 40&&ble 1 e&&beq z.cells.length e&&ble y.bytes 1000) =true) (h1:cY z.cells=true) (hg:isAggD w=true∨beq e 1=true) (hn:n<100000)
  {fr:AFrame} (p:s.fr.finish (.gl s.h.nb e 0 n true) =some fr) :LeadsM P m s ⟨fr,s.cs,s.h.new (.lst e (replicate n (bif isAggD w then .agg z.cells else z.cells.headD .undef)))⟩ :=by
 have G:z.cells.length=e:=by simp only [dS]at q;exact fM q.1.2
 have hv:kH P s.h s.fr.tm o=some (.val (.slice s.h.nb 0 n n e true) (s.h.newCells (lM z.cells n))) :=by
  unfold kH;have J: (ble e 40&&ble 1 e&&beq z.cells.length e&&ble y.bytes 1000) =true:=q;simp only [gQ,M,ev2,hl,hc,hu,O,hz,B,J,cond];rw [if_pos ⟨by omega,Int.le_refl _,by omega⟩];rfl
 obtain⟨b,V,R⟩ :∃b,s.fr.finish (.slice s.h.nb 0 n n e true) =some b∧∃f,d<s.fr.nt∧f=s.fr.tm∧b.tm=f.put d (.slice s.h.nb 0 n n e true) ∧fr= {b with tm:=f.put d (.gl s.h.nb e 0 n true)}:=by
  unfold mP at v;split at v
  · rename_i all i o' X k hm N;split at v
    · cases v;unfold AFrame.finish at p ⊢;rw [N]at p ⊢;simp only [C,iG]at p ⊢;cases hb:blt d s.fr.nt
      case false=>rw [hb]at p;cases p
      rw [hb]at p;simp only [cond]at p ⊢;cases p;exact⟨_,rfl,s.fr.tm,by rw [dD]at hb;exact of_decide_eq_true hb,rfl,rfl,rfl⟩
    ·cases v
  ·cases v
 obtain⟨f,hd,_,W,e2⟩ :=R;have Q: (lM z.cells n).length=n*e:=by rw [oD,G]
 have r: (s.h.newCells (lM z.cells n)).look s.h.nb=some (.cells (putCells .leaf 0 (lM z.cells n)) (lM z.cells n).length [] false) :=by
  unfold Hp.newCells;rw [cM,if_pos rfl]
 have I:getCells (putCells .leaf 0 (lM z.cells n)) 0 (n*e) =some (lM z.cells n) :=by
  rw [←Q];exact aBI _ _ _ (fun j Z=>by rw [fE,bB,if_pos Z])
 have u:=dI (P:=P) (m:=m) bZ (iU (call:=pY) v hv V)
 have A:=jJ (P:=P) (m:=m) (fr:=b) (cs:=s.cs) (h:=s.h.newCells (lM z.cells n)) (j:=d) (by rw [W,T.at_put,if_pos rfl]) (yW (m:=m) (c:=n) (x:=true) (g:=isAggD w) r I (aDx h1 n) (fun S=>by
  rcases hg with g|g
  ·rw [S]at g;cases g
  ·exact fM g))
 refine(u.trans A).trans ?_;rw [aFl (isAggD w) G n];have F: (true&&beq n n) =true:=by simp
 rw [F]
 have a:=aAT (P:=P) (m:=m) (fr:={b with tm:=b.tm.put d (.gl s.h.nb e 0 n true)}) (cs:=s.cs) (h:= (s.h.newCells (lM z.cells n)).set s.h.nb (.lst e (replicate n (bif isAggD w then .agg z.cells else z.cells.headD .undef)))) (h':=s.h.new (.lst e (replicate n (bif isAggD w then .agg z.cells else z.cells.headD .undef)))) (fun x ox D=>by
  rw [cM]at D;rw [bA];unfold Hp.newCells;rw [cM];by_cases U:x=s.h.nb
  ·rw [if_pos U]at D ⊢;exact D
  ·rw [if_neg U]at D ⊢;rw [if_neg U];exact D) rfl
 refine a.trans ?_;rw [e2]
 exact aVR (P:=P) (fr:={b with tm:=b.tm.put d (.gl s.h.nb e 0 n true)}) (tm':=f.put d (.gl s.h.nb e 0 n true)) (fun t a L=>by
  show(b.tm.put d (.gl s.h.nb e 0 n true)).at t=some a;rw [W,T.at_put];rw [T.at_put]at L;split at L
  ·rename_i K;rw [if_pos K];exact L
  ·rename_i K;rw [if_neg K,T.at_put,if_neg K];exact L)
theorem aFp {h:Hp}{a:Array TypeId}{b e off len:Nat}{ex:Bool}{x:AV}:aappend P h a (.gl b e off len ex) x=none:=by
 unfold aappend;simp only [cond_eq_ite]
 repeat' split
 all_goals first|rfl| (split<;>rfl)
theorem aJg {h:Hp}{a:Array TypeId}{e:Nat}{xs:List AV}{ex:Bool}{x:AV}:aappend P h a (.ilst e xs ex) x=none:=by
 unfold aappend;simp only [cond_eq_ite]
 repeat' split
 all_goals first|rfl| (split<;>rfl)
set_option maxHeartbeats 2000000 in
theorem aEb {a:Type}:∀ {l:List (Nat×a)} {k:Nat} {v:a},(aJf l).at k=some v→ (k,v) ∈l
 | [],k,v,h=>by rw [aJf,T.at_leaf]at h;cases h
 | (j,u) ::r,k,v,h=>by
  rw [aJf,T.at_put]at h;split at h
  ·rename_i hk;cases h;subst hk;exact cQ ..
  ·exact cL _ (aEb h)
theorem sP {a:Type}{t:T a}:∀ {b:List Nat} {k:Nat} {v:a},(k,v) ∈aFn t b→t.at k=some v
 | [],_,_,h=>by cases h
 | j ::b,k,v,h=>by
  simp only [aFn]at h;split at h
  · rename_i u c;rcases zq7.1 h with e|h
    ·cases e;exact c
    ·exact sP h
  ·exact sP h
theorem xstep_sound {i:Ins}{s s':AS}{ps:List Prop}{m:Nat}(A:xstep P i s=some (s',ps))(hp:∀p∈ps,p) :LeadsM P m s s':=by
 cases i with
 | run n=>
  simp only [xstep]at A;split at A
  · rename_i s1 h1;cases A;rw [uF]at h1;exact(rC bZ h1).toM
  ·cases A
 | cweak k o=>
  simp only [xstep]at A;split at A
  · rename_i t n ol U hk;split at A
    ·rename_i K;cases A;exact jK hk hk K aFm
    ·rename_i K;cases A;exact jK hk hk K aLC
    ·cases A
  ·cases A
 | weak j=>
  simp only [xstep]at A;split at A
  · rename_i b e o l R;cases A;exact jJ R aFm
  ·cases A
 | unname j b=>
  simp only [xstep]at A;split at A
  · rename_i u u' e X R hb;cases A;have M:=mem1 hp;subst M;exact jJ R (aBJ hb)
  ·cases A
 | vfrz b o N=>
  simp only [xstep]at A;split at A
  · rename_i u e X eo zs hb D;cases F:beq o b
    case true=>rw [F]at A;cases A
    rw [F]at A;simp only [cond]at A;cases A;have M:=hp _ (cQ ..);have O:=hp _ (cL _ (cQ ..));have q2:=hp _ (cL _ (cL _ (cQ ..)));refine aOI hb D (fun e=>?_) M O q2;rw [e,beq_refl]at F;cases F
  ·cases A
 | appN zs n=>
  simp only [xstep]at A;split at A
  · rename_i o D;split at A
    · rename_i v h' qs K;obtain⟨fr,G,rfl,rfl⟩ :=jX A;exact dI bZ (iU D (aBG K hp) G)
    ·cases A
  ·cases A
 | mclose b es c k v=>
  simp only [xstep]at A;split at A
  · rename_i es' c' hb;cases A;exact aJe hb (hp _ (cQ ..)) (hp _ (cL _ (cQ ..))) (hp _ (cL _ (cL _ (cQ ..))))
  ·cases A
 | mfrz b n N=>
  simp only [xstep]at A;cases hc:beq b n
  case true=>rw [hc]at A;cases A
  rw [hc]at A;simp only [cond]at A;have F:b≠n:=fun e=>by subst e;simp at hc
  split at A
  · rename_i es c k v e X hb hn;cases A;exact aOJ hb (by rw [lT,if_neg F];exact hb) (lK hn (hp _ (cL _ (cQ ..))) (hp _ (cL _ (cL _ (cQ ..))))) (hp _ (cQ ..))
  ·cases A
 | lfrz k b N=>
  simp only [xstep]at A;cases hc:beq k b
  case true=>rw [hc]at A;cases A
  rw [hc]at A;simp only [cond]at A;have F:k≠b:=fun e=>by subst e;simp at hc
  split at A
  · rename_i e X e1 zs hk hb;cases A;have M:=hp _ (cQ ..);have O:=hp _ (cL _ (cQ ..));have q2:=hp _ (cL _ (cL _ (cQ ..)));have e2:AV.frz b N (.tup X) = .tup (frzL b N X) :=by simp only [AV.frz]
    exact aOK hk (by rw [lT,if_neg F];exact hk) M (fun hm=>e2 ▸ lK hb O (by simp only [frzOk];exact q2) hm)
  ·cases A
 | lw b N=>
  simp only [xstep]at A;split at A
  · rename_i e X hb;cases A;have M:=hp _ (cQ ..);have O:=hp _ (cL _ (cQ ..));exact aVO hb M O
  ·cases A
 | lkeep b js=>
  simp only [xstep]at A;split at A
  · rename_i st pe fn tm nt ps aS bd df hb;cases A;intro hm E cf ccs w base f fs r;refine⟨E,cf,ccs,w,Steps.refl _ _,f,fs,r.reobj hb rfl (fun L hL=>?_) rfl rfl rfl,jW (ExtM.refl hm) hb⟩;obtain⟨tmps,Ld,h1,h2,h3⟩ :=r.objL hb hL;exact⟨tmps,Ld,h1,h2,h3.1,fun t a e=>h3.2 t a (sP (aEb e))⟩
  ·cases A
 | b j v=>
  simp only [xstep]at A;split at A
  · rename_i b hb;cases A;have:=mem1 hp;subst this;exact aFo hb
  ·cases A
 | set j v=>
  simp only [xstep]at A;split at A
  · rename_i u S;cases A;have:=mem1 hp;subst this;exact aFo S
  ·cases A
 | cset k o v=>
  simp only [xstep]at A;split at A
  · rename_i t n ol U hk;split at A
    · rename_i u S;cases A;have:=mem1 hp;subst this;exact jK hk hk S (aHA fun _ _ h=>h)
    ·cases A
  ·cases A
 | lset b X=>
  simp only [xstep]at A;split at A
  · rename_i e N hb;cases A;have:=mem1 hp;subst this;exact aAT (fun x o e=>by rw [aAA hb]at e;exact e) rfl
  ·cases A
 | call v h'=>
  simp only [xstep]at A;split at A
  · rename_i o D;split at A
    · rename_i c hc;unfold aCL at A;split at A
      · rename_i fr G;cases A;obtain⟨g,T,he⟩ :=mem1 hp;exact aAz (dI bZ (uK D hc T)) he G
      ·cases A
    ·cases A
  ·cases A
 | callP ch h'=>
  simp only [xstep]at A;split at A
  · rename_i o D;split at A
    · rename_i c hc;cases A;obtain⟨g,T,he⟩ :=mem1 hp;exact xI (dI bZ (uK D hc T)) he
    ·cases A
  ·cases A
 | ans a=>
  simp only [xstep]at A;split at A
  · rename_i o D;split at A
    · rename_i v qs K;obtain⟨fr,G,rfl,rfl⟩ :=jX A;exact dI bZ (iU D (pA K hp) G)
    ·cases A
  ·cases A
 | pure v=>
  simp only [xstep]at A;split at A
  · rename_i o D;split at A
    · rename_i f args hc;obtain⟨fr,G,rfl,rfl⟩ :=jX A;obtain⟨g,T,he⟩ :=mem1 hp s.h;exact aAz (dI bZ (uK D hc T)) he G
    ·cases A
  ·cases A
 | throws ch=>
  simp only [xstep]at A;split at A
  · rename_i o D;split at A
    · rename_i f args hc;cases A;obtain⟨g,T,he⟩ :=mem1 hp s.h;exact xI (dI bZ (uK D hc T)) he
    ·cases A
  ·cases A
 | mk n =>
  simp only [xstep]at A;split at A
  · rename_i o D;split at A
    · rename_i t l c d B hdst;split at A
      · rename_i k1 l' k2 c' hl hc;split at A
        · rename_i el S;split at A
          · rename_i e z inf ed W hz J hed;cases Y: (ble e 40&&ble 1 e&&beq z.cells.length e&&ble inf.bytes 1000&&cY z.cells&& (isAggD ed||beq e 1))
            case false=>rw [Y]at A;cases A
            rw [Y]at A;simp only [cond]at A;split at A
            · rename_i fr G;cases A;have O:=hp _ (cQ ..);have q2:=hp _ (cL _ (cQ ..));have q3:=hp _ (cL _ (cL _ (cQ ..)));subst O q2;simp only [dS,Bool.or_eq_true]at Y;obtain⟨⟨⟨⟨⟨c1,c2⟩,c3⟩,c4⟩,c5⟩,c6⟩ :=Y;exact aVS D B hdst hl hc S W hz J hed (by simp [c1,c2,c3,c4]) c5 c6 q3 G
            ·cases A
          ·cases A
        ·cases A
      ·cases A
    ·cases A
  ·cases A
 | reg is=>
  simp only [xstep]at A;split at A
  · rename_i id ops k hm htd;split at A
    · rename_i tm h' qs hr;cases A;exact aBH hm htd hr hp
    ·cases A
  ·cases A
 | regA is os=>
  simp only [xstep]at A;split at A
  · rename_i id ops k hm htd;split at A
    · rename_i tm h' qs hr;cases A;exact aBH hm htd hr hp
    ·cases A
  ·cases A
 | nxt c d =>
  simp only [xstep]at A;split at A
  · rename_i o D;split at A
    · rename_i it B;split at A
      · rename_i r hr;split at A
        · rename_i l n pos hb;obtain⟨fr,G,rfl,rfl⟩ :=jX A;have M:=hp _ (cQ ..);have O:=hp _ (cL _ (cQ ..));refine dI bZ (iU D ?_ G);have hbl:blt pos l=true:=by rw [dD];exact decide_eq_true M
          unfold kH;simp only [gQ,B,vT,hr,hb,hbl,cond,O]
        ·cases A
      ·cases A
    ·cases A
  ·cases A
 | nxtE =>
  simp only [xstep]at A;split at A
  · rename_i o D;split at A
    · rename_i it B;split at A
      · rename_i r hr;split at A
        · rename_i l n pos hb;obtain⟨fr,G,rfl,rfl⟩ :=jX A;have M:=mem1 hp;refine dI bZ (iU D ?_ G);have hbl:blt pos l=false:=by rw [dD];exact decide_eq_false (by omega)
          unfold kH;simp only [gQ,B,vT,hr,hb,hbl,cond]
        ·cases A
      ·cases A
    ·cases A
  ·cases A
 | mput es' Z =>
  simp only [xstep]at A;split at A
  · rename_i o D;split at A
    · rename_i t m k x B;split at A
      · rename_i r kv v hm hk hx;split at A
        · rename_i kt et es clock S hb;split at A
          · rename_i kd hkd;cases hc:plainKey kd kv
            case false=>rw [hc]at A;cases A
            rw [hc]at A;simp only [cond]at A;obtain⟨fr,G,rfl,rfl⟩ :=jX A;have q:=mem1 hp;refine dI bZ (iU D ?_ G);unfold aAS at q;unfold kH;simp only [gQ,B,ev2,vT,hm,hk,hx,pP,S,hkd,hb,hc,cond];split at q
            · rename_i i w hfk;cases q;simp only [hfk,aAm]
            · rename_i hfk;cases q;simp only [hfk,aAm]
            ·cases q
          ·cases A
        ·cases A
      ·cases A
    ·cases A
  ·cases A
 | mset b es' Z=>
  simp only [xstep]at A;split at A
  · rename_i es clock hb;cases A;have M:=hp _ (cQ ..);have O:=hp _ (cL _ (cQ ..));subst M O;exact aAT (fun x o e=>by rw [aAA hb]at e;exact e) rfl
  ·cases A
 | st y y' =>
  simp only [xstep]at A;split at A
  · rename_i o D;split at A
    · rename_i t a x B;split at A
      · rename_i b e i k v ha hx;split at A
        · rename_i e' X n hb hn;cases hc: (beq e' e&&beq v.cells.length n&&ble (k+n) e&&cY v.cells)
          case false=>rw [hc]at A;cases A
          rw [hc]at A;simp only [cond]at A;split at A
          · rename_i fr G;cases A;have M:=hp _ (cQ ..);have O:=hp _ (cL _ (cQ ..));refine dI bZ (iU D (dB ?_ ?_) G)
            ·simp only [gQ,B,ev2,ha,hx]
            ·simp only [vop,B,ev2,ha,hx,hb,hn,hc,cond,M,O]
          ·cases A
        ·cases A
      ·cases A
    ·cases A
  ·cases A
 | app zs n =>
  simp only [xstep]at A;split at A
  · rename_i o D;split at A
    · rename_i c B;split at A
      · rename_i d x st xt H C hst hxt;split at A
        · rename_i el el' S hu';split at A
          · rename_i e inf z W J hz;cases hc: (beq z.cells.length e&&ble e 40&&ble inf.bytes 1000&&ble 1 inf.bytes&&ble 1 e)
            case false=>rw [hc]at A;cases A
            rw [hc]at A;simp only [cond]at A;split at A
            · rename_i b e' off len ex;split at A
              · rename_i e2 X hb;cases I: (beq e' e&&beq e2 e)
                case false=>rw [I]at A;cases A
                rw [I]at A;simp only at A;simp only [dS]at I;have ee1:=fM I.1;have ee2:=fM I.2;split at A
                · rename_i b2 e1 Q len2 ex2;split at A
                  · rename_i e3 N dd hb2 hu3;cases V: (beq e1 e&&beq e3 e)
                    case false=>rw [V]at A;cases A
                    rw [V]at A;simp only at A;simp only [dS]at V;have ee3:=fM V.2;obtain⟨fr,G,rfl,rfl⟩ :=jX A;have y0:=hp _ (cQ ..);have y2:=hp _ (cL _ (cQ ..));have y3:=hp _ (cL _ (cL _ (cQ ..)));have y4:=hp _ (cL _ (cL _ (cL _ (cQ ..))));have y5:=hp _ (cL _ (cL _ (cL _ (cL _ (cQ ..)))));subst y4 y5;have yl: ((N.drop Q).take len2).length=len2:=by rw [List.length_take,List.length_drop];omega
                    have y1:lN P s.h el e (.gl b2 e1 Q len2 ex2) =some ((N.drop Q).take len2) :=by
                     simp only [lN,hu3,V.1,cond,hb2];rw [if_pos ⟨ee3,y0⟩]
                    refine dI bZ (iU D (dB ?_ ?_) G)
                    ·simp only [gQ,B,pT,C,H,eW,aFp]
                    · simp only [vop,B,H,C,kR,hst,hxt,S,hu',W,J,hz,y1,hc,cond,hb,aAK,yl];rw [if_pos ⟨ee1,ee2,y2,y3⟩]
                  ·cases A
                · split at A
                  · rename_i N y1;obtain⟨fr,G,rfl,rfl⟩ :=jX A;have y2:=hp _ (cQ ..);have y3:=hp _ (cL _ (cQ ..));have y4:=hp _ (cL _ (cL _ (cQ ..)));have y5:=hp _ (cL _ (cL _ (cL _ (cQ ..))));subst y4 y5;refine dI bZ (iU D (dB ?_ ?_) G)
                    ·simp only [gQ,B,pT,C,H,eW,aFp]
                    · simp only [vop,B,H,C,kR,hst,hxt,S,hu',W,J,hz,y1,hc,cond,hb,aAK];rw [if_pos ⟨ee1,ee2,y2,y3⟩]
                  ·cases A
              ·cases A
            · rename_i e';cases I:beq e' e
              case false=>rw [I]at A;cases A
              rw [I]at A;simp only at A;have ee1:=fM I;split at A
              · rename_i N y1;obtain⟨fr,G,rfl,rfl⟩ :=jX A;have y2:=hp _ (cQ ..);have y3:=hp _ (cL _ (cQ ..));have y4:=hp _ (cL _ (cL _ (cQ ..)));subst y3 y4;refine dI bZ (iU D (dB ?_ ?_) G)
                ·simp only [gQ,B,pT,C,H,eW,aJg]
                · simp only [vop,B,H,C,kR,hst,hxt,S,hu',W,J,hz,y1,hc,cond,aAK];rw [if_pos ⟨ee1,y2⟩]
              ·cases A
            ·cases A
          ·cases A
        ·cases A
      ·cases A
    ·cases A
  ·cases A
 | nilL j e=>
  simp only [xstep]at A;split at A
  ·rename_i R;cases A;exact jJ R (aCJ e)
  ·cases A
 | nilI j e=>
  simp only [xstep]at A;split at A
  ·rename_i R;cases A;exact jJ R (aFj e)
  ·cases A
 | frz j b N=>
  simp only [xstep]at A;split at A
  · rename_i v e X R hb;cases A;exact jJ R (lK hb (hp _ (cQ ..)) (hp _ (cL _ (cQ ..))))
  ·cases A
 | cnil k o e=>
  simp only [xstep]at A;split at A
  · rename_i t n ol U hk;split at A
    · rename_i K;cases hc:blt k s.h.nb
      case false=>rw [hc]at A;cases A
      rw [hc]at A;simp only [cond]at A;cases A;rw [dD]at hc;have:=of_decide_eq_true hc;exact jK hk (by rw [cM,if_neg (by omega)];exact hk) K (aCJ e)
    ·cases A
  ·cases A
 | cnilI k o e=>
  simp only [xstep]at A;split at A
  · rename_i t n ol U hk;split at A
    ·rename_i K;cases A;exact jK hk hk K (aFj e)
    ·cases A
  ·cases A
 | cfrz k o b N=>
  simp only [xstep]at A;cases hc:beq k b
  case true=>rw [hc]at A;cases A
  rw [hc]at A;simp only [cond]at A;have F:k≠b:=fun e=>by subst e;simp at hc
  split at A
  · rename_i t n ol U e X hk hb;split at A
    · rename_i v K;cases A;exact jK hk (by rw [lT,if_neg F];exact hk) K (lK hb (hp _ (cQ ..)) (hp _ (cL _ (cQ ..))))
    ·cases A
  ·cases A
 | ctoL k o g cs=>
  simp only [xstep]at A;split at A
  · rename_i t n ol U hk;split at A
    · rename_i b n2 c e x K;cases hkb:beq k b
      case true=>rw [hkb]at A;cases A
      rw [hkb]at A;simp only [cond]at A;have F:k≠b:=fun e=>by subst e;simp at hkb
      split at A
      · rename_i t2 k2 hb;cases hc: (g||beq e 1)
        case false=>rw [hc]at A;cases A
        rw [hc]at A;simp only at A;cases A;exact jK hk (by rw [bA,if_neg F];exact hk) K (yW hb (hp _ (cQ ..)) (hp _ (cL _ (cQ ..))) (fun T=>by subst T;simp only [Bool.false_or]at hc;exact fM hc))
      ·cases A
    ·cases A
  ·cases A
 | toL j g cs=>
  simp only [xstep]at A;split at A
  · rename_i b n c e x R;split at A
    · rename_i t k hb;cases hc: (g||beq e 1)
      case false=>rw [hc]at A;cases A
      rw [hc]at A;simp only [cond]at A;cases A;exact jJ R (yW hb (hp _ (cQ ..)) (hp _ (cL _ (cQ ..))) (fun T=>by subst T;simp only [Bool.false_or]at hc;exact fM hc))
    ·cases A
  ·cases A
theorem hM {m:Nat}:∀ {f:List Ins} {s d:AS} {c:List Prop},rD P f s=some (d,c) → (∀p∈c,p) →LeadsM P m s d
 | [],s,d,c,a,_=>by simp only [rD]at a;cases a;exact LeadsM.refl s
 | i ::f,s,d,c,a,e=>by
  simp only [rD]at a;split at a
  ·cases a
  · rename_i j n g;split at a
    ·cases a
    · rename_i k l h;cases a;exact(xstep_sound g (fun p b=>e p (aGX _ b))).trans (hM h (fun p b=>e p (aIw _ b)))
def dK {α:Type}:List (Nat×α) →T α
 | [] =>.leaf
 | (k,v) ::r=> (dK r).put k v
theorem aCM {a:Type}:∀ {l:List (Nat×a)} {k:Nat} {v:a},(dK l).at k=some v→ (k,v) ∈l
 | [],k,v,h=>by rw [dK,T.at_leaf]at h;cases h
 | (j,u) ::r,k,v,h=>by
  rw [dK,T.at_put]at h;split at h
  ·rename_i hk;cases h;subst hk;exact cQ ..
  ·exact cL _ (aCM h)
structure TF where
 fn:Nat
 nt:Nat
 sl:List (Nat×AV)
 todo:List AItem
 defers:List ADef:=[]
 mode:AMode:=.run
 kind:CallKind:=.normal
 roundOf:Option Nat:=none
def TF.fr (f:TF) :AFrame:= ⟨f.fn,dK f.sl,f.nt,f.todo,f.defers,f.mode,f.kind,f.roundOf⟩
structure TS where
 fr:TF
 cs:List TF
 hp:List (Nat×AObj×Bool)
 nb:Nat
def aA (l:List (Nat×AObj×Bool))(nb:Nat) :Hp:= ⟨dK (l.map fun p=> (p.1,p.2.1)),nb⟩
def TS.as (s:TS) :AS:= ⟨s.fr.fr,s.cs.map TF.fr,aA s.hp s.nb⟩
def T.mapT {α β:Type}(f:α→β) :T α→T β
 | .leaf=>.leaf
 | .node l v r=>.node (T.mapT f l) (v.map f) (T.mapT f r)
theorem aFq {a b:Type}(f:a→b) :∀ (t:T a) (k:Nat),(t.mapT f).get k= (t.get k).map f
 | .leaf,k=>rfl
 | .node l v r,k=>by
  rw [T.mapT,T.get_node,T.get_node,aFq f l,aFq f r];split
  ·rfl
  ·split<;>rfl
theorem aEc {a b:Type}(f:a→b)(t:T a)(k:Nat) : (t.mapT f).at k= (t.at k).map f:=aFq f t _
def AObj.ren (τ:Nat→Nat) :AObj→AObj
 | .cells t n ol sup=>.cells (t.mapT (AV.ren τ)) n (ol.map τ) sup
 | .map es c=>.map (es.map fun p=> (AV.ren τ p.1,AV.ren τ p.2.1,p.2.2)) c
 | .siter l n p=>.siter l n p
 | .mapx es c k v=>.mapx es c (AV.ren τ k) (AV.ren τ v)
 | .loop st pe fn tm nt ps aS bd df=>.loop st pe fn (tm.mapT (AV.ren τ)) nt ps aS bd (τ df)
 | .defd t=>.defd t
 | .lst e xs=>.lst e (renL τ xs)
 | .lstv u e xs=>.lstv u e (renL τ xs)
 | .miter m s l n=>.miter (τ m) s l n
 | .zone w rs Z=>.zone w (List.map τ rs) Z
def AItem.ren (τ:Nat→Nat) :AItem→AItem
 | .inRF l=>.inRF (τ l)
 | .junk=>.junk
 | .endRF l=>.endRF (τ l)
 |i=>i
def ADef.ren (τ:Nat→Nat) :ADef→ADef
 | .fn f args=>.fn f (renL τ args)
 | .col r=>.col (τ r)
def AMode.ren (τ:Nat→Nat) :AMode→AMode
 | .pan ch=>.pan (ch.map fun p=> (AV.ren τ p.1,p.2))
 |m=>m
theorem bFM {b:Nat→Nat}{E:Emb}{tm:T AV}{c:Nat}{tmps:Array Value}(r:TR E (tm.mapT (AV.ren b)) c tmps) :TR (E.ren b) tm c tmps:=
 ⟨r.1,fun t a e=>by
  obtain⟨v,f,d⟩ :=r.2 t (AV.ren b a) (by rw [aEc,e];rfl);exact⟨v,f,(eO b E a v).1 d⟩⟩
theorem aRE {a:Nat→Nat}{E:Emb}:∀ {c:List (AV×AV×Nat)} {d:List MapEntry},ERs E (c.map fun p=> (AV.ren a p.1,AV.ren a p.2.1,p.2.2)) d→ERs (E.ren a) c d
 | [],_,r=>by simpa [ERs]using r
 | p::c,_,r=>by
  simp only [eU,ERs]at r ⊢;obtain⟨u,b,h,g,e,f,i⟩ :=r;exact⟨u,b,h,(eO a E _ _).1 g,(eO a E _ _).1 e,f,aRE i⟩
theorem bFN {g:Nat→Nat}{E:Emb}{H:Array Obj}{L:Loc}{o:AObj}(r:OR E H L (o.ren g)) :OR (E.ren g) H L o:=by
 cases o with
 | cells t n ol K=>
  obtain⟨C,w,d,f,b⟩ :=r;refine⟨C,w,d,f,fun i a e=>?_⟩;obtain⟨U,v,G,V⟩ :=b i (AV.ren g a) (by rw [aEc,e];rfl);exact⟨U,v,G,(eO g E a v).1 V⟩
 |map M c=>obtain⟨y,d,f⟩ :=r;exact⟨y,d,aRE f⟩
 |siter l n p=>exact r
 | mapx M c k v=>
  obtain⟨y,d,f,b⟩ :=r;refine⟨y,d,?_,b⟩;obtain⟨O,h,Q,e2,D⟩ :=ERs.split f;rw [Q];refine ERs.join (b E _ O rfl e2) ?_;simp only [ERs]at D ⊢;obtain⟨u,x,Y,J,X,S,N⟩ :=D;exact⟨u,x,Y,(eO g E _ _).1 J,(eO g E _ _).1 X,S,N⟩
 |loop st pe fn tm nt ps aS bd df=>obtain⟨q,W,d,f,b⟩ :=r;exact⟨q,W,d,f,bFM b⟩
 |defd t=>exact r
 |lst e j=>obtain⟨C,w,h,d,f,b,z⟩ :=r;exact⟨C,w,h,d,f,(nR g E j h).1 b,z⟩
 |miter m s l n=>obtain⟨Lm,d,f,b⟩ :=r;exact⟨Lm,d,f,b⟩
 | zone w0 r0 Z=>
  obtain⟨T,R,B,I⟩ :=r;exact⟨T,R,by rw [List.map_map]at B;exact B,I⟩
 | lstv u e j=>
  obtain⟨C,w,h,d,f,b,z,F,A⟩ :=r;have hl: (renL g j).length=j.length:=by rw [←b.length,((nR g E j h).1 b).length]
  exact⟨C,w,h,d,f,(nR g E j h).1 b,z,F,by rw [hl]at A;exact A⟩
def AObj.kl :AObj→Prop
 | .lst _ xs=>keylessL xs=true
 | .lstv _ _ xs=>keylessL xs=true
 | .map es _=>∀e∈es,keyless e.1=true∧keyless e.2.1=true
 |_=>False
theorem aVT {E E':Emb}(he:E.imm=E'.imm) :∀ {a:List (AV×AV×Nat)} {d:List MapEntry},(∀e∈a,keyless e.1=true∧keyless e.2.1=true) →ERs E a d→ERs E' a d
 | [],_,_,r=>by simpa [ERs]using r
 | e::a,_,hk,r=>by
  simp only [ERs]at r ⊢;obtain⟨u,b,h,l,g,j,m⟩ :=r;have n:E.p=E'.p:=by simp [Emb.p,he]
  have k:=hk e (cQ ..);have f:=eJ k.1 l;have c:=eJ k.2 g;rw [n]at f c;exact⟨u,b,h,VR.of_p f,VR.of_p c,j,aVT he (fun x i=>hk x (cL _ i)) m⟩
theorem bEN {E E':Emb}(he:E.imm=E'.imm){H:Array Obj}{L:Loc}{o:AObj}(hk:o.kl)(r:OR E H L o) :OR E' H L o:=by
 cases o with
 | lst e j=>
  obtain⟨C,f,g,a,b,d,h⟩ :=r;refine⟨C,f,g,a,b,?_,h⟩;have:=fU hk d;have i:E.p=E'.p:=by simp [Emb.p,he]
  rw [i]at this;exact this.of_p
 | lstv u e j=>
  obtain⟨C,f,g,a,b,d,h⟩ :=r;refine⟨C,f,g,a,b,?_,h⟩;have:=fU hk d;have i:E.p=E'.p:=by simp [Emb.p,he]
  rw [i]at this;exact this.of_p
 |map l c=>obtain⟨k,a,b⟩ :=r;exact⟨k,a,aVT he hk b⟩
 |_=>exact hk.elim
theorem bFO {b:Nat→Nat}{E:Emb}{a:AItem}{i:Item}(r:IR E (a.ren b) i) :IR (E.ren b) a i:=by cases a<;>exact r
theorem aRF {d:Nat→Nat}{E:Emb}:∀ {c:List AItem} {b:List Item},IRs E (c.map (AItem.ren d)) b→IRs (E.ren d) c b
 | [],_,r=>by simpa [IRs]using r
 |_::_,_,r=>by simp only [eU,IRs]at r ⊢;obtain⟨i,a,f,g,e⟩ :=r;exact⟨i,a,f,bFO g,aRF e⟩
theorem bFP {b:Nat→Nat}{E:Emb}{a:ADef}{d:Deferred}(r:DR E (a.ren b) d) :DR (E.ren b) a d:=by
 cases a with
 |fn f e=>obtain⟨c,a,h,g⟩ :=r;exact⟨c,a,h,(nR b E _ _).1 g⟩
 |col i=>exact r
theorem aOL {b:Nat→Nat}{E:Emb}:∀ {d:List (AV×Bool)} {c:List PanicEntry},CR E (d.map fun p=> (AV.ren b p.1,p.2)) c→CR (E.ren b) d c
 | [],_,r=>by simpa [CR]using r
 |_::_,_,r=>by simp only [eU,CR]at r ⊢;obtain⟨i,a,f,g,e⟩ :=r;exact⟨i,a,f,(eO b E _ _).1 g,aOL e⟩
theorem bFQ {b:Nat→Nat}{E:Emb}{a:AMode}{m:FrameMode}(r:MR E (a.ren b) m) :MR (E.ren b) a m:=by
 cases a with
 |pan f=>simp only [AMode.ren,MR]at r ⊢;obtain⟨c,d,e⟩ :=r;exact⟨c,d,aOL e⟩
 |_=>exact r
theorem bFR {c:Nat→Nat}{E:Emb}{a b:Option Nat}(r:RR E (a.map c) b) :RR (E.ren c) a b:=by cases a<;>exact r
theorem own_ren {a:Nat→Nat}{o:AObj}{L:Loc}{i:Nat}:Own (o.ren a) L i↔Own o L i:=by cases o<;>exact Iff.rfl
theorem yY {a:Nat→Nat}{o:AObj}{f:Bool}{L:Loc}{i:Nat}(h:Own o L i) :Own (bif f then o else o.ren a) L i:=by
 cases f
 case true=>exact h
 exact own_ren.2 h
theorem sQ {a:Nat→Nat}{o q:AObj}{f:Bool}{L:Loc}{i:Nat}(e:o= (bif f then q else q.ren a))(h:Own o L i) :Own q L i:=by
 subst e;cases f
 case true=>exact h
 exact own_ren.1 h
structure SumF where
 fn:Nat
 nt:Nat
 kind:CallKind
 ro:Option Nat
 mode:AMode
 todo:List AItem
 defers:List ADef
 sl:List (Option AV)
def slotsOf (tm:T AV) :List (Nat×AV) →List (Option AV)
 | [] =>[]
 |p::r=>tm.at p.1::slotsOf tm r
def aRG (τ:Nat→Nat) :List (Nat×AV) →List (Option AV)
 | [] =>[]
 |p::r=>some (AV.ren τ p.2) ::aRG τ r
def sumF (a:AFrame)(f:TF) :SumF:= ⟨a.fn,a.nt,a.kind,a.roundOf,a.mode,a.todo,a.defers,slotsOf a.tm f.sl⟩
def aFr (τ:Nat→Nat)(f:TF) :SumF:= ⟨f.fn,f.nt,f.kind,f.roundOf.map τ,f.mode.ren τ,f.todo.map (AItem.ren τ),f.defers.map (ADef.ren τ),aRG τ f.sl⟩
def aRH :List AFrame→List TF→List SumF
 |a::aS,f::fs=>sumF a f::aRH aS fs
 |_,_=>[]
def uL (h:Hp)(τ:Nat→Nat) :List (Nat×AObj×Bool) →List (Option AObj)
 | [] =>[]
 |p::r=>h.look (τ p.1) ::uL h τ r
def iK (τ:Nat→Nat) :List (Nat×AObj×Bool) →List (Option AObj)
 | [] =>[]
 |p::r=>some (bif p.2.2 then p.2.1 else p.2.1.ren τ) ::iK τ r
structure Sum where
 fr:SumF
 n:Nat
 cs:List SumF
 hp:List (Option AObj)
def AS.sum (s:AS)(τ:Nat→Nat)(t:TS) :Sum:= ⟨sumF s.fr t.fr,s.cs.length,aRH s.cs t.cs,uL s.h τ t.hp⟩
def TS.want (t:TS)(τ:Nat→Nat) :Sum:= ⟨aFr τ t.fr,t.cs.length,t.cs.map (aFr τ),iK τ t.hp⟩
def fK (m nb n1:Nat)(ks:List Nat)(b:Nat) :Nat:=bif blt b m then b else bif blt b nb then ks.getD (b-m) 0 else n1+b
def aRI :List Nat→Bool
 | [] =>true
 |k::ks=> !(aAf k ks) &&aRI ks
def aRJ (m:Nat) :List Nat→Bool
 | [] =>true
 |k::ks=>ble m k&&aRJ m ks
def aRK :AObj→Bool
 | .cells _ _ [] _=>true
 | .cells .. =>false
 |_=>true
theorem aJh {o:AObj}(h:aRK o=true) :bY o= [] :=by
 cases o with
 | cells t n a b=>cases a with
  |nil=>rfl
  |cons x c=>cases h
 |_=>rfl
def fZ (nb:Nat) :List (Nat×AObj×Bool) →Bool
 | [] =>true
 |p::r=>blt p.1 nb&&aRK p.2.1&&fZ nb r
def dH (m:Nat)(t:TS)(ks:List Nat) :Bool:=ble m t.nb&&beq (m+ks.length) t.nb&&aRI ks&&aRJ m ks&&fZ t.nb t.hp
def eY :List (Nat×AObj×Bool) →Prop
 | [] =>True
 | (_,o,true) ::r=>o.kl∧eY r
 | (_,_,false) ::r=>eY r
theorem aBK (t:Nat) :∀l:List Nat,aAf t l=true↔t∈l
 | [] =>by simp [aAf]
 | x ::a=>by
  rw [aAf,Bool.or_eq_true,aBK t a,bM,decide_eq_true_eq,zq7];constructor
  · rintro(h|h)
    ·exact .inl h.symm
    ·exact .inr h
  · rintro(h|h)
    ·exact .inl h.symm
    ·exact .inr h
theorem aHC :∀ {l:List Nat},aRI l=true→∀i j,i<l.length→j<l.length→l.getD i 0=l.getD j 0→i=j
 | [],_,i,j,a,_,_=>by simp at a
 | x ::xs,h,i,j,a,b,e=>by
  simp only [aRI,dS,Bool.not_eq_true']at h;have c:x∉xs:=fun hm=>by rw [(aBK x xs).2 hm]at h;cases h.1
  cases i with
  | zero=>
   cases j with
   |zero=>rfl
   | succ j=>
    simp only [qN]at b;simp only [List.getD_cons_zero,List.getD_cons_succ]at e;exact absurd (e ▸ (by rw [nY,kX (by omega)];exact List.getElem_mem ..)) c
  | succ i=>
   cases j with
   | zero=>
    simp only [qN]at a;simp only [List.getD_cons_zero,List.getD_cons_succ]at e;exact absurd (e ▸ (by rw [nY,kX (by omega)];exact List.getElem_mem ..)) c
   | succ j=>
    simp only [qN]at a b;simp only [List.getD_cons_succ]at e;rw [aHC h.2 i j (by omega) (by omega) e]
theorem aCN {m:Nat}:∀ {l:List Nat},aRJ m l=true→∀i,i<l.length→m≤l.getD i 0
 | [],_,i,a=>by simp at a
 | x::b,h,i,a=>by
  simp only [aRJ,dS]at h;cases i with
  |zero=>simpa using Nat.le_of_ble_eq_true h.1
  |succ i=>simp only [qN]at a;simpa using aCN h.2 i (by omega)
theorem eK {nb:Nat}:∀ {l:List (Nat×AObj×Bool)},fZ nb l=true→∀p∈l,p.1<nb∧bY p.2.1= []
 | p::r,h,q,a=>by
  simp only [fZ,dS,dD,decide_eq_true_eq]at h;rcases zq7.1 a with rfl|a
  ·exact⟨h.1.1,aJh h.1.2⟩
  ·exact eK h.2 q a
theorem pK :∀ {l:List (Nat×AObj×Bool)},eY l→∀k o,(k,o,true) ∈l→o.kl
 | (b,c,true) ::r,h,k,o,a=>by
  rcases zq7.1 a with e|a
  ·cases e;exact h.1
  ·exact pK h.2 k o a
 | (b,c,false) ::r,h,k,o,a=>by
  rcases zq7.1 a with e|a
  ·cases e
  ·exact pK (l:=r) h k o a
theorem aHD {b:Nat→Nat}{tm:T AV}:∀ {l:List (Nat×AV)},slotsOf tm l=aRG b l→∀p∈l,tm.at p.1=some (AV.ren b p.2)
 | p::r,h,q,a=>by
  simp only [slotsOf,aRG,List.cons.injEq]at h;rcases zq7.1 a with rfl|a
  ·exact h.1
  ·exact aHD h.2 q a
theorem sR {a:Nat→Nat}{c:Hp}:∀ {l:List (Nat×AObj×Bool)},uL c a l=iK a l→∀p∈l,c.look (a p.1) =some (bif p.2.2 then p.2.1 else p.2.1.ren a)
 | p::r,h,q,b=>by
  simp only [uL,iK,List.cons.injEq]at h;rcases zq7.1 b with rfl|b
  ·exact h.1
  ·exact sR h.2 q b
theorem aEd {b:Nat→Nat}{E:Emb}{a:AFrame}{f:TF}(h:sumF a f=aFr b f){c:Frame}(r:FR E a c) :FR (E.ren b) f.fr c:=by
 simp only [sumF,aFr,SumF.mk.injEq]at h;obtain⟨q,z,x,y,k,s,A,u⟩ :=h;refine⟨r.fn.trans q,⟨r.tm.1.trans z,fun t v e=>?_⟩,aRF (show IRs E (f.todo.map (AItem.ren b)) c.todo by rw [←s];exact r.todo),?_,bFQ (show MR E (f.mode.ren b) c.mode by rw [←k];exact r.mode),r.kind.trans x,bFR (show RR E (f.roundOf.map b) c.roundOf by rw [←y];exact r.round)⟩
 · obtain⟨j,o,l⟩ :=r.tm.2 t (AV.ren b v) (aHD u (t,v) (aCM e));exact⟨j,o,(eO b E v j).1 l⟩
 · have i:=r.defers;rw [A]at i;have:∀ {g:List ADef} {ds:List Deferred},DRs E (g.map (ADef.ren b)) ds→DRs (E.ren b) g ds:=by
    intro g
    induction g with
    |nil=>intro ds h;simpa [DRs]using h
    | cons a g p=>
     intro ds h;obtain⟨d,w,rfl,n,m⟩ :=h.cons_inv;exact DRs.cons (bFP n) (p m)
   exact this i
theorem yZ {e:Nat→Nat}{E:Emb}:∀ {d:List AFrame} {fs:List TF},d.length=fs.length→aRH d fs=fs.map (aFr e) →∀ {b:List Frame},FRs E d b→FRs (E.ren e) (fs.map TF.fr) b
 | [],[],_,_,b,r=>by rw [r.nil_inv];rfl
 | a::d,f::fs,hl,h,b,r=>by
  simp only [aRH,eU,List.cons.injEq]at h;obtain⟨c,i,rfl,j,g⟩ :=r.cons_inv;exact FRs.cons (aEd h.1 j) (yZ (by simpa using hl) h.2 g)
 | [],_::_,hl,_,_,_=>by simp at hl
 |_::_,[],hl,_,_,_=>by simp at hl
theorem uM {m nb n1:Nat}{ks:List Nat}{b:Nat}(h:b<m) :fK m nb n1 ks b=b:=by simp [fK,dD,h]
theorem aEe {m nb n1:Nat}{ks:List Nat}{b:Nat}(h1:m≤b)(h2:b<nb) :fK m nb n1 ks b=ks.getD (b-m) 0:=by simp [fK,dD,h2,show ¬b<m by omega]
theorem aVU {m nb n1:Nat}{ks:List Nat}{b:Nat}(h1:m≤b)(h2:nb≤b) :fK m nb n1 ks b=n1+b:=by simp [fK,dD,show ¬b<m by omega,show ¬b<nb by omega]
theorem lX {m:Nat}{l:List (Nat×AObj×Bool)}{nb:Nat}{ks:List Nat}{h:Hp}(B:dH m ⟨⟨0,0,[],[],[],.run,.normal,none⟩,[],l,nb⟩ ks=true)(hh:uL h (fK m nb h.nb ks) l=iK (fK m nb h.nb ks) l)(t:eY l){E:Emb}{w:World}(r:Rel E h w.heap) :
  Rel (E.ren (fK m nb h.nb ks)) (aA l nb) w.heap∧ExtM m E h w (E.ren (fK m nb h.nb ks)) (aA l nb) w:=by
 simp only [dH,dS]at B;obtain⟨⟨⟨⟨Z,o2⟩,Y⟩,R⟩,O⟩ :=B;have hm:=Nat.le_of_ble_eq_true Z;have Q:=fM o2
 have a:∀ {b o},(aA l nb).look b=some o→b<nb∧bY o= [] ∧∃f,(b,o,f) ∈l∧h.look (fK m nb h.nb ks b) =some (bif f then o else o.ren (fK m nb h.nb ks)) :=fun {b o} e=>by
  have: (b,o) ∈l.map fun p=> (p.1,p.2.1) :=aCM e;obtain⟨p,D,N⟩ :=zq24.1 this;obtain⟨pb,po,pf⟩ :=p;cases N;exact⟨(eK O _ D).1,(eK O _ D).2,pf,D,sR hh _ D⟩
 have inj:∀ {b b'},b<nb→b'<nb→fK m nb h.nb ks b=fK m nb h.nb ks b'→b=b':=fun {b b'} h1 h2 e=>by
  rcases lt_or_ge b m with v|v
  · rw [uM v]at e;rcases lt_or_ge b' m with d|d
    ·rw [uM d]at e;exact e
    · rw [aEe d h2]at e;have:=aCN R (b'-m) (by omega);omega
  · rw [aEe v h1]at e;rcases lt_or_ge b' m with d|d
    · rw [uM d]at e;have:=aCN R (b-m) (by omega);omega
    · rw [aEe d h2]at e;have:=aHC Y _ _ (by omega) (by omega) e;omega
 refine⟨⟨fun b o e=>?_,fun b b' o H L M e e' k X I K=>?_,fun b hb=>?_,r.imm,fun b o L e k i G=>?_,fun b o e=> (a e).1⟩,
  ⟨fun b hb=>by show E.loc (fK m nb h.nb ks b) =E.loc b;rw [uM hb],fun _ _ e=>e,le_refl _,fun _ _ _=>rfl,fun b' H M e k i G _=>?_,hm,rfl,rfl,rfl,fun _ _=>rfl,fun _ _ e _=>.inl e,fun b o e hb=>?_⟩⟩
 · obtain⟨hb,j,f,s,c⟩ :=a e;cases f
   case true=>
    simp only [cond]at c;rcases r.obj0 _ _ c with u| ⟨L,v,d⟩
    ·exact .inl u
    ·exact .inr ⟨L,v,bEN (E:=E) (E':=E.ren (fK m nb h.nb ks)) rfl (pK t b o s) d⟩
   simp only [cond]at c;rcases r.obj0 _ _ c with⟨S,u2⟩ | ⟨L,v,d⟩
   · refine .inl ⟨?_,u2⟩;cases o with
     | lst e T=>cases T with
      |nil=>rfl
      |cons x T=>simp [AObj.ren,renL,kL]at S
     |_=>cases S
   ·exact .inr ⟨L,v,bFN d⟩
 · obtain⟨hb,j,f,s,c⟩ :=a e;obtain⟨A,C,W,J,y⟩ :=a e';have z:fK m nb h.nb ks b≠fK m nb h.nb ks b':=fun U=>K (inj hb A U);obtain⟨i,i1,i2⟩ :=I;have n:=r.kin _ _ _ _ L M c y k X ⟨i,yY i1,yY i2⟩ z
   have q:∀ (o:AObj) (f:Bool),(f=true→o.kl) →bY (bif f then o else o.ren (fK m nb h.nb ks)) = (bY o).map (fK m nb h.nb ks) ∧jF (bif f then o else o.ren (fK m nb h.nb ks)) =jF o∧nOf (bif f then o else o.ren (fK m nb h.nb ks)) =nOf o:=fun o f s=>by
    cases f
    case true=>cases o<;>first|exact⟨rfl,rfl,rfl⟩ |exact(s rfl).elim
    cases o<;>exact⟨rfl,rfl,rfl⟩
   obtain⟨a1,a2,a3⟩ :=q o f (fun F=>by subst F;exact pK t b o s);obtain⟨b1,V,b3⟩ :=q H W (fun F=>by subst F;exact pK t b' H J);unfold Kin at n;rw [a1,a2,a3,b1,V,b3,j,C]at n;rcases n with⟨g,_⟩ | ⟨g,_⟩ <;>simp at g
 · show E.loc (fK m nb h.nb ks b) =none;have hb:nb≤b:=hb;rw [aVU (by omega) hb];exact r.fresh _ (by omega)
 · obtain⟨hb,j,f,s,c⟩ :=a e;exact r.apart _ _ L c k i (yY G)
 · obtain⟨hb,j,f,s,c⟩ :=a e;exact⟨_,_,M,c,k,yY G⟩
 · obtain⟨A,j,f,s,c⟩ :=a e;rw [uM hb]at c;exact⟨_,c⟩
end
end
end Go.Hb
