/- A machine on abstract values, its soundness, ways, plain laws. -/
import Derived.Test.YtnljmgihoioocaaGreatHD
set_option linter.defProp false
set_option linter.unusedVariables false
set_option linter.unusedSimpArgs false
set_option linter.unusedSectionVars false
set_option maxRecDepth 100000
namespace Go.Hb
open AV (frzL frzOk keyless keylessL renL)
open List (mem_singleton_self replicate)
open Nat (beq beq_refl ble blt le_refl lt_or_ge)
noncomputable section
section
variable {P :Program}
theorem mem1 {p:Prop}{ps:List Prop}(h:∀q∈p::ps,q) :p:=h p (cN ..)
theorem dG {h:Hp}{tm:T AV}{o:Oper}{out:AOut}(h0:gU P h tm o=none)(h1:vop P h tm o=some out) :kE P h tm o=some out:=by unfold kE;rw [h0];exact h1
theorem uH {k:IntKind}{n:Int}{len:Nat}(h0:0≤n)(h1:n<len) :iQ (.int k n) len=some n.toNat:=by simp [iQ,h0,h1]
inductive Ans where
 |idx (y:AV)
 |ix
 |ev (v:AV)
 |look (r:Option (Nat×AV))
 |len (n:Int)
def aI4 (z:AV)(ok:Bool)(r:Option (Nat×AV)) :AV:=match r with
 |some (_,v) =>bif ok then .tup [v,.bool true]else v
 |none=>bif ok then .tup [z,.bool false]else z
def rU (P:Program)(h:Hp)(tm:T AV)(o:Oper)(a:Ans) :Option (AV×List Prop) :=
 match a with
 | .idx y=>match o.op with
  | .indexAddr t x i=>match bO tm x,bO tm i with
   |some (.ilst e xs _),some (.int _ n) =>bif aAc P t e then some (.iptr y.cells,[0≤n,xs[n.toNat]?=some y])else none
   |_,_=>none
  | .load t a=>match bO tm a with
   | some (.ep b e i k) =>match h.look b with
    | some (.lst e' xs) =>bif beq e' e then match aLd P t (y.cells.drop k)with
     |some v=>some (v,[xs[i]?=some y])
     |none=>none else none
    |_=>none
   |_=>none
  |_=>none
 | .ix=>match o.op with
  | .indexAddr t x i=>match bO tm x,bO tm i with
   |some (.gl b e off len _),some (.int _ n) =>bif aAc P t e then some (.ep b e (off+n.toNat) 0,[0≤n,n<len])else none
   |_,_=>none
  |_=>none
 | .ev v=>match o.op with
  | .slice t x lo hi mx=>match bO tm x,pU tm lo,pU tm hi,pU tm mx with
   |some a,some lo,some hi,some mx=>some (v,[∃l u m,gP lo=some l∧gP hi=some u∧gP mx=some m∧ (tJ P t a l u m=some v∨ (tJ P t a l u m=none∧aCB P t a l u m=some v))])
   |_,_,_,_=>none
  | .binOp op t x y _=>match bO tm x,bO tm y with
   |some a,some b=>some (v,[aN1 P op t a b (isLit x) (isLit y) =some v])
   |_,_=>none
  | .index t x i=>match bO tm x,bO tm i with
   | some (.str l n),some (.int _ k) =>match P.underlying t with
    |some .string=>some (v,[0≤k,k<l,.int .u8 (Nat.mod (Nat.div n (Nat.pow 256 k.toNat)) 256) =v])
    |_=>none
   |_,_=>none
  | .convert sr d x=>match bO tm x with
   | some (.slice b off len _ _ _) =>match P.underlying sr,P.underlying d,h.loadN b off len with
    | some (.slice e),some .string,some vs=>match P.underlying e with
     |some (.int .u8) =>some (v,[sE vs=some v])
     |_=>none
    |_,_,_=>none
   |_=>none
  |_=>none
 | .look r=>match o.op with
  | .lookup t x k ok=>match bO tm x,bO tm k with
   | some (.map b),some k=>match P.underlying t,h.look b with
    | some (.map kt et),some (.map es _) =>match P.underlying kt,zeroOf P et with
     |some kd,some z=>bif plainKey kd k then some (aI4 z ok r,[pR k es 0=some r])else none
     |_,_=>none
    |_,_=>none
   |_,_=>none
  |_=>none
 | .len n=>match o.op with
  | .call c=>match c.callee,hR tm c.args.toList,c.argTypes[0]? with
   | .builtin .len,some [.ilst _ xs _],some t=>match P.underlying t with
    |some (.slice _) =>some (.int .i64 n,[(xs.length:Int) =n])
    |_=>none
   |_,_,_=>none
  |_=>none
theorem pC {h:Hp}{tm:T AV}{o:Oper}{a:Ans}{v:AV}{ps:List Prop}(h0:rU P h tm o a=some (v,ps))(hp:∀p∈ps,p) :kE P h tm o=some (.val v h) :=by
 cases a with
 | idx y =>
  simp only [rU]at h0;split at h0
  · rename_i t x i hop;split at h0
    · rename_i e xs ex k n hx hi;cases hc:aAc P t e
      case false=>rw [hc]at h0;cases h0
      rw [hc]at h0;simp only [cond]at h0;cases h0;have q0:=hp _ (cN ..);have q1:=hp _ (cJ _ (cN ..));have hlt:= (zq0.1 q1).1;refine dG ?_ ?_
      ·simp only [gU,hop,ev2,hx,hi];split<;>simp_all
      ·simp only [vop,hop,ev2,hx,hi,hc,cond,uH q0 (show n< (xs.length:Int)by omega),q1]
    ·cases h0
  · rename_i t a hop;split at h0
    · rename_i b e i k ha;split at h0
      · rename_i e' xs hb;cases hc:beq e' e
        case false=>rw [hc]at h0;cases h0
        rw [hc]at h0;simp only [cond]at h0;split at h0
        · rename_i v' hv;cases h0;have q1:=mem1 hp;refine dG ?_ ?_
          ·simp only [gU,hop,vS,ha]
          ·simp only [vop,hop,vS,ha,hb,hc,cond,q1,val,hv]
        ·cases h0
      ·cases h0
    ·cases h0
  ·cases h0
 | ix =>
  simp only [rU]at h0;split at h0
  · rename_i t x i hop;split at h0
    · rename_i b e off len ex k n hx hi;cases hc:aAc P t e
      case false=>rw [hc]at h0;cases h0
      rw [hc]at h0;simp only [cond]at h0;cases h0;have q0:=hp _ (cN ..);have q1:=hp _ (cJ _ (cN ..));refine dG ?_ ?_
      ·simp only [gU,hop,ev2,hx,hi];split<;>simp_all
      ·simp only [vop,hop,ev2,hx,hi,hc,cond,uH q0 q1]
    ·cases h0
  ·cases h0
 | ev v0 =>
  simp only [rU]at h0;split at h0
  · rename_i t x lo hi mx hop;split at h0
    · rename_i a l1 l2 l3 hx e1 e2 e3;cases h0;obtain⟨l,u,m',d1,d2,d3,d4| ⟨d4,d5⟩⟩ :=mem1 hp
      ·unfold kE;simp only [gU,hop,vS,hx,e1,e2,e3,d1,d2,d3,d4,val]
      · refine dG ?_ ?_
        ·simp only [gU,hop,vS,hx,e1,e2,e3,d1,d2,d3,d4,val]
        ·simp only [vop,hop,vS,hx,e1,e2,e3,d1,d2,d3,d5,val]
    ·cases h0
  · rename_i op t x y yt hop;split at h0
    · rename_i a b hx hy;cases h0;have q:=mem1 hp;unfold kE;simp only [gU,hop,ev2,hx,hy,q,val]
    ·cases h0
  · rename_i t x i hop;split at h0
    · rename_i l n kk k hx hi;split at h0
      · rename_i hu;cases h0;have q1:=hp _ (cN ..);have q2:=hp _ (cJ _ (cN ..));have q3:=hp _ (cJ _ (cJ _ (cN ..)));unfold kE;simp only [gU,hop,ev2,hx,hi,hu,uH q1 q2,q3]
      ·cases h0
    ·cases h0
  · rename_i sr d x hop;split at h0
    · rename_i b off len cp ez ex hx;split at h0
      · rename_i e vs hs hd hl;split at h0
        · rename_i hu;cases h0;have q:=mem1 hp;unfold kE;simp only [gU,hop,vS,hx,vY,hs,hd,hl,hu,q,val]
        ·cases h0
      ·cases h0
    ·cases h0
  ·cases h0
 | look r =>
  simp only [rU]at h0;split at h0
  · rename_i t x k ok hop;split at h0
    · rename_i b kv hx hk;split at h0
      · rename_i kt et es clock hu hb;split at h0
        · rename_i kd z hkd hz;cases hc:plainKey kd kv
          case false=>rw [hc]at h0;cases h0
          rw [hc]at h0;simp only [cond]at h0;cases h0;have q:=mem1 hp;unfold kE;simp only [gU,hop,ev2,hx,hk,aD7,hu,hkd,hz,hc,cond,hb,q];cases r with
          |none=>cases ok<;>simp [val,aI4]
          |some p=>obtain⟨i,v⟩ :=p;cases ok<;>simp [val,aI4]
        ·cases h0
      ·cases h0
    ·cases h0
  ·cases h0
 | len n =>
  simp only [rU]at h0;split at h0
  · rename_i c hop;split at h0
    · rename_i e xs ex t hcal hargs ht;split at h0
      · rename_i el hu;cases h0;have q:=mem1 hp;subst q;refine dG ?_ ?_
        ·simp only [gU,hop,pW,hargs,hcal,eZ,ht,aZx,hu]
        ·simp only [vop,hop,hcal,hargs,ht,hu]
      ·cases h0
    ·cases h0
  ·cases h0
inductive RIns where
 |d
 |b (j:Nat) (v:Bool)
 |pure (v:AV)
 |ans (a:Ans)
 |call (v:AV) (h':Hp)
 |st (y y':AV)
 |app (zs:List AV) (n:Nat)
 |mput (es:List (AV×AV×Nat)) (clock:Nat)
 |mval (v:AV) (es:List (AV×AV×Nat)) (clock:Nat)
 |own (v:AV)
def aI5 (P:Program)(h:Hp)(tm:T AV)(o:Oper)(zs:List AV)(n:Nat) :Option (AV×Hp×List Prop) :=
 match o.op with
 | .call c=>match c.callee,hR tm c.args.toList,c.argTypes[0]?,c.argTypes[1]? with
  | .builtin .append,some [d,.ilst e1 ys ex],some st,some xt=>match P.underlying st,P.underlying xt with
   | some (.slice el),some (.slice _) =>match aX P el,P.info? el,zeroOf P el,P.underlying el with
    | some e,some inf,some z,some _=>bif (beq z.cells.length e&&ble e 40&&ble inf.bytes 1000&&ble 1 inf.bytes&&ble 1 e) &&beq e1 e then
      match d with
      | .nils=>some (.gl h.nb e 0 n false,h.new (.lst e zs),[n≤1000000,ys=zs,ys.length=n])
      | .gl b e' off len _=>match h.look b with
       | some (.lst e2 xs) =>bif beq e' e&&beq e2 e then
         some (.gl h.nb e 0 n false,(h.del b).new (.lst e zs),[off+len≤xs.length,n≤1000000,(xs.drop off).take len++ys=zs,len+ys.length=n])else none
       |_=>none
      | .ilst e2 (y::xs) true=>bif beq e2 e then some (.ilst e zs false,h,[keylessL ys=true,(y::xs).length+ys.length≤1000000,y::xs++ys=zs])else none
      |_=>none
      else none
    |_,_,_,_=>none
   |_,_=>none
  |_,_,_,_=>none
 |_=>none
def aI6 (P:Program)(h:Hp)(tm:T AV)(o:Oper)(zs:List AV)(n:Nat) :Option (AV×Hp×List Prop) :=
 match o.op with
 | .call c=>match c.callee,hR tm c.args.toList,c.argTypes[0]?,c.argTypes[1]? with
  | .builtin .append,some [.gl b e' off len _,x],some st,some xt=>match P.underlying st,P.underlying xt with
   | some (.slice el),some (.slice _) =>match aX P el,P.info? el,zeroOf P el with
    | some e,some inf,some z=>bif beq z.cells.length e&&ble e 40&&ble inf.bytes 1000&&ble 1 inf.bytes&&ble 1 e then
      match h.look b,lO P h el e x with
      | some (.lst e2 xs),some ys=>bif beq e' e&&beq e2 e then
         some (.gl h.nb e 0 n false,(h.del b).new (.lst e zs),[off+len≤xs.length,n≤1000000,(xs.drop off).take len++ys=zs,len+ys.length=n])else none
      |_,_=>none
      else none
    |_,_,_=>none
   |_,_=>none
  |_,_,_,_=>none
 |_=>none
def aI7 (P:Program)(h:Hp)(tm:T AV)(o:Oper)(zs:List AV)(n:Nat) :Option (AV×Hp×List Prop) :=
 match o.op with
 | .call c=>match c.callee,hR tm c.args.toList,c.argTypes[0]?,c.argTypes[1]? with
  | .builtin .append,some [d,.gl b2 e1 off2 len2 _],some st,some xt=>match P.underlying st,P.underlying xt with
   | some (.slice el),some (.slice _) =>match aX P el,P.info? el,zeroOf P el,P.underlying el,h.look b2 with
    | some e,some inf,some z,some _,some (.lst e3 ys) =>bif (beq z.cells.length e&&ble e 40&&ble inf.bytes 1000&&ble 1 inf.bytes&&ble 1 e) && (beq e1 e&&beq e3 e)then
      match d with
      | .nils=>some (.gl h.nb e 0 n false,h.new (.lst e zs),[off2+len2≤ys.length,n≤1000000,(ys.drop off2).take len2=zs,len2=n])
      | .gl b e' off len _=>match h.look b with
       | some (.lst e2 xs) =>bif beq e' e&&beq e2 e then
         some (.gl h.nb e 0 n false,(h.del b).new (.lst e zs),[off2+len2≤ys.length,off+len≤xs.length,n≤1000000,(xs.drop off).take len++ (ys.drop off2).take len2=zs,len+len2=n])else none
       |_=>none
      |_=>none
      else none
    |_,_,_,_,_=>none
   |_,_=>none
  |_,_,_,_=>none
 |_=>none
def aI8 (P:Program)(h:Hp)(tm:T AV)(o:Oper)(zs:List AV)(n:Nat) :Option (AV×Hp×List Prop) :=
 match o.op with
 | .call c=>match c.callee,hR tm c.args.toList,c.argTypes[0]?,c.argTypes[1]? with
  | .builtin .append,some [.nils,.int .i64 k],some st,some xt=>match P.underlying st,P.underlying xt with
   | some (.slice el),some (.int _) =>match aX P el,P.info? el,zeroOf P el with
    | some e,some inf,some z=>bif beq z.cells.length e&&ble e 40&&ble inf.bytes 1000&&ble 1 inf.bytes&&ble 1 e then
      some (.slice h.nb 0 n n e false,h.newCells zs,[k= (n:Int),0<n,n<100000,lL z.cells n=zs,dD zs=true])else none
    |_,_,_=>none
   |_,_=>none
  |_,_,_,_=>none
 |_=>none
def aI9 (P:Program)(h:Hp)(tm:T AV)(o:Oper)(zs:List AV)(n:Nat) :Option (AV×Hp×List Prop) :=
 match aI5 P h tm o zs n with
 |some r=>some r
 | none=>match aI7 P h tm o zs n with
  |some r=>some r
  | none=>match aI6 P h tm o zs n with
   |some r=>some r
   |none=>aI8 P h tm o zs n
theorem aVj {h:Hp}{ats:Array TypeId}{e:TypeId}{sz:Nat}{b e1 off len:Nat}{ex:Bool}:aBg P h ats e sz (.gl b e1 off len ex) =none:=by
 unfold aBg;split
 ·rfl
 ·split<;>simp_all
theorem xH {h:Hp}{ats:Array TypeId}{s:AV}{b e1 off len:Nat}{ex:Bool}:aappend P h ats s (.gl b e1 off len ex) =none:=by
 unfold aappend;simp only [aVj]
 repeat' split
 all_goals first|rfl| (simp_all;done)
theorem aHg {h:Hp}{ats:Array TypeId}{b e off len:Nat}{ex:Bool}{x:AV}:aappend P h ats (.gl b e off len ex) x=none:=by
 unfold aappend;simp only [cond_eq_ite]
 repeat' split
 all_goals first|rfl| (split<;>rfl)
theorem aOn {h:Hp}{ats:Array TypeId}{e:TypeId}{sz e1:Nat}{ys:List AV}{ex:Bool}:aBg P h ats e sz (.ilst e1 ys ex) =none:=by
 unfold aBg;split
 ·rfl
 ·split<;>simp_all
theorem oO {h:Hp}{ats:Array TypeId}{s:AV}{e1:Nat}{ys:List AV}{ex:Bool}:aappend P h ats s (.ilst e1 ys ex) =none:=by
 unfold aappend;simp only [aOn]
 repeat' split
 all_goals first|rfl| (simp_all;done)
theorem aHh {h h':Hp}{tm:T AV}{o:Oper}{zs:List AV}{n:Nat}{v:AV}{ps:List Prop}(h0:aI5 P h tm o zs n=some (v,h',ps))(hp:∀p∈ps,p) :kE P h tm o=some (.val v h') :=by
 unfold aI5 at h0;split at h0
 · rename_i c hop;split at h0
   · rename_i d e1 ys ex st xt hcal hargs hst hxt;split at h0
     · rename_i el el' hu hu';split at h0
       · rename_i e inf z dd hsz hinf hz hd;cases hc: (beq z.cells.length e&&ble e 40&&ble inf.bytes 1000&&ble 1 inf.bytes&&ble 1 e)
         case false=>rw [hc]at h0;cases h0
         cases he:beq e1 e
         case false=>rw [hc,he]at h0;cases h0
         rw [hc,he]at h0;simp only [Bool.and_true,cond]at h0;have hadd:lO P h el e (.ilst e1 ys ex) =some ys:=by
          simp only [lO,hd,he,cond]
         split at h0
         · cases h0;have q0:=hp _ (cN ..);have q1:=hp _ (cJ _ (cN ..));have q2:=hp _ (cJ _ (cJ _ (cN ..)));subst q1;subst q2;refine dG ?_ ?_
           ·simp only [gU,hop,pW,hargs,hcal,eZ,oO]
           · simp only [vop,hop,hcal,hargs,kP,hst,hxt,hu,hu',hsz,hinf,hz,hadd,hc,cond,aAE];rw [if_pos q0]
         · rename_i b e' off len ex';split at h0
           · rename_i e2 xs hb;cases hc2: (beq e' e&&beq e2 e)
             case false=>rw [hc2]at h0;cases h0
             rw [hc2]at h0;simp only at h0;cases h0;simp only [cM]at hc2;have ee1:=fN hc2.1;have ee2:=fN hc2.2;have y2:=hp _ (cN ..);have y3:=hp _ (cJ _ (cN ..));have y4:=hp _ (cJ _ (cJ _ (cN ..)));have y5:=hp _ (cJ _ (cJ _ (cJ _ (cN ..))));subst y4 y5;refine dG ?_ ?_
             ·simp only [gU,hop,pW,hargs,hcal,eZ,oO]
             · simp only [vop,hop,hcal,hargs,kP,hst,hxt,hu,hu',hsz,hinf,hz,hadd,hc,cond,hb,aAE];rw [if_pos ⟨ee1,ee2,y2,y3⟩]
           ·cases h0
         · rename_i e2 y xs;cases he2:beq e2 e
           case false=>rw [he2]at h0;cases h0
           rw [he2]at h0;simp only [cond]at h0;cases h0;have q0:=hp _ (cN ..);have q1:=hp _ (cJ _ (cN ..));have q2:=hp _ (cJ _ (cJ _ (cN ..)));subst q2;refine dG ?_ ?_
           ·simp only [gU,hop,pW,hargs,hcal,eZ,oO]
           · simp only [vop,hop,hcal,hargs,kP,hst,hxt,hu,hu',hsz,hinf,hz,hadd,hc,cond,aAE];rw [if_pos ⟨fN he2,q0,q1⟩]
         ·cases h0
       ·cases h0
     ·cases h0
   ·cases h0
 ·cases h0
theorem aHi {h h':Hp}{tm:T AV}{o:Oper}{zs:List AV}{n:Nat}{v:AV}{ps:List Prop}(h0:aI6 P h tm o zs n=some (v,h',ps))(hp:∀p∈ps,p) :kE P h tm o=some (.val v h') :=by
 unfold aI6 at h0;split at h0
 · rename_i c hop;split at h0
   · rename_i b e' off len ex x st xt hcal hargs hst hxt;split at h0
     · rename_i el el' hu hu';split at h0
       · rename_i e inf z hsz hinf hz;cases hc: (beq z.cells.length e&&ble e 40&&ble inf.bytes 1000&&ble 1 inf.bytes&&ble 1 e)
         case false=>rw [hc]at h0;cases h0
         rw [hc]at h0;simp only [cond]at h0;split at h0
         · rename_i e2 xs ys hb hadd;cases hc2: (beq e' e&&beq e2 e)
           case false=>rw [hc2]at h0;cases h0
           rw [hc2]at h0;simp only at h0;cases h0;simp only [cM]at hc2;have ee1:=fN hc2.1;have ee2:=fN hc2.2;have y2:=hp _ (cN ..);have y3:=hp _ (cJ _ (cN ..));have y4:=hp _ (cJ _ (cJ _ (cN ..)));have y5:=hp _ (cJ _ (cJ _ (cJ _ (cN ..))));subst y4 y5;refine dG ?_ ?_
           ·simp only [gU,hop,pW,hargs,hcal,eZ,aHg]
           · simp only [vop,hop,hcal,hargs,kP,hst,hxt,hu,hu',hsz,hinf,hz,hadd,hc,cond,hb,aAE];rw [if_pos ⟨ee1,ee2,y2,y3⟩]
         ·cases h0
       ·cases h0
     ·cases h0
   ·cases h0
 ·cases h0
theorem aHj {h h':Hp}{tm:T AV}{o:Oper}{zs:List AV}{n:Nat}{v:AV}{ps:List Prop}(h0:aI7 P h tm o zs n=some (v,h',ps))(hp:∀p∈ps,p) :kE P h tm o=some (.val v h') :=by
 unfold aI7 at h0;split at h0
 · rename_i c hop;split at h0
   · rename_i d b2 e1 off2 len2 ex st xt hcal hargs hst hxt;split at h0
     · rename_i el el' hu hu';split at h0
       · rename_i e inf z dd e3 ys hsz hinf hz hd hb2;cases hc: (beq z.cells.length e&&ble e 40&&ble inf.bytes 1000&&ble 1 inf.bytes&&ble 1 e)
         case false=>rw [hc]at h0;cases h0
         cases hc1: (beq e1 e&&beq e3 e)
         case false=>rw [hc,hc1]at h0;cases h0
         rw [hc,hc1]at h0;simp only [Bool.and_self,cond]at h0;simp only [cM]at hc1;have f1:=fN hc1.1;have f2:=fN hc1.2;split at h0
         · cases h0;have y1:=hp _ (cN ..);have y2:=hp _ (cJ _ (cN ..));have y3:=hp _ (cJ _ (cJ _ (cN ..)));have y4:=hp _ (cJ _ (cJ _ (cJ _ (cN ..))));have y5: ((ys.drop off2).take len2).length=n:=by simp;omega
           subst y3;refine dG ?_ ?_
           ·simp only [gU,hop,pW,hargs,hcal,eZ,xH]
           · have ha:lO P h el e (.gl b2 e1 off2 len2 ex) =some ((ys.drop off2).take len2) :=by
              unfold lO;subst f1 f2;simp only [hd,hb2,beq_refl,cond];rw [if_pos ⟨trivial,y1⟩]
             simp only [vop,hop,hcal,hargs,kP,hst,hxt,hu,hu',hsz,hinf,hz,ha,hc,cond,aAE];rw [if_pos (by omega),y5]
         · rename_i b e' off len ex2;split at h0
           · rename_i e2 xs hb;cases hc2: (beq e' e&&beq e2 e)
             case false=>rw [hc2]at h0;cases h0
             rw [hc2]at h0;simp only at h0;cases h0;simp only [cM]at hc2;have ee1:=fN hc2.1;have ee2:=fN hc2.2;have y1:=hp _ (cN ..);have y2:=hp _ (cJ _ (cN ..));have y3:=hp _ (cJ _ (cJ _ (cN ..)));have y4:=hp _ (cJ _ (cJ _ (cJ _ (cN ..))));have y5:=hp _ (cJ _ (cJ _ (cJ _ (cJ _ (cN ..)))));have y6: ((ys.drop off2).take len2).length=len2:=by simp;omega
             subst y4;refine dG ?_ ?_
             ·simp only [gU,hop,pW,hargs,hcal,eZ,xH]
             · have ha:lO P h el e (.gl b2 e1 off2 len2 ex) =some ((ys.drop off2).take len2) :=by
                unfold lO;subst f1 f2;simp only [hd,hb2,beq_refl,cond];rw [if_pos ⟨trivial,y1⟩]
               simp only [vop,hop,hcal,hargs,kP,hst,hxt,hu,hu',hsz,hinf,hz,ha,hc,cond,hb,aAE];rw [if_pos ⟨ee1,ee2,y2,by omega⟩,y6,y5]
           ·cases h0
         ·cases h0
       ·cases h0
     ·cases h0
   ·cases h0
 ·cases h0
theorem aHk {h h':Hp}{tm:T AV}{o:Oper}{zs:List AV}{n:Nat}{v:AV}{ps:List Prop}(h0:aI8 P h tm o zs n=some (v,h',ps))(hp:∀p∈ps,p) :kE P h tm o=some (.val v h') :=by
 unfold aI8 at h0;split at h0
 · rename_i c hop;split at h0
   · rename_i k st xt hcal hargs hst hxt;split at h0
     · rename_i el kk hu hu';split at h0
       · rename_i e inf z hsz hinf hz;cases hc: (beq z.cells.length e&&ble e 40&&ble inf.bytes 1000&&ble 1 inf.bytes&&ble 1 e)
         case false=>rw [hc]at h0;cases h0
         rw [hc]at h0;simp only [cond]at h0;cases h0;have y1:=hp _ (cN ..);have y2:=hp _ (cJ _ (cN ..));have y3:=hp _ (cJ _ (cJ _ (cN ..)));have y4:=hp _ (cJ _ (cJ _ (cJ _ (cN ..))));have y5:=hp _ (cJ _ (cJ _ (cJ _ (cJ _ (cN ..)))));subst y1 y4;have hc':=hc;simp only [cM]at hc';obtain⟨⟨⟨⟨c1,c2⟩,c3⟩,c4⟩,c5⟩ :=hc';have he:beq e 0=false:=by
          have:=Nat.le_of_ble_eq_true c5;cases q:beq e 0
          case false=>rfl
          have:=fN q;omega
         have hadd:aBg P h c.argTypes el e (.int .i64 (n:Int)) =some (lL z.cells n,n) :=by
          unfold aBg;rw [hxt];simp only [hu',hz];rw [if_pos ⟨by omega,by omega⟩];simp only [c1,he,Bool.not_false,Bool.and_true,cond,oY]
         have hn:beq n 0=false:=by
          cases q:beq n 0
          case false=>rfl
          have:=fN q;omega
         have hb:ble n 1000000=true:=Nat.ble_eq_true_of_le (by omega);unfold kE;have:gU P h tm o=some (.val (.slice h.nb 0 n n e false) (h.newCells (lL z.cells n))) :=by
          simp only [gU,hop,pW,hargs,hcal,eZ,aappend,hst,hu,hsz,hinf,hz,hadd,c1,c2,c3,c4,c5,y5,hb,hn,Bool.and_self,cond]
         rw [this]
       ·cases h0
     ·cases h0
   ·cases h0
 ·cases h0
theorem aBB {h h':Hp}{tm:T AV}{o:Oper}{zs:List AV}{n:Nat}{v:AV}{ps:List Prop}(h0:aI9 P h tm o zs n=some (v,h',ps))(hp:∀p∈ps,p) :kE P h tm o=some (.val v h') :=by
 unfold aI9 at h0;split at h0
 ·rename_i r hr;cases h0;exact aHh hr hp
 · split at h0
   ·rename_i r hr;cases h0;exact aHj hr hp
   · split at h0
     ·rename_i r hr;cases h0;exact aHi hr hp
     ·exact aHk h0 hp
def aAN (es:List (AV×AV×Nat))(clock:Nat)(k v:AV) :Option (List (AV×AV×Nat) ×Nat) :=
 match pR k es 0 with
 |some (some (i,_)) =>some (setE k v es i,clock)
 |some none=>some (es++ [(k,v,clock)],Nat.succ clock)
 |none=>none
def aOo (P:Program)(h:Hp)(tm:T AV)(o:Oper)(es':List (AV×AV×Nat))(clock':Nat) :Option (Hp×List Prop) :=
 match o.op with
 | .mapUpdate t m k x=>match bO tm m,bO tm k,bO tm x with
  | some (.map r),some kv,some v=>match P.underlying t,h.look r with
   | some (.map kt _),some (.map es clock) =>match P.underlying kt with
    |some kd=>bif plainKey kd kv then some (h.set r (.map es' clock'),[aAN es clock kv v=some (es',clock')])else none
    |none=>none
   |_,_=>none
  |_,_,_=>none
 |_=>none
theorem aJa {h h':Hp}{tm:T AV}{o:Oper}{es':List (AV×AV×Nat)}{clock':Nat}{ps:List Prop}(h0:aOo P h tm o es' clock'=some (h',ps))(hp:∀p∈ps,p) :kE P h tm o=some (.val .undef h') :=by
 unfold aOo at h0;split at h0
 · rename_i t m k x hop;split at h0
   · rename_i r kv v hm hk hx;split at h0
     · rename_i kt et es clock hu hb;split at h0
       · rename_i kd hkd;cases hc:plainKey kd kv
         case false=>rw [hc]at h0;cases h0
         rw [hc]at h0;simp only [cond]at h0;cases h0;have q:=hp _ (cN ..);unfold aAN at q;unfold kE;simp only [gU,hop,ev2,vS,hm,hk,hx,pS,hu,hkd,hb,hc,cond];split at q
         · rename_i i w hfk;cases q;simp only [hfk,aAj]
         · rename_i hfk;cases q;simp only [hfk,aAj]
         ·cases q
       ·cases h0
     ·cases h0
   ·cases h0
 ·cases h0
def aVk (es:List (AV×AV×Nat))(clock:Nat)(k z:AV) :Option (AV×List (AV×AV×Nat) ×Nat) :=
 match pR k es 0 with
 |some (some (i,v)) =>some (.tup [v,.int .i64 (aEN es i)],setE k v es i,clock)
 |some none=>some (.tup [z,.int .i64 clock],es++ [(k,z,clock)],Nat.succ clock)
 |none=>none
def aOp (P:Program)(h:Hp)(tm:T AV)(o:Oper)(v:AV)(es':List (AV×AV×Nat))(clock':Nat) :Option (Hp×List Prop) :=
 match o.op with
 | .mapEntry t m k=>match bO tm m,bO tm k with
  | some (.map r),some kv=>match P.underlying t,h.look r with
   | some (.map kt et),some (.map es clock) =>match P.underlying kt,zeroOf P et with
    |some kd,some z=>bif plainKey kd kv then some (h.set r (.map es' clock'),[aVk es clock kv z=some (v,es',clock')])else none
    |_,_=>none
   |_,_=>none
  |_,_=>none
 | .entryStore _ m s x=>match bO tm m,bO tm s,bO tm x with
  | some (.map r),some (.int _ n),some xv=>match h.look r with
   |some (.map es clock) =>some (h.set r (.map es' clock'),[0≤n,yK xv n.toNat es=some es',clock=clock',v= .undef])
   |_=>none
  |_,_,_=>none
 |_=>none
theorem aJb {h h':Hp}{tm:T AV}{o:Oper}{v:AV}{es':List (AV×AV×Nat)}{clock':Nat}{ps:List Prop}(h0:aOp P h tm o v es' clock'=some (h',ps))(hp:∀p∈ps,p) :kE P h tm o=some (.val v h') :=by
 unfold aOp at h0;split at h0
 · rename_i t m k hop;split at h0
   · rename_i r kv hm hk;split at h0
     · rename_i kt et es clock hu hb;split at h0
       · rename_i kd z hkd hz;cases hc:plainKey kd kv
         case false=>rw [hc]at h0;cases h0
         rw [hc]at h0;simp only [cond]at h0;cases h0;have q:=hp _ (cN ..);unfold aVk at q;unfold kE;simp only [gU,hop,ev2,vS,hm,hk,yL,hu,hkd,hb,hz,hc,cond];split at q
         · rename_i i w hfk;cases q;simp only [hfk,aAE]
         · rename_i hfk;cases q;simp only [hfk,aAE]
         ·cases q
       ·cases h0
     ·cases h0
   ·cases h0
 · rename_i t m s x hop;split at h0
   · rename_i r kk n xv hm hs hx;split at h0
     · rename_i es clock hb;cases h0;have q0:=hp _ (cN ..);have q1:=hp _ (cJ _ (cN ..));have q2:=hp _ (cJ _ (cJ _ (cN ..)));have q3:=hp _ (cJ _ (cJ _ (cJ _ (cN ..))));subst q2 q3;unfold kE;simp only [gU,hop,ev2,vS,hm,hs,hx,qS];rw [if_pos q0];simp only [hb,q1,aAj]
     ·cases h0
   ·cases h0
 ·cases h0
def aVl (P:Program)(h:Hp)(tm:T AV)(o:Oper)(y y':AV) :Option (Hp×List Prop) :=
 match o.op with
 | .store t a x=>match bO tm a,bO tm x with
  | some (.ep b e i k),some v=>match h.look b,aX P t with
   | some (.lst e' xs),some n=>bif beq e' e&&beq v.cells.length n&&ble (k+n) e&&dD v.cells then
     some (h.set b (.lst e (xs.set i y')),[xs[i]?=some y,kO y k v.cells=some y'])else none
   |_,_=>none
  |_,_=>none
 |_=>none
theorem aLu {h h':Hp}{tm:T AV}{o:Oper}{y y':AV}{ps:List Prop}(h0:aVl P h tm o y y'=some (h',ps))(hp:∀p∈ps,p) :kE P h tm o=some (.val .undef h') :=by
 unfold aVl at h0;split at h0
 · rename_i t a x hop;split at h0
   · rename_i b e i k v ha hx;split at h0
     · rename_i e' xs n hb hn;cases hc: (beq e' e&&beq v.cells.length n&&ble (k+n) e&&dD v.cells)
       case false=>rw [hc]at h0;cases h0
       rw [hc]at h0;simp only [cond]at h0;cases h0;have q0:=hp _ (cN ..);have q1:=hp _ (cJ _ (cN ..));refine dG ?_ ?_
       ·simp only [gU,hop,ev2,ha,hx]
       ·simp only [vop,hop,ev2,ha,hx,hb,hn,hc,cond,q0,q1]
     ·cases h0
   ·cases h0
 ·cases h0
abbrev Rec :=Nat×AIn×Hp×AV×Hp
theorem uI {α:Type}{v:α}:∀ (f k:Nat) (t:T α),1≤k→k<2 ^ f→t.get k=some v→T.setF (some v) f k t=t
 |0,k,t,h1,h2,_=>by simp at h2;omega
 |f+1,k,.leaf,_,_,h=>by cases h
 | f +1,k,.node l u r,h1,h2,h=>by
  rw [T.setF_node];rw [T.get_node]at h;have h2':k / 2<2 ^ f:=by rw [Nat.pow_succ]at h2;omega
  by_cases hk:k=1
  ·rw [if_pos hk]at h ⊢;rw [h]
  · rw [if_neg hk]at h ⊢;by_cases hm:k % 2=0
    ·rw [if_pos hm]at h ⊢;rw [uI f (k / 2) l (by omega) h2' h]
    ·rw [if_neg hm]at h ⊢;rw [uI f (k / 2) r (by omega) h2' h]
theorem put_eq {α:Type}{t:T α}{k:Nat}{v:α}(h:t.at k=some v) :t.put k v=t:=
 uI _ _ t (by simp) (by have:=aAI (k+1);simpa using this) h
def fP (P:Program)(nt:Nat)(ops:List Oper)(p:Plan)(i:RIns)(r:RS) :Option (RS×List Prop×List Rec) :=
 match i with
 | .d=>match lR P qB nt ops p r with
  |some r'=>some (r',[],[])
  |none=>none
 | .b _ _=>none
 | .pure v=>match bY r.tm ops p.o,p.kd with
  | some true,.eff=>
   match kE P (aN r.h r.s r.pend) r.tm p.o with
   | some (.call (.enter f args)) =>match iJ r.tm nt p.o.dst v with
    |some tm=>some ({r with tm,h:=aN r.h r.s r.pend,stages:=r.h::r.stages,s:=Nat.succ r.s},[aM P f args v],[(r.s,.enter f args,aN r.h r.s r.pend,v,aN r.h r.s r.pend)])
    |none=>none
   |_=>none
  |_,_=>none
 | .ans a=>match bY r.tm ops p.o,p.kd with
  | some true,.pure=>match rU P r.h r.tm p.o a with
   | some (v,ps) =>match iJ r.tm nt p.o.dst v with
    |some tm=>some ({r with tm},ps,[])
    |none=>none
   |none=>none
  | some true,.read=>match rU P r.h r.tm p.o a with
   | some (v,ps) =>match iJ r.tm nt p.o.dst v with
    |some tm=>some ({r with tm,again:=bif beq p.lo p.hi then r.again else⟨p.o,r.tm,p.lo,p.hi,v⟩ ::r.again},ps,[])
    |none=>none
   |none=>none
  |_,_=>none
 | .call v h'=>match bY r.tm ops p.o,p.kd with
  | some true,.eff=>
   match kE P (aN r.h r.s r.pend) r.tm p.o with
   | some (.call c) =>match iJ r.tm nt p.o.dst v with
    |some tm=>some ({r with tm,h:=h',stages:=r.h::r.stages,s:=Nat.succ r.s},[Spec P c (aN r.h r.s r.pend) (.ret v) h'],[(r.s,c,aN r.h r.s r.pend,v,h')])
    |none=>none
   |_=>none
  |_,_=>none
 | .st y y'=>match bY r.tm ops p.o,p.kd with
  | some true,.eff=>
   match aVl P (aN r.h r.s r.pend) r.tm p.o y y' with
   | some (h',ps) =>match iJ r.tm nt p.o.dst .undef with
    |some tm=>some ({r with tm,h:=h',stages:=r.h::r.stages,s:=Nat.succ r.s},ps,[])
    |none=>none
   |none=>none
  |_,_=>none
 | .mput es c=>match bY r.tm ops p.o,p.kd with
  | some true,.eff=>
   match aOo P (aN r.h r.s r.pend) r.tm p.o es c with
   | some (h',ps) =>match iJ r.tm nt p.o.dst .undef with
    |some tm=>some ({r with tm,h:=h',stages:=r.h::r.stages,s:=Nat.succ r.s},ps,[])
    |none=>none
   |none=>none
  |_,_=>none
 | .mval v es c=>match bY r.tm ops p.o,p.kd with
  | some true,.eff=>
   match aOp P (aN r.h r.s r.pend) r.tm p.o v es c with
   | some (h',ps) =>match iJ r.tm nt p.o.dst v with
    |some tm=>some ({r with tm,h:=h',stages:=r.h::r.stages,s:=Nat.succ r.s},ps,[])
    |none=>none
   |none=>none
  |_,_=>none
 | .app zs n=>match bY r.tm ops p.o,p.kd with
  | some true,.eff=>
   match aI9 P (aN r.h r.s r.pend) r.tm p.o zs n with
   | some (v,h',ps) =>match iJ r.tm nt p.o.dst v with
    |some tm=>some ({r with tm,h:=h',stages:=r.h::r.stages,s:=Nat.succ r.s},ps,[])
    |none=>none
   |none=>none
  |_,_=>none
 | .own v=>match bY r.tm ops p.o,p.kd with
  | some true,.read=>
   match kE P r.h r.tm p.o,sG P r.tm r.pend p.hi p.o with
   | none,some vs=>match iJ r.tm nt p.o.dst v with
    |some tm=>some ({r with tm},[sE vs=some v],[])
    |none=>none
   |_,_=>none
  |_,_=>none
def iD (P:Program)(nt:Nat)(ops:List Oper) :List RIns→List Plan→RS→Option (RS×List Prop×List Rec)
 | [],[],r=>some (r,[],[])
 | .b j v::is,ps,r=>match r.tm.at j with
  | some (.bool b) =>match iD P nt ops is ps {r with tm:=r.tm.put j (.bool v)} with
   |some (r',qs,rs) =>some (r',(b=v) ::qs,rs)
   |none=>none
  |_=>none
 | i::is,p::ps,r=>match fP P nt ops p i r with
  |none=>none
  | some (r1,qs,rs) =>match iD P nt ops is ps r1 with
   |none=>none
   |some (r2,qs2,rs2) =>some (r2,qs++qs2,rs++rs2)
 |_,_,_=>none
def keysOf :List Rec→List Nat
 | [] =>[]
 |r::rs=>r.1::keysOf rs
def aFh :List Nat→Bool
 | [] =>true
 |k::ks=> !(wB k ks) &&aFh ks
def aJc (P:Program)(a:Again)(h:Hp) :Option Ans→List Prop
 | none=>[match kE P h a.tm a.o with
  |some (.val v _) =>v=a.v
  |_=>False]
 | some an=>match rU P h a.tm a.o an with
  |some (v,ps) => (v=a.v) ::ps
  |none=>[False]
def lJ (P:Program)(a:Again)(oa:Option Ans) :List Hp→Nat→List Prop
 | [],_=>[]
 | h::hs,k=>bif ble a.lo k&&ble k a.hi then aJc P a h oa++lJ P a oa hs (k-1)
  else lJ P a oa hs (k-1)
def yT (P:Program)(hs:List Hp)(k:Nat) :List Again→List (Option Ans) →List Prop
 | [],_=>[]
 |a::aS,[] =>lJ P a none hs k++yT P hs k aS []
 |a::aS,oa::os=>lJ P a oa hs k++yT P hs k aS os
theorem aJd {a:Again}{h:Hp}{oa:Option Ans}(h0:∀p∈aJc P a h oa,p) :∃hx,kE P h a.tm a.o=some (.val a.v hx) :=by
 cases oa with
 | none=>
  have:=h0 _ (mem_singleton_self _);split at this
  ·rename_i v hx hv;exact⟨hx,by rw [hv,this]⟩
  ·exact this.elim
 | some an=>
  simp only [aJc]at h0;split at h0
  · rename_i v ps hv;have e:v=a.v:=h0 _ (cN ..);subst e;exact⟨h,pC hv (fun p hp=>h0 p (cJ _ hp))⟩
  ·exact(h0 _ (mem_singleton_self _)).elim
theorem mV {a:Again}{oa:Option Ans}:∀ {hs:List Hp} {k:Nat},(∀p∈lJ P a oa hs k,p) →∀ (x:Nat) (h:Hp),hs[x]?=some h→x≤k→a.lo≤k-x→k-x≤a.hi→∃hx,kE P h a.tm a.o=some (.val a.v hx)
 | [],k,_,x,h,hx,_,_,_=>by simp at hx
 | y::ys,k,h0,x,h,hx,hk,h1,h2=>by
  simp only [lJ]at h0;cases x with
  | zero=>
   simp at hx;subst hx;rw [Nat.sub_zero]at h1 h2;simp only [iY,h1,h2,decide_true,Bool.and_self,cond]at h0;exact aJd (fun p hp=>h0 p (aEO _ hp))
  | succ x=>
   have hx':ys[x]?=some h:=by simpa using hx
   refine mV (oa:=oa) (k:=k-1) (fun p hp=>h0 p ?_) x h hx' (by omega) (by omega) (by omega);cases (ble a.lo k&&ble k a.hi)
   case true=>exact aIz _ hp
   exact hp
theorem uJ {hs:List Hp}{k:Nat}:∀ {aS:List Again} {os:List (Option Ans)},(∀p∈yT P hs k aS os,p) →yS P hs k aS
 | [],_,_=>fun a ha=>by cases ha
 | b::aS,[],h0=>fun a ha=>by
  simp only [yT]at h0;cases ha with
  |head=>exact mV (fun p hp=>h0 p (aEO _ hp))
  |tail _ ha=>exact uJ (os:=[]) (fun p hp=>h0 p (aIz _ hp)) a ha
 | b::aS,oa::os,h0=>fun a ha=>by
  simp only [yT]at h0;cases ha with
  |head=>exact mV (fun p hp=>h0 p (aEO _ hp))
  |tail _ ha=>exact uJ (os:=os) (fun p hp=>h0 p (aIz _ hp)) a ha
def aEb (P:Program)(nt:Nat)(ops:Array Oper)(tm:T AV)(h:Hp)(is:List RIns)(os:List (Option Ans)) :Option (T AV×Hp×List Prop) :=
 let pl:=kG ops
 bif pl.ok then
  match iD P nt pl.ops is pl.plans {tm,h:={h with nb:=h.nb+pl.fresh},stages:=[],s:=0,pend:=[],next:=h.nb,again:=[]} with
  | some (r,ps,rs) =>bif aFh (keysOf rs)then
    some (r.tm,aN r.h r.s r.pend,ps++yT P (r.h::r.stages) r.s r.again os)else none
  |none=>none
 else none
open Classical in
def aLv (rs:List Rec) :bQ:=fun k c h=>match rs.find? (fun r=>beq r.1 k)with
 |some r=>if r.2.1=c∧r.2.2.1=h then some r.2.2.2 else none
 |none=>none
theorem aHJ :∀ {rs:List Rec},aFh (keysOf rs) =true→∀r∈rs,aLv rs r.1 r.2.1 r.2.2.1=some r.2.2.2
 | r0 ::rs,hn,r,hr=>by
  simp only [keysOf,aFh,cM,Bool.not_eq_true']at hn;unfold aLv;rw [List.find?_cons];rcases zq7.1 hr with rfl|hr'
  ·simp
  · have hne:beq r0.1 r.1=false:=by
     cases hb:beq r0.1 r.1
     case false=>rfl
     have e:=fN hb;exfalso;have:wB r0.1 (keysOf rs) =true:=by
      rw [e];clear hn hr hb e
      induction rs with
      |nil=>cases hr'
      | cons x xs ih=>
       simp only [keysOf,wB,Bool.or_eq_true];rcases zq7.1 hr' with rfl|h
       ·exact .inl (by simp)
       ·exact .inr (ih h)
     rw [this]at hn;cases hn.1
    rw [hne];exact aHJ hn.2 r hr'
theorem aLw {rs:List Rec}(h0:∀r∈rs,Spec P r.2.1 r.2.2.1 (.ret r.2.2.2.1) r.2.2.2.2) :eJ P (aLv rs) :=fun k c h v h' e=>by
 unfold aLv at e;split at e
 · rename_i r hr;split at e
   · rename_i hc;obtain⟨rfl,rfl⟩ :=hc;have:=h0 r (List.mem_of_find?_eq_some hr);simp only [Option.some.injEq]at e;rw [e]at this;exact this.sound
   ·cases e
 ·cases e
theorem aJe {call:bQ}{nt:Nat}{ops:List Oper}{p:Plan}{r r':RS}(h0:lR P qB nt ops p r=some r') :lR P call nt ops p r=some r':=by
 unfold lR at h0 ⊢;split at h0
 ·cases h0
 ·rename_i hw;exact h0
 · rename_i hw;split at h0
   ·exact h0
   ·exact h0
   ·exact h0
   · simp only at h0 ⊢;split at h0
     ·exact h0
     · rename_i c hv;simp only [qB]at h0;cases h0
     ·cases h0
theorem aJf {call:bQ}{nt:Nat}{ops:List Oper}{p:Plan}{i:RIns}{r r':RS}{ps:List Prop}{rs:List Rec}(h0:fP P nt ops p i r=some (r',ps,rs))(hp:∀q∈ps,q)(hc:∀x∈rs,call x.1 x.2.1 x.2.2.1=some x.2.2.2) :lR P call nt ops p r=some r':=by
 cases i with
 | d=>
  simp only [fP]at h0;split at h0
  ·rename_i r1 h1;cases h0;exact aJe h1
  ·cases h0
 |b j v=>cases h0
 | pure v=>
  simp only [fP]at h0;split at h0
  · rename_i hw hk;split at h0
    · rename_i f args ha;split at h0
      · rename_i tm htm;cases h0;have:=hc _ (mem_singleton_self _);simp only at this;simp only [lR,hw,hk,ha,this,htm]
      ·cases h0
    ·cases h0
  ·cases h0
 | ans a =>
  simp only [fP]at h0;split at h0
  · rename_i hw hk;split at h0
    · rename_i v qs hv;split at h0
      · rename_i tm htm;cases h0;simp only [lR,hw,hk,pC hv hp,htm]
      ·cases h0
    ·cases h0
  · rename_i hw hk;split at h0
    · rename_i v qs hv;split at h0
      · rename_i tm htm;cases h0;simp only [lR,hw,hk,pC hv hp,htm]
      ·cases h0
    ·cases h0
  ·cases h0
 | call v h'=>
  simp only [fP]at h0;split at h0
  · rename_i hw hk;split at h0
    · rename_i c ha;split at h0
      · rename_i tm htm;cases h0;have:=hc _ (mem_singleton_self _);simp only at this;simp only [lR,hw,hk,ha,this,htm]
      ·cases h0
    ·cases h0
  ·cases h0
 | st y y'=>
  simp only [fP]at h0;split at h0
  · rename_i hw hk;split at h0
    · rename_i h' qs hv;split at h0
      · rename_i tm htm;cases h0;simp only [lR,hw,hk,aLu hv hp,htm]
      ·cases h0
    ·cases h0
  ·cases h0
 | mput es c=>
  simp only [fP]at h0;split at h0
  · rename_i hw hk;split at h0
    · rename_i h' qs hv;split at h0
      · rename_i tm htm;cases h0;simp only [lR,hw,hk,aJa hv hp,htm]
      ·cases h0
    ·cases h0
  ·cases h0
 | mval v es c=>
  simp only [fP]at h0;split at h0
  · rename_i hw hk;split at h0
    · rename_i h' qs hv;split at h0
      · rename_i tm htm;cases h0;simp only [lR,hw,hk,aJb hv hp,htm]
      ·cases h0
    ·cases h0
  ·cases h0
 | app zs n=>
  simp only [fP]at h0;split at h0
  · rename_i hw hk;split at h0
    · rename_i v h' qs hv;split at h0
      · rename_i tm htm;cases h0;simp only [lR,hw,hk,aBB hv hp,htm]
      ·cases h0
    ·cases h0
  ·cases h0
 | own v =>
  simp only [fP]at h0;split at h0
  · rename_i hw hk;split at h0
    · rename_i vs ha hvs;split at h0
      · rename_i tm htm;cases h0;simp only [lR,hw,hk,ha,hvs,mem1 hp,htm]
      ·cases h0
    ·cases h0
  ·cases h0
theorem rV {call:bQ}{nt:Nat}{ops:List Oper}:∀ {is:List RIns} {pl:List Plan} {r r':RS} {ps:List Prop} {rs:List Rec},iD P nt ops is pl r=some (r',ps,rs) → (∀q∈ps,q) → (∀x∈rs,call x.1 x.2.1 x.2.2.1=some x.2.2.2) →oK P call nt ops pl r=some r'
 | [],[],r,r',ps,rs,h0,_,_=>by simp only [iD]at h0;cases h0;rfl
 | [],_::_,_,_,_,_,h0,_,_=>by simp [iD]at h0
 | i :: is,pl,r,r',ps,rs,h0,hp,hc=>by
  by_cases hb:∃j v,i= .b j v
  · obtain⟨j,v,rfl⟩ :=hb;simp only [iD]at h0;split at h0
    · rename_i b hj;split at h0
      · rename_i r1 qs rs1 h1;cases h0;have:=mem1 hp;subst this;rw [put_eq hj]at h1;exact rV h1 (fun q hq=>hp q (cJ _ hq)) hc
      ·cases h0
    ·cases h0
  · cases pl with
    |nil=>cases i<;>simp [iD]at h0<;>exact absurd ⟨_,_,rfl⟩ hb
    | cons p pl=>
     have h0': (match fP P nt ops p i r with
      |none=>none
      | some (r1,qs,rs) =>match iD P nt ops is pl r1 with
       |none=>none
       |some (r2,qs2,rs2) =>some (r2,qs++qs2,rs++rs2)) =some (r',ps,rs) :=by
      cases i<;>first|exact h0|exact absurd ⟨_,_,rfl⟩ hb
     split at h0'
     ·cases h0'
     · rename_i r1 qs rs1 h1;split at h0'
       ·cases h0'
       · rename_i r2 qs2 rs2 h2;cases h0';simp only [oK,aJf (call:=call) h1 (fun q hq=>hp q (aEO _ hq)) (fun x hx=>hc x (aEO _ hx))];exact rV h2 (fun q hq=>hp q (aIz _ hq)) (fun x hx=>hc x (aIz _ hx))
theorem uK {nt:Nat}{ops:List Oper}:∀ {is:List RIns} {pl:List Plan} {r r':RS} {ps:List Prop} {rs:List Rec},iD P nt ops is pl r=some (r',ps,rs) → (∀q∈ps,q) →∀x∈rs,Spec P x.2.1 x.2.2.1 (.ret x.2.2.2.1) x.2.2.2.2
 | [],[],r,r',ps,rs,h0,_=>by simp only [iD]at h0;cases h0;intro x hx;cases hx
 | [],_::_,_,_,_,_,h0,_=>by simp [iD]at h0
 | i :: is, pl, r, r',ps,rs,h0,hp=>by
  by_cases hb:∃j v,i= .b j v
  · obtain⟨j,v,rfl⟩ :=hb;simp only [iD]at h0;split at h0
    · split at h0
      · rename_i r1 qs rs1 h1;cases h0;exact uK h1 (fun q hq=>hp q (cJ _ hq))
      ·cases h0
    ·cases h0
  · cases pl with
    |nil=>cases i<;>simp [iD]at h0<;>exact absurd ⟨_,_,rfl⟩ hb
    | cons p pl =>
     have h0': (match fP P nt ops p i r with
      |none=>none
      | some (r1,qs,rs) =>match iD P nt ops is pl r1 with
       |none=>none
       |some (r2,qs2,rs2) =>some (r2,qs++qs2,rs++rs2)) =some (r',ps,rs) :=by
      cases i<;>first|exact h0|exact absurd ⟨_,_,rfl⟩ hb
     split at h0'
     ·cases h0'
     · rename_i r1 qs rs1 h1;split at h0'
       ·cases h0'
       · rename_i r2 qs2 rs2 h2;cases h0';intro x hx;rcases zq28.1 hx with g|g
         · cases i with
           | d=>
            simp only [fP]at h1;split at h1
            ·cases h1;cases g
            ·cases h1
           |b j v=>cases h1
           | pure v=>
            simp only [fP]at h1;split at h1
            · split at h1
              · rename_i f args ha;split at h1
                · cases h1;rw [zq32]at g;subst g;exact hp _ (aEO _ (mem_singleton_self _)) _
                ·cases h1
              ·cases h1
            ·cases h1
           | ans a=>
            simp only [fP]at h1;split at h1
            · split at h1
              · split at h1
                ·cases h1;cases g
                ·cases h1
              ·cases h1
            · split at h1
              · split at h1
                ·cases h1;cases g
                ·cases h1
              ·cases h1
            ·cases h1
           | call v h'=>
            simp only [fP]at h1;split at h1
            · split at h1
              · rename_i c ha;split at h1
                · cases h1;rw [zq32]at g;subst g;exact hp _ (aEO _ (mem_singleton_self _))
                ·cases h1
              ·cases h1
            ·cases h1
           | app zs n=>
            simp only [fP]at h1;split at h1
            · split at h1
              · split at h1
                ·cases h1;cases g
                ·cases h1
              ·cases h1
            ·cases h1
           | mval v es c=>
            simp only [fP]at h1;split at h1
            · split at h1
              · split at h1
                ·cases h1;cases g
                ·cases h1
              ·cases h1
            ·cases h1
           | mput es c=>
            simp only [fP]at h1;split at h1
            · split at h1
              · split at h1
                ·cases h1;cases g
                ·cases h1
              ·cases h1
            ·cases h1
           | own v=>
            simp only [fP]at h1;split at h1
            · split at h1
              · split at h1
                ·cases h1;cases g
                ·cases h1
              ·cases h1
            ·cases h1
           | st y y'=>
            simp only [fP]at h1;split at h1
            · split at h1
              · split at h1
                ·cases h1;cases g
                ·cases h1
              ·cases h1
            ·cases h1
         ·exact uK h2 (fun q hq=>hp q (aIz _ hq)) x g
theorem aBC {m:Nat}{s:AS}{id:Nat}{ops:Array Oper}{k:List AItem}(hm:s.fr.mode= .run)(htd:s.fr.todo= .code (.region id ops true) ::k){is:List RIns}{os:List (Option Ans)}{tm:T AV}{h':Hp}{ps:List Prop}(h0:aEb P s.fr.nt ops s.fr.tm s.h is os=some (tm,h',ps))(hp:∀p∈ps,p) :
  LeadsM P m s ⟨{s.fr with tm,todo:=k},s.cs,h'⟩ :=by
 unfold aEb at h0;simp only at h0;cases hok: (kG ops).ok
 case false=>rw [hok]at h0;cases h0
 rw [hok]at h0;simp only [cond]at h0;split at h0
 · rename_i r qs rs hr;cases hn:aFh (keysOf rs)
   case false=>rw [hn]at h0;cases h0
   rw [hn]at h0;simp only at h0;cases h0;have hq:∀q∈qs,q:=fun q hq=>hp q (aEO _ hq);have hst:=rV (call:=aLv rs) hr hq (aHJ hn);have hck:yS P (r.h::r.stages) r.s r.again:=uJ (fun q hq=>hp q (aIz _ hq));intro hm0 E fr ccs w base f fs rl;obtain⟨afr,cs,h⟩ :=s;simp only at hm htd hr hst f fs rl ⊢;have e:=f.run hm;generalize fr.fn=fn at e;generalize fr.tmps=tmps at e;generalize fr.todo=todo at e;generalize fr.defers=ds at e;generalize fr.kind=kd at e;generalize fr.roundOf=ro at e;subst e;have ft:=f.todo;simp only [htd]at ft;obtain⟨i,ck,e1,i1,i2⟩ :=ft.cons_inv;subst e1;simp only [IR]at i1;subst i1;obtain⟨E',w',tmps',s1,t1,r1,x1⟩ :=aAu (aLw (uK hr hq)) hok hst hck rl f.tm id fn ds kd ro ck (ccs++base);exact⟨E',_,ccs,w',s1,⟨f.fn,t1,i2.mono x1.le,f.defers.mono x1.le,by simp only [hm];exact rfl,f.kind,f.round.mono x1.le⟩,fs.mono x1.le,r1,x1.toM hm0⟩
 ·cases h0
theorem aBD :∀ (l:List AV) (t:T AV) (i:Nat),(∀j,j<l.length→t.at (i+j) =l[j]?) →getCells t i l.length=some l
 | [],_,_,_=>rfl
 | a::aS,t,i,h=>by
  have h0:=h 0 (by simp);simp only [Nat.add_zero,jP]at h0;simp only [oI,getCells,h0]
  rw [aBD aS t (Nat.succ i) (fun j hj=>by
   have:=h (j+1) (by simp;omega);rw [show Nat.succ i+j=i+ (j+1)by omega,this];simp)]
theorem aFi (g:Bool){zc:List AV}{e:Nat}(he:zc.length=e) :∀n,vT g e n (lL zc n) =replicate n (bif g then .agg zc else zc.headD .undef)
 |0=>rfl
 | n+1=>by
  have h1: (zc++lL zc n).take e=zc:=by rw [←he,List.take_left]
  have h2: (zc++lL zc n).drop e=lL zc n:=by rw [←he,List.drop_left]
  rw [lL,vT,h1,h2,aFi g he n,List.replicate_succ];congr 1;cases g
  case true=>rfl
  have rn:∀n,lL ([] :List AV) n= [] :=fun n=>by
   induction n with
   |zero=>rfl
   |succ n ih=>simpa [lL]using ih
  cases zc with
  |nil=>simp [rn]
  |cons z zs=>rfl
theorem aDx {zc:List AV}(h:dD zc=true) :∀n,dD (lL zc n) =true
 |0=>rfl
 | n +1=>by
  have app:∀ (xs ys:List AV),dD xs=true→dD ys=true→dD (xs++ys) =true:=by
   intro xs
   induction xs with
   |nil=>intro ys _ h;exact h
   | cons x xs ih=>
    intro ys h1 h2;simp only [dD,cM]at h1;simp only [aAb,dD,cM];exact⟨h1.1,ih ys h1.2 h2⟩
  exact app _ _ h (aDx h n)
end
section
variable {P :Program}
theorem aRg {E:Emb}{h:Hp}{H:Array Obj}(r:Rel E h H){b e:Nat}{u:Value}{xs:List AV}(hb:h.look b=some (.lstv u e xs)) :VR E (.gl b e 0 xs.length false) u:=by
 obtain⟨L,hE,C,k,i,n,j,m,l,o,a,c,g,d,f⟩ :=r.obj b _ hb;simp only [VR];exact .inr ⟨L,a,c,hE,g,d,fun e=> (by cases e),fun hc=>by have:=f hc;exact⟨by omega,this.2⟩⟩
theorem Rel.unview {E:Emb}{h:Hp}{H:Array Obj}(r:Rel E h H){b e:Nat}{u:Value}{xs:List AV}(hb:h.look b=some (.lstv u e xs)) :Rel E (h.set b (.lst e xs)) H:=
 r.reobj hb rfl (fun L i=>by
  obtain⟨C,d,a,g,c,k,f,j,_⟩ :=r.objL hb i;exact⟨C,d,a,g,c,k,f,j⟩) rfl rfl rfl
theorem aFj {m:Nat}{h:Hp}{b e o l:Nat}:m≤h.nb→oU m h h (.gl b e o l true) (.gl b e o l false) :=fun hm E w r=>
 ⟨E,Emb.le.refl E,r,ExtM.refl hm,fun k f=>by
  simp only [VR]at f ⊢;rcases f with c| ⟨L,a,d,c,i,g,_,j⟩
  ·exact .inl c
  ·exact .inr ⟨L,a,d,c,i,g,(fun e=>by cases e),j⟩⟩
theorem aLx {m:Nat}{h:Hp}{e:Nat}{xs:List AV}:m≤h.nb→oU m h h (.ilst e xs true) (.ilst e xs false) :=fun hm E w r=>
 ⟨E,Emb.le.refl E,r,ExtM.refl hm,fun t g=>by
  simp only [VR]at g ⊢;obtain⟨s,j,p,i⟩ :=g;refine⟨s,j,p,?_⟩;rcases i with⟨d,a,n,b,c,q⟩ | ⟨k,o,f,C,d,b,c,q,l⟩
  ·exact .inl ⟨d,a,n,b,c,(fun e=>by cases e)⟩
  ·exact .inr ⟨k,o,f,C,d,b,c,(fun e=>by cases e),l⟩⟩
theorem aBE {m:Nat}{h:Hp}{b e:Nat}{u:Value}{xs:List AV}(hb:h.look b=some (.lstv u e xs)) :m≤h.nb→oU m h (h.set b (.lst e xs)) (.val u) (.gl b e 0 xs.length false) :=fun hm E w r=>
 ⟨E,Emb.le.refl E,r.unview hb,jT (ExtM.refl hm) hb,fun c a=>by
  simp only [VR]at a;subst a;exact aRg r hb⟩
theorem aVm {m:Nat}{E E':Emb}{h h1 h2:Hp}{w w':World}(x:ExtM m E h w E' h1 w')(c:∀b o,h2.look b=some o→h1.look b=some o)(d:h2.nb=h1.nb) :ExtM m E h w E' h2 w':=
 ⟨x.low,x.imm,x.size,x.keep,fun i f g e k a=>x.own i f g (c _ _ e) k a,by rw [d];exact x.nb,x.os,x.tape,x.output,x.froz,x.immo,fun b o e hb=>x.keys b o (c _ _ e) hb⟩
theorem aOq {m:Nat}{fr:AFrame}{cs:List AFrame}{h:Hp}{b e o j:Nat}{u:Value}{xs c ys:List AV}(hb:h.look b=some (.lstv u e xs))(I:h.look o=some (.lst j c))(p:o≠b)(hz:c≠ [])(hk:keylessL xs=true)
  (H:∀ (E:Emb) (d:List Value),VR E (.ilst e xs false) u→VRs E c d→VRs E ys d) :LeadsM P m ⟨fr,cs,h⟩ ⟨fr,cs,(h.del b).set o (.lst j ys)⟩ :=fun hm E O l w v f fs r=>by
 have A:=r.unview hb;have n: (h.set b (.lst e xs)).look b=some (.lst e xs) :=by rw [aY,if_pos rfl]
 have k:frzOk b e xs xs (.gl b e 0 xs.length false) :=by
  simp only [frzOk];intro _;simp
 obtain⟨i,g,Q,D,K⟩ :=sP (m:=m) n hk k hm E w A;have N:VR i (.ilst e xs false) u:=by
  have:=K u (by
   have:=aRg r hb;exact this)
  simpa [AV.frz]using this
 have same:∀x ob,(h.del b).look x=some ob→ ((h.set b (.lst e xs)).del b).look x=some ob:=fun x ob e=>by
  rw [lU]at e ⊢;split at e
  ·cases e
  ·rename_i s;rw [if_neg s,aY,if_neg s];exact e
 have t:Rel i (h.del b) w.heap:=Q.sub same (le_refl _);have G:ExtM m E h w i (h.del b) w:=aVm ((jT (ExtM.refl hm) hb).trans D) same rfl;have a: (h.del b).look o=some (.lst j c) :=by rw [lU,if_neg p];exact I
 have q:kH (.lst j c) =false:=by
  cases c with
  |nil=>exact absurd rfl hz
  |cons _ _=>rfl
 refine⟨i,O,l,w,Steps.refl _ _,f.mono g,fs.mono g,t.reobj a q (fun L M=>?_) rfl rfl rfl,jT G a⟩;obtain⟨C,J,d,B,y,R,z,F⟩ :=t.objL a M;exact⟨C,J,d,B,y,H i d N R,z,F⟩
theorem aVn {m:Nat}{fr:AFrame}{cs:List AFrame}{h:Hp}{b e:Nat}{xs ys:List AV}(hb:h.look b=some (.lst e xs))(hz:xs≠ [])
  (p:∀ (E:Emb) (a:List Value),VRs E xs a→VRs E ys a) :LeadsM P m ⟨fr,cs,h⟩ ⟨fr,cs,h.set b (.lst e ys)⟩ :=fun hm E q c w g f fs r=>by
 have d:kH (.lst e xs) =false:=by
  cases xs with
  |nil=>exact absurd rfl hz
  |cons _ _=>rfl
 refine⟨E,q,c,w,Steps.refl _ _,f,fs,r.reobj hb d (fun L n=>?_) rfl rfl rfl,jT (ExtM.refl hm) hb⟩;obtain⟨C,j,a,l,i,s,k,o⟩ :=r.objL hb n;exact⟨C,j,a,l,i,p E a s,k,o⟩
theorem aSL {m:Nat}{fr:AFrame}{cs:List AFrame}{h:Hp}{j b e n:Nat}{ex:Bool}{xs:List AV}{i:Res}{h':Hp}(J:fr.tm.at j=some (.gl b e 0 n ex))(hb:h.look b=some (.lst e xs))(s:xs.length=n)(Y:0<n)
  (hk:∀q x y,Ends P m ⟨{fr with tm:=fr.tm.put j (.val (Value.slice q x y))},cs,h.set b (.lstv (Value.slice q x y) e xs)⟩ i h') :Ends P m ⟨fr,cs,h⟩ i h':=fun hm E cf l w f fs r S k=>by
 obtain⟨cv,A,u⟩ :=f.tm.2 _ _ J;simp only [VR]at u;rcases u with⟨z,_⟩ | ⟨L,a,d,hE,rfl,h1,_,Q⟩
 ·omega
 · have p:kH (.lst e xs) =false:=by
    cases xs with
    |nil=>simp at s;omega
    |cons _ _=>rfl
   have W:FR E {fr with tm:=fr.tm.put j (.val (.slice (some ⟨L.blk,a,none⟩) n d))} cf:=by
    refine⟨f.fn,⟨f.tm.1,fun t v e=>?_⟩,f.todo,f.defers,f.mode,f.kind,f.round⟩;rw [T.at_put]at e;split at e
    · rename_i I;cases e;subst I;exact⟨_,A,by simp only [VR]⟩
    ·exact f.tm.2 t v e
   have U:Rel E (h.set b (.lstv (.slice (some ⟨L.blk,a,none⟩) n d) e xs)) w.heap:=r.reobj hb p (fun Z c=>by
    obtain⟨C,R,N,F,B,X,D,H⟩ :=r.objL hb c;rw [hE]at c;cases c;exact⟨C,R,N,F,B,X,D,H,a,d,by rw [s],by omega,fun hc=>by have:=Q hc;exact⟨by omega,this.2⟩⟩) rfl rfl rfl
   obtain⟨o,O,M,V,g,K,G⟩ :=hk _ _ _ hm E cf l w W fs U S k;exact⟨o,O,M,V,g,K,(jT (ExtM.refl hm) hb).trans G⟩
theorem aVo {m:Nat}{fr:AFrame}{cs:List AFrame}{h:Hp}{j e:Nat}{ex:Bool}{xs:List AV}{g:Res}{h':Hp}(A:fr.tm.at j=some (.ilst e xs ex))
  (h1:xs= [] →Ends P m ⟨{fr with tm:=fr.tm.put j .nils},cs,h⟩ g h')
  (h2:∀a n c,Ends P m ⟨{fr with tm:=fr.tm.put j (.val (.slice (some a) n c))},cs,h⟩ g h') :Ends P m ⟨fr,cs,h⟩ g h':=fun hm E cf d w f fs r l b=>by
 obtain⟨B,p,o⟩ :=f.tm.2 _ _ A
 have put:∀ {v:AV},VR E v B→FR E {fr with tm:=fr.tm.put j v} cf:=fun {v} hv=>by
  refine⟨f.fn,⟨f.tm.1,fun t s e=>?_⟩,f.todo,f.defers,f.mode,f.kind,f.round⟩;rw [T.at_put]at e;split at e
  · rename_i y;cases e;subst y;exact⟨_,p,hv⟩
  ·exact f.tm.2 t s e
 simp only [VR]at o;obtain⟨D,u,q⟩ :=o;rcases q.2 with⟨rfl,a,i,rfl,F,_⟩ | ⟨k,a,i,C,rfl,_⟩
 · have z:xs= [] :=by
    cases xs with
    |nil=>rfl
    |cons x xs=>simp [VRs]at u
   cases a with
   | none=>
    have:=F rfl;subst this;exact h1 z hm E cf d w (put (by simp only [VR])) fs r l b
   |some a=>exact h2 a 0 i hm E cf d w (put (by simp only [VR])) fs r l b
 ·exact h2 ⟨k,a,none⟩ D.length i hm E cf d w (put (by simp only [VR])) fs r l b
def KL (es:List (AV×AV×Nat)) :Prop:=∀e∈es,keyless e.1=true∧keyless e.2.1=true
theorem aVp {E E':Emb}(he:E.imm=E'.imm) :∀ {a:List (AV×AV×Nat)} {f:List MapEntry},KL a→ERs E a f→ERs E' a f
 | [],_,_,r=>by simpa [ERs]using r
 | e::a,_,hk,r=>by
  simp only [ERs]at r ⊢;obtain⟨u,b,j,m,i,g,n⟩ :=r;have h:E.p=E'.p:=by simp [Emb.p,he]
  have k:=hk e (cN ..);have d:=eO k.1 m;have c:=eO k.2 i;rw [h]at d c;exact⟨u,b,j,VR.of_p d,VR.of_p c,g,aVp he (fun x l=>hk x (cJ _ l)) n⟩
theorem aJg {m:Nat}{fr:AFrame}{cs:List AFrame}{h:Hp}{b c j:Nat}{g a:List (AV×AV×Nat)}{k v:AV}(hb:h.look b=some (.map a j))(he:a=g++ [(k,v,c)])(hc:j=Nat.succ c)(hk:KL g) :
  LeadsM P m ⟨fr,cs,h⟩ ⟨fr,cs,h.set b (.mapx g c k v)⟩ :=fun hm E q d w i f fs r=>by
 refine⟨E,q,d,w,Steps.refl _ _,f,fs,r.reobj hb rfl (fun L p=>?_) rfl rfl rfl,jT (ExtM.refl hm) hb⟩;obtain⟨l,o,n⟩ :=r.objL hb p;subst he hc;exact⟨l,o,n,fun t s u e=>aVp e hk⟩
theorem aOr {m:Nat}{fr:AFrame}{cs:List AFrame}{h h1:Hp}{b c:Nat}{g:List (AV×AV×Nat)}{k v v':AV}(hb:h.look b=some (.mapx g c k v))(d:h1.look b=some (.mapx g c k v))(y:m≤h.nb→oU m h h1 v v')(G:keyless k=true) :
  LeadsM P m ⟨fr,cs,h⟩ ⟨fr,cs,h1.set b (.map (g++ [(k,v',c)]) (Nat.succ c))⟩ :=fun hm E H e w l f fs r=>by
 obtain⟨J,a,B,z,i⟩ :=y hm E w r;refine⟨J,H,e,w,Steps.refl _ _,f.mono a,fs.mono a,B.reobj d rfl (fun L C=>?_) rfl rfl rfl,jT z d⟩;obtain⟨K,hE,p,q,o,O⟩ :=r.obj _ _ hb rfl;have:=a.1 _ _ hE;rw [C]at this;cases this;refine⟨p,q,?_⟩;obtain⟨N,M,F,A,n⟩ :=ERs.split o;rw [F];refine ERs.join (A.mono a) ?_;simp only [ERs]at n ⊢;obtain⟨u,j,x,s,t,I,D⟩ :=n;exact⟨u,j,x,s.mono a,i _ t,I,D⟩
theorem aOs {m:Nat}{fr:AFrame}{cs:List AFrame}{h h1:Hp}{k e:Nat}{xs ys:List AV}(hb:h.look k=some (.lst e xs))(b:h1.look k=some (.lst e xs))(hz:xs≠ [])(q:m≤h.nb→oU m h h1 (.tup xs) (.tup ys)) :
  LeadsM P m ⟨fr,cs,h⟩ ⟨fr,cs,h1.set k (.lst e ys)⟩ :=fun hm E z d w j f fs r=>by
 obtain⟨A,a,v,s,i⟩ :=q hm E w r;have c:kH (.lst e xs) =false:=by
  cases xs with
  |nil=>exact absurd rfl hz
  |cons _ _=>rfl
 refine⟨A,z,d,w,Steps.refl _ _,f.mono a,fs.mono a,v.reobj b c (fun L x=>?_) rfl rfl rfl,jT s b⟩;obtain⟨D,hE,C,u,g,o,l,B,n,p⟩ :=r.obj _ _ hb c;have:=a.1 _ _ hE;rw [x]at this;cases this;refine⟨C,u,g,o,l,?_,n,p⟩;have:=i (.tuple ⟨g⟩) (by simp only [VR];exact⟨g,rfl,B⟩);simp only [VR]at this;obtain⟨F,y,t⟩ :=this;cases y;exact t
section
variable (P :Program)
inductive Ins where
 |run (n:Nat)
 |b (j:Nat) (v:Bool)
 |set (j:Nat) (v:AV)
 |call (v:AV) (h':Hp)
 |callP (ch:List (AV×Bool)) (h':Hp)
 |ans (a:Ans)
 |st (y y':AV)
 |app (zs:List AV) (n:Nat)
 |nilL (j e:Nat)
 |nilI (j e:Nat)
 |frz (j b:Nat) (ys:List AV)
 |cnil (k o e:Nat)
 |cnilI (k o e:Nat)
 |cfrz (k o b:Nat) (ys:List AV)
 |toL (j:Nat) (g:Bool) (cs:List AV)
 |cset (k o:Nat) (v:AV)
 |ctoL (k o:Nat) (g:Bool) (cs:List AV)
 |lset (b:Nat) (xs:List AV)
 |pure (v:AV)
 |throws (ch:List (AV×Bool))
 |mk (n:Nat)
 |reg (is:List RIns)
 |regA (is:List RIns) (os:List (Option Ans))
 |nxt (c d:Nat)
 |nxtE
 |mput (es:List (AV×AV×Nat)) (clock:Nat)
 |mset (b:Nat) (es:List (AV×AV×Nat)) (clock:Nat)
 |lkeep (b:Nat) (js:List Nat)
 |unname (j b:Nat)
 |weak (j:Nat)
 |cweak (k o:Nat)
 |vfrz (b o:Nat) (ys:List AV)
 |lw (b:Nat) (ys:List AV)
 |lfrz (k b:Nat) (ys:List AV)
 |mclose (b:Nat) (es:List (AV×AV×Nat)) (c:Nat) (k v:AV)
 |mfrz (b n:Nat) (ys:List AV)
 |appN (zs:List AV) (n:Nat)
def VQ (u:Value)(e:Nat)(xs zs ys:List AV) :Prop:=∀ (E:Emb) (vs:List Value),VR E (.ilst e xs false) u→VRs E zs vs→VRs E ys vs
def VW (xs ys:List AV) :Prop:=∀ (E:Emb) (vs:List Value),VRs E xs vs→VRs E ys vs
def mK (s:AS) :Option Oper:=
 match s.fr.mode,s.fr.todo with
 | .run,.ops all _ (o::_) ::_=>match bY s.fr.tm all.toList o with
  |some true=>some o
  |_=>none
 |_,_=>none
def aCP (s:AS)(v:AV)(h':Hp)(obl:List Prop) :Option (AS×List Prop) :=
 match s.fr.finish v with
 |some fr=>some (⟨fr,s.cs,h'⟩,obl)
 |none=>none
def aFk {α:Type}(t:T α) :List Nat→List (Nat×α)
 | [] =>[]
 | j::js=>match t.at j with
  |some v=> (j,v) ::aFk t js
  |none=>aFk t js
def aJh {α:Type}:List (Nat×α) →T α
 | [] =>.leaf
 |p::r=> (aJh r).put p.1 p.2
def xstep (P :Program)(i:Ins)(s:AS) :Option (AS×List Prop) :=
 match i with
 | .run n=>match nL P qB n s with
  |some s'=>some (s',[])
  |none=>none
 | .b j v=>match s.fr.tm.at j with
  |some (.bool b) =>some (⟨{s.fr with tm:=s.fr.tm.put j (.bool v)},s.cs,s.h⟩,[b=v])
  |_=>none
 | .set j v=>match s.fr.tm.at j with
  |some u=>some (⟨{s.fr with tm:=s.fr.tm.put j v},s.cs,s.h⟩,[u=v])
  |none=>none
 | .cset k o v=>match s.h.look k with
  | some (.cells t n ol sup) =>match t.at o with
   |some u=>some (⟨s.fr,s.cs,s.h.set k (.cells (t.put o v) n ol sup)⟩,[u=v])
   |none=>none
  |_=>none
 | .lset b xs=>match s.h.look b with
  |some (.lst e ys) =>some (⟨s.fr,s.cs,s.h.set b (.lst e xs)⟩,[ys=xs])
  |_=>none
 | .call v h'=>match mK s with
  | some o=>match kE P s.h s.fr.tm o with
   |some (.call c) =>aCP s v h' [Spec P c s.h (.ret v) h']
   |_=>none
  |none=>none
 | .callP ch h'=>match mK s with
  | some o=>match kE P s.h s.fr.tm o with
   |some (.call c) =>some (⟨s.fr.raise ch,s.cs,h'⟩,[Spec P c s.h (.pan ch) h'])
   |_=>none
  |none=>none
 | .ans a=>match mK s with
  | some o=>match rU P s.h s.fr.tm o a with
   |some (v,ps) =>aCP s v s.h ps
   |none=>none
  |none=>none
 | .pure v=>match mK s with
  | some o=>match kE P s.h s.fr.tm o with
   |some (.call (.enter f args)) =>aCP s v s.h [aM P f args v]
   |_=>none
  |none=>none
 | .throws ch=>match mK s with
  | some o=>match kE P s.h s.fr.tm o with
   |some (.call (.enter f args)) =>some (⟨s.fr.raise ch,s.cs,s.h⟩,[bEz P f args ch])
   |_=>none
  |none=>none
 | .mk n =>match mK s with
  | some o=>match o.op,o.dst with
   | .makeSlice t l c,some d=>match bO s.fr.tm l,bO s.fr.tm c with
    | some (.int _ l),some (.int _ c) =>match P.underlying t with
     | some (.slice el) =>match aX P el,zeroOf P el,P.info? el,P.underlying el with
      | some e,some z,some inf,some ed=>bif ble e 40&&ble 1 e&&beq z.cells.length e&&ble inf.bytes 1000&&dD z.cells&& (isAggD ed||beq e 1)then
        match s.fr.finish (.gl s.h.nb e 0 n true)with
        |some fr=>some (⟨fr,s.cs,s.h.new (.lst e (replicate n (bif isAggD ed then .agg z.cells else z.cells.headD .undef)))⟩,[l= (n:Int),c= (n:Int),n<100000])
        |none=>none else none
      |_,_,_,_=>none
     |_=>none
    |_,_=>none
   |_,_=>none
  |none=>none
 | .reg is=>match s.fr.mode,s.fr.todo with
  | .run,.code (.region _ ops true) ::k=>match aEb P s.fr.nt ops s.fr.tm s.h is []with
   |some (tm,h',ps) =>some (⟨{s.fr with tm,todo:=k},s.cs,h'⟩,ps)
   |none=>none
  |_,_=>none
 | .regA is os=>match s.fr.mode,s.fr.todo with
  | .run,.code (.region _ ops true) ::k=>match aEb P s.fr.nt ops s.fr.tm s.h is os with
   |some (tm,h',ps) =>some (⟨{s.fr with tm,todo:=k},s.cs,h'⟩,ps)
   |none=>none
  |_,_=>none
 | .nxt c d=>match mK s with
  | some o=>match o.op with
   | .next it true=>match bO s.fr.tm it with
    | some (.ptr r 0) =>match s.h.look r with
     |some (.siter l n pos) =>aCP s (.tup [.bool true,.int .i64 pos,.int .i32 c]) (s.h.set r (.siter l n (Nat.add pos d))) [pos<l,aN3 l n pos=some (c,d)]
     |_=>none
    |_=>none
   |_=>none
  |none=>none
 | .nxtE=>match mK s with
  | some o=>match o.op with
   | .next it true=>match bO s.fr.tm it with
    | some (.ptr r 0) =>match s.h.look r with
     |some (.siter l n pos) =>aCP s (.tup [.bool false]) s.h [l≤pos]
     |_=>none
    |_=>none
   |_=>none
  |none=>none
 | .mput es' clock'=>match mK s with
  | some o=>match o.op with
   | .mapUpdate t m k x=>match bO s.fr.tm m,bO s.fr.tm k,bO s.fr.tm x with
    | some (.map r),some k,some v=>match P.underlying t,s.h.look r with
     | some (.map kt _),some (.map es clock) =>match P.underlying kt with
      |some kd=>bif plainKey kd k then aCP s .undef (s.h.set r (.map es' clock')) [aAN es clock k v=some (es',clock')]else none
      |none=>none
     |_,_=>none
    |_,_,_=>none
   |_=>none
  |none=>none
 | .mset b es' clock'=>match s.h.look b with
  |some (.map es clock) =>some (⟨s.fr,s.cs,s.h.set b (.map es' clock')⟩,[es=es',clock=clock'])
  |_=>none
 | .st y y'=>match mK s with
  | some o=>match o.op with
   | .store t a x=>match bO s.fr.tm a,bO s.fr.tm x with
    | some (.ep b e i k),some v=>match s.h.look b,aX P t with
     | some (.lst e' xs),some n=>bif beq e' e&&beq v.cells.length n&&ble (k+n) e&&dD v.cells then
       match s.fr.finish .undef with
       |some fr=>some (⟨fr,s.cs,s.h.set b (.lst e (xs.set i y'))⟩,[xs[i]?=some y,kO y k v.cells=some y'])
       |none=>none else none
     |_,_=>none
    |_,_=>none
   |_=>none
  |none=>none
 | .app zs n =>match mK s with
  | some o => match o.op with
   | .call c =>match c.callee,hR s.fr.tm c.args.toList,c.argTypes[0]?,c.argTypes[1]? with
    | .builtin .append,some [d,x],some st,some xt=>match P.underlying st,P.underlying xt with
     | some (.slice el),some (.slice _) =>match aX P el,P.info? el,zeroOf P el with
      | some e,some inf,some z=>bif beq z.cells.length e&&ble e 40&&ble inf.bytes 1000&&ble 1 inf.bytes&&ble 1 e then
       match d with
       | .gl b e' off len _=>match s.h.look b with
        | some (.lst e2 xs) =>bif beq e' e&&beq e2 e then
          match x with
          | .gl b2 e1 off2 len2 _=>match s.h.look b2,P.underlying el with
           | some (.lst e3 ys),some _=>bif beq e1 e&&beq e3 e then
             aCP s (.gl s.h.nb e 0 n false) ((s.h.del b).new (.lst e zs)) [off2+len2≤ys.length,off+len≤xs.length,n≤1000000,(xs.drop off).take len++ (ys.drop off2).take len2=zs,len+len2=n]else none
           |_,_=>none
          | x=>match lO P s.h el e x with
           |some ys=>aCP s (.gl s.h.nb e 0 n false) ((s.h.del b).new (.lst e zs)) [off+len≤xs.length,n≤1000000,(xs.drop off).take len++ys=zs,len+ys.length=n]
           |none=>none
          else none
        |_=>none
       | .ilst e' [] true=>bif beq e' e then match lO P s.h el e x with
        |some ys=>aCP s (.gl s.h.nb e 0 n false) (s.h.new (.lst e zs)) [n≤1000000,ys=zs,ys.length=n]
        |none=>none
        else none
       |_=>none
       else none
      |_,_,_=>none
     |_,_=>none
    |_,_,_,_=>none
   |_=>none
  |none=>none
 | .nilL j e=>match s.fr.tm.at j with
  |some .nils=>some (⟨{s.fr with tm:=s.fr.tm.put j (.gl s.h.nb e 0 0 false)},s.cs,s.h.new (.lst e [])⟩,[])
  |_=>none
 | .nilI j e=>match s.fr.tm.at j with
  |some .nils=>some (⟨{s.fr with tm:=s.fr.tm.put j (.ilst e [] true)},s.cs,s.h⟩,[])
  |_=>none
 | .frz j b ys=>match s.fr.tm.at j,s.h.look b with
  |some v,some (.lst e xs) =>some (⟨{s.fr with tm:=s.fr.tm.put j (AV.frz b ys v)},s.cs,s.h.del b⟩,[keylessL xs=true,frzOk b e xs ys v])
  |_,_=>none
 | .cnil k o e=>match s.h.look k with
  | some (.cells t n ol sup) =>match t.at o with
   |some .nils=>bif blt k s.h.nb then some (⟨s.fr,s.cs,(s.h.new (.lst e [])).set k (.cells (t.put o (.gl s.h.nb e 0 0 false)) n ol sup)⟩,[])else none
   |_=>none
  |_=>none
 | .cnilI k o e=>match s.h.look k with
  | some (.cells t n ol sup) =>match t.at o with
   |some .nils=>some (⟨s.fr,s.cs,s.h.set k (.cells (t.put o (.ilst e [] true)) n ol sup)⟩,[])
   |_=>none
  |_=>none
 | .cfrz k o b ys=>bif beq k b then none else match s.h.look k,s.h.look b with
  | some (.cells t n ol sup),some (.lst e xs) =>match t.at o with
   |some v=>some (⟨s.fr,s.cs,(s.h.del b).set k (.cells (t.put o (AV.frz b ys v)) n ol sup)⟩,[keylessL xs=true,frzOk b e xs ys v])
   |none=>none
  |_,_=>none
 | .lkeep b js=>match s.h.look b with
  |some (.loop st pe fn tm nt ps aS bd df) =>some (⟨s.fr,s.cs,s.h.set b (.loop st pe fn (aJh (aFk tm js)) nt ps aS bd df)⟩,[])
  |_=>none
 | .cweak k o=>match s.h.look k with
  | some (.cells t n ol sup) =>match t.at o with
   |some (.gl b e off l true) =>some (⟨s.fr,s.cs,s.h.set k (.cells (t.put o (.gl b e off l false)) n ol sup)⟩,[])
   |some (.ilst e xs true) =>some (⟨s.fr,s.cs,s.h.set k (.cells (t.put o (.ilst e xs false)) n ol sup)⟩,[])
   |_=>none
  |_=>none
 | .weak j=>match s.fr.tm.at j with
  |some (.gl b e o l true) =>some (⟨{s.fr with tm:=s.fr.tm.put j (.gl b e o l false)},s.cs,s.h⟩,[])
  |_=>none
 | .unname j b=>match s.fr.tm.at j,s.h.look b with
  |some (.val u),some (.lstv u' e xs) =>some (⟨{s.fr with tm:=s.fr.tm.put j (.gl b e 0 xs.length false)},s.cs,s.h.set b (.lst e xs)⟩,[u=u'])
  |_,_=>none
 | .vfrz b o ys=>match s.h.look b,s.h.look o with
  |some (.lstv u e xs),some (.lst eo zs) =>bif beq o b then none else some (⟨s.fr,s.cs,(s.h.del b).set o (.lst eo ys)⟩,[zs≠ [],keylessL xs=true,VQ u e xs zs ys])
  |_,_=>none
 | .mclose b es c k v=>match s.h.look b with
  |some (.map es' c') =>some (⟨s.fr,s.cs,s.h.set b (.mapx es c k v)⟩,[es'=es++ [(k,v,c)],c'=Nat.succ c,KL es])
  |_=>none
 | .mfrz b n ys=>bif beq b n then none else match s.h.look b,s.h.look n with
  |some (.mapx es c k v),some (.lst e xs) =>some (⟨s.fr,s.cs,(s.h.del n).set b (.map (es++ [(k,AV.frz n ys v,c)]) (Nat.succ c))⟩,[keyless k=true,keylessL xs=true,frzOk n e xs ys v])
  |_,_=>none
 | .appN zs n=>match mK s with
  | some o=>match aI9 P s.h s.fr.tm o zs n with
   |some (v,h',ps) =>aCP s v h' ps
   |none=>none
  |none=>none
 | .lfrz k b ys=>bif beq k b then none else match s.h.look k,s.h.look b with
  |some (.lst e xs),some (.lst e1 zs) =>some (⟨s.fr,s.cs,(s.h.del b).set k (.lst e (frzL b ys xs))⟩,[xs≠ [],keylessL zs=true,AV.frzOkL b e1 zs ys xs])
  |_,_=>none
 | .lw b ys=>match s.h.look b with
  |some (.lst e xs) =>some (⟨s.fr,s.cs,s.h.set b (.lst e ys)⟩,[xs≠ [],VW xs ys])
  |_=>none
 | .toL j g cs=>match s.fr.tm.at j with
  | some (.slice b 0 n c e x) =>match s.h.look b with
   | some (.cells t _ [] false) =>bif g||beq e 1 then
     some (⟨{s.fr with tm:=s.fr.tm.put j (.gl b e 0 n (x&&beq c n))},s.cs,s.h.set b (.lst e (vT g e n cs))⟩,[getCells t 0 (n*e) =some cs,dD cs=true])else none
   |_=>none
  |_=>none
 | .ctoL k o g cs=>match s.h.look k with
  | some (.cells t n ol sup) =>match t.at o with
   | some (.slice b 0 n2 c e x) =>bif beq k b then none else match s.h.look b with
    | some (.cells t2 _ [] false) =>bif g||beq e 1 then
      some (⟨s.fr,s.cs,(s.h.set b (.lst e (vT g e n2 cs))).set k (.cells (t.put o (.gl b e 0 n2 (x&&beq c n2))) n ol sup)⟩,[getCells t2 0 (n2*e) =some cs,dD cs=true])else none
    |_=>none
   |_=>none
  |_=>none
def rD (P:Program) :List Ins→AS→Option (AS×List Prop)
 | [],s=>some (s,[])
 | i::is,s=>match xstep P i s with
  |none=>none
  | some (s',ps) =>match rD P is s' with
   |none=>none
   |some (s'',qs) =>some (s'',ps++qs)
end
def AllP :List Prop→Prop
 | [] =>True
 | [p] =>p
 |p::ps=>p∧AllP ps
theorem AllP.mem :∀ {b:List Prop},AllP b→∀p∈b,p
 | [p],h,q,a=>by rw [zq32]at a;rw [a];exact h
 | p::c::b,h,q,a=>by
  rcases zq7.1 a with rfl|a
  ·exact h.1
  ·exact AllP.mem h.2 q a
theorem iU {call:bQ}{s:AS}{o:Oper}(a:mK s=some o){v:AV}{h':Hp}(f:kE P s.h s.fr.tm o=some (.val v h')){fr:AFrame}(b:s.fr.finish v=some fr) :lT P call s=some ⟨fr,s.cs,h'⟩ :=by
 obtain⟨d,w,h⟩ :=s;obtain⟨fn,u,q,l,c,g,m,t⟩ :=d;simp only at f b ⊢;unfold mK at a;simp only at a;split at a
 · rename_i all i r j k;split at a
   · rename_i n;cases a;simp only [AFrame.finish]at b;split at b
     · rename_i p e;cases b;simp only [lT,n,f,e]
     ·cases b
   ·cases a
 ·cases a
theorem uL {call:bQ}{s:AS}{o:Oper}(a:mK s=some o){c:AIn}(f:kE P s.h s.fr.tm o=some (.call c)){g:AFrame}(l:dT P s.h c=some g) :lT P call s=some ⟨g,s.fr::s.cs,s.h⟩ :=by
 obtain⟨d,v,h⟩ :=s;obtain⟨fn,u,q,m,b,e,n,t⟩ :=d;simp only at f l ⊢;unfold mK at a;simp only at a;split at a
 · rename_i all i r j k;split at a
   · rename_i p;cases a;simp only [lT,p,f,rP,l]
   ·cases a
 ·cases a
theorem jU {s b:AS}{v:AV}{h':Hp}{obl ps:List Prop}(a:aCP s v h' obl=some (b,ps)) :∃fr,s.fr.finish v=some fr∧b= ⟨fr,s.cs,h'⟩ ∧ps=obl:=by
 unfold aCP at a;split at a
 ·rename_i fr c;cases a;exact⟨fr,c,rfl,rfl⟩
 ·cases a
theorem put_same {a:Type}{t:T a}{k:Nat}{v:a}(h:t.at k=some v) :∀j,(t.put k v).at j=t.at j:=fun j=>by
 rw [T.at_put];split
 ·rename_i e;rw [e,h]
 ·rfl
theorem aZG {E:Emb}{fr:AFrame}{c:Frame}(f:FR E fr c){j:Nat}{v:AV}(h:fr.tm.at j=some v) :FR E {fr with tm:=fr.tm.put j v} c:=
 ⟨f.fn,⟨f.tm.1,fun t a e=>f.tm.2 t a (by rw [←put_same h t];exact e)⟩,f.todo,f.defers,f.mode,f.kind,f.round⟩
theorem aFl {m:Nat}{fr:AFrame}{cs:List AFrame}{h:Hp}{j:Nat}{v:AV}(b:fr.tm.at j=some v) :LeadsM P m ⟨fr,cs,h⟩ ⟨{fr with tm:=fr.tm.put j v},cs,h⟩ :=
 fun hm E c a w _ f fs r=> ⟨E,c,a,w,Steps.refl _ _,aZG f b,fs,r,ExtM.refl hm⟩
theorem aAx {h:Hp}{b:Nat}{o:AObj}(hb:h.look b=some o) :∀x,(h.set b o).look x=h.look x:=fun x=>by
 rw [aY];split
 ·rename_i e;rw [e,hb]
 ·rfl
theorem aAO {m:Nat}{fr:AFrame}{cs:List AFrame}{h h':Hp}(hl:∀x o,h'.look x=some o→h.look x=some o)(c:h'.nb=h.nb) :LeadsM P m ⟨fr,cs,h⟩ ⟨fr,cs,h'⟩ :=
 fun hm E g a w _ f fs r=> ⟨E,g,a,w,Steps.refl _ _,f,fs,r.sub hl (Nat.le_of_eq c.symm),⟨fun _ _=>rfl,fun _ _ e=>e,le_refl _,fun _ _ _=>rfl,fun b o L e k i d _=> ⟨b,o,L,hl b o e,k,d⟩,by rw [c];exact hm,rfl,rfl,rfl,fun _ _=>rfl,fun _ _ e _=>.inl e,fun b o e _=> ⟨o,hl b o e⟩⟩⟩
theorem aVq {m:Nat}{fr:AFrame}{cs:List AFrame}{h:Hp}{tm':T AV}(c:∀t a,tm'.at t=some a→fr.tm.at t=some a) :LeadsM P m ⟨fr,cs,h⟩ ⟨{fr with tm:=tm'},cs,h⟩ :=
 fun hm E d b w _ f fs r=> ⟨E,d,b,w,Steps.refl _ _,⟨f.fn,⟨f.tm.1,fun t a e=>f.tm.2 t a (c t a e)⟩,f.todo,f.defers,f.mode,f.kind,f.round⟩,fs,r,ExtM.refl hm⟩
theorem aVr {m n:Nat}{s:AS}{o:Oper}(u:mK s=some o){t:TypeId}{l c:Operand}{d:Nat}(N:o.op= .makeSlice t l c)(G:o.dst=some d){Y k2:IntKind}(hl:bO s.fr.tm l=some (.int Y n))(hc:bO s.fr.tm c=some (.int k2 n)){H:TypeId}(hu:P.underlying t=some (.slice H))
  {e:Nat} (Q:aX P H=some e) {z:AV} (hz:zeroOf P H=some z) {w:TypeInfo} (F:P.info? H=some w) {A:TypeDesc} (_hed:P.underlying H=some A) (r: (ble e 40&&ble 1 e&&beq z.cells.length e&&ble w.bytes 1000) =true) (h1:dD z.cells=true) (hg:isAggD A=true∨beq e 1=true) (hn:n<100000)
  {fr:AFrame} (p:s.fr.finish (.gl s.h.nb e 0 n true) =some fr) :LeadsM P m s ⟨fr,s.cs,s.h.new (.lst e (replicate n (bif isAggD A then .agg z.cells else z.cells.headD .undef)))⟩ :=by
 have I:z.cells.length=e:=by simp only [cM]at r;exact fN r.1.2
 have hv:kE P s.h s.fr.tm o=some (.val (.slice s.h.nb 0 n n e true) (s.h.newCells (lL z.cells n))) :=by
  unfold kE;have J: (ble e 40&&ble 1 e&&beq z.cells.length e&&ble w.bytes 1000) =true:=r;simp only [gU,N,ev2,hl,hc,hu,Q,hz,F,J,cond];rw [if_pos ⟨by omega,Int.le_refl _,by omega⟩];rfl
 obtain⟨b,V,S⟩ :∃b,s.fr.finish (.slice s.h.nb 0 n n e true) =some b∧∃f,d<s.fr.nt∧f=s.fr.tm∧b.tm=f.put d (.slice s.h.nb 0 n n e true) ∧fr= {b with tm:=f.put d (.gl s.h.nb e 0 n true)}:=by
  unfold mK at u;split at u
  · rename_i all i o' W k hm U;split at u
    · cases u;unfold AFrame.finish at p ⊢;rw [U]at p ⊢;simp only [G,iJ]at p ⊢;cases hb:blt d s.fr.nt
      case false=>rw [hb]at p;cases p
      rw [hb]at p;simp only [cond]at p ⊢;cases p;exact⟨_,rfl,s.fr.tm,by rw [cX]at hb;exact of_decide_eq_true hb,rfl,rfl,rfl⟩
    ·cases u
  ·cases u
 obtain⟨f,hd,_,X,e2⟩ :=S;have M: (lL z.cells n).length=n*e:=by rw [nY,I]
 have y: (s.h.newCells (lL z.cells n)).look s.h.nb=some (.cells (putCells .leaf 0 (lL z.cells n)) (lL z.cells n).length [] false) :=by
  unfold Hp.newCells;rw [cQ,if_pos rfl]
 have D:getCells (putCells .leaf 0 (lL z.cells n)) 0 (n*e) =some (lL z.cells n) :=by
  rw [←M];exact aBD _ _ _ (fun j Z=>by rw [eS,bC,if_pos Z])
 have q:=dL (P:=P) (m:=m) bZ (iU (call:=qB) u hv V)
 have v:=jG (P:=P) (m:=m) (fr:=b) (cs:=s.cs) (h:=s.h.newCells (lL z.cells n)) (j:=d) (by rw [X,T.at_put,if_pos rfl]) (aCO (m:=m) (c:=n) (x:=true) (g:=isAggD A) y D (aDx h1 n) (fun R=>by
  rcases hg with g|g
  ·rw [R]at g;cases g
  ·exact fN g))
 refine(q.trans v).trans ?_;rw [aFi (isAggD A) I n];have C: (true&&beq n n) =true:=by simp
 rw [C]
 have a:=aAO (P:=P) (m:=m) (fr:={b with tm:=b.tm.put d (.gl s.h.nb e 0 n true)}) (cs:=s.cs) (h:= (s.h.newCells (lL z.cells n)).set s.h.nb (.lst e (replicate n (bif isAggD A then .agg z.cells else z.cells.headD .undef)))) (h':=s.h.new (.lst e (replicate n (bif isAggD A then .agg z.cells else z.cells.headD .undef)))) (fun x ox B=>by
  rw [cQ]at B;rw [aY];unfold Hp.newCells;rw [cQ];by_cases O:x=s.h.nb
  ·rw [if_pos O]at B ⊢;exact B
  ·rw [if_neg O]at B ⊢;rw [if_neg O];exact B) rfl
 refine a.trans ?_;rw [e2]
 exact aVq (P:=P) (fr:={b with tm:=b.tm.put d (.gl s.h.nb e 0 n true)}) (tm':=f.put d (.gl s.h.nb e 0 n true)) (fun t a K=>by
  show(b.tm.put d (.gl s.h.nb e 0 n true)).at t=some a;rw [X,T.at_put];rw [T.at_put]at K;split at K
  ·rename_i L;rw [if_pos L];exact K
  ·rename_i L;rw [if_neg L,T.at_put,if_neg L];exact K)
theorem aFm {h:Hp}{a:Array TypeId}{b e off len:Nat}{ex:Bool}{x:AV}:aappend P h a (.gl b e off len ex) x=none:=by
 unfold aappend;simp only [cond_eq_ite]
 repeat' split
 all_goals first|rfl| (split<;>rfl)
theorem aJi {h:Hp}{a:Array TypeId}{e:Nat}{xs:List AV}{ex:Bool}{x:AV}:aappend P h a (.ilst e xs ex) x=none:=by
 unfold aappend;simp only [cond_eq_ite]
 repeat' split
 all_goals first|rfl| (split<;>rfl)
set_option maxHeartbeats 2000000 in
theorem aEc {a:Type}:∀ {l:List (Nat×a)} {k:Nat} {v:a},(aJh l).at k=some v→ (k,v) ∈l
 | [],k,v,h=>by rw [aJh,T.at_leaf]at h;cases h
 | (j,u) ::r,k,v,h=>by
  rw [aJh,T.at_put]at h;split at h
  ·rename_i hk;cases h;subst hk;exact cN ..
  ·exact cJ _ (aEc h)
theorem sQ {a:Type}{t:T a}:∀ {b:List Nat} {k:Nat} {v:a},(k,v) ∈aFk t b→t.at k=some v
 | [],_,_,h=>by cases h
 | j ::b,k,v,h=>by
  simp only [aFk]at h;split at h
  · rename_i u c;rcases zq7.1 h with e|h
    ·cases e;exact c
    ·exact sQ h
  ·exact sQ h
theorem xstep_sound {i:Ins}{s s':AS}{ps:List Prop}{m:Nat}(A:xstep P i s=some (s',ps))(hp:∀p∈ps,p) :LeadsM P m s s':=by
 cases i with
 | run n=>
  simp only [xstep]at A;split at A
  · rename_i s1 h1;cases A;rw [uG]at h1;exact(rC bZ h1).toM
  ·cases A
 | cweak k o=>
  simp only [xstep]at A;split at A
  · rename_i t n ol V hk;split at A
    ·rename_i K;cases A;exact hY hk hk K aFj
    ·rename_i K;cases A;exact hY hk hk K aLx
    ·cases A
  ·cases A
 | weak j=>
  simp only [xstep]at A;split at A
  · rename_i b e o l Q;cases A;exact jG Q aFj
  ·cases A
 | unname j b=>
  simp only [xstep]at A;split at A
  · rename_i u u' e R Q hb;cases A;have M:=mem1 hp;subst M;exact jG Q (aBE hb)
  ·cases A
 | vfrz b o N=>
  simp only [xstep]at A;split at A
  · rename_i u e R eo zs hb D;cases F:beq o b
    case true=>rw [F]at A;cases A
    rw [F]at A;simp only [cond]at A;cases A;have M:=hp _ (cN ..);have O:=hp _ (cJ _ (cN ..));have q2:=hp _ (cJ _ (cJ _ (cN ..)));refine aOq hb D (fun e=>?_) M O q2;rw [e,beq_refl]at F;cases F
  ·cases A
 | appN zs n=>
  simp only [xstep]at A;split at A
  · rename_i o D;split at A
    · rename_i v h' qs K;obtain⟨fr,G,rfl,rfl⟩ :=jU A;exact dL bZ (iU D (aBB K hp) G)
    ·cases A
  ·cases A
 | mclose b es c k v=>
  simp only [xstep]at A;split at A
  · rename_i es' c' hb;cases A;exact aJg hb (hp _ (cN ..)) (hp _ (cJ _ (cN ..))) (hp _ (cJ _ (cJ _ (cN ..))))
  ·cases A
 | mfrz b n N=>
  simp only [xstep]at A;cases hc:beq b n
  case true=>rw [hc]at A;cases A
  rw [hc]at A;simp only [cond]at A;have F:b≠n:=fun e=>by subst e;simp at hc
  split at A
  · rename_i es c k v e R hb hn;cases A;exact aOr hb (by rw [lU,if_neg F];exact hb) (sP hn (hp _ (cJ _ (cN ..))) (hp _ (cJ _ (cJ _ (cN ..))))) (hp _ (cN ..))
  ·cases A
 | lfrz k b N=>
  simp only [xstep]at A;cases hc:beq k b
  case true=>rw [hc]at A;cases A
  rw [hc]at A;simp only [cond]at A;have F:k≠b:=fun e=>by subst e;simp at hc
  split at A
  · rename_i e R e1 zs hk hb;cases A;have M:=hp _ (cN ..);have O:=hp _ (cJ _ (cN ..));have q2:=hp _ (cJ _ (cJ _ (cN ..)));have e2:AV.frz b N (.tup R) = .tup (frzL b N R) :=by simp only [AV.frz]
    exact aOs hk (by rw [lU,if_neg F];exact hk) M (fun hm=>e2 ▸ sP hb O (by simp only [frzOk];exact q2) hm)
  ·cases A
 | lw b N=>
  simp only [xstep]at A;split at A
  · rename_i e R hb;cases A;have M:=hp _ (cN ..);have O:=hp _ (cJ _ (cN ..));exact aVn hb M O
  ·cases A
 | lkeep b js=>
  simp only [xstep]at A;split at A
  · rename_i st pe fn tm nt ps aS bd df hb;cases A;intro hm E cf ccs w base f fs r;refine⟨E,cf,ccs,w,Steps.refl _ _,f,fs,r.reobj hb rfl (fun L hL=>?_) rfl rfl rfl,jT (ExtM.refl hm) hb⟩;obtain⟨tmps,Ld,h1,h2,h3⟩ :=r.objL hb hL;exact⟨tmps,Ld,h1,h2,h3.1,fun t a e=>h3.2 t a (sQ (aEc e))⟩
  ·cases A
 | b j v=>
  simp only [xstep]at A;split at A
  · rename_i b hb;cases A;have:=mem1 hp;subst this;exact aFl hb
  ·cases A
 | set j v=>
  simp only [xstep]at A;split at A
  · rename_i u U;cases A;have:=mem1 hp;subst this;exact aFl U
  ·cases A
 | cset k o v=>
  simp only [xstep]at A;split at A
  · rename_i t n ol V hk;split at A
    · rename_i u U;cases A;have:=mem1 hp;subst this;exact hY hk hk U (aHI fun _ _ h=>h)
    ·cases A
  ·cases A
 | lset b R=>
  simp only [xstep]at A;split at A
  · rename_i e N hb;cases A;have:=mem1 hp;subst this;exact aAO (fun x o e=>by rw [aAx hb]at e;exact e) rfl
  ·cases A
 | call v h'=>
  simp only [xstep]at A;split at A
  · rename_i o D;split at A
    · rename_i c hc;unfold aCP at A;split at A
      · rename_i fr G;cases A;obtain⟨g,T,he⟩ :=mem1 hp;exact aAw (dL bZ (uL D hc T)) he G
      ·cases A
    ·cases A
  ·cases A
 | callP ch h'=>
  simp only [xstep]at A;split at A
  · rename_i o D;split at A
    · rename_i c hc;cases A;obtain⟨g,T,he⟩ :=mem1 hp;exact xG (dL bZ (uL D hc T)) he
    ·cases A
  ·cases A
 | ans a=>
  simp only [xstep]at A;split at A
  · rename_i o D;split at A
    · rename_i v qs K;obtain⟨fr,G,rfl,rfl⟩ :=jU A;exact dL bZ (iU D (pC K hp) G)
    ·cases A
  ·cases A
 | pure v=>
  simp only [xstep]at A;split at A
  · rename_i o D;split at A
    · rename_i f args hc;obtain⟨fr,G,rfl,rfl⟩ :=jU A;obtain⟨g,T,he⟩ :=mem1 hp s.h;exact aAw (dL bZ (uL D hc T)) he G
    ·cases A
  ·cases A
 | throws ch=>
  simp only [xstep]at A;split at A
  · rename_i o D;split at A
    · rename_i f args hc;cases A;obtain⟨g,T,he⟩ :=mem1 hp s.h;exact xG (dL bZ (uL D hc T)) he
    ·cases A
  ·cases A
 | mk n =>
  simp only [xstep]at A;split at A
  · rename_i o D;split at A
    · rename_i t l c d B hdst;split at A
      · rename_i k1 l' k2 c' hl hc;split at A
        · rename_i el U;split at A
          · rename_i e z Y ed W hz J hed;cases hcd: (ble e 40&&ble 1 e&&beq z.cells.length e&&ble Y.bytes 1000&&dD z.cells&& (isAggD ed||beq e 1))
            case false=>rw [hcd]at A;cases A
            rw [hcd]at A;simp only [cond]at A;split at A
            · rename_i fr G;cases A;have O:=hp _ (cN ..);have q2:=hp _ (cJ _ (cN ..));have q3:=hp _ (cJ _ (cJ _ (cN ..)));subst O q2;simp only [cM,Bool.or_eq_true]at hcd;obtain⟨⟨⟨⟨⟨c1,c2⟩,c3⟩,c4⟩,c5⟩,c6⟩ :=hcd;exact aVr D B hdst hl hc U W hz J hed (by simp [c1,c2,c3,c4]) c5 c6 q3 G
            ·cases A
          ·cases A
        ·cases A
      ·cases A
    ·cases A
  ·cases A
 | reg is=>
  simp only [xstep]at A;split at A
  · rename_i id ops k hm htd;split at A
    · rename_i tm h' qs hr;cases A;exact aBC hm htd hr hp
    ·cases A
  ·cases A
 | regA is os=>
  simp only [xstep]at A;split at A
  · rename_i id ops k hm htd;split at A
    · rename_i tm h' qs hr;cases A;exact aBC hm htd hr hp
    ·cases A
  ·cases A
 | nxt c d =>
  simp only [xstep]at A;split at A
  · rename_i o D;split at A
    · rename_i it B;split at A
      · rename_i r hr;split at A
        · rename_i l n pos hb;obtain⟨fr,G,rfl,rfl⟩ :=jU A;have M:=hp _ (cN ..);have O:=hp _ (cJ _ (cN ..));refine dL bZ (iU D ?_ G);have hbl:blt pos l=true:=by rw [cX];exact decide_eq_true M
          unfold kE;simp only [gU,B,vS,hr,hb,hbl,cond,O]
        ·cases A
      ·cases A
    ·cases A
  ·cases A
 | nxtE =>
  simp only [xstep]at A;split at A
  · rename_i o D;split at A
    · rename_i it B;split at A
      · rename_i r hr;split at A
        · rename_i l n pos hb;obtain⟨fr,G,rfl,rfl⟩ :=jU A;have M:=mem1 hp;refine dL bZ (iU D ?_ G);have hbl:blt pos l=false:=by rw [cX];exact decide_eq_false (by omega)
          unfold kE;simp only [gU,B,vS,hr,hb,hbl,cond]
        ·cases A
      ·cases A
    ·cases A
  ·cases A
 | mput es' Z =>
  simp only [xstep]at A;split at A
  · rename_i o D;split at A
    · rename_i t m k x B;split at A
      · rename_i r kv v hm hk hx;split at A
        · rename_i kt et es clock U hb;split at A
          · rename_i kd hkd;cases hc:plainKey kd kv
            case false=>rw [hc]at A;cases A
            rw [hc]at A;simp only [cond]at A;obtain⟨fr,G,rfl,rfl⟩ :=jU A;have q:=mem1 hp;refine dL bZ (iU D ?_ G);unfold aAN at q;unfold kE;simp only [gU,B,ev2,vS,hm,hk,hx,pS,U,hkd,hb,hc,cond];split at q
            · rename_i i w hfk;cases q;simp only [hfk,aAj]
            · rename_i hfk;cases q;simp only [hfk,aAj]
            ·cases q
          ·cases A
        ·cases A
      ·cases A
    ·cases A
  ·cases A
 | mset b es' Z=>
  simp only [xstep]at A;split at A
  · rename_i es clock hb;cases A;have M:=hp _ (cN ..);have O:=hp _ (cJ _ (cN ..));subst M O;exact aAO (fun x o e=>by rw [aAx hb]at e;exact e) rfl
  ·cases A
 | st y y' =>
  simp only [xstep]at A;split at A
  · rename_i o D;split at A
    · rename_i t a x B;split at A
      · rename_i b e i k v ha hx;split at A
        · rename_i e' R n hb hn;cases hc: (beq e' e&&beq v.cells.length n&&ble (k+n) e&&dD v.cells)
          case false=>rw [hc]at A;cases A
          rw [hc]at A;simp only [cond]at A;split at A
          · rename_i fr G;cases A;have M:=hp _ (cN ..);have O:=hp _ (cJ _ (cN ..));refine dL bZ (iU D (dG ?_ ?_) G)
            ·simp only [gU,B,ev2,ha,hx]
            ·simp only [vop,B,ev2,ha,hx,hb,hn,hc,cond,M,O]
          ·cases A
        ·cases A
      ·cases A
    ·cases A
  ·cases A
 | app zs n =>
  simp only [xstep]at A;split at A
  · rename_i o D;split at A
    · rename_i c B;split at A
      · rename_i d x st xt H C hst hxt;split at A
        · rename_i el el' U hu';split at A
          · rename_i e Y z W J hz;cases hc: (beq z.cells.length e&&ble e 40&&ble Y.bytes 1000&&ble 1 Y.bytes&&ble 1 e)
            case false=>rw [hc]at A;cases A
            rw [hc]at A;simp only [cond]at A;split at A
            · rename_i b e' off len ex;split at A
              · rename_i e2 R hb;cases I: (beq e' e&&beq e2 e)
                case false=>rw [I]at A;cases A
                rw [I]at A;simp only at A;simp only [cM]at I;have ee1:=fN I.1;have ee2:=fN I.2;split at A
                · rename_i b2 e1 S len2 ex2;split at A
                  · rename_i e3 N dd hb2 hu3;cases X: (beq e1 e&&beq e3 e)
                    case false=>rw [X]at A;cases A
                    rw [X]at A;simp only at A;simp only [cM]at X;have ee3:=fN X.2;obtain⟨fr,G,rfl,rfl⟩ :=jU A;have y0:=hp _ (cN ..);have y2:=hp _ (cJ _ (cN ..));have y3:=hp _ (cJ _ (cJ _ (cN ..)));have y4:=hp _ (cJ _ (cJ _ (cJ _ (cN ..))));have y5:=hp _ (cJ _ (cJ _ (cJ _ (cJ _ (cN ..)))));subst y4 y5;have yl: ((N.drop S).take len2).length=len2:=by rw [List.length_take,List.length_drop];omega
                    have y1:lO P s.h el e (.gl b2 e1 S len2 ex2) =some ((N.drop S).take len2) :=by
                     simp only [lO,hu3,X.1,cond,hb2];rw [if_pos ⟨ee3,y0⟩]
                    refine dL bZ (iU D (dG ?_ ?_) G)
                    ·simp only [gU,B,pW,C,H,eZ,aFm]
                    · simp only [vop,B,H,C,kP,hst,hxt,U,hu',W,J,hz,y1,hc,cond,hb,aAE,yl];rw [if_pos ⟨ee1,ee2,y2,y3⟩]
                  ·cases A
                · split at A
                  · rename_i N y1;obtain⟨fr,G,rfl,rfl⟩ :=jU A;have y2:=hp _ (cN ..);have y3:=hp _ (cJ _ (cN ..));have y4:=hp _ (cJ _ (cJ _ (cN ..)));have y5:=hp _ (cJ _ (cJ _ (cJ _ (cN ..))));subst y4 y5;refine dL bZ (iU D (dG ?_ ?_) G)
                    ·simp only [gU,B,pW,C,H,eZ,aFm]
                    · simp only [vop,B,H,C,kP,hst,hxt,U,hu',W,J,hz,y1,hc,cond,hb,aAE];rw [if_pos ⟨ee1,ee2,y2,y3⟩]
                  ·cases A
              ·cases A
            · rename_i e';cases I:beq e' e
              case false=>rw [I]at A;cases A
              rw [I]at A;simp only at A;have ee1:=fN I;split at A
              · rename_i N y1;obtain⟨fr,G,rfl,rfl⟩ :=jU A;have y2:=hp _ (cN ..);have y3:=hp _ (cJ _ (cN ..));have y4:=hp _ (cJ _ (cJ _ (cN ..)));subst y3 y4;refine dL bZ (iU D (dG ?_ ?_) G)
                ·simp only [gU,B,pW,C,H,eZ,aJi]
                · simp only [vop,B,H,C,kP,hst,hxt,U,hu',W,J,hz,y1,hc,cond,aAE];rw [if_pos ⟨ee1,y2⟩]
              ·cases A
            ·cases A
          ·cases A
        ·cases A
      ·cases A
    ·cases A
  ·cases A
 | nilL j e=>
  simp only [xstep]at A;split at A
  ·rename_i Q;cases A;exact jG Q (aCM e)
  ·cases A
 | nilI j e=>
  simp only [xstep]at A;split at A
  ·rename_i Q;cases A;exact jG Q (aFg e)
  ·cases A
 | frz j b N=>
  simp only [xstep]at A;split at A
  · rename_i v e R Q hb;cases A;exact jG Q (sP hb (hp _ (cN ..)) (hp _ (cJ _ (cN ..))))
  ·cases A
 | cnil k o e=>
  simp only [xstep]at A;split at A
  · rename_i t n ol V hk;split at A
    · rename_i K;cases hc:blt k s.h.nb
      case false=>rw [hc]at A;cases A
      rw [hc]at A;simp only [cond]at A;cases A;rw [cX]at hc;have:=of_decide_eq_true hc;exact hY hk (by rw [cQ,if_neg (by omega)];exact hk) K (aCM e)
    ·cases A
  ·cases A
 | cnilI k o e=>
  simp only [xstep]at A;split at A
  · rename_i t n ol V hk;split at A
    ·rename_i K;cases A;exact hY hk hk K (aFg e)
    ·cases A
  ·cases A
 | cfrz k o b N=>
  simp only [xstep]at A;cases hc:beq k b
  case true=>rw [hc]at A;cases A
  rw [hc]at A;simp only [cond]at A;have F:k≠b:=fun e=>by subst e;simp at hc
  split at A
  · rename_i t n ol V e R hk hb;split at A
    · rename_i v K;cases A;exact hY hk (by rw [lU,if_neg F];exact hk) K (sP hb (hp _ (cN ..)) (hp _ (cJ _ (cN ..))))
    ·cases A
  ·cases A
 | ctoL k o g cs=>
  simp only [xstep]at A;split at A
  · rename_i t n ol V hk;split at A
    · rename_i b n2 c e x K;cases hkb:beq k b
      case true=>rw [hkb]at A;cases A
      rw [hkb]at A;simp only [cond]at A;have F:k≠b:=fun e=>by subst e;simp at hkb
      split at A
      · rename_i t2 k2 hb;cases hc: (g||beq e 1)
        case false=>rw [hc]at A;cases A
        rw [hc]at A;simp only at A;cases A;exact hY hk (by rw [aY,if_neg F];exact hk) K (aCO hb (hp _ (cN ..)) (hp _ (cJ _ (cN ..))) (fun T=>by subst T;simp only [Bool.false_or]at hc;exact fN hc))
      ·cases A
    ·cases A
  ·cases A
 | toL j g cs=>
  simp only [xstep]at A;split at A
  · rename_i b n c e x Q;split at A
    · rename_i t k hb;cases hc: (g||beq e 1)
      case false=>rw [hc]at A;cases A
      rw [hc]at A;simp only [cond]at A;cases A;exact jG Q (aCO hb (hp _ (cN ..)) (hp _ (cJ _ (cN ..))) (fun T=>by subst T;simp only [Bool.false_or]at hc;exact fN hc))
    ·cases A
  ·cases A
theorem fZ {m:Nat}:∀ {e:List Ins} {s d:AS} {c:List Prop},rD P e s=some (d,c) → (∀p∈c,p) →LeadsM P m s d
 | [],s,d,c,a,_=>by simp only [rD]at a;cases a;exact LeadsM.refl s
 | i ::e,s,d,c,a,f=>by
  simp only [rD]at a;split at a
  ·cases a
  · rename_i l j g;split at a
    ·cases a
    · rename_i n k h;cases a;exact(xstep_sound g (fun p b=>f p (aEO _ b))).trans (fZ h (fun p b=>f p (aIz _ b)))
def cE {α:Type}:List (Nat×α) →T α
 | [] =>.leaf
 | (k,v) ::r=> (cE r).put k v
theorem aAP {a:Type}:∀ {l:List (Nat×a)} {k:Nat} {v:a},(cE l).at k=some v→ (k,v) ∈l
 | [],k,v,h=>by rw [cE,T.at_leaf]at h;cases h
 | (j,u) ::r,k,v,h=>by
  rw [cE,T.at_put]at h;split at h
  ·rename_i hk;cases h;subst hk;exact cN ..
  ·exact cJ _ (aAP h)
structure TF where
 fn:Nat
 nt:Nat
 sl:List (Nat×AV)
 todo:List AItem
 defers:List ADef:=[]
 mode:AMode:=.run
 kind:CallKind:=.normal
 roundOf:Option Nat:=none
def TF.fr (f:TF) :AFrame:= ⟨f.fn,cE f.sl,f.nt,f.todo,f.defers,f.mode,f.kind,f.roundOf⟩
structure TS where
 fr:TF
 cs:List TF
 hp:List (Nat×AObj×Bool)
 nb:Nat
def aA (l:List (Nat×AObj×Bool))(nb:Nat) :Hp:= ⟨cE (l.map fun p=> (p.1,p.2.1)),nb⟩
def TS.as (s:TS) :AS:= ⟨s.fr.fr,s.cs.map TF.fr,aA s.hp s.nb⟩
def T.mapT {α β:Type}(f:α→β) :T α→T β
 | .leaf=>.leaf
 | .node l v r=>.node (T.mapT f l) (v.map f) (T.mapT f r)
theorem aFn {a b:Type}(f:a→b) :∀ (t:T a) (k:Nat),(t.mapT f).get k= (t.get k).map f
 | .leaf,k=>rfl
 | .node l v r,k=>by
  rw [T.mapT,T.get_node,T.get_node,aFn f l,aFn f r];split
  ·rfl
  ·split<;>rfl
theorem aEd {a b:Type}(f:a→b)(t:T a)(k:Nat) : (t.mapT f).at k= (t.at k).map f:=aFn f t _
def AObj.ren (τ:Nat→Nat) :AObj→AObj
 | .cells t n ol sup=>.cells (t.mapT (AV.ren τ)) n (ol.map τ) sup
 | .map es c=>.map (es.map fun p=> (AV.ren τ p.1,AV.ren τ p.2.1,p.2.2)) c
 | .siter l n p=>.siter l n p
 | .mapx es c k v=>.mapx es c (AV.ren τ k) (AV.ren τ v)
 | .loop st pe fn tm nt ps aS bd df=>.loop st pe fn (tm.mapT (AV.ren τ)) nt ps aS bd (τ df)
 | .defd t=>.defd t
 | .lst e xs=>.lst e (renL τ xs)
 | .lstv u e xs=>.lstv u e (renL τ xs)
 | .miter m s l n=>.miter (τ m) s l n
 | .zone w rs Z=>.zone w (List.map τ rs) Z
def AItem.ren (τ:Nat→Nat) :AItem→AItem
 | .inRF l=>.inRF (τ l)
 | .junk=>.junk
 | .endRF l=>.endRF (τ l)
 |i=>i
def ADef.ren (τ:Nat→Nat) :ADef→ADef
 | .fn f args=>.fn f (renL τ args)
 | .col r=>.col (τ r)
def AMode.ren (τ:Nat→Nat) :AMode→AMode
 | .pan ch=>.pan (ch.map fun p=> (AV.ren τ p.1,p.2))
 |m=>m
theorem bEA {b:Nat→Nat}{E:Emb}{tm:T AV}{c:Nat}{tmps:Array Value}(r:TR E (tm.mapT (AV.ren b)) c tmps) :TR (E.ren b) tm c tmps:=
 ⟨r.1,fun t a e=>by
  obtain⟨v,d,f⟩ :=r.2 t (AV.ren b a) (by rw [aEd,e];rfl);exact⟨v,d,(eP b E a v).1 f⟩⟩
theorem aRh {a:Nat→Nat}{E:Emb}:∀ {b:List (AV×AV×Nat)} {d:List MapEntry},ERs E (b.map fun p=> (AV.ren a p.1,AV.ren a p.2.1,p.2.2)) d→ERs (E.ren a) b d
 | [],_,r=>by simpa [ERs]using r
 | p::b,_,r=>by
  simp only [eK,ERs]at r ⊢;obtain⟨u,c,i,e,g,f,h⟩ :=r;exact⟨u,c,i,(eP a E _ _).1 e,(eP a E _ _).1 g,f,aRh h⟩
theorem bEB {g:Nat→Nat}{E:Emb}{H:Array Obj}{L:Loc}{o:AObj}(r:OR E H L (o.ren g)) :OR (E.ren g) H L o:=by
 cases o with
 | cells t n ol O=>
  obtain⟨C,w,d,f,b⟩ :=r;refine⟨C,w,d,f,fun i a e=>?_⟩;obtain⟨F,v,J,Y⟩ :=b i (AV.ren g a) (by rw [aEd,e];rfl);exact⟨F,v,J,(eP g E a v).1 Y⟩
 |map K c=>obtain⟨y,d,f⟩ :=r;exact⟨y,d,aRh f⟩
 |siter l n p=>exact r
 | mapx K c k v=>
  obtain⟨y,d,f,b⟩ :=r;refine⟨y,d,?_,b⟩;obtain⟨R,h,W,T,B⟩ :=ERs.split f;rw [W];refine ERs.join (b E _ R rfl T) ?_;simp only [ERs]at B ⊢;obtain⟨u,z,N,I,M,q4,V⟩ :=B;exact⟨u,z,N,(eP g E _ _).1 I,(eP g E _ _).1 M,q4,V⟩
 |loop st pe fn tm nt ps aS bd df=>obtain⟨q,X,d,f,b⟩ :=r;exact⟨q,X,d,f,bEA b⟩
 |defd t=>exact r
 |lst e j=>obtain⟨C,w,h,d,f,b,x⟩ :=r;exact⟨C,w,h,d,f,(nN g E j h).1 b,x⟩
 |miter m s l n=>obtain⟨Lm,d,f,b⟩ :=r;exact⟨Lm,d,f,b⟩
 | zone w0 r0 Z=>
  obtain⟨G,S,D,U⟩ :=r;exact⟨G,S,by rw [List.map_map]at D;exact D,U⟩
 | lstv u e j=>
  obtain⟨C,w,h,d,f,b,x,Q,A⟩ :=r;have hl: (renL g j).length=j.length:=by rw [←b.length,((nN g E j h).1 b).length]
  exact⟨C,w,h,d,f,(nN g E j h).1 b,x,Q,by rw [hl]at A;exact A⟩
def AObj.kl :AObj→Prop
 | .lst _ xs=>keylessL xs=true
 | .lstv _ _ xs=>keylessL xs=true
 | .map es _=>∀e∈es,keyless e.1=true∧keyless e.2.1=true
 |_=>False
theorem aVs {E E':Emb}(he:E.imm=E'.imm) :∀ {a:List (AV×AV×Nat)} {f:List MapEntry},(∀e∈a,keyless e.1=true∧keyless e.2.1=true) →ERs E a f→ERs E' a f
 | [],_,_,r=>by simpa [ERs]using r
 | e::a,_,hk,r=>by
  simp only [ERs]at r ⊢;obtain⟨u,b,m,n,l,g,i⟩ :=r;have j:E.p=E'.p:=by simp [Emb.p,he]
  have k:=hk e (cN ..);have d:=eO k.1 n;have c:=eO k.2 l;rw [j]at d c;exact⟨u,b,m,VR.of_p d,VR.of_p c,g,aVs he (fun x h=>hk x (cJ _ h)) i⟩
theorem aVt {E E':Emb}(he:E.imm=E'.imm){H:Array Obj}{L:Loc}{o:AObj}(hk:o.kl)(r:OR E H L o) :OR E' H L o:=by
 cases o with
 | lst e j=>
  obtain⟨C,i,d,a,b,h,f⟩ :=r;refine⟨C,i,d,a,b,?_,f⟩;have:=fY hk h;have g:E.p=E'.p:=by simp [Emb.p,he]
  rw [g]at this;exact this.of_p
 | lstv u e j=>
  obtain⟨C,i,d,a,b,h,f⟩ :=r;refine⟨C,i,d,a,b,?_,f⟩;have:=fY hk h;have g:E.p=E'.p:=by simp [Emb.p,he]
  rw [g]at this;exact this.of_p
 |map l c=>obtain⟨k,a,b⟩ :=r;exact⟨k,a,aVs he hk b⟩
 |_=>exact hk.elim
theorem bEC {b:Nat→Nat}{E:Emb}{a:AItem}{i:Item}(r:IR E (a.ren b) i) :IR (E.ren b) a i:=by cases a<;>exact r
theorem aRi {b:Nat→Nat}{E:Emb}:∀ {c:List AItem} {d:List Item},IRs E (c.map (AItem.ren b)) d→IRs (E.ren b) c d
 | [],_,r=>by simpa [IRs]using r
 |_::_,_,r=>by simp only [eK,IRs]at r ⊢;obtain⟨i,a,g,e,f⟩ :=r;exact⟨i,a,g,bEC e,aRi f⟩
theorem bED {c:Nat→Nat}{E:Emb}{a:ADef}{d:Deferred}(r:DR E (a.ren c) d) :DR (E.ren c) a d:=by
 cases a with
 |fn f e=>obtain⟨b,a,h,g⟩ :=r;exact⟨b,a,h,(nN c E _ _).1 g⟩
 |col i=>exact r
theorem aOt {b:Nat→Nat}{E:Emb}:∀ {c:List (AV×Bool)} {d:List PanicEntry},CR E (c.map fun p=> (AV.ren b p.1,p.2)) d→CR (E.ren b) c d
 | [],_,r=>by simpa [CR]using r
 |_::_,_,r=>by simp only [eK,CR]at r ⊢;obtain⟨i,a,g,e,f⟩ :=r;exact⟨i,a,g,(eP b E _ _).1 e,aOt f⟩
theorem bEE {b:Nat→Nat}{E:Emb}{a:AMode}{m:FrameMode}(r:MR E (a.ren b) m) :MR (E.ren b) a m:=by
 cases a with
 |pan f=>simp only [AMode.ren,MR]at r ⊢;obtain⟨d,e,c⟩ :=r;exact⟨d,e,aOt c⟩
 |_=>exact r
theorem bEF {c:Nat→Nat}{E:Emb}{a b:Option Nat}(r:RR E (a.map c) b) :RR (E.ren c) a b:=by cases a<;>exact r
theorem own_ren {a:Nat→Nat}{o:AObj}{L:Loc}{i:Nat}:Own (o.ren a) L i↔Own o L i:=by cases o<;>exact Iff.rfl
theorem uM {a:Nat→Nat}{o:AObj}{f:Bool}{L:Loc}{i:Nat}(h:Own o L i) :Own (bif f then o else o.ren a) L i:=by
 cases f
 case true=>exact h
 exact own_ren.2 h
theorem sR {a:Nat→Nat}{o q:AObj}{f:Bool}{L:Loc}{i:Nat}(e:o= (bif f then q else q.ren a))(h:Own o L i) :Own q L i:=by
 subst e;cases f
 case true=>exact h
 exact own_ren.1 h
structure SumF where
 fn:Nat
 nt:Nat
 kind:CallKind
 ro:Option Nat
 mode:AMode
 todo:List AItem
 defers:List ADef
 sl:List (Option AV)
def slotsOf (tm:T AV) :List (Nat×AV) →List (Option AV)
 | [] =>[]
 |p::r=>tm.at p.1::slotsOf tm r
def aRj (τ:Nat→Nat) :List (Nat×AV) →List (Option AV)
 | [] =>[]
 |p::r=>some (AV.ren τ p.2) ::aRj τ r
def sumF (a:AFrame)(f:TF) :SumF:= ⟨a.fn,a.nt,a.kind,a.roundOf,a.mode,a.todo,a.defers,slotsOf a.tm f.sl⟩
def aFo (τ:Nat→Nat)(f:TF) :SumF:= ⟨f.fn,f.nt,f.kind,f.roundOf.map τ,f.mode.ren τ,f.todo.map (AItem.ren τ),f.defers.map (ADef.ren τ),aRj τ f.sl⟩
def aRk :List AFrame→List TF→List SumF
 |a::aS,f::fs=>sumF a f::aRk aS fs
 |_,_=>[]
def sS (h:Hp)(τ:Nat→Nat) :List (Nat×AObj×Bool) →List (Option AObj)
 | [] =>[]
 |p::r=>h.look (τ p.1) ::sS h τ r
def hP (τ:Nat→Nat) :List (Nat×AObj×Bool) →List (Option AObj)
 | [] =>[]
 |p::r=>some (bif p.2.2 then p.2.1 else p.2.1.ren τ) ::hP τ r
structure Sum where
 fr:SumF
 n:Nat
 cs:List SumF
 hp:List (Option AObj)
def AS.sum (s:AS)(τ:Nat→Nat)(t:TS) :Sum:= ⟨sumF s.fr t.fr,s.cs.length,aRk s.cs t.cs,sS s.h τ t.hp⟩
def TS.want (t:TS)(τ:Nat→Nat) :Sum:= ⟨aFo τ t.fr,t.cs.length,t.cs.map (aFo τ),hP τ t.hp⟩
def eW (m nb n1:Nat)(ks:List Nat)(b:Nat) :Nat:=bif blt b m then b else bif blt b nb then ks.getD (b-m) 0 else n1+b
def aRl :List Nat→Bool
 | [] =>true
 |k::ks=> !(wB k ks) &&aRl ks
def aRm (m:Nat) :List Nat→Bool
 | [] =>true
 |k::ks=>ble m k&&aRm m ks
def aRn :AObj→Bool
 | .cells _ _ [] _=>true
 | .cells .. =>false
 |_=>true
theorem aJj {o:AObj}(h:aRn o=true) :bS o= [] :=by
 cases o with
 | cells t n b a=>cases b with
  |nil=>rfl
  |cons x c=>cases h
 |_=>rfl
def fQ (nb:Nat) :List (Nat×AObj×Bool) →Bool
 | [] =>true
 |p::r=>blt p.1 nb&&aRn p.2.1&&fQ nb r
def cP (m:Nat)(t:TS)(ks:List Nat) :Bool:=ble m t.nb&&beq (m+ks.length) t.nb&&aRl ks&&aRm m ks&&fQ t.nb t.hp
def eX :List (Nat×AObj×Bool) →Prop
 | [] =>True
 | (_,o,true) ::r=>o.kl∧eX r
 | (_,_,false) ::r=>eX r
theorem xI (t:Nat) :∀l:List Nat,wB t l=true↔t∈l
 | [] =>by simp [wB]
 | x ::a=>by
  rw [wB,Bool.or_eq_true,xI t a,bM,decide_eq_true_eq,zq7];constructor
  · rintro(h|h)
    ·exact .inl h.symm
    ·exact .inr h
  · rintro(h|h)
    ·exact .inl h.symm
    ·exact .inr h
theorem aHK :∀ {l:List Nat},aRl l=true→∀i j,i<l.length→j<l.length→l.getD i 0=l.getD j 0→i=j
 | [],_,i,j,a,_,_=>by simp at a
 | x ::xs,h,i,j,a,b,e=>by
  simp only [aRl,cM,Bool.not_eq_true']at h;have c:x∉xs:=fun hm=>by rw [(xI x xs).2 hm]at h;cases h.1
  cases i with
  | zero=>
   cases j with
   |zero=>rfl
   | succ j=>
    simp only [oI]at b;simp only [List.getD_cons_zero,List.getD_cons_succ]at e;exact absurd (e ▸ (by rw [nW,kF (by omega)];exact List.getElem_mem ..)) c
  | succ i=>
   cases j with
   | zero=>
    simp only [oI]at a;simp only [List.getD_cons_zero,List.getD_cons_succ]at e;exact absurd (e ▸ (by rw [nW,kF (by omega)];exact List.getElem_mem ..)) c
   | succ j=>
    simp only [oI]at a b;simp only [List.getD_cons_succ]at e;rw [aHK h.2 i j (by omega) (by omega) e]
theorem aCQ {m:Nat}:∀ {l:List Nat},aRm m l=true→∀i,i<l.length→m≤l.getD i 0
 | [],_,i,a=>by simp at a
 | x::b,h,i,a=>by
  simp only [aRm,cM]at h;cases i with
  |zero=>simpa using Nat.le_of_ble_eq_true h.1
  |succ i=>simp only [oI]at a;simpa using aCQ h.2 i (by omega)
theorem dV {nb:Nat}:∀ {l:List (Nat×AObj×Bool)},fQ nb l=true→∀p∈l,p.1<nb∧bS p.2.1= []
 | p::r,h,q,a=>by
  simp only [fQ,cM,cX,decide_eq_true_eq]at h;rcases zq7.1 a with rfl|a
  ·exact⟨h.1.1,aJj h.1.2⟩
  ·exact dV h.2 q a
theorem mW :∀ {l:List (Nat×AObj×Bool)},eX l→∀k o,(k,o,true) ∈l→o.kl
 | (b,c,true) ::r,h,k,o,a=>by
  rcases zq7.1 a with e|a
  ·cases e;exact h.1
  ·exact mW h.2 k o a
 | (b,c,false) ::r,h,k,o,a=>by
  rcases zq7.1 a with e|a
  ·cases e
  ·exact mW (l:=r) h k o a
theorem aHL {b:Nat→Nat}{tm:T AV}:∀ {l:List (Nat×AV)},slotsOf tm l=aRj b l→∀p∈l,tm.at p.1=some (AV.ren b p.2)
 | p::r,h,q,a=>by
  simp only [slotsOf,aRj,List.cons.injEq]at h;rcases zq7.1 a with rfl|a
  ·exact h.1
  ·exact aHL h.2 q a
theorem pL {a:Nat→Nat}{c:Hp}:∀ {l:List (Nat×AObj×Bool)},sS c a l=hP a l→∀p∈l,c.look (a p.1) =some (bif p.2.2 then p.2.1 else p.2.1.ren a)
 | p::r,h,q,b=>by
  simp only [sS,hP,List.cons.injEq]at h;rcases zq7.1 b with rfl|b
  ·exact h.1
  ·exact pL h.2 q b
theorem aEe {b:Nat→Nat}{E:Emb}{a:AFrame}{f:TF}(h:sumF a f=aFo b f){c:Frame}(r:FR E a c) :FR (E.ren b) f.fr c:=by
 simp only [sumF,aFo,SumF.mk.injEq]at h;obtain⟨q,u,n,k,A,p,y,z⟩ :=h;refine⟨r.fn.trans q,⟨r.tm.1.trans u,fun t v e=>?_⟩,aRi (show IRs E (f.todo.map (AItem.ren b)) c.todo by rw [←p];exact r.todo),?_,bEE (show MR E (f.mode.ren b) c.mode by rw [←A];exact r.mode),r.kind.trans n,bEF (show RR E (f.roundOf.map b) c.roundOf by rw [←k];exact r.round)⟩
 · obtain⟨j,m,o⟩ :=r.tm.2 t (AV.ren b v) (aHL z (t,v) (aAP e));exact⟨j,m,(eP b E v j).1 o⟩
 · have i:=r.defers;rw [y]at i;have:∀ {g:List ADef} {ds:List Deferred},DRs E (g.map (ADef.ren b)) ds→DRs (E.ren b) g ds:=by
    intro g
    induction g with
    |nil=>intro ds h;simpa [DRs]using h
    | cons a g s=>
     intro ds h;obtain⟨d,w,rfl,l,x⟩ :=h.cons_inv;exact DRs.cons (bED l) (s x)
   exact this i
theorem yU {e:Nat→Nat}{E:Emb}:∀ {b:List AFrame} {fs:List TF},b.length=fs.length→aRk b fs=fs.map (aFo e) →∀ {d:List Frame},FRs E b d→FRs (E.ren e) (fs.map TF.fr) d
 | [],[],_,_,d,r=>by rw [r.nil_inv];rfl
 | a::b,f::fs,hl,h,d,r=>by
  simp only [aRk,eK,List.cons.injEq]at h;obtain⟨c,j,rfl,g,i⟩ :=r.cons_inv;exact FRs.cons (aEe h.1 g) (yU (by simpa using hl) h.2 i)
 | [],_::_,hl,_,_,_=>by simp at hl
 |_::_,[],hl,_,_,_=>by simp at hl
theorem uN {m nb n1:Nat}{ks:List Nat}{b:Nat}(h:b<m) :eW m nb n1 ks b=b:=by simp [eW,cX,h]
theorem aBF {m nb n1:Nat}{ks:List Nat}{b:Nat}(h1:m≤b)(h2:b<nb) :eW m nb n1 ks b=ks.getD (b-m) 0:=by simp [eW,cX,h2,show ¬b<m by omega]
theorem aVu {m nb n1:Nat}{ks:List Nat}{b:Nat}(h1:m≤b)(h2:nb≤b) :eW m nb n1 ks b=n1+b:=by simp [eW,cX,show ¬b<m by omega,show ¬b<nb by omega]
theorem kJ {m:Nat}{l:List (Nat×AObj×Bool)}{nb:Nat}{ks:List Nat}{h:Hp}(y:cP m ⟨⟨0,0,[],[],[],.run,.normal,none⟩,[],l,nb⟩ ks=true)(hh:sS h (eW m nb h.nb ks) l=hP (eW m nb h.nb ks) l)(v:eX l){E:Emb}{w:World}(r:Rel E h w.heap) :
  Rel (E.ren (eW m nb h.nb ks)) (aA l nb) w.heap∧ExtM m E h w (E.ren (eW m nb h.nb ks)) (aA l nb) w:=by
 simp only [cP,cM]at y;obtain⟨⟨⟨⟨W,U⟩,o3⟩,O⟩,Q⟩ :=y;have hm:=Nat.le_of_ble_eq_true W;have R:=fN U
 have a:∀ {b o},(aA l nb).look b=some o→b<nb∧bS o= [] ∧∃f,(b,o,f) ∈l∧h.look (eW m nb h.nb ks b) =some (bif f then o else o.ren (eW m nb h.nb ks)) :=fun {b o} e=>by
  have: (b,o) ∈l.map fun p=> (p.1,p.2.1) :=aAP e;obtain⟨p,D,I⟩ :=zq24.1 this;obtain⟨pb,po,Y⟩ :=p;cases I;exact⟨(dV Q _ D).1,(dV Q _ D).2,Y,D,pL hh _ D⟩
 have inj:∀ {b b'},b<nb→b'<nb→eW m nb h.nb ks b=eW m nb h.nb ks b'→b=b':=fun {b b'} h1 h2 e=>by
  rcases lt_or_ge b m with t|t
  · rw [uN t]at e;rcases lt_or_ge b' m with d|d
    ·rw [uN d]at e;exact e
    · rw [aBF d h2]at e;have:=aCQ O (b'-m) (by omega);omega
  · rw [aBF t h1]at e;rcases lt_or_ge b' m with d|d
    · rw [uN d]at e;have:=aCQ O (b-m) (by omega);omega
    · rw [aBF d h2]at e;have:=aHK o3 _ _ (by omega) (by omega) e;omega
 refine⟨⟨fun b o e=>?_,fun b b' o F L H e X k k' G J=>?_,fun b hb=>?_,r.imm,fun b o L e k i N=>?_,fun b o e=> (a e).1⟩,
  ⟨fun b hb=>by show E.loc (eW m nb h.nb ks b) =E.loc b;rw [uN hb],fun _ _ e=>e,le_refl _,fun _ _ _=>rfl,fun b' F H e k i N _=>?_,hm,rfl,rfl,rfl,fun _ _=>rfl,fun _ _ e _=>.inl e,fun b o e hb=>?_⟩⟩
 · obtain⟨hb,n,f,s,c⟩ :=a e;cases f
   case true=>
    simp only [cond]at c;rcases r.obj0 _ _ c with u| ⟨L,t,d⟩
    ·exact .inl u
    ·exact .inr ⟨L,t,aVt (E:=E) (E':=E.ren (eW m nb h.nb ks)) rfl (mW v b o s) d⟩
   simp only [cond]at c;rcases r.obj0 _ _ c with⟨T,u2⟩ | ⟨L,t,d⟩
   · refine .inl ⟨?_,u2⟩;cases o with
     | lst e S=>cases S with
      |nil=>rfl
      |cons x S=>simp [AObj.ren,renL,kH]at T
     |_=>cases T
   ·exact .inr ⟨L,t,bEB d⟩
 · obtain⟨hb,n,f,s,c⟩ :=a e;obtain⟨C,A,f',K,B⟩ :=a X;have z:eW m nb h.nb ks b≠eW m nb h.nb ks b':=fun ee=>J (inj hb C ee);obtain⟨i,i1,Z⟩ :=G;have j:=r.kin _ _ _ _ L H c B k k' ⟨i,uM i1,uM Z⟩ z
   have q:∀ (o:AObj) (f:Bool),(f=true→o.kl) →bS (bif f then o else o.ren (eW m nb h.nb ks)) = (bS o).map (eW m nb h.nb ks) ∧jD (bif f then o else o.ren (eW m nb h.nb ks)) =jD o∧nOf (bif f then o else o.ren (eW m nb h.nb ks)) =nOf o:=fun o f s=>by
    cases f
    case true=>cases o<;>first|exact⟨rfl,rfl,rfl⟩ |exact(s rfl).elim
    cases o<;>exact⟨rfl,rfl,rfl⟩
   obtain⟨a1,a2,a3⟩ :=q o f (fun M=>by subst M;exact mW v b o s);obtain⟨b1,V,b3⟩ :=q F f' (fun M=>by subst M;exact mW v b' F K);unfold Kin at j;rw [a1,a2,a3,b1,V,b3,n,A]at j;rcases j with⟨g,_⟩ | ⟨g,_⟩ <;>simp at g
 · show E.loc (eW m nb h.nb ks b) =none;have hb:nb≤b:=hb;rw [aVu (by omega) hb];exact r.fresh _ (by omega)
 · obtain⟨hb,n,f,s,c⟩ :=a e;exact r.apart _ _ L c k i (uM N)
 · obtain⟨hb,n,f,s,c⟩ :=a e;exact⟨_,_,H,c,k,uM N⟩
 · obtain⟨C,n,f,s,c⟩ :=a e;rw [uN hb]at c;exact⟨_,c⟩
end
end
end Go.Hb
